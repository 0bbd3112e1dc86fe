import PyProof.Rows.All
import Wide.All
import OpenK.AllK
import Wide.FinOn
import HandS.ForMost
import HandS.ForExc
import HandS.Slots
import HandS.SlotsOwn
import HandS.Deep
import HandS.Conv
import HandS.SortInts
import HandS.More
import HandS.Dict
import KE.KDictCopyH
import KE.KDictOf
import HandS.Iter
import HandS.OwnIter
import HandS.IterNext
import KE.GoesMore
import HandS.DictSub
import HandS.Exc
import HandS.TryOnly
import HandS.Finally
import HandS.HotCalls
import KE.KWithOwn
import HandS.ExcInit
import HandS.ExcField
import HandS.Words
import HandS.WordsExc
import KE.KExcSuper
import HandS.Property
import PySem.Challenge.RW_whichfirm_k35_whole_sessions
import HandS.IsInst
import HandS.Zip
import HandS.Style
import HandS.Small
import HandS.SetKeys
import HandS.Wide
import HandS.DictComp
import KE.OsGo
section
set_option Elab.async false
set_option linter.all false
set_option maxRecDepth 100000
set_option maxHeartbeats 4000000
/-! Whichfirm: the plain mathematics (no program in sight). -/
namespace WF
open L2 (atI ixN)
abbrev Pr := Int × Int
abbrev Ent := Option (Int × Int)
abbrev Edn := List (List Ent)
abbrev Shf := List Edn

/-- what a command does at a pair -/
def ent (sh : Shf) (p : Pr) (c : Int) : Ent := (((atI sh p.1).bind fun ed => atI ed p.2).bind fun l => atI l c).getD none
def EntOk (n : Nat) (e : Ent) : Prop := ∀ r s, e = some (r, s) → 0 ≤ r ∧ r ≤ 2 ∧ 0 ≤ s ∧ s < n
structure EdOk (w : Nat) (ed : Edn) : Prop where
  lo : 1 ≤ ed.length
  hi : ed.length ≤ 3
  row : ∀ l ∈ ed, l.length = w ∧ ∀ e ∈ l, EntOk ed.length e
structure ShOk (w : Nat) (sh : Shf) : Prop where
  w1 : 1 ≤ w
  w3 : w ≤ 3
  lo : 2 ≤ sh.length
  hi : sh.length ≤ 4
  ed : ∀ ed ∈ sh, EdOk w ed
  tot : (sh.map List.length).sum ≤ 8
def PrOk (sh : Shf) (p : Pr) : Prop := 0 ≤ p.1 ∧ ∃ ed, sh[p.1.toNat]? = some ed ∧ 0 ≤ p.2 ∧ p.2 < ed.length
def ltP (a b : Pr) : Prop := a.1 < b.1 ∨ (a.1 = b.1 ∧ a.2 < b.2)
instance (a b : Pr) : Decidable (ltP a b) := by unfold ltP; exact inferInstance
abbrev Asc (d : List Pr) : Prop := d.Pairwise ltP
structure DbOk (sh : Shf) (d : List Pr) : Prop where
  ne : d ≠ []
  pr : ∀ p ∈ d, PrOk sh p
  asc : Asc d

theorem ltP_irrefl (a : Pr) : ¬ ltP a a := by unfold ltP; omega
theorem ltP_trans {a b c : Pr} (h : ltP a b) (h' : ltP b c) : ltP a c := by unfold ltP at *; omega
theorem ltP_tri (a b : Pr) : ltP a b ∨ a = b ∨ ltP b a := by
  obtain ⟨a1, a2⟩ := a
  obtain ⟨b1, b2⟩ := b
  unfold ltP
  by_cases h1 : a1 = b1
  · by_cases h2 : a2 = b2
    · subst h1; subst h2; exact .inr (.inl rfl)
    · have : a2 < b2 ∨ b2 < a2 := by omega
      rcases this with h | h
      · exact .inl (.inr ⟨h1, h⟩)
      · exact .inr (.inr (.inr ⟨h1.symm, h⟩))
  · have : a1 < b1 ∨ b1 < a1 := by omega
    rcases this with h | h
    · exact .inl (.inl h)
    · exact .inr (.inr (.inl h))
/-- an ascending list is the only one with its items -/
theorem asc_uniq : ∀ {l m : List Pr}, Asc l → Asc m → (∀ x, x ∈ l ↔ x ∈ m) → l = m
  | [], [], _, _, _ => rfl
  | [], y :: m, _, _, h => absurd ((h y).mpr List.mem_cons_self) (by simp)
  | x :: l, [], _, _, h => absurd ((h x).mp List.mem_cons_self) (by simp)
  | x :: l, y :: m, hl, hm, h => by
    obtain ⟨l1, l2⟩ := List.pairwise_cons.mp hl
    obtain ⟨m1, m2⟩ := List.pairwise_cons.mp hm
    have e : x = y := by
      rcases List.mem_cons.mp ((h x).mp List.mem_cons_self) with e | hx
      · exact e
      · rcases List.mem_cons.mp ((h y).mpr List.mem_cons_self) with e | hy
        · exact e.symm
        · exact absurd (ltP_trans (l1 y hy) (m1 x hx)) (ltP_irrefl x)
    subst e
    have : l = m := asc_uniq l2 m2 fun z => by
      constructor
      · intro hz
        rcases List.mem_cons.mp ((h z).mp (List.mem_cons_of_mem _ hz)) with e | q
        · exact absurd (e ▸ l1 z hz) (ltP_irrefl _)
        · exact q
      · intro hz
        rcases List.mem_cons.mp ((h z).mpr (List.mem_cons_of_mem _ hz)) with e | q
        · exact absurd (e ▸ m1 z hz) (ltP_irrefl _)
        · exact q
    rw [this]

/-! ### safe, and what comes after -/
def safe (sh : Shf) (d : List Pr) (c : Int) : Bool := d.all fun p => (ent sh p c).isSome
/-- the keys of a dict that is filled -/
def addK (l : List Pr) (k : Pr) : List Pr := if k ∈ l then l else l ++ [k]
theorem mem_addK {l : List Pr} {k x : Pr} : x ∈ addK l k ↔ x ∈ l ∨ x = k := by
  unfold addK
  split
  · rename_i h
    constructor
    · exact .inl
    · rintro (q | rfl)
      · exact q
      · exact h
  · rw [List.mem_append, List.mem_singleton]
theorem nd_addK {l : List Pr} {k : Pr} (h : l.Nodup) : (addK l k).Nodup := by
  unfold addK
  split
  · exact h
  · rename_i hk
    rw [List.nodup_append]
    refine ⟨h, by simp, fun a ha b hb e => ?_⟩
    rw [List.mem_singleton] at hb
    subst hb; subst e
    exact hk ha
/-- the pairs with the reply r after the command, in the order of their coming -/
def bag (sh : Shf) (c r : Int) : List Pr → List Pr → List Pr
  | acc, [] => acc
  | acc, p :: d => bag sh c r (match ent sh p c with | some (r', n) => if r' = r then addK acc (p.1, n) else acc | none => acc) d
def bagS (sh : Shf) (c r : Int) (acc : List Pr) (p : Pr) : List Pr := match ent sh p c with | some (r', n) => if r' = r then addK acc (p.1, n) else acc | none => acc
theorem bag_snoc (sh : Shf) (c r : Int) : ∀ (d acc : List Pr) (p : Pr), bag sh c r acc (d ++ [p]) = bagS sh c r (bag sh c r acc d) p
  | [], acc, p => rfl
  | q :: d, acc, p => by
    show bag sh c r _ (d ++ [p]) = _
    rw [bag_snoc sh c r d]
    rfl
theorem mem_bag (sh : Shf) (c r : Int) (x : Pr) : ∀ (d acc : List Pr), x ∈ bag sh c r acc d ↔ x ∈ acc ∨ ∃ p ∈ d, ∃ n, ent sh p c = some (r, n) ∧ x = (p.1, n)
  | [], acc => by
    show x ∈ acc ↔ _
    constructor
    · exact .inl
    · rintro (h | ⟨p, hp, _⟩)
      · exact h
      · cases hp
  | q :: d, acc => by
    show x ∈ bag sh c r (bagS sh c r acc q) d ↔ _
    rw [mem_bag sh c r x d]
    have e : x ∈ bagS sh c r acc q ↔ x ∈ acc ∨ ∃ n, ent sh q c = some (r, n) ∧ x = (q.1, n) := by
      unfold bagS
      cases h : ent sh q c with
      | none =>
        constructor
        · exact .inl
        · rintro (h | ⟨n, e, _⟩)
          · exact h
          · cases e
      | some z =>
        obtain ⟨r', n⟩ := z
        dsimp only
        by_cases hr : r' = r
        · subst hr
          rw [if_pos rfl, mem_addK]
          constructor
          · rintro (h | h)
            · exact .inl h
            · exact .inr ⟨n, rfl, h⟩
          · rintro (h | ⟨n', e, h⟩)
            · exact .inl h
            · cases e; exact .inr h
        · rw [if_neg hr]
          constructor
          · exact .inl
          · rintro (h | ⟨n', e, h⟩)
            · exact h
            · cases e; exact absurd rfl hr
    rw [e]
    constructor
    · rintro ((h | ⟨n, h1, h2⟩) | ⟨p, hp, h⟩)
      · exact .inl h
      · exact .inr ⟨q, List.mem_cons_self, n, h1, h2⟩
      · exact .inr ⟨p, List.mem_cons_of_mem _ hp, h⟩
    · rintro (h | ⟨p, hp, h⟩)
      · exact .inl (.inl h)
      · rcases List.mem_cons.mp hp with rfl | hp
        · exact .inl (.inr h)
        · exact .inr ⟨p, hp, h⟩
theorem nd_bagS {sh : Shf} {c r : Int} {acc : List Pr} {p : Pr} (h : acc.Nodup) : (bagS sh c r acc p).Nodup := by
  unfold bagS
  split
  · split
    · exact nd_addK h
    · exact h
  · exact h
theorem nd_bag (sh : Shf) (c r : Int) : ∀ (d acc : List Pr), acc.Nodup → (bag sh c r acc d).Nodup
  | [], acc, h => h
  | q :: d, acc, h => by
    show (bag sh c r (bagS sh c r acc q) d).Nodup
    exact nd_bag sh c r d _ (nd_bagS h)
theorem len_addK {l : List Pr} {k : Pr} : (addK l k).length ≤ l.length + 1 := by
  unfold addK
  split
  · omega
  · rw [List.length_append]; exact Nat.le_refl _
theorem len_bag (sh : Shf) (c r : Int) : ∀ (d acc : List Pr), (bag sh c r acc d).length ≤ acc.length + d.length
  | [], acc => Nat.le_refl _
  | q :: d, acc => by
    show (bag sh c r (bagS sh c r acc q) d).length ≤ _
    have h1 := len_bag sh c r d (bagS sh c r acc q)
    have h2 : (bagS sh c r acc q).length ≤ acc.length + 1 := by
      unfold bagS
      split
      · split
        · exact len_addK
        · omega
      · omega
    rw [List.length_cons]
    omega

/-! ### sorted -/
def ins (x : Pr) : List Pr → List Pr
  | [] => [x]
  | y :: l => if ltP x y then x :: y :: l else y :: ins x l
def srt : List Pr → List Pr
  | [] => []
  | x :: l => ins x (srt l)
theorem mem_ins {x z : Pr} : ∀ {l : List Pr}, z ∈ ins x l ↔ z = x ∨ z ∈ l
  | [] => by simp [ins]
  | y :: l => by
    unfold ins
    split
    · simp
    · rw [List.mem_cons, mem_ins, List.mem_cons]
      constructor
      · rintro (h | h | h)
        · exact .inr (.inl h)
        · exact .inl h
        · exact .inr (.inr h)
      · rintro (h | h | h)
        · exact .inr (.inl h)
        · exact .inl h
        · exact .inr (.inr h)
theorem mem_srt {z : Pr} : ∀ {l : List Pr}, z ∈ srt l ↔ z ∈ l
  | [] => Iff.rfl
  | x :: l => by
    show z ∈ ins x (srt l) ↔ _
    rw [mem_ins, mem_srt, List.mem_cons]
theorem asc_ins {x : Pr} : ∀ {l : List Pr}, Asc l → x ∉ l → Asc (ins x l)
  | [], _, _ => by simp [ins, Asc]
  | y :: l, h, hx => by
    obtain ⟨h1, h2⟩ := List.pairwise_cons.mp h
    unfold ins
    split
    · rename_i hlt
      refine List.pairwise_cons.mpr ⟨fun z hz => ?_, h⟩
      rcases List.mem_cons.mp hz with rfl | hz
      · exact hlt
      · exact ltP_trans hlt (h1 z hz)
    · rename_i hlt
      refine List.pairwise_cons.mpr ⟨fun z hz => ?_, asc_ins h2 fun m => hx (List.mem_cons_of_mem _ m)⟩
      rcases mem_ins.mp hz with rfl | hz
      · rcases ltP_tri y z with h | h | h
        · exact h
        · exact absurd (h ▸ List.mem_cons_self) hx
        · exact absurd h hlt
      · exact h1 z hz
theorem asc_srt : ∀ {l : List Pr}, l.Nodup → Asc (srt l)
  | [], _ => List.Pairwise.nil
  | x :: l, h => by
    obtain ⟨h1, h2⟩ := List.nodup_cons.mp h
    exact asc_ins (asc_srt h2) fun m => h1 (mem_srt.mp m)
/-- the doubt after the reply -/
def aft (sh : Shf) (d : List Pr) (c r : Int) : List Pr := srt (bag sh c r [] d)
theorem mem_aft {sh : Shf} {d : List Pr} {c r : Int} {x : Pr} : x ∈ aft sh d c r ↔ ∃ p ∈ d, ∃ n, ent sh p c = some (r, n) ∧ x = (p.1, n) := by
  unfold aft
  rw [mem_srt, mem_bag]
  constructor
  · rintro (h | h)
    · cases h
    · exact h
  · exact .inr
theorem asc_aft {sh : Shf} {d : List Pr} {c r : Int} : Asc (aft sh d c r) := asc_srt (nd_bag sh c r d [] List.nodup_nil)
/-- any sorted list with the bag's items is that doubt -/
theorem aft_of {sh : Shf} {d l : List Pr} {c r : Int} (h : Asc l) (hm : ∀ x, x ∈ l ↔ x ∈ bag sh c r [] d) : l = aft sh d c r :=
  asc_uniq h asc_aft fun x => by rw [hm]; unfold aft; rw [mem_srt]

/-! ### bounds -/
theorem atI_of {α : Type} {xs : List α} {i : Int} (h0 : 0 ≤ i) (h1 : i < xs.length) : ∃ v, atI xs i = some v ∧ xs[i.toNat]? = some v := by
  have hlt : i.toNat < xs.length := by omega
  refine ⟨xs[i.toNat], ?_, List.getElem?_eq_getElem hlt⟩
  have e : (i.toNat : Int) = i := Int.toNat_of_nonneg h0
  have q := L2.atI_nat (xs := xs) (j := i.toNat) (v := xs[i.toNat]) (List.getElem?_eq_getElem hlt)
  rw [e] at q
  exact q
theorem atI_eq {α : Type} {xs : List α} {i : Int} {v : α} (h0 : 0 ≤ i) (h : xs[i.toNat]? = some v) : atI xs i = some v := by
  have e : (i.toNat : Int) = i := Int.toNat_of_nonneg h0
  have q := L2.atI_nat (xs := xs) (j := i.toNat) (v := v) h
  rw [e] at q
  exact q
/-- the entry of a pair of the shelf -/
theorem ent_at {w : Nat} {sh : Shf} (S : ShOk w sh) {p : Pr} (hp : PrOk sh p) {c : Int} (h0 : 0 ≤ c) (hc : c < w) :
    ∃ ed l e, atI sh p.1 = some ed ∧ sh[p.1.toNat]? = some ed ∧ atI ed p.2 = some l ∧ ed[p.2.toNat]? = some l ∧ atI l c = some e ∧ l[c.toNat]? = some e ∧ ent sh p c = e ∧ EntOk ed.length e ∧ l.length = w := by
  obtain ⟨p0, ed, he, p1, p2⟩ := hp
  obtain ⟨l, hl1, hl2⟩ := atI_of (xs := ed) p1 p2
  have E := S.ed ed (List.mem_of_getElem? he)
  obtain ⟨hw, hr⟩ := E.row l (List.mem_of_getElem? hl2)
  obtain ⟨e, he1, he2⟩ := atI_of (xs := l) h0 (by omega)
  refine ⟨ed, l, e, atI_eq p0 he, he, hl1, hl2, he1, he2, ?_, hr e (List.mem_of_getElem? he2), hw⟩
  unfold ent
  rw [atI_eq p0 he, Option.bind_some, hl1, Option.bind_some, he1]
  rfl
theorem ent_ok {w : Nat} {sh : Shf} (S : ShOk w sh) {p : Pr} (hp : PrOk sh p) {c : Int} (h0 : 0 ≤ c) (hc : c < w) {r n : Int} (e : ent sh p c = some (r, n)) : 0 ≤ r ∧ r ≤ 2 ∧ PrOk sh (p.1, n) := by
  obtain ⟨ed, l, x, _, h2, _, _, _, _, h7, h8, _⟩ := ent_at S hp h0 hc
  rw [h7] at e
  obtain ⟨a, b, c', d'⟩ := h8 r n e
  exact ⟨a, b, hp.1, ed, h2, c', d'⟩
theorem safe_some {sh : Shf} {d : List Pr} {c : Int} (h : safe sh d c = true) {p : Pr} (hp : p ∈ d) : ∃ r n, ent sh p c = some (r, n) := by
  have q := List.all_eq_true.mp h p hp
  cases e : ent sh p c with
  | none => rw [e] at q; cases q
  | some z => exact ⟨z.1, z.2, rfl⟩
theorem aft_ok {w : Nat} {sh : Shf} (S : ShOk w sh) {d : List Pr} (D : DbOk sh d) {p : Pr} (hp : p ∈ d) {c : Int} (h0 : 0 ≤ c) (hc : c < w) {r n : Int} (e : ent sh p c = some (r, n)) :
    DbOk sh (aft sh d c r) ∧ (p.1, n) ∈ aft sh d c r := by
  have hm : (p.1, n) ∈ aft sh d c r := mem_aft.mpr ⟨p, hp, n, e, rfl⟩
  refine ⟨⟨fun z => ?_, fun x hx => ?_, asc_aft⟩, hm⟩
  · rw [z] at hm; cases hm
  · obtain ⟨q, hq, n', e', rfl⟩ := mem_aft.mp hx
    exact (ent_ok S (D.pr q hq) h0 hc e').2.2

/-! ### one edition -/
def told (d : List Pr) : Bool := d.all fun p => decide (p.1 = (d.headD (0, 0)).1)
/-- a session's state -/
abbrev Stt := List Pr × Pr
def StOk (sh : Shf) (s : Stt) : Prop := DbOk sh s.1 ∧ s.2 ∈ s.1
/-- a step: the reply and the state after; none: not safe -/
def stp (sh : Shf) (s : Stt) (c : Int) : Option (Int × Stt) :=
  if safe sh s.1 c = true then (ent sh s.2 c).map fun e => (e.1, (aft sh s.1 c e.1, (s.2.1, e.2))) else none
theorem stp_some {w : Nat} {sh : Shf} (S : ShOk w sh) {s : Stt} (O : StOk sh s) {c : Int} (h0 : 0 ≤ c) (hc : c < w) (h : safe sh s.1 c = true) :
    ∃ r n, ent sh s.2 c = some (r, n) ∧ stp sh s c = some (r, (aft sh s.1 c r, (s.2.1, n))) ∧ StOk sh (aft sh s.1 c r, (s.2.1, n)) ∧ 0 ≤ r ∧ r ≤ 2 := by
  obtain ⟨r, n, e⟩ := safe_some h O.2
  obtain ⟨a1, a2⟩ := aft_ok S O.1 O.2 h0 hc e
  obtain ⟨b1, b2, _⟩ := ent_ok S (O.1.pr _ O.2) h0 hc e
  refine ⟨r, n, e, ?_, ⟨a1, a2⟩, b1, b2⟩
  unfold stp
  rw [if_pos h, e]
  rfl
theorem stp_none {sh : Shf} {s : Stt} {c : Int} (h : safe sh s.1 c = false) : stp sh s c = none := by
  unfold stp
  rw [h]
  rfl
/-- several commands: the replies, where it went wrong, the state -/
abbrev Run := List Int × Option Nat × Stt
def runS (sh : Shf) (x : Run) (i : Nat) (c : Int) : Run := match x.2.1 with
  | some _ => x
  | none => match stp sh x.2.2 c with
    | none => (x.1, some i, x.2.2)
    | some (r, s') => (x.1 ++ [r], none, s')
def runG (sh : Shf) : Run → Nat → List Int → Run
  | x, _, [] => x
  | x, i, c :: cs => runG sh (runS sh x i c) (i + 1) cs
def run (sh : Shf) (s : Stt) (cs : List Int) : Run := runG sh ([], none, s) 0 cs
theorem runG_snoc (sh : Shf) (c : Int) : ∀ (cs : List Int) (x : Run) (i : Nat), runG sh x i (cs ++ [c]) = runS sh (runG sh x i cs) (i + cs.length) c
  | [], x, i => rfl
  | a :: cs, x, i => by
    show runG sh (runS sh x i a) (i + 1) (cs ++ [c]) = _
    rw [runG_snoc sh c cs]
    show runS sh (runG sh (runS sh x i a) (i + 1) cs) (i + 1 + cs.length) c = runS sh (runG sh (runS sh x i a) (i + 1) cs) (i + (cs.length + 1)) c
    rw [show i + 1 + cs.length = i + (cs.length + 1) by omega]
theorem runG_wrong (sh : Shf) : ∀ (cs : List Int) (x : Run) (i : Nat) (k : Nat), x.2.1 = some k → runG sh x i cs = x
  | [], _, _, _, _ => rfl
  | c :: cs, x, i, k, h => by
    have e : runS sh x i c = x := by unfold runS; rw [h]
    show runG sh (runS sh x i c) (i + 1) cs = x
    rw [e]
    exact runG_wrong sh cs x (i + 1) k h
theorem run_take (sh : Shf) (s : Stt) {cs : List Int} {i : Nat} {c : Int} (h : cs[i]? = some c) : run sh s (cs.take (i + 1)) = runS sh (run sh s (cs.take i)) i c := by
  obtain ⟨hlt, he⟩ := List.getElem?_eq_some_iff.mp h
  have e : cs.take (i + 1) = cs.take i ++ [c] := by rw [List.take_add_one, h]; rfl
  unfold run
  rw [e, runG_snoc, List.length_take, Nat.min_eq_left (Nat.le_of_lt hlt), Nat.zero_add]
/-- a run that went wrong at i ends so -/
theorem run_stop (sh : Shf) (s : Stt) {cs : List Int} {i k : Nat} (h : (run sh s (cs.take i)).2.1 = some k) : run sh s cs = run sh s (cs.take i) := by
  have e : ∀ (as bs : List Int) (x : Run) (j : Nat), runG sh x j (as ++ bs) = runG sh (runG sh x j as) (j + as.length) bs := by
    intro as
    induction as with
    | nil => intro bs x j; rfl
    | cons a as ih =>
      intro bs x j
      show runG sh (runS sh x j a) (j + 1) (as ++ bs) = _
      rw [ih]
      show runG sh (runG sh (runS sh x j a) (j + 1) as) (j + 1 + as.length) bs = runG sh (runG sh (runS sh x j a) (j + 1) as) (j + (as.length + 1)) bs
      rw [show j + 1 + as.length = j + (as.length + 1) by omega]
  have q : run sh s cs = runG sh (run sh s (cs.take i)) (0 + (cs.take i).length) (cs.drop i) := by
    unfold run
    rw [← e, List.take_append_drop]
  rw [q]
  exact runG_wrong sh _ _ _ k h
theorem runS_ok {w : Nat} {sh : Shf} (S : ShOk w sh) {x : Run} (O : StOk sh x.2.2) {c : Int} (h0 : 0 ≤ c) (hc : c < w) (i : Nat) : StOk sh (runS sh x i c).2.2 := by
  unfold runS
  split
  · exact O
  · split
    · exact O
    · rename_i r s' h
      cases hs : safe sh x.2.2.1 c with
      | false => rw [stp_none hs] at h; cases h
      | true =>
        obtain ⟨r', n, _, e, o, _⟩ := stp_some S O h0 hc hs
        rw [e] at h
        cases h
        exact o
theorem run_ok {w : Nat} {sh : Shf} (S : ShOk w sh) {s : Stt} (O : StOk sh s) : ∀ {cs : List Int}, (∀ c ∈ cs, 0 ≤ c ∧ c < w) → StOk sh (run sh s cs).2.2 := by
  have key : ∀ (cs : List Int) (x : Run) (i : Nat), StOk sh x.2.2 → (∀ c ∈ cs, 0 ≤ c ∧ c < w) → StOk sh (runG sh x i cs).2.2 := by
    intro cs
    induction cs with
    | nil => intro x i o _; exact o
    | cons c cs ih =>
      intro x i o h
      obtain ⟨h0, hc⟩ := h c List.mem_cons_self
      exact ih _ _ (runS_ok S o h0 hc i) fun z hz => h z (List.mem_cons_of_mem _ hz)
  intro cs h
  exact key cs ([], none, s) 0 O h
end WF
end

section
set_option Elab.async false
set_option linter.all false
set_option maxRecDepth 100000
set_option maxHeartbeats 4000000
/-! Whichfirm: how the data lies in the heap. -/
namespace WF
open PySem PySem.Spec PyProof.Rows L2

/-! ### lists in pairs -/
section
variable {α β γ : Type} {F : α → β → Prop}
theorem pget {i : Nat} : ∀ {xs : List α} {ys : List β} {y : β}, Paired F xs ys → ys[i]? = some y → ∃ x, xs[i]? = some x ∧ F x y := by
  induction i with
  | zero =>
    intro xs ys y h e
    cases h with
    | nil => cases e
    | cons r t => cases e; exact ⟨_, rfl, r⟩
  | succ i ih =>
    intro xs ys y h e
    cases h with
    | nil => cases e
    | cons r t => exact ih t e
theorem pget' {i : Nat} : ∀ {xs : List α} {ys : List β} {x : α}, Paired F xs ys → xs[i]? = some x → ∃ y, ys[i]? = some y ∧ F x y := by
  induction i with
  | zero =>
    intro xs ys y h e
    cases h with
    | nil => cases e
    | cons r t => cases e; exact ⟨_, rfl, r⟩
  | succ i ih =>
    intro xs ys y h e
    cases h with
    | nil => cases e
    | cons r t => exact ih t e
theorem pat {xs : List α} {ys : List β} {i : Int} {y : β} (h : Paired F xs ys) (e : atI ys i = some y) : ∃ x, atI xs i = some x ∧ F x y := by
  unfold atI at e ⊢
  rw [Paired.length h]
  cases q : ixN ys.length i with
  | none => rw [q] at e; cases e
  | some j =>
    rw [q] at e
    exact pget h e
theorem papp : ∀ {xs : List α} {ys : List β} {xs' : List α} {ys' : List β}, Paired F xs ys → Paired F xs' ys' → Paired F (xs ++ xs') (ys ++ ys')
  | _, _, _, _, .nil, h => h
  | _, _, _, _, .cons r t, h => .cons r (papp t h)
theorem pset {x : α} {y : β} (r : F x y) : ∀ {xs : List α} {ys : List β} (i : Nat), Paired F xs ys → Paired F (xs.set i x) (ys.set i y)
  | _, _, _, .nil => .nil
  | _, _, 0, .cons _ t => .cons r t
  | _, _, i + 1, .cons q t => .cons q (pset r i t)
theorem ptake : ∀ {xs : List α} {ys : List β} (n : Nat), Paired F xs ys → Paired F (xs.take n) (ys.take n)
  | _, _, 0, _ => .nil
  | _, _, _ + 1, .nil => .nil
  | _, _, n + 1, .cons r t => .cons r (ptake n t)
theorem pdropLast : ∀ {xs : List α} {ys : List β}, Paired F xs ys → Paired F xs.dropLast ys.dropLast
  | _, _, .nil => .nil
  | _, _, .cons _ .nil => .nil
  | _, _, .cons r (.cons r' t) => .cons r (pdropLast (.cons r' t))
theorem pmapR {G : α → γ → Prop} {f : β → γ} : ∀ {xs : List α} {ys : List β}, Paired F xs ys → (∀ x y, F x y → G x (f y)) → Paired G xs (ys.map f)
  | _, _, .nil, _ => .nil
  | _, _, .cons r t, h => .cons (h _ _ r) (pmapR t h)
theorem pmem : ∀ {xs : List α} {ys : List β} {x : α}, Paired F xs ys → x ∈ xs → ∃ y, y ∈ ys ∧ F x y
  | _, _, _, .nil, h => nomatch h
  | _, _, _, .cons r t, h => by
    rcases List.mem_cons.mp h with rfl | h
    · exact ⟨_, List.mem_cons_self, r⟩
    · obtain ⟨y, hy, q⟩ := pmem t h
      exact ⟨y, List.mem_cons_of_mem _ hy, q⟩
theorem pmono {G : α → β → Prop} {xs : List α} {ys : List β} (h : Paired F xs ys) (hm : ∀ x y, F x y → G x y) : Paired G xs ys := Paired.mapP h hm
end

/-! ### heaps that grow -/
/-- tuples stay -/
def TK (H H' : Hp) : Prop := ∀ b xs, H b = some (.tup xs) → H' b = some (.tup xs)
theorem TK.refl (H : Hp) : TK H H := fun _ _ h => h
theorem TK.trans {H H1 H2 : Hp} (a : TK H H1) (b : TK H1 H2) : TK H H2 := fun c xs h => b c xs (a c xs h)
theorem TK.same {H H' : Hp} (s : Same H H') : TK H H' := fun b xs h => s b _ h
theorem TK.new {H : Hp} {a : Addr} {o : HO} (h : H a = none) : TK H (upd H a o) := fun b xs e => by rw [upd_ne (ne_of_none e h)]; exact e
theorem TK.put {H : Hp} {a : Addr} {o u : HO} (h : H a = some u) (hu : ∀ xs, u ≠ .tup xs) : TK H (upd H a o) := fun b xs e => by
  rw [upd_ne (ne_of e h (fun z => hu xs z.symm))]
  exact e
theorem TK.putL {H : Hp} {a : Addr} {o : HO} {l : List V} (h : H a = some (.lst l)) : TK H (upd H a o) := TK.put h fun xs z => by cases z
theorem Same.new {H : Hp} {a : Addr} {o : HO} (h : H a = none) : Same H (upd H a o) := fun b u e => by rw [upd_ne (ne_of_none e h)]; exact e
/-- what was tracked stays but at some addresses -/
def But (l : List Addr) (H H' : Hp) : Prop := ∀ b o, H b = some o → b ∉ l → H' b = some o
theorem But.refl (l : List Addr) (H : Hp) : But l H H := fun _ _ h _ => h
theorem But.trans {l : List Addr} {H H1 H2 : Hp} (a : But l H H1) (b : But l H1 H2) : But l H H2 := fun c o h n => b c o (a c o h n) n
theorem But.of {l : List Addr} {H H' : Hp} (s : Same H H') : But l H H' := fun b o h _ => s b o h
theorem But.mono {l l' : List Addr} {H H' : Hp} (s : But l H H') (h : ∀ b ∈ l, b ∈ l') : But l' H H' := fun b o e n => s b o e fun z => n (h b z)
theorem But.put {l : List Addr} {H : Hp} {a : Addr} {o : HO} (h : a ∈ l) : But l H (upd H a o) := fun b u e n => by
  rw [upd_ne (fun z => n (by rw [z]; exact h))]
  exact e
theorem But.same {H H' : Hp} (s : But [] H H') : Same H H' := fun b o h => s b o h (by simp)
theorem But.fresh {l : List Addr} {H H' : Hp} (s : But l H H') {b : Addr} (h : H' b = none) (n : b ∉ l) : H b = none := by
  cases q : H b with
  | none => rfl
  | some o => rw [s b o q n] at h; cases h
theorem But.tk {l : List Addr} {H H' : Hp} (s : But l H H') (h : ∀ b ∈ l, ∀ xs, H b ≠ some (.tup xs)) : TK H H' := fun b xs e => s b _ e fun z => h b z xs e

/-! ### relations of a value and a datum -/
abbrev Rl (α : Type) := Hp → V → α → Prop
/-- carried over heaps in which the tuples stay -/
def Mono {α : Type} (R : Rl α) : Prop := ∀ (H H' : Hp) (v : V) (x : α), TK H H' → R H v x → R H' v x
def PrAt : Rl Pr := fun H v p => ∃ a, v = .ref a ∧ H a = some (.tup [.int p.1, .int p.2])
def EnAt : Rl Ent := fun H v e => match e with | none => v = .non | some p => PrAt H v p
def TupAt {α : Type} (R : Rl α) : Rl (List α) := fun H v l => ∃ a xs, v = .ref a ∧ H a = some (.tup xs) ∧ Paired (R H) xs l
/-- at a there is a list of such -/
def LstAt {α : Type} (R : Rl α) (H : Hp) (a : Addr) (l : List α) : Prop := ∃ xs, H a = some (.lst xs) ∧ Paired (R H) xs l
abbrev LnAt : Rl (List Ent) := TupAt EnAt
abbrev EdAt : Rl Edn := TupAt LnAt
abbrev ShAt : Rl Shf := TupAt EdAt
abbrev DbAt : Rl (List Pr) := TupAt PrAt
/-- a doubt and a pair -/
def StAt : Rl Stt := fun H v s => ∃ a x y, v = .ref a ∧ H a = some (.tup [x, y]) ∧ DbAt H x s.1 ∧ PrAt H y s.2
theorem mono_pr : Mono PrAt := fun _ _ _ _ t ⟨a, e, h⟩ => ⟨a, e, t a _ h⟩
theorem mono_en : Mono EnAt := fun H H' v x t h => by
  cases x with
  | none => exact h
  | some p => exact mono_pr _ _ _ _ t (show PrAt H v p from h)
theorem mono_tup {α : Type} {R : Rl α} (m : Mono R) : Mono (TupAt R) := fun _ _ _ _ t ⟨a, xs, e, h, p⟩ => ⟨a, xs, e, t a _ h, pmono p fun _ _ q => m _ _ _ _ t q⟩
theorem mono_ln : Mono LnAt := mono_tup mono_en
theorem mono_ed : Mono EdAt := mono_tup mono_ln
theorem mono_sh : Mono ShAt := mono_tup mono_ed
theorem mono_db : Mono DbAt := mono_tup mono_pr
theorem mono_st : Mono StAt := fun _ _ _ _ t ⟨a, x, y, e, h, d, p⟩ => ⟨a, x, y, e, t a _ h, mono_db _ _ _ _ t d, mono_pr _ _ _ _ t p⟩
theorem LstAt.keep {α : Type} {R : Rl α} (m : Mono R) {H H' : Hp} {a : Addr} {l : List α} (t : TK H H') (h : LstAt R H a l) (e : ∀ o, H a = some o → H' a = some o) : LstAt R H' a l := by
  obtain ⟨xs, hx, p⟩ := h
  exact ⟨xs, e _ hx, pmono p fun _ _ q => m _ _ _ _ t q⟩
theorem LstAt.len {α : Type} {R : Rl α} {H : Hp} {a : Addr} {l : List α} (h : LstAt R H a l) : ∃ xs, H a = some (.lst xs) ∧ xs.length = l.length ∧ Paired (R H) xs l := by
  obtain ⟨xs, hx, p⟩ := h
  exact ⟨xs, hx, Paired.length p, p⟩

/-! ### as data of the library -/
section
variable {K : PySem.W.Frag} {H : Hp}
/-- how a datum is written -/
def Reads1 {α : Type} (K : PySem.W.Frag) (R : Rl α) (f : α → PyData) : Prop := ∀ (H : Hp) (v : V) (x : α), R H v x → Dp K H v (f x)
theorem dp_all {α : Type} {R : Rl α} {f : α → PyData} (h : Reads1 K R f) : ∀ {xs : List V} {l : List α}, Paired (R H) xs l → DpAll K H xs (l.map f)
  | _, _, .nil => .nil
  | _, _, .cons r t => .cons (h _ _ _ r) (dp_all h t)
theorem dp_tup {α : Type} {R : Rl α} {f : α → PyData} (h : Reads1 K R f) : Reads1 K (TupAt R) fun l => .tuple (l.map f) := fun H v l ⟨a, xs, e, hx, p⟩ => by
  subst e
  exact .tup (SqT.of hx) (dp_all h p)
theorem dp_lst {α : Type} {R : Rl α} {f : α → PyData} (h : Reads1 K R f) {a : Addr} {l : List α} (hl : LstAt R H a l) : Dp K H (.ref a) (.list (l.map f)) := by
  obtain ⟨xs, hx, p⟩ := hl
  exact .lst (SqL.of hx) (dp_all h p)
def prD (p : Pr) : PyData := .tuple [.int p.1, .int p.2]
def enD : Ent → PyData
  | none => .none
  | some p => prD p
abbrev lnD (l : List Ent) : PyData := .tuple (l.map enD)
abbrev edD (e : Edn) : PyData := .tuple (e.map lnD)
abbrev dbD (d : List Pr) : PyData := .tuple (d.map prD)
theorem rd_pr : Reads1 K PrAt prD := fun H v p ⟨a, e, h⟩ => by
  subst e
  exact .tup (SqT.of h) (.cons (.int _) (.cons (.int _) .nil))
theorem rd_en : Reads1 K EnAt enD := fun H v x h => by
  cases x with
  | none => cases (show v = .non from h); exact .non
  | some p => exact rd_pr H v p h
theorem rd_ln : Reads1 K LnAt lnD := dp_tup rd_en
theorem rd_ed : Reads1 K EdAt edD := dp_tup rd_ln
theorem rd_db : Reads1 K DbAt dbD := dp_tup rd_pr
/-- shallow data -/
def Shal (n : Nat) (d : PyData) : Prop := d.canLay0 = true ∧ d.depth ≤ n
theorem shal_all {n : Nat} : ∀ {ds : List PyData}, (∀ d ∈ ds, Shal n d) → PyData.canLayAll0 ds = true ∧ PyData.depthAll ds ≤ n
  | [], _ => ⟨by simp [PyData.canLayAll0], by simp [PyData.depthAll]⟩
  | d :: ds, h => by
    obtain ⟨a, b⟩ := shal_all (n := n) fun x hx => h x (List.mem_cons_of_mem _ hx)
    obtain ⟨c, e⟩ := h d List.mem_cons_self
    exact ⟨by simp [PyData.canLayAll0, a, c], by simp only [PyData.depthAll]; omega⟩
theorem shal_tup {n : Nat} {ds : List PyData} (h : ∀ d ∈ ds, Shal n d) : Shal (n + 1) (.tuple ds) := by
  obtain ⟨a, b⟩ := shal_all h
  exact ⟨by simp only [PyData.canLay0]; exact a, by simp only [PyData.depth]; omega⟩
theorem shal_lst {n : Nat} {ds : List PyData} (h : ∀ d ∈ ds, Shal n d) : Shal (n + 1) (.list ds) := by
  obtain ⟨a, b⟩ := shal_all h
  exact ⟨by simp only [PyData.canLay0]; exact a, by simp only [PyData.depth]; omega⟩
theorem shal_map {α : Type} {n : Nat} {f : α → PyData} (h : ∀ x, Shal n (f x)) (l : List α) : ∀ d ∈ l.map f, Shal n d := fun d hd => by
  obtain ⟨x, _, e⟩ := List.mem_map.mp hd
  rw [← e]
  exact h x
theorem shal_int (i : Int) : Shal 0 (.int i) := ⟨by simp [PyData.canLay0], by simp [PyData.depth]⟩
theorem shal_non : Shal 0 .none := ⟨by simp [PyData.canLay0], by simp [PyData.depth]⟩
theorem Shal.mono {m n : Nat} {d : PyData} (h : Shal m d) (k : m ≤ n) : Shal n d := ⟨h.1, Nat.le_trans h.2 k⟩
theorem shal_pr (p : Pr) : Shal 1 (prD p) := shal_tup fun d hd => by
  rcases List.mem_cons.mp hd with rfl | hd
  · exact shal_int _
  · rcases List.mem_cons.mp hd with rfl | hd
    · exact shal_int _
    · cases hd
theorem shal_en : ∀ e : Ent, Shal 1 (enD e)
  | none => shal_non.mono (by omega)
  | some p => shal_pr p
theorem shal_ln (l : List Ent) : Shal 2 (lnD l) := shal_tup (shal_map shal_en l)
theorem shal_ed (l : Edn) : Shal 3 (edD l) := shal_tup (shal_map shal_ln l)
theorem shal_db (d : List Pr) : Shal 2 (dbD d) := shal_tup (shal_map shal_pr d)
theorem shal_notes (d : List Pr) : Shal 2 (.list (d.map prD)) := shal_lst (shal_map shal_pr d)
theorem shal_ints (d : List Int) : Shal 1 (.list (d.map PyData.int)) := shal_lst (shal_map shal_int d)
theorem Shal.shaped {n : Nat} {d : PyData} (h : Shal n d) (k : n ≤ 64) : SeqAt.shaped d = true := by
  show (d.canLay0 && decide (d.depth ≤ 64)) = true
  rw [Bool.and_eq_true]
  exact ⟨h.1, decide_eq_true (Nat.le_trans h.2 k)⟩
theorem Shal.refl {n : Nat} {d : PyData} (h : Shal n d) : PyData.eqv d d = true := SeqAt.eqv_refl d h.1
theorem dp_ints {a : Addr} {l : List Int} (h : H a = some (.lst (l.map V.int))) : Dp K H (.ref a) (.list (l.map PyData.int)) := by
  refine .lst (SqL.of h) ?_
  clear h
  induction l with
  | nil => exact .nil
  | cons i l ih => exact .cons (.int i) ih
end
/-- a list of ints at a -/
abbrev IntsAt (H : Hp) (a : Addr) (l : List Int) : Prop := H a = some (.lst (l.map V.int))
end WF
end

section
set_option Elab.async false
set_option linter.all false
set_option maxRecDepth 100000
set_option maxHeartbeats 4000000
/-! Whichfirm: own rules, 1: not in a tuple of pairs; dict(d), sorted(d) where the keys are pairs of ints. -/
namespace WF
open PySem PySem.Spec PyProof.Rows L2

def rNotInT (K : PySem.W.Frag) : R2 := fun x y H Q => ∃ d ds, Dp K H x d ∧ Dp K H y (.tuple ds) ∧ SeqAt.shaped d = true ∧ SeqAt.shaped (.tuple ds) = true ∧ Q (.bl (!ds.any fun z => PyData.eqv z d)) H
theorem op_notInT {X : Cx} (hu : X.A.units + 65 < cLine) : OpR X (compareOp .NotIn) (rNotInT X.K) := by
  intro pins s σ H x y v u Q I rx ry h
  obtain ⟨d, ds, hd, he, sd, se, q⟩ := h
  obtain ⟨as, r1⟩ := Dp.reads I d x v hd rx
  obtain ⟨bs, r2⟩ := Dp.reads I (.tuple ds) y u he ry
  exact SeqAt.notIn_tuple_reads r2 r1 (SeqAt.canLay_of_shaped se) (SeqAt.canLay_of_shaped sd) (room_in_shaped sd hu) ⟨.bl _, H, I, rfl, q⟩

/-! ### dicts whose keys are pairs of ints, all values True -/
def dtOf (l : List Pr) : List (List Key × V) := l.map fun p => ([Sum.inl p.1, Sum.inl p.2], V.bl true)
theorem dtOf_len (l : List Pr) : (dtOf l).length = l.length := List.length_map ..
theorem keyP_inj {p q : Pr} (h : ([Sum.inl p.1, Sum.inl p.2] : List Key) = [Sum.inl q.1, Sum.inl q.2]) : p = q := by
  injection h with h1 h2
  injection h2 with h2 _
  injection h1 with h1
  injection h2 with h2
  exact Prod.ext h1 h2
theorem dtOf_any (l : List Pr) (k : Pr) : ((dtOf l).any fun kv => decide (kv.1 = ([Sum.inl k.1, Sum.inl k.2] : List Key))) = decide (k ∈ l) := by
  induction l with
  | nil => rfl
  | cons p l ih =>
    show (decide (([Sum.inl p.1, Sum.inl p.2] : List Key) = [Sum.inl k.1, Sum.inl k.2]) || _) = _
    rw [show (List.any (List.map (fun p => (([Sum.inl p.1, Sum.inl p.2] : List Key), V.bl true)) l) fun kv => decide (kv.1 = ([Sum.inl k.1, Sum.inl k.2] : List Key))) = decide (k ∈ l) from ih]
    by_cases e : k = p
    · subst e
      simp
    · have n1 : ¬ ([Sum.inl p.1, Sum.inl p.2] : List Key) = [Sum.inl k.1, Sum.inl k.2] := fun z => e (keyP_inj z).symm
      rw [decide_eq_false n1, Bool.false_or]
      by_cases m : k ∈ l
      · rw [decide_eq_true m, decide_eq_true (List.mem_cons_of_mem _ m)]
      · rw [decide_eq_false m, decide_eq_false (fun z => (List.mem_cons.mp z).elim e m)]
theorem dtOf_put (l : List Pr) (k : Pr) : putK (dtOf l) ([Sum.inl k.1, Sum.inl k.2] : List Key) (V.bl true) = dtOf (addK l k) := by
  unfold putK addK
  rw [dtOf_any]
  by_cases m : k ∈ l
  · rw [if_pos (decide_eq_true m), if_pos m]
    unfold dtOf
    rw [List.map_map]
    refine List.map_congr_left fun p _ => ?_
    show (if _ then _ else _) = _
    split
    · rename_i e
      rfl
    · rfl
  · rw [if_neg (by rw [decide_eq_false m]; decide), if_neg m]
    unfold dtOf
    rw [List.map_append]
    rfl

/-! ### their hashes differ -/
def smallP (p : Pr) : Prop := 0 ≤ p.1 ∧ p.1 < 4 ∧ 0 ≤ p.2 ∧ p.2 < 3
def pairHash (p : Pr) : Int := reduceHash (Builtin.Tuple.tupleHashOf [hashInt p.1, hashInt p.2])
def all12 : List Pr := [(0, 0), (0, 1), (0, 2), (1, 0), (1, 1), (1, 2), (2, 0), (2, 1), (2, 2), (3, 0), (3, 1), (3, 2)]
theorem hash12 : (all12.map pairHash).Nodup := by decide +kernel
theorem mem12 {p : Pr} (h : smallP p) : p ∈ all12 := by
  obtain ⟨i, j⟩ := p
  obtain ⟨h1, h2, h3, h4⟩ := h
  simp only at h1 h2 h3 h4
  have hi : i = 0 ∨ i = 1 ∨ i = 2 ∨ i = 3 := by omega
  have hj : j = 0 ∨ j = 1 ∨ j = 2 := by omega
  rcases hi with rfl | rfl | rfl | rfl <;> rcases hj with rfl | rfl | rfl <;> decide
theorem inj_of_nodup {α β : Type} {f : α → β} : ∀ {l : List α} {x y : α}, (l.map f).Nodup → x ∈ l → y ∈ l → f x = f y → x = y
  | [], _, _, _, h, _, _ => nomatch h
  | a :: l, x, y, h, hx, hy, e => by
    obtain ⟨h1, h2⟩ := List.nodup_cons.mp (show (f a :: l.map f).Nodup from h)
    rcases List.mem_cons.mp hx with ex | hx
    · rcases List.mem_cons.mp hy with ey | hy
      · rw [ex, ey]
      · exact absurd (List.mem_map.mpr ⟨y, hy, by rw [← e, ex]⟩) h1
    · rcases List.mem_cons.mp hy with ey | hy
      · exact absurd (List.mem_map.mpr ⟨x, hx, by rw [e, ey]⟩) h1
      · exact inj_of_nodup h2 hx hy e
theorem nodup_map_on {α β : Type} {f : α → β} : ∀ {l : List α}, l.Nodup → (∀ x ∈ l, ∀ y ∈ l, f x = f y → x = y) → (l.map f).Nodup
  | [], _, _ => List.nodup_nil
  | a :: l, h, hf => by
    obtain ⟨h1, h2⟩ := List.nodup_cons.mp h
    show (f a :: l.map f).Nodup
    refine List.nodup_cons.mpr ⟨fun m => ?_, nodup_map_on h2 fun x hx y hy => hf x (List.mem_cons_of_mem _ hx) y (List.mem_cons_of_mem _ hy)⟩
    obtain ⟨y, hy, e⟩ := List.mem_map.mp m
    have := hf y (List.mem_cons_of_mem _ hy) a List.mem_cons_self e
    exact h1 (this ▸ hy)
theorem hashes_apart {l : List Pr} (h : l.Nodup) (hs : ∀ p ∈ l, smallP p) : (l.map pairHash).Nodup :=
  nodup_map_on h fun x hx y hy e => inj_of_nodup hash12 (mem12 (hs x hx)) (mem12 (hs y hy)) e

/-- what lies in the heap of such a dict -/
theorem kt_of {H : Hp} : ∀ {l : List Pr} {xs : List (List Key × Addr × Value)}, KT H (dtOf l) xs → xs.map (·.1) = l.map (fun p => ([Sum.inl p.1, Sum.inl p.2] : List Key)) ∧ Paired (PrAt H) (xs.map fun x => V.ref x.2.1) l ∧ ∀ x ∈ xs, ∃ ys, H x.2.1 = some (.tup ys)
  | [], xs, h => by
    cases h
    exact ⟨rfl, .nil, fun _ h => nomatch h⟩
  | p :: l, xs, h => by
    cases h with
    | @cons _ q _ qs r t =>
      obtain ⟨h1, h2, h3⟩ := kt_of t
      obtain ⟨r1, r2, _⟩ := r
      refine ⟨?_, .cons ⟨q.2.1, rfl, r2⟩ h2, fun x hx => ?_⟩
      · show q.1 :: qs.map (·.1) = _
        rw [h1, ← r1]
        rfl
      · rcases List.mem_cons.mp hx with rfl | hx
        · exact ⟨_, r2⟩
        · exact h3 x hx
theorem nodup_of_keys {l : List Pr} (h : (l.map (fun p => ([Sum.inl p.1, Sum.inl p.2] : List Key))).Nodup) : l.Nodup := List.Pairwise.of_map _ (fun _ _ hne e => hne (by rw [e])) h

section
variable {X : Cx}
/-- dict(d): a copy -/
theorem call_dictDT (hu : X.A.in1.in1.units < cLine) : CallR X (.type "dict") (fun xs H Q => ∃ (a : Addr) (l : List Pr), xs = [.ref a] ∧ Rd H a (.dT (dtOf l)) ∧ (∀ p ∈ l, smallP p) ∧ ∀ p, H p = none → Q (.ref p) (upd H p (.dT (dtOf l)))) := by
  intro pins s σ H xs us Q I r h
  obtain ⟨a, l, rfl, hd, hsm, q⟩ := h
  obtain ⟨u, rfl, rx⟩ := r.one
  cases rx
  obtain ⟨z, hS, xs, rel, dd⟩ := dt_rd I.hok hd
  obtain ⟨k1, k2, k3⟩ := kt_of rel
  have hn : (xs.map (·.1)).Nodup := dd.nodup
  have hl : l.Nodup := nodup_of_keys (by rw [← k1]; exact hn)
  have hap : (xs.map fun x => (tupleKind (mixKind X.prog X.w)).hash x.1).Nodup := by
    have e : (xs.map fun x => (tupleKind (mixKind X.prog X.w)).hash x.1) = l.map pairHash := by
      rw [show (xs.map fun x => (tupleKind (mixKind X.prog X.w)).hash x.1) = (xs.map (·.1)).map (tupleKind (mixKind X.prog X.w)).hash by rw [List.map_map]; rfl, k1, List.map_map]
      rfl
    rw [e]
    exact hashes_apart hl hsm
  have hlen : xs.length ≤ sizeLine := by rw [← Paired.length rel]; exact z
  refine callType_codes (Q₁ := fun obj s₁ => obj = .ref s.heap.objs.size ∧ s₁ = { s with heap := s.heap.push { cls := .type "dict", data := .dict #[] } }) PySem.F.kt_called_dict (PySem.F.kt_typeCall_dict_1 _) PySem.F.entry_dict_init (kt_code_dict_new _ ⟨rfl, rfl⟩) ?_
  rintro obj s₁ ⟨rfl, rfl⟩
  have hnew : (s.heap.push { cls := .type "dict", data := .dict #[] }).DictOfH (tupleKind (mixKind X.prog X.w)) s.heap.objs.size [] :=
    ⟨_, #[], _, Heap.get?_push_size _ rfl, ⟨rfl, rfl, rfl⟩, rfl, rfl, (fun _ h => nomatch h), List.nodup_nil⟩
  have keep : ∀ b o, s.heap.get? b = some o → (s.heap.push { cls := .type "dict", data := .dict #[] }).get? b = some o := fun b o e => Heap.get?_push_of_some _ e
  have ho' : (s.heap.push { cls := .type "dict", data := .dict #[] }).DictOfH (tupleKind (mixKind X.prog X.w)) a xs := by
    obtain ⟨o, es, ep, h1, h2, h3, h4, h5, h6⟩ := dd
    refine ⟨o, es, ep, keep _ _ h1, h2, h3, h4, fun x hx => ?_, h6⟩
    obtain ⟨o2, its, n, g1, g2, g3, g4⟩ := h5 x hx
    exact ⟨o2, its, n, keep _ _ g1, g2, g3, g4⟩
  have hdo : s.heap.objs.size ≠ a := by
    obtain ⟨_, _, _, hg, _⟩ := dd
    exact fun e => absurd (Heap.lt_size hg) (by rw [e]; exact Nat.lt_irrefl _)
  refine ⟨hnew.typeIs, PySem.F.args_dict_init_2 _ _, ?_⟩
  unfold Builtin.«dict.__init__»
  refine wpAny_bind ?_
  unfold Builtin.Dict.selfAndRest
  refine wpAny_bind (wpAny_notOrdered_dict hnew.typeIs ?_)
  show wpAny _ _ (pure (s.heap.objs.size, [Value.ref a])) _ _ _
  refine wpAny_pure ?_
  show wpAny _ _ (Builtin.Dict.updateFrom "dict.__init__" s.heap.objs.size (.ref a) [] .none) _ _ _
  refine updateFrom_dictH (A := X.A.in1) (R := wants (fun r s₂ => r = .none ∧ EP X pins σ Q (.ref s.heap.objs.size) s₂) X.xe) .none (show X.A.in1.in1.units < cLine from ?_) hdo hS hnew ho' (.inr ⟨fun x hx => ?_, hap⟩) (by simpa using hlen) fun h' hd' ho2 hs' => ?_
  · exact hu
  · obtain ⟨ys, hy⟩ := k3 x hx
    obtain ⟨_, its, r, o, g1, g2, _⟩ := (show ObjOk X.prog X.w H s.heap x.2.1 (.tup ys) from I.hok _ _ hy)
    exact ⟨o, keep _ _ g1, g2⟩
  · rw [storedAllH_nil_of_nodup _ hn] at hd'
    have kp : ∀ b o, s.heap.get? b = some o → h'.get? b = some o := fun b o e => (hs'.2 b (Nat.ne_of_lt (Heap.lt_size e))).trans (keep _ _ e)
    have hf : H s.heap.objs.size = none := I.hok.fresh (Nat.le_refl _)
    refine ⟨rfl, .ref s.heap.objs.size, _, I.laid (t' := s.toks) (o := .dT (dtOf l)) kp (Nat.le_refl _) ?_, rfl, q _ hf⟩
    obtain ⟨o, es, ep, h1, h2, h3, h4, h5, h6⟩ := hd'
    exact ⟨z, beq_eq_false_iff_ne.mpr (Ne.symm (Nat.ne_of_lt I.big)), xs, rel.keeps fun b ys e => by rw [upd_ne (ne_of_none e hf)]; exact e, o, es, ep, h1, h2, h3, h4, h6⟩
/-- what a sorted list of pairs is -/
theorem asc_of_srtd : ∀ {l : List Pr}, l.Pairwise (fun a b => SrtO.lexB b a = false) → l.Nodup → Asc l
  | [], _, _ => List.Pairwise.nil
  | a :: l, h, n => by
    obtain ⟨h1, h2⟩ := List.pairwise_cons.mp h
    obtain ⟨n1, n2⟩ := List.nodup_cons.mp n
    refine List.pairwise_cons.mpr ⟨fun b hb => ?_, asc_of_srtd h2 n2⟩
    have q := SrtO.lexB_no.mp (h1 b hb)
    rcases ltP_tri a b with x | x | x
    · exact x
    · exact absurd (x ▸ hb) n1
    · exact absurd x q
/-- the pair that stands at an address -/
def kP (H : Hp) : V → Int × Int
  | .ref a => match H a with
    | some (.tup [.int i, .int j]) => (i, j)
    | _ => (0, 0)
  | _ => (0, 0)
theorem kP_at {H : Hp} {v : V} {p : Pr} (h : PrAt H v p) : kP H v = p := by
  obtain ⟨a, rfl, e⟩ := h
  show (match H a with | some (.tup [.int i, .int j]) => (i, j) | _ => (0, 0)) = p
  rw [e]
theorem kP_map {H : Hp} : ∀ {xs : List V} {l : List Pr}, Paired (PrAt H) xs l → xs.map (kP H) = l
  | _, _, .nil => rfl
  | _, _, .cons r t => by rw [List.map_cons, kP_at r, kP_map t]
theorem kP_back {H : Hp} : ∀ {xs : List V}, (∀ x ∈ xs, PrAt H x (kP H x)) → Paired (PrAt H) xs (xs.map (kP H))
  | [], _ => .nil
  | x :: xs, h => .cons (h x List.mem_cons_self) (kP_back fun y hy => h y (List.mem_cons_of_mem _ hy))
/-- sorted, stable: by what stands there, the one ascending list -/
theorem srt_of {H : Hp} {xs ys : List V} {l : List Pr} (hx : Paired (PrAt H) xs l) (hl : l.Nodup) (h1 : SrtO.Srtd (L2.ltP (kP H)) ys) (h2 : ys.Perm xs) : Paired (PrAt H) ys (srt l) := by
  have e1 := kP_map hx
  have hp : ∀ y ∈ ys, PrAt H y (kP H y) := fun y hy => by
    obtain ⟨p, _, r⟩ := pmem hx (h2.mem_iff.mp hy)
    rw [kP_at r]
    exact r
  have q := kP_back hp
  have pm : (ys.map (kP H)).Perm l := by
    have := h2.map (kP H)
    rwa [e1] at this
  have e : ys.map (kP H) = srt l := by
    refine asc_uniq (asc_of_srtd (List.pairwise_map.mpr h1) (pm.nodup_iff.mpr hl)) (asc_srt hl) fun x => ?_
    rw [mem_srt]
    exact pm.mem_iff
  rw [e] at q
  exact q

theorem backs {xs : List V} {us : List Value} (r : Vals xs us) (h : ∀ x ∈ xs, ∃ a, x = V.ref a) : us.map backV = xs ∧ ∀ u ∈ us, ∃ a, u = Value.ref a := by
  obtain ⟨e1, e2⟩ := refs_back r h
  exact ⟨e1.symm, e2⟩
/-- sorted(d): the keys' tuples, ascending -/
theorem call_sortedDT (hc : X.calm = true) : CallR X (.builtin "sorted") (fun xs H Q => ∃ (d : Addr) (l : List Pr), xs = [.ref d] ∧ Rd H d (.dT (dtOf l)) ∧ ∀ p (bs : List V), H p = none → Paired (PrAt H) bs (srt l) → Q (.ref p) (upd H p (.lst bs))) := by
  intro pins s σ H xs us Q I r h
  obtain ⟨d, l, rfl, hd, q⟩ := h
  obtain ⟨u, rfl, rx⟩ := r.one
  cases rx
  obtain ⟨z, hs, ks, pr, o, es, ep, ho, hx, hdt, he, hn⟩ := (show ObjOk X.prog X.w H s.heap d (.dT (dtOf l)) from hd.ok I.hok)
  obtain ⟨k1, k2, k3⟩ := kt_of pr
  have hl : l.Nodup := nodup_of_keys (by rw [← k1]; exact hn)
  have l1 : es.size = ks.length := size_of_entries he
  have l2 : (dtOf l).length = ks.length := Paired.length pr
  refine Calls.call_function_entry PyProof.Rows.kind_sorted PyProof.Rows.plain_sorted PyProof.Rows.entry_sorted (PyProof.Rows.args_sorted1 _) ?_
  unfold Builtin.«sorted»
  refine wpAny_bind (m := checkCount "sorted" 1 1 _) (wpAny_pure ?_)
  refine wpAny_bind (PySem.W.kdu_collect (A := X.A.in1) (kdl_raw hs hx hdt) (I.ok.hd hc) ho (by omega) fun h' tk acc kp it => ?_)
  have ea : acc.toList = ks.map fun x => Value.ref x.2.1 := by
    have hl : acc.toList.length = ks.length := by rw [Array.length_toList, it.1]; exact l1
    apply List.ext_getElem?
    intro j
    rw [List.getElem?_map]
    cases hj : acc.toList[j]? with
    | none =>
      have h1 := List.getElem?_eq_none_iff.mp hj
      rw [List.getElem?_eq_none (by omega)]
      all_goals rfl
    | some v =>
      obtain ⟨en, hen, hv⟩ := it.2 j v (by rw [← Array.getElem?_toList]; exact hj)
      have qe := entry_at he j
      rw [hen] at qe
      cases hb : ks[j]? with
      | none =>
        rw [hb] at qe
        exact nomatch (show some en = none from qe)
      | some b =>
        rw [hb] at qe
        have e2 : en = entryOfKey (tupleKind (mixKind X.prog X.w)) b := Option.some.inj qe
        rw [hv, e2]
        all_goals rfl
  have eb : acc.toList = (ks.map fun x => x.2.1).map Value.ref := by rw [ea, List.map_map]; all_goals rfl
  have rv : Vals (ks.map fun x => V.ref x.2.1) acc.toList := by
    rw [eb, show (ks.map fun x => V.ref x.2.1) = (ks.map fun x => x.2.1).map V.ref by rw [List.map_map]; rfl]
    exact vals_refs _
  have hlen : (ks.map fun x => V.ref x.2.1).length = acc.toList.length := rv.length
  have hz : acc.toList.length ≤ sizeLine := by rw [← hlen, List.length_map]; omega
  obtain ⟨b1, b2⟩ := backs rv fun x hx => by
    obtain ⟨y, _, e⟩ := List.mem_map.mp hx
    exact ⟨_, e.symm⟩
  have I1 : Inv X pins σ H { s with heap := h', toks := tk } := I.kept kp
  refine wpAny_bind (wpAny_newList ?_ hz)
  have hoL : (h'.push (seqObj "list" acc.toList.toArray 0)).get? h'.objs.size = some (seqObj "list" acc.toList.toArray 0) := Heap.get?_push_size _ rfl
  show wpAny _ _ _ _ _ { s with heap := h'.push (seqObj "list" acc.toList.toArray 0), toks := tk }
  have hp : ∀ v ∈ acc.toList, Srt.IsPair (h'.push (seqObj "list" acc.toList.toArray 0)) v (kP H (backV v)).1 (kP H (backV v)).2 := fun v hv => by
    have hm : backV v ∈ ks.map fun x => V.ref x.2.1 := by rw [← b1]; exact List.mem_map.mpr ⟨_, hv, rfl⟩
    obtain ⟨p, _, r⟩ := pmem k2 hm
    rw [kP_at r]
    obtain ⟨t, ev, ht⟩ := r
    obtain ⟨a, rfl⟩ := b2 v hv
    cases (show V.ref a = V.ref t from ev)
    obtain ⟨_, its2, r2, o, ho, hc, n, hd⟩ := I.hok _ _ ht
    obtain ⟨u1, u2, rfl, ri, rj⟩ := vals2 r2
    obtain ⟨t1, rfl⟩ := ri
    obtain ⟨t2, rfl⟩ := rj
    exact ⟨t, o, t1, t2, n, rfl, Heap.get?_push_of_some _ (kp _ _ ho), hc, hd⟩
  refine wpAny_bind (wpAny_holding (wpAny_call_entry PyProof.Rows.slot_list_sort ⟨_, hoL, rfl⟩ PyProof.Rows.entry_list_sort
    (SrtO.list_sort_ord (s := { s with heap := h'.push (seqObj "list" acc.toList.toArray 0), toks := tk }) (SrtO.swo_lex fun u => kP H (backV u)) hoL hz (fun h2 => SrtO.pairs_sortableO (by omega) hp fun o e => ?_) fun out h1 h2 => ⟨.none, rfl, ?_⟩) (PyProof.Rows.args_list_sort _)))
  · have e' : some o = some (seqObj "list" acc.toList.toArray 0) := e.symm.trans hoL
    cases e'
    intro c
    exact absurd (Value.type.inj c) (by decide)
  · have h3 : ∀ u ∈ out, ∃ a, u = Value.ref a := fun u hu => b2 u (h2.perm.mem_iff.mp hu)
    obtain ⟨e', he'⟩ := PyProof.Rows.sortedHeap_at (vs := acc.toList) (out := out.toArray) hoL
    have pm : (out.map backV).Perm (ks.map fun x => V.ref x.2.1) := by
      have := h2.perm.map backV
      rwa [b1] at this
    have hlen2 : (out.map backV).length ≤ sizeLine := by rw [pm.length_eq, hlen]; exact hz
    refine wpAny_pure ⟨_, rfl, .ref h'.objs.size, upd H h'.objs.size (.lst (out.map backV)), I1.laid (t' := tk) (fun b u e => ?_) (Nat.le_refl _)
      (show ObjOk X.prog X.w _ _ _ (.lst (out.map backV)) from ⟨hlen2, out, e', vals_back h3, he'⟩), rfl, q _ _ (I1.hok.fresh (Nat.le_refl _)) (srt_of k2 hl (SrtO.srtd_map h1) pm)⟩
    have hb : b < h'.objs.size := Heap.lt_size e
    rw [PyProof.Rows.sortedHeap_old (Nat.ne_of_lt hb) (by rw [size_push']; exact Nat.lt_succ_of_lt hb)]
    exact Heap.get?_push_of_some _ e
end
end WF
end

section
set_option Elab.async false
set_option linter.all false
set_option maxRecDepth 100000
set_option maxHeartbeats 4000000
/-! Whichfirm: own rules, 2: enumerate(tuple), len(o), list(o) by own methods, a field as a target. -/
namespace PySem
open Sem (wp)
open AutoSeq1 (wpAny_loadPart')
theorem wf_enumerate_newT (l : Addr) (items : Array Value) (n : Nat) (dct : Option Addr) (sl : Array (Option Value)) :
    Meets (Builtin.«enumerate.__new__» ⟨[.type "enumerate", .ref l], []⟩) (fun _ R s => s.heap.get? l = some { cls := .type "tuple", dict := dct, data := .seq items n, slots := sl } ∧
      R (.ok (.ret (.ref (s.heap.push { cls := .type "tuple_iterator", data := .fields #[.ref l, .int 0 0] }).objs.size)))
        { s with heap := (s.heap.push { cls := .type "tuple_iterator", data := .fields #[.ref l, .int 0 0] }).push { cls := .type "enumerate", data := .fields #[.none, .bool false, .ref s.heap.objs.size, rawInt 0, .none, .none] } }) :=
  .of_wp fun prog w A R s h => by
    obtain ⟨hp, g, d, tk, os⟩ := s; obtain ⟨hl, h⟩ := h
    have hsub := sub_enumerate
    have hL : Heap.IsTuple (Shared.heap ⟨hp, g, d, tk, os⟩) l items := ⟨_, hl, rfl, n, rfl⟩
    wp_walk using wpAny_loadPart' hl
    refine wpAny_stack_any fun st => wpAny_pure ?_
    split
    · rename_i c _ _ _ _ _
      cases (c == Value.type "enumerate")
      · wp_walk using wpAny_loadPart' hl, wpAny_pyIter_tuple hL
        exact ⟨_, rfl, h⟩
      · wp_walk using wpAny_loadPart' hl, wpAny_pyIter_tuple hL
        exact ⟨_, rfl, h⟩
    · wp_walk using wpAny_loadPart' hl, wpAny_pyIter_tuple hL
      exact ⟨_, rfl, h⟩
section
variable {prog : Program} {w : World} {A : Around} {E : Value → Shared → Prop} {s : Shared}
theorem wf_enumerate_tuple {l : Addr} {items : Array Value} {Q : Value → Shared → Prop} (hL : s.heap.IsTuple l items)
    (h : ∀ h', IsEnum h' (s.heap.objs.size + 1) s.heap.objs.size 0 .none → h'.IsTupleIter s.heap.objs.size l 0 → h'.objs.size = s.heap.objs.size + 2 →
      (∀ b o, s.heap.get? b = some o → h'.get? b = some o) → Q (.ref (s.heap.objs.size + 1)) { s with heap := h' }) :
    wpAny (model prog w) A (call (.type "enumerate") [.ref l]) Q E s := by
  obtain ⟨⟨c, dct, dt, sl⟩, hl, hc, n, hd⟩ := hL
  replace hc : c = .type "tuple" := hc
  replace hd : dt = .seq items n := hd
  subst hc hd
  refine callType_new F.called_enumerate (by decide) (F.typeCall_enumerate_1 _) (F.newCall_enumerate_1 _) (fun obj => F.args_object_init_2 obj _) F.entry_enumerate_new
    (wf_enumerate_newT l items n dct sl) ⟨hl, ?_⟩
  have hz : (s.heap.push { cls := .type "tuple_iterator", data := .fields #[.ref l, .int 0 0] }).objs.size = s.heap.objs.size + 1 := Heap.size_push ..
  show _ ∧ _
  rw [hz]
  have he : IsEnum ((s.heap.push { cls := .type "tuple_iterator", data := .fields #[.ref l, .int 0 0] }).push
      { cls := .type "enumerate", data := .fields #[.none, .bool false, .ref s.heap.objs.size, rawInt 0, .none, .none] }) (s.heap.objs.size + 1) s.heap.objs.size 0 .none := by
    have := Heap.get?_push_size (s.heap.push { cls := .type "tuple_iterator", data := .fields #[.ref l, .int 0 0] })
      (o := { cls := .type "enumerate", data := .fields #[.none, .bool false, .ref s.heap.objs.size, rawInt 0, .none, .none] }) rfl
    rw [hz] at this; exact this
  refine ⟨⟨_, he, rfl⟩, h _ he ⟨_, Heap.get?_push_of_some _ (Heap.get?_push_size _ rfl), rfl, rfl⟩ (by rw [Heap.size_push, hz]) fun b o x => Heap.get?_push_of_some _ (Heap.get?_push_of_some _ x)⟩
end
end PySem

namespace WF
open PySem PySem.Spec PyProof.Rows L2
/-- the tuple at a: its items with their places, in new pairs -/
def IteT (K : PySem.W.Frag) (a : Addr) : It :=
  ⟨fun i H => ∃ (xs : List V) (x : V), SqT K H a xs ∧ xs[i]? = some x, fun i H v H' => ∃ T x, v = .ref T ∧ H T = none ∧ H' = upd H T (.tup [.int (i : Nat), x]) ∧ ∀ xs, SqT K H a xs → xs[i]? = some x, fun i H => ∃ xs : List V, SqT K H a xs ∧ xs.length ≤ i⟩
theorem turn_enumT {P : Program} {w : World} {K : PySem.W.Frag} {elts : List Expr} {kk : Nat} {tpos : Pos} (a e it : Addr) :
    Turn P w K (.Tuple elts kk tpos) (IteT K a) [e, it] e (fun i h => (∃ old, IsEnum h e it ((i : Nat) : Int) old) ∧ h.IsTupleIter it a i ∧ e ≠ it) where
  mem := by simp
  obj := fun i h st b hb => by
    obtain ⟨⟨old, he⟩, ⟨o, ho, hc, hd⟩, _⟩ := st
    have e' : b = e ∨ b = it := by simpa using hb
    rcases e' with z | z
    · rw [z]; exact ⟨_, he, fun v q => nomatch q⟩
    · rw [z]; exact ⟨o, ho, fun v q => by rw [hd] at q; cases q⟩
  keep := fun i h h' st k => let ⟨⟨old, he⟩, hi, hne⟩ := st; ⟨⟨old, k e (by simp) _ he⟩, hi.at fun o q => k it (by simp) o q, hne⟩
  item := by
    intro X hP hw hK hc i pins s σ H E I hf st hg
    subst hP hw hK
    obtain ⟨⟨old, he⟩, hit, hne⟩ := st
    obtain ⟨xs, x, hq, hx⟩ := hg
    obtain ⟨its, rv, p, hz⟩ := I.tuple hq
    obtain ⟨u, hu, ru⟩ := rv.get hx
    have hel : e < s.heap.objs.size := Heap.lt_size he
    have hil : it < s.heap.objs.size := by obtain ⟨_, q, _⟩ := hit; exact Heap.lt_size q
    have hai : a ≠ it := fun z => by
      obtain ⟨o, h1, h2, _⟩ := hit
      obtain ⟨o', g1, g2, _⟩ := p
      rw [z, h1] at g1
      cases g1
      rw [h2] at g2
      exact absurd (Value.type.inj g2) (by decide)
    have hae : a ≠ e := fun z => by
      obtain ⟨o', g1, g2, _⟩ := p
      rw [z, he] at g1
      cases g1
      exact absurd (Value.type.inj g2) (by decide)
    have D := Draws.tuple (prog := X.prog) (w := X.w) (A := X.A.in1) (show X.A.in1.handled = none from I.ok.hd hc) it a hai its.toArray
    have hlt : i < its.toArray.size := by
      have := (List.getElem?_eq_some_iff.mp hu).1
      simpa using this
    refine wpAny_pyNext_enum_itemD D he ⟨hit, show s.heap.IsTuple a its.toArray from p⟩ hlt hne (by simp [hne, Ne.symm hae]) fun y h' tk hy ho hst hT hsz hk => ?_
    have ey : y = u := by
      have hy' : its.toArray[i]? = some y := hy
      rw [List.getElem?_toArray, hu] at hy'
      exact (Option.some.inj hy').symm
    subst ey
    refine ⟨_, rfl, wpAny_letOwnedTupleGo_enum (s := { s with heap := h', toks := tk + 1 }) ho fun h'' he' sb => ?_⟩
    have hT2 : h''.get? s.heap.objs.size = some { cls := .type "tuple", data := .seq #[.int i tk, y] } := (sb.2 _ (Nat.ne_of_gt hel)).trans hT
    have new : ObjOk X.prog X.w (upd H s.heap.objs.size (.tup [.int (i : Nat), x])) h'' s.heap.objs.size (.tup [.int (i : Nat), x]) :=
      ⟨by show 2 ≤ sizeLine; decide, [.int i tk, y], .cons ⟨_, rfl⟩ (.cons ru .nil), ⟨_, hT2, rfl, _, rfl⟩⟩
    have I1 : Inv X pins σ (upd H s.heap.objs.size (.tup [.int (i : Nat), x])) { s with heap := h'', toks := tk + 1 } :=
      I.turnedNew (ch := [e, it]) (fun b ob hb q => (sb.2 b (fun z => hb (by simp [z]))).trans (hk b ob (fun z => hb (by simp [z])) (fun z => hb (by simp [z])) q)) hf (Nat.le_refl _) new
    refine ⟨.ref s.heap.objs.size, _, I1, rfl, ⟨_, x, rfl, I.hok.fresh (Nat.le_refl _), rfl, fun ys hy => by rw [I.tuple_inj hy hq]; exact hx⟩, ⟨⟨y, ?_⟩, hst.1.at fun o q => (sb.2 it (Ne.symm hne)).trans q, hne⟩, fun b hb => ?_⟩
    · have e1 : ((i + 1 : Nat) : Int) = (i : Int) + 1 := by omega
      rw [e1]; exact he'
    · have hb' : b < s.heap.objs.size := by
        have e' : b = e ∨ b = it := by simpa using hb
        rcases e' with z | z
        · rw [z]; exact hel
        · rw [z]; exact hil
      rw [upd_ne (Nat.ne_of_lt hb')]
      exact (hf b hb).1
  done := by
    intro X hP hw hK hc i pins s σ H E I hf st hg
    subst hP hw hK
    obtain ⟨⟨old, he⟩, hit, hne⟩ := st
    obtain ⟨xs, hq, hx⟩ := hg
    obtain ⟨its, rv, p, hz⟩ := I.tuple hq
    obtain ⟨f0, f1, f2, f3, f4, f5⟩ := hf it (by simp)
    have hl := rv.length
    have hT : s.TypeIs (.ref e) "enumerate" := ⟨_, he, rfl⟩
    unfold pyNext
    refine wpAny_bind (wpAny_attempt (wpAny_callSpecial?_slot (name := Str.ofString "__next__") hT PySem.F.slot_enumerate_next
      (wpAny_call_entry PySem.F.slot_enumerate_next hT PySem.F.entry_enumerate_next ?_ (PySem.F.args_enumerate_next_1 _))))
    show wpAny _ _ (field (.ref e) 2 >>= _) _ _ _
    refine wpAny_bind (wpAny_field he rfl (x := .ref it) rfl ?_)
    refine wpAny_bind (wpAny_nextOf_tuple_end (show X.A.in1.handled = none from I.ok.hd hc) hit (show s.heap.IsTuple a its.toArray from p) (by simp; omega) fun h' x he' hx' => ?_)
    obtain ⟨o, ho, hc⟩ := hx'
    refine wpAny_bind (wpAny_isInstance (T := "StopIteration") (b := true) ⟨o, ho, hc⟩ isSubtype_stop ?_)
    exact wpAny_pure ⟨rfl, I.turned (t' := s.toks) (fun b o hb q => he' b o hb q) f0 f1 f3 f4 f5⟩
  self := fun _ _ _ _ _ st h => wpAny_pyIter_enum st.1.choose_spec h
def iEnumT (K : PySem.W.Frag) (ta : TA) : TI := fun σ H R => ta σ H fun vs H1 => ∃ a xs, vs = [.ref a] ∧ SqT K H1 a xs ∧ R (IteT K a) H1
theorem pi_enumT {X : Cx} {e : Expr} {ta : TA} {p pos tpos : Pos} {elts : List Expr} {kk : Nat} (hg : Gl X "enumerate") (hm : X.mg "enumerate" = none) (ha : PA X [e] ta) (hs : starEach [e] X.env = [(false, eval e X.env)] := by rfl) :
    PI X (.Tuple elts kk tpos) (.Call (.Name "enumerate" p) [e] [] pos) (iEnumT X.K ta) := by
  refine ⟨fun pins s σ H R I h => ?_⟩
  refine Call_ (ld_blt I hg hm boot_enumerate (PyProof.Rows.callWith_type1 (thn (ha.run pos pins s σ H _ I h) fun us s1 ⟨vs, H1, I1, r1, q1⟩ => ?_) hs rfl))
  obtain ⟨a, xs, ex, hq, q⟩ := q1
  subst ex
  cases r1 with
  | cons r rr =>
    cases rr
    cases r
    obtain ⟨its, rv, p', hz⟩ := I1.tuple hq
    refine wf_enumerate_tuple (show s1.heap.IsTuple a its.toArray from p') fun h' he hit hsz hk => wpAny_pyIter_enum he ?_
    have I2 : Inv X pins σ H1 { s1 with heap := h' } := I1.kept (t' := s1.toks) hk
    refine ⟨s1.heap.objs.size + 1, [s1.heap.objs.size + 1, s1.heap.objs.size], _, _, H1, rfl, I2, turn_enumT a (s1.heap.objs.size + 1) s1.heap.objs.size, ⟨⟨.none, he⟩, hit, Nat.succ_ne_self _⟩, fun b hb => ?_, q⟩
    have e' : b = s1.heap.objs.size + 1 ∨ b = s1.heap.objs.size := by simpa using hb
    have hle : s1.heap.objs.size ≤ b := by
      rcases e' with z | z
      · rw [z]; exact Nat.le_add_right _ _
      · rw [z]; exact Nat.le_refl _
    exact I1.fpOk hle (I1.hok.fresh hle)
/-- both: a list or a tuple -/
def iEnum2 (K : PySem.W.Frag) (ta : TA) : TI := fun σ H R => ta σ H fun vs H1 => ∃ a xs, vs = [.ref a] ∧ ((SqL K H1 a xs ∧ R (Ite K a) H1) ∨ (SqT K H1 a xs ∧ R (IteT K a) H1))
theorem pi_enum2 {X : Cx} {e : Expr} {ta : TA} {p pos tpos : Pos} {elts : List Expr} {kk : Nat} (hg : Gl X "enumerate") (hm : X.mg "enumerate" = none) (ha : PA X [e] ta) (hs : starEach [e] X.env = [(false, eval e X.env)] := by rfl) :
    PI X (.Tuple elts kk tpos) (.Call (.Name "enumerate" p) [e] [] pos) (iEnum2 X.K ta) := by
  refine ⟨fun pins s σ H R I h => ?_⟩
  refine Call_ (ld_blt I hg hm boot_enumerate (PyProof.Rows.callWith_type1 (thn (ha.run pos pins s σ H _ I h) fun us s1 ⟨vs, H1, I1, r1, q1⟩ => ?_) hs rfl))
  obtain ⟨a, xs, ex, q⟩ := q1
  subst ex
  cases r1 with
  | cons r rr =>
    cases rr
    cases r
    have fp : ∀ b ∈ [s1.heap.objs.size + 1, s1.heap.objs.size], FpOk X pins H1 b := fun b hb => by
      have e' : b = s1.heap.objs.size + 1 ∨ b = s1.heap.objs.size := by simpa using hb
      have hle : s1.heap.objs.size ≤ b := by
        rcases e' with z | z
        · rw [z]; exact Nat.le_add_right _ _
        · rw [z]; exact Nat.le_refl _
      exact I1.fpOk hle (I1.hok.fresh hle)
    rcases q with ⟨hq, q⟩ | ⟨hq, q⟩
    · obtain ⟨its, rv, p', hz⟩ := I1.list hq
      refine call_enumerate_list p'.isList fun h' he hit hsz hk => wpAny_pyIter_enum he ?_
      have I2 : Inv X pins σ H1 { s1 with heap := h' } := I1.kept (t' := s1.toks) hk
      exact ⟨s1.heap.objs.size + 1, [s1.heap.objs.size + 1, s1.heap.objs.size], _, _, H1, rfl, I2, turn_enum a (s1.heap.objs.size + 1) s1.heap.objs.size, ⟨⟨.none, he⟩, hit, Nat.succ_ne_self _⟩, fp, q⟩
    · obtain ⟨its, rv, p', hz⟩ := I1.tuple hq
      refine wf_enumerate_tuple (show s1.heap.IsTuple a its.toArray from p') fun h' he hit hsz hk => wpAny_pyIter_enum he ?_
      have I2 : Inv X pins σ H1 { s1 with heap := h' } := I1.kept (t' := s1.toks) hk
      exact ⟨s1.heap.objs.size + 1, [s1.heap.objs.size + 1, s1.heap.objs.size], _, _, H1, rfl, I2, turn_enumT a (s1.heap.objs.size + 1) s1.heap.objs.size, ⟨⟨.none, he⟩, hit, Nat.succ_ne_self _⟩, fp, q⟩
end WF
end

section
set_option Elab.async false
set_option linter.all false
set_option maxRecDepth 100000
set_option maxHeartbeats 4000000
/-! Whichfirm: own rules, 3: len(o), list(o) by own methods, a field as a target. -/
namespace WF
open PySem PySem.Spec PyProof.Rows L2

/-! ### a field as a target -/
def gFld (K : PySem.W.Frag) (to : TE) (f : Str) : TG := fun v σ H Q => to σ H fun x H1 => ∃ a C dx fs, x = .ref a ∧ H1 a = some (.ins C dx fs) ∧ Cls K C ∧ NoAttr K C f ∧ fs.length < 1000 ∧ Q σ (upd H1 a (.ins C dx (putF f v fs)))
theorem pg_fld {X : Cx} {o : Expr} {f : Str} {pos : Pos} {to : TE} (ho : PE X o to) : PG X (.Attribute o f pos) (gFld X.K to f) := by
  refine ⟨fun pins s σ H v u Q I r h => ?_⟩
  show wpAny _ _ (do
    let ov ← holding [u] (eval o X.env)
    standAt pos.atName
    holding [u, ov] (setAttr ov f u)
    release [u, ov] []) _ _ _
  refine wpAny_bind (wpAny_holding (thn (ho.run pins s σ H _ I h) fun ov s1 ⟨x, H1, I1, rx, a, C, dx, fs, ex, ea, c, n, hl, q⟩ => ?_))
  subst ex
  obtain rfl : ov = Value.ref a := rx
  refine wpAny_bind (wpAny_standAt (wpAny_bind (wpAny_holding (setattr_ok I1 ea c n hl r fun s2 I2 => ?_))))
  exact wpAny_release ⟨σ, _, I2, q⟩

/-! ### len(o), o with an own __len__ -/
theorem len_own {prog : Program} {w : World} {A : Around} {E : Value → Shared → Prop} {s : Shared} {K : PySem.W.Frag} {x C f : Addr} {ox : Obj} {od : Option Obj} {Q : Value → Shared → Prop}
    (X : K.In s.heap) (J : PySem.W.InstAt s.heap x ox C od) (hs : PySem.W.findIn K (.ref C) "__len__" = some (some (.ref f))) (hf : PySem.W.isFn K (.ref f) = true)
    (h : wpAny (model prog w) A.in1 (call (.ref f) [.ref x]) (fun r s₁ => ∃ n t, r = Value.int n t ∧ 0 ≤ n ∧ n < 2 ^ 62 ∧ ∀ t' u, Q (.int n u) { s₁ with toks := t' }) E s) : wpAny (model prog w) A (call (.builtin "len") [.ref x]) Q E s := by
  refine Calls.call_function_entry kind_len plain_len entry_len (args_len1 _) ?_
  unfold Builtin.«len»
  refine wpAny_bind (m := oneArg "len" _) (wpAny_pure ?_)
  refine wpAny_bind (m := callSpecial? (.ref x) (PySem.Str.ofString "__len__")) (PySem.W.special_fn X J hs (beq_iff_eq.mp hf) (wpAny_mono h (fun r s₁ hr => ?_) fun _ _ z => z))
  obtain ⟨n, t, rfl, h0, h1, hq⟩ := hr
  refine wpAny_bind (wpAny_holding (wpAny_pure ?_))
  refine wpAny_bind (wpAny_letGo ?_)
  show wpAny _ _ (if n < 0 then _ else _) _ _ _
  rw [if_neg (by omega)]
  show wpAny _ _ (if n ≥ 2 ^ 63 then _ else _) _ _ _
  rw [if_neg (by omega)]
  exact wpAny_bind (wpAny_mkInt (wpAny_pure ⟨_, rfl, hq _ _⟩))
section
variable {X : Cx} {CX : CXT} {n : Nat} {C g : Addr} {sp : Sp} {E : XK}
/-- of an instance with a dict -/
def rLenI (C : Addr) (sp : Sp) (E : XK) : List V → Hp → VK → Prop := fun xs H Q => ∃ a dx fs, xs = [V.ref a] ∧ H a = some (.ins C dx fs) ∧ sp [.ref a] H (fun z H' => ∃ i : Int, z = .int i ∧ 0 ≤ i ∧ i < 2 ^ 62 ∧ Q z H') E
theorem call_lenI (hs : PySem.W.findIn X.K (.ref C) "__len__" = some (some (.ref g))) (hf : PySem.W.isFn X.K (.ref g) = true) (F : FnR X.prog X.w X.K X.mg X.base CX n g sp) (hr : Room (n + 1) X.A) (hx : Passes CX X E) : CallR X (.builtin "len") (rLenI C sp E) := by
  intro pins s σ H xs us Q I r h
  obtain ⟨a, dx, fs, rfl, ha, q⟩ := h
  obtain ⟨u, rfl, ru⟩ := r.one
  cases (show u = Value.ref a from ru)
  obtain ⟨mA, O, _⟩ := ins_get I.hok ha
  obtain ⟨od, J, _⟩ := O.look
  refine len_own I.kIn J hs hf (wpAny_mono (wpAny_call (SlX.run_at (us := [.ref a]) (ws := [.ref a]) F hr.in1 I.env0.in1 hx I (.cons rfl .nil) q)) (fun w s' z => ?_) fun _ _ x => x)
  obtain ⟨z', H', I', rz, i, ei, h0, h1, qz⟩ := z
  subst ei
  obtain ⟨t, e⟩ := (show ∃ t, w = Value.int i t from rz)
  cases e
  exact ⟨i, t, rfl, h0, h1, fun t' u => ⟨.int i, H', I'.tok _, ⟨_, rfl⟩, qz⟩⟩
/-- of an instance with slots -/
def rLenS (C : Addr) (sp : Sp) (E : XK) : List V → Hp → VK → Prop := fun xs H Q => ∃ a dx vs, xs = [V.ref a] ∧ SlX.Slt H a C dx vs ∧ sp [.ref a] H (fun z H' => ∃ i : Int, z = .int i ∧ 0 ≤ i ∧ i < 2 ^ 62 ∧ Q z H') E
theorem call_lenS (hs : PySem.W.findIn X.K (.ref C) "__len__" = some (some (.ref g))) (hf : PySem.W.isFn X.K (.ref g) = true) (F : FnR X.prog X.w X.K X.mg X.base CX n g sp) (hr : Room (n + 1) X.A) (hx : Passes CX X E) : CallR X (.builtin "len") (rLenS C sp E) := by
  intro pins s σ H xs us Q I r h
  obtain ⟨a, dx, vs, rfl, ha, q⟩ := h
  obtain ⟨u, rfl, ru⟩ := r.one
  cases (show u = Value.ref a from ru)
  obtain ⟨sl, od, _, J, _⟩ := SlX.slt_inst I ha
  refine len_own I.kIn J hs hf (wpAny_mono (wpAny_call (SlX.run_at (us := [.ref a]) (ws := [.ref a]) F hr.in1 I.env0.in1 hx I (.cons rfl .nil) q)) (fun w s' z => ?_) fun _ _ x => x)
  obtain ⟨z', H', I', rz, i, ei, h0, h1, qz⟩ := z
  subst ei
  obtain ⟨t, e⟩ := (show ∃ t, w = Value.int i t from rz)
  cases e
  exact ⟨i, t, rfl, h0, h1, fun t' u => ⟨.int i, H', I'.tok _, ⟨_, rfl⟩, qz⟩⟩
end

/-! ### list(o): __iter__ hands back iter(a list), __len__ its length -/
/-- the instance at a has at l, under the name f, a list of zs -/
def HasL (C : Addr) (f : Str) (H : Hp) (a l : Addr) (zs : List V) : Prop := ∃ dx fs, H a = some (.ins C dx fs) ∧ fs.lookup f = some (.ref l) ∧ H l = some (.lst zs)
def spIterL (C : Addr) (f : Str) : Sp := fun vs H Q _ => ∃ a l zs, vs = [.ref a] ∧ HasL C f H a l zs ∧ ∀ it, H it = none → Q (.ref it) (upd H it (ItO l it 0))
def spLenL (C : Addr) (f : Str) : Sp := fun vs H Q _ => ∃ a l zs, vs = [.ref a] ∧ HasL C f H a l zs ∧ Q (.int zs.length) H
theorem HasL.new {C : Addr} {f : Str} {H : Hp} {a l : Addr} {zs : List V} (h : HasL C f H a l zs) {b : Addr} {o : HO} (n : H b = none) : HasL C f (upd H b o) a l zs := by
  obtain ⟨dx, fs, h1, h2, h3⟩ := h
  exact ⟨dx, fs, by rw [upd_ne (ne_of_none h1 n)]; exact h1, h2, by rw [upd_ne (ne_of_none h3 n)]; exact h3⟩
section
variable {X : Cx} {pins : List (Addr × Obj)} {σ : L2.St} {A1 : Around} {Rs : Result → Shared → Prop}
/-- the loop of list.extend over a list's iterator -/
theorem ext_loop {l it q : Addr} {zs : List V} {Z : Hp → Prop} (hh : A1.handled = none) (hz63 : zs.length < sizeLine)
    (hdone : ∀ H s, Inv X pins σ H s → Z H → H q = some (.lst zs) → Rs (.ok (.ret .none)) s)
    (hZi : ∀ H i, Z H → Z (upd H it (ItO l it i))) (hZe : ∀ H i, Z H → Z (upd H it (ItE it i))) (hZq : ∀ H o, Z H → Z (upd H q o)) (hqi : q ≠ it) (hql : q ≠ l) (hli : l ≠ it) :
    ∀ (k i : Nat) (H : Hp) (s : Shared), i + k = zs.length → Inv X pins σ H s → H it = some (ItO l it i) → H l = some (.lst zs) → H q = some (.lst (zs.take i)) → Z H →
      codeAny (model X.prog X.w) A1 (.builtin "list.extend.loop" ⟨[.ref q, .ref it, .none], []⟩) Rs s := by
  intro k
  induction k with
  | zero =>
    intro i H s hk I hi hl hq hZ
    obtain ⟨zl, il, kl, rl, hll, el⟩ := I.lstM hl
    have hn : il.toArray[i]? = none := by rw [List.getElem?_toArray]; exact rl.none_of (List.getElem?_eq_none (by omega))
    have mu : Mut (H it) := by rw [hi]; exact True.intro
    refine codeAny_builtin PySem.F.entry_extend_loop ?_
    rw [Around.under_plainId PySem.F.plain_extend_loop _]
    show wpAny _ A1.in1 (pyNext (.ref it) >>= _) _ _ s
    refine wpAny_bind (DSub.py_end hh (itO_get I hi) ⟨_, el, rfl, _, rfl⟩ hn fun h' e' eb => ?_)
    refine wpAny_pure (hdone _ _ (I.write (x := it) (e := it) (t' := s.toks) mu (.inl rfl) (fun b o nb z => eb b o nb z) ⟨_, e'⟩ (itE_ok e')) (hZe _ _ hZ) ?_)
    rw [upd_ne hqi, hq, List.take_of_length_le (by omega)]
  | succ k ih =>
    intro i H s hk I hi hl hq hZ
    obtain ⟨zl, il, kl, rl, hll, el⟩ := I.lstM hl
    obtain ⟨v, hv⟩ : ∃ v, zs[i]? = some v := ⟨_, List.getElem?_eq_getElem (by omega)⟩
    obtain ⟨u, hu, ru⟩ := rl.get hv
    have mu : Mut (H it) := by rw [hi]; exact True.intro
    refine codeAny_builtin PySem.F.entry_extend_loop ?_
    rw [Around.under_plainId PySem.F.plain_extend_loop _]
    show wpAny _ A1.in1 (pyNext (.ref it) >>= _) _ _ s
    refine wpAny_bind (DSub.py_item (x := u) (itO_get I hi) ⟨_, el, rfl, _, rfl⟩ (by rw [List.getElem?_toArray]; exact hu) fun h' e' sb => ?_)
    have I' := I.write (x := it) (e := it) (t' := s.toks) mu (.inl rfl) (fun b o nb z => (sb.2 b nb).trans z) ⟨_, e'⟩ (itO_ok e')
    have hq' : upd H it (ItO l it (i + 1)) q = some (.lst (zs.take i)) := by rw [upd_ne hqi]; exact hq
    show wpAny _ A1.in1 (updateSeq q (·.push u) >>= _) _ _ _
    obtain ⟨z, its, k2, r2, hl2, e⟩ := I'.lstM hq'
    have hlen : its.length ≤ sizeLine := by
      have := r2.length
      rw [List.length_take] at this
      omega
    refine wpAny_bind (wpAny_updateSeq e rfl (wpAny_pure ⟨plainId_quiet PySem.F.plain_extend_loop _, ?_⟩) (by rw [List.size_toArray]; omega) (by show (its.toArray.push u).size ≤ sizeLine + 1; rw [Array.size_push, List.size_toArray]; omega))
    have ht : zs.take i ++ [v] = zs.take (i + 1) := by
      rw [List.take_succ, hv]
      rfl
    refine ih (i + 1) _ _ (by omega) (I'.lset (its' := its ++ [u]) (t' := s.toks) hq' e (by simp) (r2.append (.cons ru .nil)) (by rw [List.length_append, List.length_singleton, List.length_take]; omega)) ?_ ?_ ?_ (hZq _ _ (hZi _ _ hZ))
    · rw [upd_ne (Ne.symm hqi), upd_same]
    · rw [upd_ne (Ne.symm hql), upd_ne hli, hl]
    · rw [upd_same, ht]

theorem same_upd {H H' : Hp} {a : Addr} (h : Same H H') (n : H a = none) (o : HO) : Same H (upd H' a o) := fun b u e => by rw [upd_ne (ne_of_none e n)]; exact h b u e
end
section
variable {X : Cx} {CI : CXT} {n : Nat} {C gi gl : Addr} {f : Str} {EI : XK}
/-- list(o) -/
def rListS (C : Addr) (f : Str) : List V → Hp → VK → Prop := fun xs H Q => ∃ a l zs, xs = [.ref a] ∧ HasL C f H a l zs ∧ zs.length < sizeLine ∧ zs.length < 2 ^ 62 ∧ ∀ q H', H q = none → Same H H' → H' q = some (.lst zs) → Q (.ref q) H'
theorem call_listS (hI : PySem.W.findIn X.K (.ref C) "__iter__" = some (some (.ref gi))) (hIf : PySem.W.isFn X.K (.ref gi) = true) (hL : PySem.W.findIn X.K (.ref C) "__len__" = some (some (.ref gl))) (hLf : PySem.W.isFn X.K (.ref gl) = true)
    (FI : FnR X.prog X.w X.K X.mg X.base CI n gi (spIterL C f)) (FL : FnR X.prog X.w X.K X.mg X.base CX0 n gl (spLenL C f)) (hr : Room (n + 4) X.A) (xI : Passes CI X EI) : CallR X (.type "list") (rListS C f) := by
  intro pins s σ H xs us Q I rv h
  obtain ⟨a, l, zs, rfl, hal, hz63, hz62, hq⟩ := h
  obtain ⟨u, rfl, ru⟩ := rv.one
  cases (show u = Value.ref a from ru)
  obtain ⟨dx, fs, ha, hf, hl⟩ := hal
  have r2 : Room n X.A.in1.in1 := (hr.mono (by omega) : Room (n + 2) X.A).in1.in1
  have r3 : Room n X.A.in1.in1.in1 := (hr.mono (by omega) : Room (n + 3) X.A).in1.in1.in1
  refine callType_codes (Q₁ := fun obj s₁ => obj = .ref s.heap.objs.size ∧ s₁ = { s with heap := s.heap.push { cls := .type "list", data := .seq #[] } }) PySem.F.called_list (PySem.F.typeCall_list_1 _) PySem.F.entry_list_init
    (code_list_new _ ⟨rfl, rfl⟩) fun obj s₁ h₁ => ?_
  obtain ⟨rfl, rfl⟩ := h₁
  have hS : (s.heap.push { cls := .type "list", data := .seq #[] }).get? s.heap.objs.size = some { cls := .type "list", data := .seq #[] } := Heap.get?_push_size _ rfl
  refine ⟨⟨_, hS, rfl⟩, PySem.F.args_list_init_2 _ _, ?_⟩
  generalize hqd : s.heap.objs.size = q at hS ⊢
  have fr : H q = none := I.hok.fresh (Nat.le_of_eq hqd)
  have I1 : Inv X pins σ (upd H q (.lst [])) { s with heap := s.heap.push { cls := .type "list", data := .seq #[] } } := by
    rw [← hqd]
    exact I.lnew (its := []) (t' := s.toks) .nil (Nat.zero_le _)
  show wpAny _ _ (do let old ← Builtin.List.listItems (.ref q); Builtin.List.listUpdate (.ref q) (fun _ => #[]); letGo old.toList.reverse; Builtin.List.listExtendWith (.ref q) (.ref a) .none) _ _ _
  refine wpAny_bind ?_
  unfold Builtin.List.listItems
  refine wpAny_bind (wpAny_seqItems hS rfl (wpAny_pure ?_))
  show wpAny _ _ (updateSeq q (fun _ => #[]) >>= fun _ => letGo (#[] : Array Value).toList.reverse >>= fun _ => Builtin.List.listExtendWith (.ref q) (.ref a) .none) _ _ _
  refine wpAny_bind (wpAny_updateSeq hS rfl ?_)
  have I2 := I1.lset (f := fun _ => #[]) (its := []) (its' := []) (ys := []) (t' := s.toks) upd_same hS rfl .nil (Nat.zero_le _)
  rw [upd_upd] at I2
  refine wpAny_bind (wpAny_letGo ?_)
  revert I2
  generalize ({ s with heap := _, toks := _ } : Shared) = s2
  intro I2
  have aq : a ≠ q := ne_of_none ha fr
  have lq : l ≠ q := ne_of_none hl fr
  have ha2 : upd H q (.lst []) a = some (.ins C dx fs) := by rw [upd_ne aq]; exact ha
  have hl2 : upd H q (.lst []) l = some (.lst zs) := by rw [upd_ne lq]; exact hl
  obtain ⟨mA, J, _⟩ := ins_get I2.hok ha2
  obtain ⟨od, J, _⟩ := J.look
  obtain ⟨m0, hF⟩ := I2.fr
  unfold Builtin.List.listExtendWith
  refine wpAny_bind (J.type.here ?_)
  have h1 : Builtin.List.listSameRef (.ref q) (.ref a) = false := by simp [Builtin.List.listSameRef, Ne.symm aq]
  have h2 : (Value.ref C == Value.type "list") = false := rfl
  have h3 : (Value.ref C == Value.type "tuple") = false := rfl
  simp only [h1, h2, h3, Bool.or_false, Bool.false_eq_true, if_false]
  refine wpAny_bind (PySem.W.owit_iter hF I2.ok.mod.kin J hI hIf ?_)
  have ev : ∀ (A : Around) (s' : Shared) (H' : Hp), A.frames = X.A.frames → Inv X pins σ H' s' → Env0 X.prog X.w X.K X.mg X.base A X.stack s' H' := fun A s' H' hfr I' => by
    have e := I'.env0
    exact ⟨by rw [hfr]; exact e.frames, e.mod, e.bs, e.bsz, e.funs, e.frf, e.hok, e.bare⟩
  refine wpAny_mono (wpAny_call (SlX.run_at (us := [.ref a]) (ws := [.ref a]) (Q := fun v H' => ∃ it, v = .ref it ∧ upd H q (.lst []) it = none ∧ H' = upd (upd H q (.lst [])) it (ItO l it 0)) FI r2 (ev _ _ _ rfl I2) xI I2 (.cons rfl .nil) ⟨a, l, zs, rfl, ⟨dx, fs, ha2, hf, hl2⟩, fun it hn => ⟨it, rfl, hn, rfl⟩⟩)) (fun w s' z => ?_) fun e s' he => he
  obtain ⟨z', H3, I3, rz, it, rfl, hn, rfl⟩ := z
  cases (show w = Value.ref it from rz)
  have itq : it ≠ q := fun e => by rw [e, upd_same] at hn; cases hn
  have lit : l ≠ it := ne_of_none hl2 hn
  have ait : a ≠ it := ne_of_none ha2 hn
  have hit : upd (upd H q (.lst [])) it (ItO l it 0) it = some (ItO l it 0) := upd_same
  have ha3 : upd (upd H q (.lst [])) it (ItO l it 0) a = some (.ins C dx fs) := by rw [upd_ne ait]; exact ha2
  have hl3 : upd (upd H q (.lst [])) it (ItO l it 0) l = some (.lst zs) := by rw [upd_ne lit]; exact hl2
  have hq3 : upd (upd H q (.lst [])) it (ItO l it 0) q = some (.lst []) := by rw [upd_ne (Ne.symm itq), upd_same]
  have sm : Same H (upd (upd H q (.lst [])) it (ItO l it 0)) := same_upd (Same.new fr) (by rw [upd_ne itq] at hn; exact hn) _
  have hitn : H it = none := by rw [upd_ne itq] at hn; exact hn
  have hT : s'.TypeIs (.ref it) "list_iterator" := (DSub.iter_of (itO_get I3 hit)).typeIs
  show wpAny _ _ (specialOf (.ref it) "__next__") _ _ s'
  refine wpAny_bind (m := typeOf (.ref it)) (wpAny_typeOf hT (wpAny_of_eq slot_listiter_next.lookup ?_))
  obtain ⟨mA', J', _⟩ := ins_get I3.hok ha3
  obtain ⟨od', J', _⟩ := J'.look
  have goal : ∀ s4, Inv X pins σ (upd (upd H q (.lst [])) it (ItO l it 0)) s4 → codeAny (model X.prog X.w) X.A.in1 (.builtin "list.extend.loop" ⟨[.ref q, .ref it, .none], []⟩) (wants (fun r s₂ => r = .none ∧ EP X pins σ Q (.ref q) s₂) X.xe) s4 := fun s4 I4 => by
    refine ext_loop (Z := fun H' => Same H H') (zs := zs) (by exact hr.hd) hz63 (fun H' s' I' Z' hq' => ⟨rfl, .ref q, H', I', rfl, hq q H' fr Z' hq'⟩) (fun H' i h => same_upd h hitn _) (fun H' i h => same_upd h hitn _) (fun H' o h => same_upd h fr _) (Ne.symm itq) (Ne.symm lq) lit zs.length 0 _ s4 (by omega) I4 hit hl3 (by rw [List.take_zero]; exact hq3) sm
  refine wpAny_bind (wpAny_holding ?_)
  unfold Builtin.List.listLengthHint
  refine wpAny_bind (wpAny_bind (J'.type.here ((PySem.W.looks_findIn I3.kIn hL).here ?_)))
  refine PySem.W.KFB.if_not rfl ?_
  refine PySem.W.KFB.if_so rfl ?_
  refine wpAny_bind (wpAny_rule ?_)
  refine wpAny_bind (wpAny_attempt ?_)
  refine len_own (E := fun e s' => False) I3.kIn J' hL hLf (wpAny_call (codeAny_mono (FL X.A.in1.in1.in1 X.stack s' _ [.ref a] [.ref a] (fun v H' => v = .int zs.length ∧ H' = upd (upd H q (.lst [])) it (ItO l it 0)) (fun _ _ _ => False) r3 (ev _ _ _ rfl I3) (.cons rfl .nil) ⟨a, l, zs, rfl, ⟨dx, fs, ha3, hf, hl3⟩, rfl, rfl⟩) fun r s5 z => ?_)) |> fun h => wpAny_mono h (fun w s5 z => z) fun e s' he => he.elim
  cases r with
  | error e => exact z.elim
  | ok fl =>
  cases fl with
  | next => exact False.elim z
  | brk => exact False.elim z
  | cont => exact False.elim z
  | ret w =>
  obtain ⟨z', H5, I5, rz, rfl, rfl⟩ := I3.after z
  obtain ⟨t, rfl⟩ := (show ∃ t, w = Value.int zs.length t from rz)
  refine ⟨_, t, rfl, by omega, by omega, fun t' u => ?_⟩
  refine wpAny_bind (wpAny_pure ?_)
  refine PySem.W.KFB.if_not (by simp [Builtin.List.listTooLong]; omega) ?_
  have I5' := I5.tok t'
  refine wpAny_pure ?_
  refine wpAny_ite_split (fun _ => ?_) (fun _ => wpAny_pure ⟨plainId_quiet PySem.F.plain_extend_loop _, goal _ I5'⟩)
  obtain ⟨zz, its, k, r3', hl3', e3⟩ := I5'.lstM hq3
  cases r3'
  refine wpAny_bind (wpAny_rule ?_)
  refine wpAny_bind ?_
  show wpAny _ _ (updateSeq q (·.push .none) >>= fun _ => updateSeq q (·.pop)) _ _ _
  refine wpAny_bind (wpAny_updateSeq e3 rfl ?_)
  have I6 := I5'.lset (f := (·.push Value.none)) (its' := [Value.none]) (ys := [.non]) (t' := t') hq3 e3 (by simp) (.cons rfl .nil) (by rw [List.length_singleton, sizeLine_eq]; decide)
  obtain ⟨z4, its4, k4, r4, hl4, e4⟩ := I6.lstM upd_same
  obtain ⟨u4, rfl, ru4⟩ := r4.one
  refine wpAny_updateSeq e4 rfl ?_ (by show 1 ≤ sizeLine; rw [sizeLine_eq]; decide) (by show 0 ≤ sizeLine + 1; exact Nat.zero_le _)
  refine wpAny_pure ⟨plainId_quiet PySem.F.plain_extend_loop _, goal _ ?_⟩
  have I7 := I6.lset (f := (·.pop)) (its := [u4]) (its' := []) (ys := []) (t' := t') upd_same e4 (by rfl) .nil (Nat.zero_le _)
  rw [upd_upd] at I7
  have hH : upd (upd (upd H q (.lst [])) it (ItO l it 0)) q (.lst []) = upd (upd H q (.lst [])) it (ItO l it 0) := by
    funext b
    by_cases hb : b = q
    · rw [hb, upd_same, hq3]
    · rw [upd_ne hb]
  rw [hH] at I7
  exact I7
end
end WF
end

section
set_option Elab.async false
set_option linter.all false
set_option maxRecDepth 100000
set_option maxHeartbeats 4000000
/-! Whichfirm: own rules, 4: with, the body may raise; defs called while an exception is handled. -/
namespace WF
open PySem PySem.Spec PyProof.Rows L2

/-! ### a def whatever exception is handled -/
def FnU (P : Program) (w : World) (K : PySem.W.Frag) (mg : Str → Option Value) (base : Heap) (CX : CXT) (k : Nat) (f : Addr) (sp : Sp) : Prop :=
  ∀ (A : Around) (outer : List Env) (s : Shared) (H : Hp) (us : List Value) (vs : List V) (Q : VK) (E : XK), L2H.RoomH k A → Env0 P w K mg base A outer s H → Vals vs us → sp vs H Q E →
    codeAny (model P w) A (.call (.ref f) ⟨us, []⟩) (CR CX outer P w H s Q E) s
theorem FnU.r {P : Program} {w : World} {K : PySem.W.Frag} {mg : Str → Option Value} {base : Heap} {CX : CXT} {k : Nat} {f : Addr} {sp : Sp} (F : FnU P w K mg base CX k f sp) : FnR P w K mg base CX k f sp :=
  fun A outer s H us vs Q E hr => F A outer s H us vs Q E (L2H.roomH_of hr)
theorem FnU.mono {P : Program} {w : World} {K : PySem.W.Frag} {mg : Str → Option Value} {base : Heap} {CX : CXT} {j k : Nat} {f : Addr} {sp : Sp} (F : FnU P w K mg base CX j f sp) (h : j ≤ k) : FnU P w K mg base CX k f sp :=
  fun A outer s H us vs Q E hr => F A outer s H us vs Q E (hr.mono h)
/-- the context of its body -/
def cxU (CX : CXT) (P : Program) (w : World) (K : PySem.W.Frag) (mg : Str → Option Value) (base : Heap) (N : List Str) (qual : Str) (scope : Scope) (f : Addr) (cd : Value) (A : Around) (outer : List Env) (s : Shared) (H : Hp) (E : XK) : Cx :=
  { cxOf CX P w K mg base N qual scope f cd A outer s H E with calm := false }
theorem startU {CX : CXT} {P : Program} {w : World} {K : PySem.W.Frag} {mg : Str → Option Value} {base : Heap} {N ps : List Str} {qual : Str} {scope : Scope} {f : Addr} {cd : Value} {A : Around} {outer : List Env} {s s1 : Shared} {H : Hp} {E : XK} {us : List Value} {vs : List V}
    (S : FnScope N ps scope) (e0 : Env0 P w K mg base A outer s H) (hl : vs.length = ps.length) (r : Vals vs us)
    (x : InCallC s s.heap.objs.size (bindL (envOfC qual scope s.heap.objs.size f cd).kindOf (ps.zip us) fun _ => none) (cellsFrom (s.heap.objs.size + 1) scope.names []) (bindC (envOfC qual scope s.heap.objs.size f cd).kindOf (ps.zip us) fun _ => none) s1) :
    Inv (cxU CX P w K mg base N qual scope f cd A outer s H E) [] (L2.start N vs) H s1 := by
  have hpl : ps.length ≤ N.length := by have := congrArg List.length S.pre; rw [List.length_take] at this; omega
  obtain ⟨h1, tk, rfl, hk⟩ := x.done
  have noA : ∀ b : Addr, b ∉ (cxU CX P w K mg base N qual scope f cd A outer s H E).ex := fun b z => absurd (show b ∈ ([] : List Addr) from z) (by simp)
  refine ⟨⟨e0.mod, S.kind, rfl, rfl, Nat.le_refl _, fun y z c h1 h2 => ?_, fun y hy => ?_, fun y c _ h => ?_, (fun z => Bool.noConfusion (show false = true from z)), Around.frames_deeper e0.frames, .inr ⟨rfl, rfl⟩, fun b z => absurd z (noA b), e0.bs, e0.bsz, fun b _ _ => noA b, fun b z => absurd z (noA b), e0.funs, e0.frf⟩,
    rfl, e0.bare, Un.kept hk, ⟨_, x.toInCall.ns, fun i y v h1 h2 h3 => ?_⟩, fun y c h => ⟨_, x.cell y c h⟩, e0.hok.fresh (Nat.le_refl _), fun y c h => ?_, fun q hq => absurd (show q ∈ ([] : List (Addr × Obj)) from hq) (by simp), e0.hok.kept hk, ?_⟩
  · exact name_of_addr x.apart (PySem.mem_of_lookup h1) (PySem.mem_of_lookup h2)
  · have hy : scope.names.lookup y = some .cell ∨ scope.names.lookup y = some .free := hy
    rcases hy with hy | hy
    · exact cell_has hy
    · exact absurd rfl (S.nofree _ (PySem.mem_of_lookup hy))
  · exact Nat.le_of_lt (x.above y c (PySem.mem_of_lookup h))
  · have hi : i < vs.length := by
      unfold L2.start at h2
      by_cases hi : i < vs.length
      · exact hi
      · rw [List.getElem?_append_right (by simpa using hi)] at h2
        rw [List.getElem?_replicate] at h2
        split at h2 <;> cases h2
    have ha : vs[i]? = some v := by
      unfold L2.start at h2
      rw [List.getElem?_append_left (by simpa using hi), List.getElem?_map] at h2
      cases e : vs[i]? with
      | none => rw [e] at h2; cases h2
      | some a => rw [e] at h2; cases h2; rfl
    obtain ⟨u, hu, rv⟩ := r.get ha
    have hp : ps[i]? = some y := by
      rw [← S.pre, List.getElem?_take_of_lt (by omega)]; exact h1
    have ndP : ps.Nodup := by rw [← S.pre]; exact S.nd.sublist (List.take_sublist _ _)
    refine ⟨u, rv, ?_⟩
    rcases S.par y (List.mem_of_getElem? hp) with k | k
    · exact .inl ⟨k, bindL_get ndP hp hu k⟩
    · obtain ⟨c, e⟩ := cell_has (n := s.heap.objs.size + 1) k
      refine .inr ⟨.inl k, c, e, ?_⟩
      have q := x.cell y c e
      rw [bindC_get ndP hp hu (by show scope.names.lookup y ≠ _; rw [k]; decide)] at q
      exact q
  · exact e0.hok.fresh (Nat.le_of_lt (x.above y c (PySem.mem_of_lookup h)))
  · unfold L2.start
    show _ = N.length
    rw [List.length_append, List.length_map, List.length_replicate]
    omega
/-- the rule for such a def -/
theorem okU {CX : CXT} {P : Program} {w : World} {K : PySem.W.Frag} {mg : Str → Option Value} {base : Heap} {x qual : Str} {st : Stmt} {f : Addr} {fd : FuncData} {N ps : List Str} {k : Nat} {sp : Sp} (F : Fun K x qual st f fd) (hb : Binds K fd ps []) (S : FnScope N ps (defScope st)) (len : ∀ vs H Q E, sp vs H Q E → vs.length = ps.length)
    (hbody : ∀ (cdv : Value) (A : Around) (outer : List Env) (s : Shared) (H : Hp) (vs : List V) (Q : VK) (E : XK), L2H.RoomH k (A.deeper (envOfC qual (defScope st) s.heap.objs.size f cdv)) → sp vs H Q E →
      ∃ t, PSs (cxU CX P w K mg base N qual (defScope st) f cdv A outer s H E) (defBody st) t ∧ t { nx := fun _ H' => Q .non H', rt := Q } (L2.start N vs) H) : FnU P w K mg base CX (k + 1) f sp := by
  obtain ⟨oc, od, kV, doc, pm, an, cdv, ct, osl, rfl, lk, hcd⟩ := F.ex
  refine fun A outer s H us vs Q E hr e0 r hsp => ?_
  have hl := len _ _ _ _ hsp
  have KX : K.In s.heap := e0.mod.kin.keeps fun b o e => (e0.bs b o e).1
  have lim : s.heap.NoLimit := e0.mod.nolimit.keeps fun b o e => (e0.bs b o e).1
  have hkind : ∀ y ∈ ps.zip us, (defScope st).names.lookup y.1 = some .local ∨ ((defScope st).names.lookup y.1 = some .cell ∧ ((cellsFrom (s.heap.objs.size + 1) (defScope st).names []).lookup y.1).isSome = true) := fun ⟨n, v⟩ hy => by
    rcases S.par n (List.of_mem_zip hy).1 with q | q
    · exact .inl q
    · exact .inr ⟨q, PySem.W.cellsFrom_some _ _ _ (.inl q)⟩
  have hbs := hb s us KX (by rw [List.append_nil, ← r.length]; exact hl)
  rw [List.append_nil] at hbs
  refine codeAny_call_function hr.depth (KX _ _ lk) rfl S.co S.gen rfl (PySem.W.codeRec_of KX hcd) (hbs _ _ _ _ ?_)
  refine wpAny_newFunctionEnv_cells S.kind hkind fun env he s1 x => ?_
  subst he
  refine ⟨lim.keeps x.toInCall.keep, codeAny_func ?_⟩
  obtain ⟨t, ht, hq⟩ := hbody cdv A outer s H vs Q E (hr.deeper _) hsp
  have I : Inv (cxU CX P w K mg base N qual (defScope st) f cdv A outer s H E) [] (L2.start N vs) H s1 := startU S e0 hl r x
  refine wpAny_mono (ht.run [] s1 (L2.start N vs) H _ I hq) (fun fl s' hs => ?_) fun e s' hs => hs
  have fin : ∀ {σ' : L2.St} {H' : Hp} {v : V} {u : Value}, Inv (cxU CX P w K mg base N qual (defScope st) f cdv A outer s H E) [] σ' H' s' → RelV v u → Q v H' → CE outer P w H s Q u s' :=
    fun {σ' H' v u} J rv q => ⟨v, H', J.os, J.bare, J.base, J.hok, rv, q⟩
  cases fl with
  | ret u =>
    obtain ⟨v, σ', H', J, rv, q⟩ := hs
    exact fin J rv q
  | next =>
    obtain ⟨σ', H', J, q⟩ := hs
    exact fin (v := V.non) (u := Value.none) J rfl q
  | brk =>
    obtain ⟨_, _, _, q⟩ := hs
    exact False.elim q
  | cont =>
    obtain ⟨_, _, _, q⟩ := hs
    exact False.elim q
/-- the callee runs below the running body -/
theorem run_U {X : Cx} {CX : CXT} {pins : List (Addr × Obj)} {σ : L2.St} {H : Hp} {s : Shared} {g : Addr} {n : Nat} {sp : Sp} {E : XK} {A : Around} {Q : VK} {us : List Value} {ws : List V} (F : FnU X.prog X.w X.K X.mg X.base CX n g sp) (hr : L2H.RoomH n A) (e0 : Env0 X.prog X.w X.K X.mg X.base A X.stack s H) (hx : Passes CX X E) (I : Inv X pins σ H s) (r : Vals ws us) (h : sp ws H Q E) :
    codeAny (model X.prog X.w) A (.call (.ref g) ⟨us, []⟩) (fun r s' => match r with | .ok (.ret v) => EP X pins σ Q v s' | .ok _ => False | .error e => X.xe e s') s := by
  refine codeAny_mono (F A X.stack s H us ws Q E hr e0 r h) fun r s' hq => ?_
  cases r with
  | error e => exact hx pins σ H s e s' I hq
  | ok fl =>
    cases fl with
    | ret u => exact I.after hq
    | next => exact False.elim hq
    | brk => exact False.elim hq
    | cont => exact False.elim hq

/-! ### with -/
/-- behind a body's exception: the exit runs, the exception goes on or is swallowed -/
def withRest (env : Env) (fx x : Addr) (e : Value) : Sem Flow := do
  let r ← withItem.marked e (.call (.ref fx) ⟨[.ref x] ++ [← typeOf e, e, ← tracebackOf e], []⟩)
  let swallow ← match r with
    | .none => pure false
    | .bool b => pure b
    | _ => do pure ((← withItem.marked e (.call (.type "bool") ⟨[r], []⟩)) == .bool true)
  if swallow then rule "with.exit-swallows"; setFlight e none; pure .next else passOn "with" e env
section
variable {prog : Program} {w : World} {A : Around} {E : Value → Shared → Prop} {s : Shared} {env : Env} {K : PySem.W.Frag} {x C fe fx : Addr} {ox : Obj} {od : Option Obj} {pos : Pos}
open PySem.W in
theorem with_core {bdy : Sem Flow} {Q : Flow → Shared → Prop} (X : K.In s.heap) (I : PySem.W.InstAt s.heap x ox C od) (he : findIn K (.ref C) "__enter__" = some (some (.ref fe))) (hfe : isFn K (.ref fe) = true) (hx : findIn K (.ref C) "__exit__" = some (some (.ref fx))) (hfx : isFn K (.ref fx) = true)
    (h : wpAny (model prog w) A (call (.ref fe) [.ref x]) (fun v s₂ => wpAny (model prog w) A bdy (fun f s₄ => wpAny (model prog w) A (call (.ref fx) [.ref x, .none, .none, .none]) (fun _ s₅ => Q f s₅) E s₄)
      (fun e s₄ => wpAny (model prog w) A (noteFrame e env) (fun _ s₅ => wpAny (model prog w) A (setFlight e none) (fun _ s₆ => wpAny (model prog w) A (withRest env fx x e) Q E s₆) E s₅) E s₄) s₂) E s) :
    wpAny (model prog w) A (withItem false pos env (pure (.ref x)) none bdy) Q E s := by
  obtain ⟨cd, hcd, ae⟩ := kw_along he
  obtain ⟨cd', hcd', ax⟩ := kw_along hx
  cases hcd.symm.trans hcd'
  obtain ⟨hh, g, d, tt, os⟩ := s
  have L1 : Looks (model prog w) hh (specialOnItsLine (.ref x) "__enter__") (some (.ref fe), cd.mro) := kw_special X I hcd ae
  have L2 : Looks (model prog w) hh (specialOnItsLine (.ref x) "__exit__") (some (.ref fx), cd.mro) := kw_special X I hcd ax
  have L3 : Looks (model prog w) hh (bindSpecial (.ref fe) (.ref x)) (.ref fe, [.ref x]) := bind_fn X _ (beq_iff_eq.mp hfe)
  have L4 : Looks (model prog w) hh (bindSpecial (.ref fx) (.ref x)) (.ref fx, [.ref x]) := bind_fn X _ (beq_iff_eq.mp hfx)
  have L5 : Looks (model prog w) hh (aMethodOfAnotherBuiltinTypeStops (.ref fe) cd.mro) () := Looks.of_pure rfl
  have L6 : Looks (model prog w) hh (aMethodOfAnotherBuiltinTypeStops (.ref fx) cd.mro) () := Looks.of_pure rfl
  unfold withItem
  refine wpAny_bind (wpAny_pure ?_)
  refine wpAny_bind (wpAny_standAt ?_)
  simp only [Bool.false_eq_true, if_false]
  kw_lk
  refine wpAny_mono h (fun v s₂ h₂ => ?_) fun _ _ z => z
  kw_lk
  refine wpAny_attempt (kw_held ?_)
  show wpAny _ _ bdy _ _ _
  refine wpAny_mono h₂ (fun f s₄ h₄ => ?_) fun e s₄ h₄ => ?_
  · kw_lk
    refine wpAny_mono h₄ (fun _ s₅ h₅ => ?_) fun _ _ z => z
    kw_lk
    exact h₅
  · refine wpAny_bind (wpAny_mono h₄ (fun _ s₅ h₅ => ?_) fun _ _ z => z)
    refine wpAny_bind (wpAny_mono h₅ (fun _ s₆ h₆ => ?_) fun _ _ z => z)
    refine wpAny_bind (wpAny_standAt (wpAny_holding ?_))
    exact h₆
end

/-! ### the rule -/
/-- what is wished of an exception of the body: the exit runs, hands back None, then Wout -/
def wWith (spX : Sp) (a : Addr) (Wout : WX) : WX := fun cls d σ H => (∃ k, RelV k cls) ∧ ∀ k v t : V, spX [.ref a, k, v, t] H (fun r H' => r = .non ∧ Wout cls d σ H') E0
/-- .. of its other ends -/
def dWith (spX : Sp) (a : Addr) (D : Ends) : Ends where
  nx := fun σ H => spX [.ref a, .non, .non, .non] H (fun _ H' => D.nx σ H') E0
  rt := fun v H => spX [.ref a, .non, .non, .non] H (fun _ H' => D.rt v H') E0
  bk := fun σ H => spX [.ref a, .non, .non, .non] H (fun _ H' => D.bk σ H') E0
  ct := fun σ H => spX [.ref a, .non, .non, .non] H (fun _ H' => D.ct σ H') E0
def tWith (C : Addr) (te : TE) (spE spX : Sp) (tb : WX → TS) (Wout : WX) : TS := fun D σ H => te σ H fun x H1 => ∃ a dx fs, x = .ref a ∧ H1 a = some (.ins C dx fs) ∧ spE [.ref a] H1 (fun _ H2 => tb (wWith spX a Wout) (dWith spX a D) σ H2) E0
section
variable {X : Cx} {C fe fx : Addr} {ctx : Expr} {body : List Stmt} {pos : Pos} {te : TE} {spE spX : Sp} {tb : WX → TS} {Wout : WX} {n : Nat}
theorem ps_with (hs : X.stack = X.env :: X.outer) (hf : X.env.frame = some X.env.locals) (hex : X.ex = []) (tk : Takes X Wout) (hr : Room n X.A) (he : PE X ctx te)
    (hE : PySem.W.findIn X.K (.ref C) "__enter__" = some (some (.ref fe))) (hEf : PySem.W.isFn X.K (.ref fe) = true) (hX : PySem.W.findIn X.K (.ref C) "__exit__" = some (some (.ref fx))) (hXf : PySem.W.isFn X.K (.ref fx) = true)
    (FE : FnR X.prog X.w X.K X.mg X.base CX0 n fe spE) (FX : FnU X.prog X.w X.K X.mg X.base CX0 n fx spX)
    (hb : ∀ (W : WX) (pn : List (Addr × Obj)) (xe : Value → Shared → Prop), Takes (X.tr pn xe) W → PassesOwn (model X.prog X.w) X.A X.env xe → PSs (X.tr pn xe) body (tb W)) :
    PS X (.With [⟨ctx, none⟩] body pos) (tWith C te spE spX tb Wout) := by
  refine ⟨fun pins s σ H D I h => ?_⟩
  have ok := I.ok
  have hfr : X.A.frames = some (X.env :: X.outer) := by rw [ok.frames, hs]
  have rh : L2H.RoomH n X.A := L2H.roomH_of hr
  refine PySem.W.kw_exec0 (wpAny_mono (he.run pins s σ H _ I h) (fun u s1 z => ?_) fun _ _ z => z)
  obtain ⟨x, H1, I1, rx, a, dx, fs, rfl, ea, hen⟩ := z
  cases (show u = Value.ref a from rx)
  show wpAny (model X.prog X.w) X.A (withItem false ctx.pos X.env (pure (.ref a)) none (execs body X.env)) _ _ _
  obtain ⟨mA, J, _⟩ := ins_get I1.hok ea
  obtain ⟨od, J, _⟩ := J.look
  refine with_core I1.kIn J hE hEf hX hXf (wpAny_mono (wpAny_call (SlX.run_at (us := [.ref a]) (ws := [.ref a]) FE hr I1.env0 (pass0) I1 (.cons rfl .nil) hen)) (fun v s2 z => ?_) fun _ _ z => z)
  obtain ⟨vE, H2, I2, rE, hbody⟩ := z
  refine wpAny_mono ((hb (wWith spX a Wout) (X.pn ++ pins) (fun e s₄ => wpAny (model X.prog X.w) X.A (noteFrame e X.env) (fun _ s₅ => wpAny (model X.prog X.w) X.A (setFlight e none) (fun _ s₆ => wpAny (model X.prog X.w) X.A (withRest X.env fx a e) (SP X pins D) X.xe s₆) X.xe s₅) X.xe s₄)
    (fun u s' xx => ?_) PassesOwn.looking).run [] s2 σ H2 (dWith spX a D) (I2.toTry _) hbody) (fun f s3 hsp => ?_) fun e s3 z => z
  · obtain ⟨e, B, sI, pins', σ', H', cls, d, rfl, J', nb, up, sky, na, os, ag, hw⟩ := xx
    have J : Inv X pins σ' H' sI := J'.ofTry ok
    have sky' : Sky B (X.env :: X.outer) e (Zc cls d) X.env.locals s'.heap := by rw [← hs]; exact sky
    show wpAny (model X.prog X.w) X.A (noteFrame (.ref e) X.env) _ _ _
    refine Sky.land Zc.steady hfr hf sky' fun h3 fl3 up3 => ?_
    have J3 : Inv X pins σ' H' { s' with heap := h3 } := J.landed nb fl3.1 (up.trans up3) os ag
    obtain ⟨k1, k2, k3, oe, vs, T, oT, ts, he3, hz, hd, hv1, hnT, hTe, hT, hdT, ht3⟩ := id fl3
    have nT : H' T = none := (J.inGround nb).gone hnT
    have notFr : ∀ (b : Addr) (o : Obj) (fv : Array Value), h3.get? b = some o → o.data = .fields fv → b ∉ frs (X.env :: X.outer) := fun b o fv e dd hm => by
      obtain ⟨_, o', e', hnf⟩ := k3.mem hm
      have eo : o = o' := Option.some.inj (e.symm.trans e')
      rw [← eo] at hnf
      exact hnf _ dd
    have locF : X.env.locals ∈ frs (X.env :: X.outer) := List.mem_filterMap.mpr ⟨X.env, List.mem_cons_self, hf⟩
    have fsF : ∀ b, b ∈ X.fs → b ∈ frs (X.env :: X.outer) := fun b hm => by
      obtain ⟨e, he, q⟩ := List.mem_filterMap.mp hm
      exact List.mem_filterMap.mpr ⟨e, List.mem_cons_of_mem _ he, q⟩
    have fa := notFr e oe vs he3 hd
    have fT := notFr T oT ts hT hdT
    have S3 : Inv (X.suite e ((e, oe) :: (T, oT) :: (X.pn ++ pins))) [] σ' H' { s' with heap := h3 } :=
      ⟨J3.ok.suite _ _, J3.os, J3.bare, J3.base, J3.loc, J3.cell, J3.free, J3.freeC, fun p hp => by
        rw [List.append_nil] at hp
        rcases List.mem_cons.mp hp with z | hp
        · rw [z]
          exact ⟨he3, na, fun z2 => fa (by rw [show e = X.env.locals from z2]; exact locF), fun z2 => fa (fsF _ z2), fun v z2 => by
            have z3 : oe.data = .cell v := z2
            rw [hd] at z3
            cases z3⟩
        · rcases List.mem_cons.mp hp with z | hp
          · rw [z]
            exact ⟨hT, nT, fun z2 => fT (by rw [show T = X.env.locals from z2]; exact locF), fun z2 => fT (fsF _ z2), fun v z2 => by
              have z3 : oT.data = .cell v := z2
              rw [hdT] at z3
              cases z3⟩
          · exact J3.pin p hp, J3.hok, J3.len⟩
    obtain ⟨⟨kv, rk⟩, hw⟩ := hw
    have h3i : 3 < ts.size := (Array.getElem?_eq_some_iff.mp ht3).1
    have ht1 : ts[1]? = some (ts[1]'(by omega)) := Array.getElem?_eq_getElem (by omega)
    -- behind the exit
    have fin : ∀ (u : Value) (s6 : Shared), EP (X.suite e ((e, oe) :: (T, oT) :: (X.pn ++ pins))) [] σ' (fun r H' => r = .non ∧ Wout cls d σ' H') u s6 →
        wpAny (model X.prog X.w) X.A (do
          let swallow ← match u with
            | .none => pure false
            | .bool b => pure b
            | _ => do pure ((← withItem.marked (.ref e) (.call (.type "bool") ⟨[u], []⟩)) == .bool true)
          if swallow then rule "with.exit-swallows"; setFlight (.ref e) none; pure .next else PySem.passOn "with" (.ref e) X.env) (SP X pins D) X.xe s6 := by
      intro u s6 z
      obtain ⟨v, H6, S6, rv, rfl, hwo⟩ := z
      cases (show u = Value.none from rv)
      have J6 : Inv X pins σ' H6 s6 := ⟨ok, S6.os, S6.bare, S6.base, S6.loc, S6.cell, S6.free, S6.freeC, fun p hp => S6.pin p (List.mem_append_left _ (List.mem_cons_of_mem _ (List.mem_cons_of_mem _ hp))), S6.hok, S6.len⟩
      have pa := S6.pin (e, oe) (List.mem_append_left _ List.mem_cons_self)
      have pT := S6.pin (T, oT) (List.mem_append_left _ (List.mem_cons_of_mem _ List.mem_cons_self))
      have ga : s6.heap.get? e = some oe := pa.1
      have gT : s6.heap.get? T = some oT := pT.1
      have na6 : H6 e = none := pa.2.1
      have nT6 : H6 T = none := pT.2.1
      have far : ∀ b o, sI.heap.get? b = some o → b ≠ e ∧ b ≠ T := fun b o eb => by
        by_cases hb : b ∈ frs X.stack
        · rw [hs] at hb
          exact ⟨fun z => fa (by rw [← z]; exact hb), fun z => fT (by rw [← z]; exact hb)⟩
        · have q := nb b o eb hb
          exact ⟨fun z => by
            rw [z, k2] at q
            exact (nomatch q), fun z => by
            rw [z, hnT] at q
            cases q⟩
      have far0 : ∀ b o, X.s_0.heap.get? b = some o → b ≠ e ∧ b ≠ T := fun b o eb => by
        obtain ⟨o', q⟩ := J.base.there b o eb (by rw [hex]; simp)
        exact far b o' q
      have farP : ∀ p ∈ X.pn ++ pins, p.1 ≠ e ∧ p.1 ≠ T := fun p hp => far p.1 p.2 (J.pin p hp).1
      obtain ⟨G, g1, g2⟩ := restrict s6.heap fun b => !(decide (b = e) || decide (b = T))
      have gIn : ∀ b o, G.get? b = some o → s6.heap.get? b = some o ∧ b ≠ e ∧ b ≠ T := fun b o eb => by
        cases q : (!(decide (b = e) || decide (b = T))) with
        | false =>
          rw [g2 b q] at eb
          cases eb
        | true =>
          rw [g1 b q] at eb
          simp only [Bool.not_eq_true', Bool.or_eq_false_iff, decide_eq_false_iff_not] at q
          exact ⟨eb, q.1, q.2⟩
      have gOf : ∀ b o, b ≠ e → b ≠ T → s6.heap.get? b = some o → G.get? b = some o := fun b o h1 h2 eb => by
        rw [g1 b (by simp [h1, h2])]
        exact eb
      have I6 : Inv X pins σ' H6 { s6 with heap := G } := J6.less (fun b o eb => (gIn b o eb).1) gOf ⟨oe, vs, ga, hd⟩ ⟨oT, ts, gT, hdT⟩ na6 nT6 far0 farP
      have B6in : ∀ b o, (PySem.W.hideAll G (frs X.stack)).get? b = some o → s6.heap.get? b = some o := fun b o eb => (gIn b o (PySem.W.of_hideAll _ eb)).1
      have Bno : ∀ b, (b = e ∨ b = T) → (PySem.W.hideAll G (frs X.stack)).get? b = none := fun b hb => by
        cases q : (PySem.W.hideAll G (frs X.stack)).get? b with
        | none => rfl
        | some o =>
          obtain ⟨_, n1, n2⟩ := gIn b o (PySem.W.of_hideAll _ q)
          rcases hb with z | z
          · exact absurd z n1
          · exact absurd z n2
      have fl6 : HandSPX.FlyingZ (PySem.W.hideAll G (frs X.stack)) (X.env :: X.outer) e (Zc cls d) s6.heap := by
        refine ⟨B6in, Bno e (.inl rfl), ?_, oe, vs, T, oT, ts, ga, hz, hd, hv1, Bno T (.inr rfl), hTe, gT, hdT, ht3⟩
        have ff := funFrames_none (B := PySem.W.hideAll G (frs X.stack)) J6.stack fun b hb => PySem.W.hideAll_none _ hb
        rw [← hs]
        exact ff
      refine wpAny_bind (wpAny_pure ?_)
      refine PySem.W.KFB.if_not rfl ?_
      unfold PySem.passOn
      refine wpAny_bind (wpAny_field ga hd hv1 ?_)
      rw [if_neg (show ¬ ((Value.ref T == Value.none) = true) from by simp)]
      have goOn : wpAny (model X.prog X.w) X.A (setFlight (.ref e) X.env.frame) (fun _ s7 => wpAny (model X.prog X.w) X.A (throw (.ref e) : Sem Flow) (SP X pins D) X.xe s7) X.xe s6 := by
        rw [hf]
        refine HandSPX.setFlight_upZ fl6 fun h7 hh7 up7 => wpAny_throw (tk _ _ ?_)
        refine ⟨e, PySem.W.hideAll G (frs X.stack), { s6 with heap := G }, pins, σ', H6, cls, d, rfl, I6, fun b o eb hb => PySem.W.hideAll_get _ eb hb, ?_, .inr (.inr (by rw [← hs] at hh7; exact hh7)), na6, rfl, J6.bare, hwo⟩
        exact Heap.UpToSlots.trans (Heap.UpToSlots.of_keeps fun b o eb => (gIn b o eb).1) up7
      first
        | exact wpAny_bind (wpAny_pure (wpAny_bind goOn))
        | exact wpAny_bind goOn
    have run : ∀ (tb : Value) (vt : V), RelV vt tb → wpAny (model X.prog X.w) X.A (withItem.marked (.ref e) (.call (.ref fx) ⟨[.ref a] ++ [cls, .ref e, tb], []⟩)) (fun u s6 => EP (X.suite e ((e, oe) :: (T, oT) :: (X.pn ++ pins))) [] σ' (fun r H' => r = .non ∧ Wout cls d σ' H') u s6) X.xe { s' with heap := h3 } := fun tbv vt rt => by
      unfold withItem.marked
      refine wpAny_bind (wpAny_run (codeAny_mono (run_U (X := X.suite e ((e, oe) :: (T, oT) :: (X.pn ++ pins))) (A := X.A.mark (some (.ref e))) (us := [.ref a, cls, .ref e, tbv]) (ws := [.ref a, kv, .ref e, vt]) FX ⟨rh.dp, rh.un⟩ S3.env0 (pass0) S3 (.cons rfl (.cons rk (.cons rfl (.cons rt .nil)))) (hw kv (.ref e) vt)) fun r s6 z => ?_) (by intro q; cases q))
      cases r with
      | error x => exact z.elim
      | ok fl =>
        cases fl with
        | next => exact z.elim
        | brk => exact z.elim
        | cont => exact z.elim
        | ret u => exact wpAny_pure z
    unfold withRest
    refine wpAny_bind (wpAny_typeOf_ref he3 ?_)
    rw [hz.1]
    unfold tracebackOf
    refine wpAny_bind (wpAny_bind (wpAny_field he3 hd hv1 ?_))
    refine wpAny_bind (wpAny_field hT hdT ht1 ?_)
    by_cases hn : (ts[1]'(by omega) == Value.none) = true
    · rw [if_pos hn]
      refine wpAny_pure ?_
      exact wpAny_bind (wpAny_mono (run .none .non rfl) (fun u s6 z => fin u s6 z) fun _ _ z => z)
    · rw [if_neg hn]
      refine wpAny_bind (wpAny_pure ?_)
      refine wpAny_pure ?_
      exact wpAny_bind (wpAny_mono (run (.ref T) (.ref T) rfl) (fun u s6 z => fin u s6 z) fun _ _ z => z)
  · cases f with
    | next =>
      obtain ⟨σ', H', J', q⟩ := hsp
      have J3 := J'.ofTry ok
      refine wpAny_mono (wpAny_call (run_U (us := [.ref a, .none, .none, .none]) (ws := [.ref a, .non, .non, .non]) FX rh J3.env0 (pass0) J3 (.cons rfl (.cons rfl (.cons rfl (.cons rfl .nil)))) q)) (fun v s2 z => ?_) fun _ _ z => z
      obtain ⟨_, H4, I4, _, q4⟩ := z
      exact ⟨σ', H4, I4, q4⟩
    | brk =>
      obtain ⟨σ', H', J', q⟩ := hsp
      have J3 := J'.ofTry ok
      refine wpAny_mono (wpAny_call (run_U (us := [.ref a, .none, .none, .none]) (ws := [.ref a, .non, .non, .non]) FX rh J3.env0 (pass0) J3 (.cons rfl (.cons rfl (.cons rfl (.cons rfl .nil)))) q)) (fun v s2 z => ?_) fun _ _ z => z
      obtain ⟨_, H4, I4, _, q4⟩ := z
      exact ⟨σ', H4, I4, q4⟩
    | cont =>
      obtain ⟨σ', H', J', q⟩ := hsp
      have J3 := J'.ofTry ok
      refine wpAny_mono (wpAny_call (run_U (us := [.ref a, .none, .none, .none]) (ws := [.ref a, .non, .non, .non]) FX rh J3.env0 (pass0) J3 (.cons rfl (.cons rfl (.cons rfl (.cons rfl .nil)))) q)) (fun v s2 z => ?_) fun _ _ z => z
      obtain ⟨_, H4, I4, _, q4⟩ := z
      exact ⟨σ', H4, I4, q4⟩
    | ret u =>
      obtain ⟨v, σ', H', J', r, q⟩ := hsp
      have J3 := J'.ofTry ok
      refine wpAny_mono (wpAny_call (run_U (us := [.ref a, .none, .none, .none]) (ws := [.ref a, .non, .non, .non]) FX rh J3.env0 (pass0) J3 (.cons rfl (.cons rfl (.cons rfl (.cons rfl .nil)))) q)) (fun v9 s2 z => ?_) fun _ _ z => z
      obtain ⟨_, H4, I4, _, q4⟩ := z
      exact ⟨v, σ', H4, I4, r, q4⟩
end
end WF
end

section
set_option Elab.async false
set_option linter.all false
set_option maxRecDepth 100000
set_option maxHeartbeats 4000000
/-! Whichfirm: own rules, 5: an own exception class below an own class, whose __init__ says super().__init__(text); self.f = v. -/
namespace WF
open PySem PySem.Spec PyProof.Rows L2

/-- what is known of such an __init__ at f, of the class at C -/
structure SupI (prog : Program) (K : PySem.W.Frag) (mg : Str → Option Value) (C f : Addr) (fl x : Str) (fd : FuncData) : Prop where
  ex : ∃ (qual : Str) (params : Arguments) (scope : Scope) (dV kV doc pm ct oc ocl cl : Value) (an od odd cld : Option Addr) (osl sl2 csl : Array (Option Value)) (cc cda : Addr) (vs : Array Value) (file : Str) (tf : Tok) (p0 p1 p2 p3 p4 p5 p6 p7 p8 p9 : Pos) (j : Nat) (ar : Arg),
    fd = PySem.W.ksFn "__init__" qual params [.Expr (.Call (.Attribute (.Call (.Name "super" p0) [] [] p1) "__init__" p2) [.Constant (.str x) j p3] [] p4) p5, .Assign [.Attribute (.Name "self" p6) fl p7] (.Name fl p8) p9] scope dV kV doc pm an (.ref cda) ct cc ∧
    K.lookup f = some ⟨oc, od, .func fd, osl⟩ ∧ PySem.W.codeIn K (.ref cda) qual = true ∧ K.lookup cda = some ⟨ocl, odd, .fields vs, sl2⟩ ∧ vs[2]? = some (.str file tf) ∧ ((prog.main.file : Str) == file) = true ∧
    K.lookup cc = some ⟨cl, cld, .cell (some (.ref C)), csl⟩ ∧ (params.posonlyargs ++ params.args).head? = some ar ∧ ar.arg = "self" ∧ scope.kind = .function ∧ scope.isCoroutine = false ∧ scope.isGenerator = false ∧
    scope.names = [(("self" : Str), NameKind.local), (fl, NameKind.local), (("__class__" : Str), NameKind.free), (("super" : Str), NameKind.globalImplicit)] ∧
    (∀ env : Env, ∃ pl : Sem Bool, eval (.Call (.Attribute (.Call (.Name "super" p0) [] [] p1) "__init__" p2) [.Constant (.str x) j p3] [] p4) env = (do
      let ov ← attributeBase (.Call (.Name "super" p0) [] [] p1) "__init__" env (eval (.Call (.Name "super" p0) [] [] p1) env)
      standAt p2.atName
      let (f, first) ← holding [ov] (getMethod ov "__init__" pl)
      callWith p4 f first (backTo p4 (starEach [.Constant (.str x) j p3] env)) [])) ∧
    (∀ env : Env, swapsWith (.Call (.Attribute (.Call (.Name "super" p0) [] [] p1) "__init__" p2) [.Constant (.str x) j p3] [] p4) none p5.line env = pure false) ∧
    (∀ env : Env, swapsWith (.Name fl p8) (some (.Attribute (.Name "self" p6) fl p7)) p9.line env = pure false)
  top : (prog.main.scope.names.lookup ("super" : Str)).isSome = false
  mg : mg "super" = none
  boot : bootBuiltins "super" = some (.type "super")
  cs : PySem.W.nsIn K PySem.cStatics "thirdparty.any" = some none
  up : PySem.W.ks_superIn K C C "__init__" = some (some (.builtin "ValueError.__init__"))
  sub : PySem.W.subIn K (.ref C) (.type "ValueError") = some true
  mro : PySem.W.mroIn K C (.ref C) = some true
  cls : ∃ cdD, PySem.W.clsIn K C = some cdD

/-- what it promises -/
def spSup (C : Addr) (fl : Str) : Sp := fun vs H Q _ => ∃ a v, vs = [.ref a, v] ∧ H a = some (exo a C none) ∧ ∀ dx, H dx = none → dx ≠ a → Q .non (upd (upd H dx (exd dx [(fl, v)])) a (exo a C (some dx)))

theorem lk_mem {α : Type} : ∀ {l : List (Str × α)} {y : Str} {k : α}, l.lookup y = some k → (y, k) ∈ l
  | [], _, _, h => by cases h
  | (x, z) :: l, y, k, h => by
    rw [List.lookup] at h
    split at h
    · rename_i q
      cases h
      rw [beq_iff_eq.mp q]
      exact List.mem_cons_self ..
    · exact List.mem_cons_of_mem _ (lk_mem h)
section
variable {P : Program} {w : World} {K : PySem.W.Frag} {mg : Str → Option Value} {base : Heap}
/-- the context of its body -/
def cxS (P : Program) (w : World) (K : PySem.W.Frag) (mg : Str → Option Value) (base : Heap) (fl : Str) (qual : Str) (scope : Scope) (f : Addr) (cd : Value) (cc : Addr) (A : Around) (outer : List Env) (s : Shared) (H : Hp) (E : XK) : Cx :=
  { cxOf CX0 P w K mg base ["self", fl] qual scope f cd A outer s H E with env := PySem.W.ksEnv qual scope s.heap.objs.size f cd cc, A := A.deeper (PySem.W.ksEnv qual scope s.heap.objs.size f cd cc), stack := PySem.W.ksEnv qual scope s.heap.objs.size f cd cc :: outer, fn := fun _ => false, xe := fun _ _ => False }

theorem startS {fl qual : Str} {scope : Scope} {f : Addr} {cd : Value} {cc C : Addr} {A : Around} {outer : List Env} {s : Shared} {H : Hp} {E : XK} {a : Addr} {v : V} {u : Value} {h₁ : Heap} {tk : Nat}
    (hn : scope.names = [(("self" : Str), NameKind.local), (fl, NameKind.local), (("__class__" : Str), NameKind.free), (("super" : Str), NameKind.globalImplicit)]) (hk : scope.kind = .function) (hfl : (fl == ("self" : Str)) = false) (hfl2 : (fl == ("__class__" : Str)) = false) (hfl3 : (fl == ("super" : Str)) = false)
    (hd : A.handled = none) (e0 : Env0 P w K mg base A outer s H) (hcc : s.heap.IsCell cc (some (.ref C))) (hcb : ∃ o, base.get? cc = some o) (ru : RelV v u)
    (hns : h₁.Ns s.heap.objs.size (fun x => ([(("self" : Str), Value.ref a), (fl, u)].reverse).lookup x)) (hk1 : ∀ b o, s.heap.get? b = some o → h₁.get? b = some o) :
    Inv (cxS P w K mg base fl qual scope f cd cc A outer s H E) [] [some (.ref a), some v] H { s with heap := h₁, toks := tk } := by
  have kof : ∀ x : Str, (PySem.W.ksEnv qual scope s.heap.objs.size f cd cc).kindOf x = ([(("self" : Str), NameKind.local), (fl, NameKind.local), (("__class__" : Str), NameKind.free), (("super" : Str), NameKind.globalImplicit)] : List (Str × NameKind)).lookup x := fun x => by
    show scope.names.lookup x = _
    rw [hn]
  have one : ∀ {x : Str} {c : Addr}, (PySem.W.ksEnv qual scope s.heap.objs.size f cd cc).cells.lookup x = some c → x = "__class__" ∧ c = cc := fun {x c} h => by
    have h' : ([(("__class__" : Str), cc)] : List (Str × Addr)).lookup x = some c := h
    rw [List.lookup] at h'
    split at h'
    · rename_i q
      cases h'
      exact ⟨beq_iff_eq.mp q, rfl⟩
    · cases h'
  obtain ⟨ob, hob⟩ := hcb
  have ccU : H cc = none := (e0.bs _ _ hob).2
  have noA : ∀ b : Addr, b ∉ (cxS P w K mg base fl qual scope f cd cc A outer s H E).ex := fun b z => absurd (show b ∈ ([] : List Addr) from z) (by simp)
  refine ⟨⟨e0.mod, hk, rfl, rfl, Nat.le_refl _, fun y z c h1 h2 => (one h1).1.trans (one h2).1.symm, fun y hy => ?_, fun y c h _ => Bool.noConfusion (show false = true from h), fun _ => hd, Around.frames_deeper e0.frames, .inr ⟨rfl, rfl⟩, fun b z => absurd z (noA b), e0.bs, e0.bsz, fun b _ _ => noA b, fun b z => absurd z (noA b), e0.funs, e0.frf⟩,
    rfl, e0.bare, Un.kept hk1, ⟨_, hns, fun i y v' h1 h2 h3 => ?_⟩, fun y c h => ?_, e0.hok.fresh (Nat.le_refl _), fun y c h => ?_, fun q hq => absurd (show q ∈ ([] : List (Addr × Obj)) from hq) (by simp), e0.hok.kept hk1, rfl⟩
  · refine ⟨cc, ?_⟩
    have hy' : ([(("self" : Str), NameKind.local), (fl, NameKind.local), (("__class__" : Str), NameKind.free), (("super" : Str), NameKind.globalImplicit)] : List (Str × NameKind)).lookup y = some .cell ∨ ([(("self" : Str), NameKind.local), (fl, NameKind.local), (("__class__" : Str), NameKind.free), (("super" : Str), NameKind.globalImplicit)] : List (Str × NameKind)).lookup y = some .free := by
      rw [← kof]
      exact hy
    have yc : y = "__class__" := by
      rcases hy' with z | z
      · have m := lk_mem z
        simp at m
      · have m := lk_mem z
        simp at m
        exact m
    rw [yc]
    rfl
  · have sl : ∀ (y : Str), (PySem.W.ksEnv qual scope s.heap.objs.size f cd cc).kindOf y = ([(("self" : Str), NameKind.local), (fl, NameKind.local), (("__class__" : Str), NameKind.free), (("super" : Str), NameKind.globalImplicit)] : List (Str × NameKind)).lookup y := kof
    match i, h1, h2 with
    | 0, h1, h2 =>
      cases h1
      cases h2
      refine ⟨.ref a, rfl, .inl ⟨?_, ?_⟩⟩
      · show (PySem.W.ksEnv qual scope s.heap.objs.size f cd cc).kindOf "self" = _
        rw [kof]
        rfl
      · show ([(fl, u), (("self" : Str), Value.ref a)] : List (Str × Value)).lookup ("self" : Str) = _
        rw [List.lookup, show (("self" : Str) == fl) = false by rw [BEq.comm]; exact hfl]
        rfl
    | 1, h1, h2 =>
      cases h1
      cases h2
      refine ⟨u, ru, .inl ⟨?_, ?_⟩⟩
      · show (PySem.W.ksEnv qual scope s.heap.objs.size f cd cc).kindOf fl = _
        rw [kof, List.lookup, hfl, List.lookup, beq_self_eq_true]
      · show ([(fl, u), (("self" : Str), Value.ref a)] : List (Str × Value)).lookup fl = _
        rw [List.lookup, beq_self_eq_true]
    | i + 2, h1, h2 => cases h1
  · obtain ⟨rfl, rfl⟩ := one h
    obtain ⟨o, e1, e2⟩ := hcc
    exact ⟨_, o, hk1 _ _ e1, e2⟩
  · obtain ⟨rfl, rfl⟩ := one h
    exact ccU

theorem call_vei {prog : Program} {A : Around} {EE : Value → Shared → Prop} {s : Shared} {u a C t1 N : Addr} {nm qn : Str} {bs bm : List Value} {hd : Bool} {sn : List Str} {sub : List Value} {ab : Bool} {col : Option Bool} {dd : Option Addr} {k0 k1 k2 k3 k5 : Option Value} {rest : List Value} {Q : Value → Shared → Prop}
    (hC : s.heap.get? C = some (excClassObj nm qn C N bs bm hd sn sub ab col dd k0 k1 k2 k3 k5 "ValueError.__new__")) (he : s.heap.get? a = some { cls := .ref C, dict := none, data := .fields #[.ref t1, .none, .none, .none, .bool false, .none] }) (hu : s.heap.get? u = some (PySem.W.kxs_mw "ValueError.__init__" a)) (hz : rest.length ≤ sizeLine)
    (h : ∀ h' t2, (∀ b o, b ≠ a → s.heap.get? b = some o → h'.get? b = some o) → h'.get? a = some { cls := .ref C, dict := none, data := .fields #[.ref t2, .none, .none, .none, .bool false, .none] } → Q .none { s with heap := h' }) :
    wpAny (model prog w) A (call (.ref u) rest) Q EE s := by
  obtain ⟨hh, g, d, tk, os⟩ := s
  refine wpAny_call (codeAny_of_tree ?_)
  show wpAny _ A.in1 (callAny (.ref u) ⟨rest, []⟩) _ _ _
  simp only [callAny]
  refine wpAny_bind (wpAny_load hu ?_)
  simp only [PySem.W.kxs_mw, show (Value.type "method-wrapper" == Value.type "method" || Value.type "method-wrapper" == Value.type "builtin_function_or_method" || Value.type "method-wrapper" == Value.type "method-wrapper") = true by decide, if_true]
  refine PySem.W.KFB.if_so (by decide) ?_
  refine wpAny_bind (PySem.W.check_bound_init PySem.F.excBase_ValueError.toExcCallFacts hC he rfl ?_)
  refine wpAny_bind (wpAny_pure (wpAny_pure ?_))
  refine ⟨plainId_quiet PySem.F.excBase_ValueError.init.plain _, codeAny_builtin PySem.F.excBase_ValueError.initEntry ?_⟩
  exact PySem.W.exc_init_tree (cls := .ref C) (t0 := t1) (dv := none) (c2 := .none) (c3 := .none) (b4 := .bool false) he hz fun h' k e' _ => h h' _ k e'
theorem sup_ok {fl x : Str} {C f : Addr} {fd : FuncData} {k : Nat} (F : SupI P K mg C f fl x fd) (T : OexC K C) (hno : PySem.W.findIn K (.ref C) fl = some none)
    (hfl : (fl == ("self" : Str)) = false) (hfl2 : (fl == ("__class__" : Str)) = false) (hfl3 : (fl == ("super" : Str)) = false) (hfd : (fl == ("__debug__" : Str)) = false) (hfd2 : (fl == ("__classdict__" : Str)) = false) : FnOk P w K mg base CX0 (k + 1) f fd ["self", fl] (spSup C fl) := by
  obtain ⟨qual, params, scope, dV, kV, doc, pm, ct, oc, ocl, cl, an, od, odd, cld, osl, sl2, csl, cc, cda, vs0, file, tf, p0, p1, p2, p3, p4, p5, p6, p7, p8, p9, j, ar, rfl, lk, hcd, lcd, hvs, hfile, lcc, har, har2, hk, hco, hgen, hnm, hev, hsw1, hsw2⟩ := F.ex
  refine ⟨fun vs H Q E h => by obtain ⟨a, v, rfl, _⟩ := h; rfl, fun A outer s H args us vs Q E hr e0 hb r hsp => ?_⟩
  obtain ⟨a, v, rfl, ha, hq⟩ := hsp
  obtain ⟨ua, r'⟩ : ∃ ua, us = ua ∧ True := ⟨us, rfl, trivial⟩
  cases r with
  | @cons _ u0 _ ur ra rr =>
  cases rr with
  | @cons _ u _ ur2 rv rr2 =>
  cases rr2
  cases (show u0 = Value.ref a from ra)
  have KX : K.In s.heap := e0.mod.kin.keeps fun b o e => (e0.bs b o e).1
  have lim : s.heap.NoLimit := e0.mod.nolimit.keeps fun b o e => (e0.bs b o e).1
  refine PySem.ks_codeAny_call_defAt (binds := [(("self" : Str), Value.ref a), (fl, u)]) hr.depth (KX _ _ lk) rfl lim (PySem.W.codeRec_of KX hcd) rfl hb ?_ ?_ (fun h₁ hns hk1 => ?_) hco hgen hk
  · intro y hy
    have hy' : y ∈ scope.names := hy
    rw [hnm] at hy'
    simp at hy'
    rcases hy' with rfl | rfl | rfl | rfl <;> simp
  · intro y hy
    show scope.names.lookup y.1 = _
    rw [hnm]
    simp at hy
    rcases hy with rfl | rfl
    · rfl
    · rw [List.lookup, hfl, List.lookup, beq_self_eq_true]
  have ccell : s.heap.IsCell cc (some (.ref C)) := ⟨_, KX _ _ lcc, rfl⟩
  have I : Inv (cxS P w K mg base fl qual scope f (.ref cda) cc A outer s H E) [] [some (.ref a), some v] H { s with heap := h₁, toks := s.toks + [(("self" : Str), Value.ref a), (fl, u)].length } :=
    startS hnm hk hfl hfl2 hfl3 hr.hd e0 ccell ⟨_, e0.mod.kin _ _ lcc⟩ rv hns hk1
  revert I
  generalize ({ s with heap := h₁, toks := s.toks + [(("self" : Str), Value.ref a), (fl, u)].length } : Shared) = s1
  intro I
  have goal : _root_.PySem.wpAt (model P w) (A.deeper (PySem.W.ksEnv qual scope s.heap.objs.size f (.ref cda) cc)) (.func [.Expr (.Call (.Attribute (.Call (.Name "super" p0) [] [] p1) "__init__" p2) [.Constant (.str x) j p3] [] p4) p5, .Assign [.Attribute (.Name "self" p6) fl p7] (.Name fl p8) p9] (PySem.W.ksEnv qual scope s.heap.objs.size f (.ref cda) cc))
      (execs [.Expr (.Call (.Attribute (.Call (.Name "super" p0) [] [] p1) "__init__" p2) [.Constant (.str x) j p3] [] p4) p5, .Assign [.Attribute (.Name "self" p6) fl p7] (.Name fl p8) p9] (PySem.W.ksEnv qual scope s.heap.objs.size f (.ref cda) cc))
      (fun fl2 s' => fl2 = .next ∧ ∃ σ' H', Inv (cxS P w K mg base fl qual scope f (.ref cda) cc A outer s H E) [] σ' H' s' ∧ Q .non H') (fun _ _ => False) s1 := by
    have kof : ∀ y : Str, (PySem.W.ksEnv qual scope s.heap.objs.size f (.ref cda) cc).kindOf y = ([(("self" : Str), NameKind.local), (fl, NameKind.local), (("__class__" : Str), NameKind.free), (("super" : Str), NameKind.globalImplicit)] : List (Str × NameKind)).lookup y := fun y => by
      show scope.names.lookup y = _
      rw [hnm]
    have ksup : (PySem.W.ksEnv qual scope s.heap.objs.size f (.ref cda) cc).kindOf "super" = some .globalImplicit := by
      rw [kof, List.lookup, List.lookup, show (("super" : Str) == fl) = false by rw [BEq.comm]; exact hfl3]
      rfl
    have kcls : (PySem.W.ksEnv qual scope s.heap.objs.size f (.ref cda) cc).kindOf "__class__" = some .free := by
      rw [kof, List.lookup, List.lookup, show (("__class__" : Str) == fl) = false by rw [BEq.comm]; exact hfl2]
      rfl
    have kself : (PySem.W.ksEnv qual scope s.heap.objs.size f (.ref cda) cc).kindOf "self" = some .local := by
      rw [kof]
      rfl
    have kfl : (PySem.W.ksEnv qual scope s.heap.objs.size f (.ref cda) cc).kindOf fl = some .local := by
      rw [kof, List.lookup, hfl, List.lookup, beq_self_eq_true]
    obtain ⟨cdD, hcD⟩ := F.cls
    obtain ⟨t1, hoe⟩ := exo_at I.hok ha
    have KI : K.In s1.heap := I.kIn
    obtain ⟨oD, hD1, hD2⟩ : ∃ oD, s1.heap.get? C = some oD ∧ oD.data = .cls cdD := by
      unfold PySem.W.clsIn at hcD
      split at hcD
      · rename_i c d cd' sl ho
        cases hcD
        exact ⟨_, KI _ _ ho, rfl⟩
      · cases hcD
    have lns : ∃ m, s1.heap.Ns s.heap.objs.size m ∧ m "self" = some (.ref a) := by
      obtain ⟨m, hm, hl⟩ := I.loc
      obtain ⟨u', ru', hL⟩ := hl 0 "self" (.ref a) rfl rfl (.inl kself)
      refine ⟨m, hm, ?_⟩
      rcases hL with ⟨_, z⟩ | ⟨z | z, _⟩
      · cases (show u' = Value.ref a from ru')
        exact z
      · rw [show (cxS P w K mg base fl qual scope f (.ref cda) cc A outer s H E).env.kindOf "self" = some .local from kself] at z
        cases z
      · rw [show (cxS P w K mg base fl qual scope f (.ref cda) cc A outer s H E).env.kindOf "self" = some .local from kself] at z
        cases z
    obtain ⟨m, hm, hms⟩ := lns
    obtain ⟨mb, hmb1, hmb2⟩ := I.mod.blt
    obtain ⟨pl, hpl⟩ := hev (PySem.W.ksEnv qual scope s.heap.objs.size f (.ref cda) cc)
    refine PySem.ks_wpAt_execs_cons (PySem.ks_wpAt_Expr_any (PySem.ks_wpAt_MethodCall (pl := pl) ?_ hpl) (by unfold interactive; rw [show (PySem.W.ksEnv qual scope s.heap.objs.size f (.ref cda) cc).scope.kind = .function from hk]; rfl) (hsw1 _))
    refine PySem.ks_wpAt_super_base (ar := ar) ksup kcls rfl rfl (KI _ _ lk) rfl har rfl (KI _ _ lcd) rfl hvs hfile F.top ?_
    refine PySem.W.ks_loadName_global hk ksup (PySem.Calls.loadGlobal_builtin (I.mod.glob.keeps I.bk) F.mg (hmb1.keeps I.bk) ((hmb2 _ (by decide)).trans F.boot) ⟨rfl, ?_⟩)
    refine wpAny_loadName_free hk kcls rfl ⟨_, KI _ _ lcc, rfl⟩ ?_
    rw [har2]
    refine wpAny_loadName_local hk kself hm hms ?_
    refine PySem.ks_wpAny_isType_cls hD1 hD2 ⟨rfl, ?_⟩
    have hnc : ∀ c, ({ cls := .ref C, dict := none, data := .fields #[.ref t1, .none, .none, .none, .bool false, .none] } : Obj).data ≠ .cls c := fun c z => nomatch z
    obtain ⟨hh, g, d, tk, os⟩ := s1
    refine PySem.ks_wpAny_call_super hD1 hD2 hoe rfl hnc (PySem.W.looks_mroIn KI F.mro) fun h2 hso k2 => ?_
    -- the bound __init__
    have I2 : Inv (cxS P w K mg base fl qual scope f (.ref cda) cc A outer s H E) [] [some (.ref a), some v] H ⟨h2, g, d, tk, os⟩ := I.kept (t' := tk) k2
    have KI2 : K.In h2 := I2.kIn
    have hC2 : C ≠ a := fun e => by
      rw [e] at hD1
      rw [hoe] at hD1
      cases hD1
      cases hD2
    have hB : PySem.W.Looks (model P w) h2 (isInstance (.ref a) (.type "ValueError")) true := (show PySem.W.InstAt h2 a _ C none from ⟨k2 _ _ hoe, rfl, rfl, trivial⟩).type.andThen (PySem.W.looks_subIn I2.kIn F.sub)
    have hup := F.up
    unfold PySem.W.ks_superIn at hup
    rw [hcD, Option.bind_some] at hup
    refine PySem.W.kxs_getMethod (K := K) (D := C) PySem.W.kxs_ValueError hso (PySem.W.looks_opaque KI2 F.cs) (l₀ := cdD.mro) (l := (cdD.mro.dropWhile (· != .ref C)).drop 1) ?_ rfl KI2 hup hB (Ne.symm hC2) rfl ?_
    · exact fun A Q E s k q => wpAny_bind ((PySem.W.looks_clsIn I2.kIn hcD) A _ E s k (wpAny_pure q))
    -- its call
    have hq0 : h2.get? h2.objs.size = none := PyProof.Rows.new_of_ge (Nat.le_refl _)
    have k3 : ∀ b o, h2.get? b = some o → (h2.push (PySem.W.kxs_mw "ValueError.__init__" a)).get? b = some o := fun b o e => Heap.get?_push_of_some _ e
    have I3 : Inv (cxS P w K mg base fl qual scope f (.ref cda) cc A outer s H E) [] [some (.ref a), some v] H ⟨h2.push (PySem.W.kxs_mw "ValueError.__init__" a), g, d, tk + 1, os⟩ := I2.kept (t' := tk + 1) k3
    have hu3 : (h2.push (PySem.W.kxs_mw "ValueError.__init__" a)).get? h2.objs.size = some (PySem.W.kxs_mw "ValueError.__init__" a) := Heap.get?_push_size _ rfl
    show wpAny _ _ (callWith p4 (.ref h2.objs.size) [] (backTo p4 (starEach [.Constant (.str x) j p3] _)) []) _ _ _
    refine PySem.W.kxs_callWith (i := "ValueError.__init__") (x := a) rfl ?_
    refine Calls.evalArgs_plain ?_
    refine Calls.spliced_cons (Calls.Constant_str (pos := p3) (k := j) (Calls.spliced_nil ?_))
    refine ⟨hu3, ?_⟩
    obtain ⟨nm, qn, N, bs, bm, sn, sub, ab, col, dd, k0, k1, k2', k3', k5, hCK, hbm⟩ := T.cls
    have hCh : (h2.push (PySem.W.kxs_mw "ValueError.__init__" a)).get? C = some (excClassObj nm qn C N bs bm true sn sub ab col dd k0 k1 k2' k3' k5 "ValueError.__new__") := I3.kIn _ _ hCK
    have hoe3 : (h2.push (PySem.W.kxs_mw "ValueError.__init__" a)).get? a = some { cls := .ref C, dict := none, data := .fields #[.ref t1, .none, .none, .none, .bool false, .none] } := k3 _ _ (k2 _ _ hoe)
    refine call_vei hCh hoe3 hu3 (by show 1 ≤ sizeLine; rw [sizeLine_eq]; decide) fun h4 t4 k4 ho4 => ?_
    have I4 := I3.write (t' := tk + 1 + 1) (x := a) (e := a) (o := exo a C none) (by rw [ha]; exact True.intro) (.inl rfl) k4 ⟨_, ho4⟩ (exo_ok ho4)
    have eu : upd H a (exo a C none) = H := by
      funext b
      by_cases hb : b = a
      · rw [hb, upd_same, ha]
      · rw [upd_ne hb]
    rw [eu] at I4
    have vself : Vis (cxS P w K mg base fl qual scope f (.ref cda) cc A outer s H E).env.scope "self" := .inl kself
    have vfl : Vis (cxS P w K mg base fl qual scope f (.ref cda) cc A outer s H E).env.scope fl := .inl kfl
    have ps := pss_one (ps_ost (X := cxS P w K mg base fl qual scope f (.ref cda) cc A outer s H E) (p' := p7) (pos := p9) (f := fl) (pe_var (i := 0) (x := "self") (pos := p6) rfl vself) (pe_var (i := 1) (x := fl) (pos := p8) rfl vfl hfd hfd2) (hsw2 _))
    refine PySem.wpAt_of_wpAny (wpAny_mono (ps.run [] _ _ _ { nx := fun _ H' => Q .non H', rt := fun _ _ => False } I4 ?_) (fun f2 s' hsp => ?_) fun _ _ z => z)
    · refine ⟨v, rfl, .ref a, rfl, a, C, rfl, T, hno, .inl ⟨ha, fun dx hd1 hd2 => hq dx hd1 hd2⟩⟩
    · cases f2 with
      | next =>
        obtain ⟨σ', H', J, q⟩ := hsp
        exact ⟨rfl, σ', H', J, q⟩
      | brk =>
        obtain ⟨_, _, _, q⟩ := hsp
        exact False.elim q
      | cont =>
        obtain ⟨_, _, _, q⟩ := hsp
        exact False.elim q
      | ret u =>
        obtain ⟨_, _, _, _, _, q⟩ := hsp
        exact False.elim q
  refine PySem.ks_wpAt_mono goal (fun f2 s' z => ?_) fun _ _ z => z.elim
  obtain ⟨rfl, σ', H', J, q⟩ := z
  exact ⟨.non, H', J.os, J.bare, J.base, J.hok, rfl, q⟩
end

/-! ### C(e) as an exception to be raised -/
def tBad (C : Addr) (fl : Str) (te : TE) : L2.St → Hp → XK → Prop := fun σ H Q => te σ H fun v H1 => ∀ dx H3, H1 dx = none → Same H1 H3 → H3 dx = some (.xd [(fl, v)]) → Q (.ref C) (some dx) H3
section
variable {X : Cx} {C fI : Addr} {k : Nat} {fd : FuncData} {fl x y : Str} {p pos : Pos} {e : Expr} {te : TE}
theorem pmk_bad (F : SupI X.prog X.K X.mg C fI fl x fd) (T : OexC X.K C) (hno : PySem.W.findIn X.K (.ref C) fl = some none) (hfl : (fl == ("self" : Str)) = false) (hfl2 : (fl == ("__class__" : Str)) = false) (hfl3 : (fl == ("super" : Str)) = false) (hfd : (fl == ("__debug__" : Str)) = false) (hfd2 : (fl == ("__classdict__" : Str)) = false)
    (iC : PySem.W.findIn X.K (.ref C) "__init__" = some (some (.ref fI))) (tI : PySem.W.typeIn X.K (.ref fI) = some (.type "function")) (hb : Binds X.K fd ["self", fl] []) (hr : Room (k + 2) X.A) (hg : Gl X y) (hm : X.mg y = some (.ref C)) (he : PE X e te) (key : ∀ σ H Q1 Q2, (∀ v H, Q1 v H → Q2 v H) → te σ H Q1 → te σ H Q2)
    (hdb : (y == ("__debug__" : Str)) = false := by decide) (hst : starEach [e] X.env = (false, eval e X.env) :: starEach [] X.env := by rfl) (hpl : (backTo pos (starEach [] X.env)).any (·.1) = false := by rfl) :
    L2.PMk X (.Call (.Name y p) [e] [] pos) (tBad C fl te) := by
  intro pins s σ H Q I h
  refine pmk_oex (CX := CX0) (dvs := []) (ds := []) (k := k + 1) T iC tI (sup_ok F T hno hfl hfl2 hfl3 hfd hfd2) (hr.mono (by omega)) hb .nil (fun _ _ _ _ _ _ _ h => h.elim) hg hm (pa_cons he pa_nil hst) hdb hst hpl pins s σ H Q I ?_
  refine key _ _ _ _ (fun v H1 hq => ?_) h
  refine ⟨by simp, fun a ha => ⟨a, v, rfl, upd_same, fun dx hd1 hd2 => ⟨rfl, dx, [(fl, v)], upd_same, ?_, ?_, ?_⟩⟩⟩
  · rw [upd_ne hd2, upd_same]
  · rw [upd_ne hd2] at hd1
    exact hd1
  · have hd1' : H1 dx = none := by
      rw [upd_ne hd2] at hd1
      exact hd1
    refine hq dx _ hd1' (fun b o hb => ?_) upd_same
    have b1 : b ≠ a := ne_of_none hb ha
    have b2 : b ≠ dx := ne_of_none hb hd1'
    rw [upd_ne b2, del_ne b1, upd_ne b1, upd_ne b2, upd_ne b1]
    exact hb
end
end WF
end

section
set_option Elab.async false
set_option linter.all false
set_option maxRecDepth 100000
set_option maxHeartbeats 4000000
/-! Whichfirm: the text by places; what the top has written. Printed by gen_top.py. -/
namespace WF
open PySem PySem.Spec PyProof.Rows L2 SlX
def top (i : Nat) : Stmt := PySem.Challenge.pw_whichfirm_k35_whole_sessions.main.body.getD i (.Pass ⟨0, 0, 0, 0⟩)
abbrev s_is_integer : Stmt := top 14
abbrev s_is_entry : Stmt := top 15
abbrev s_is_edition : Stmt := top 16
abbrev s_commands_in : Stmt := top 17
abbrev s_check_shelf : Stmt := top 19
abbrev s_entry_at : Stmt := top 20
abbrev s_is_doubt : Stmt := top 22
abbrev s_is_pair : Stmt := top 23
abbrev s_check_doubt : Stmt := top 24
abbrev s_is_safe : Stmt := top 25
abbrev s_parts_after : Stmt := top 26
abbrev s_is_told : Stmt := top 27
abbrev s_is_command : Stmt := top 30
abbrev s_check_row : Stmt := top 31
abbrev s_L_cell_at : Stmt := top 36
abbrev s_L_draw : Stmt := top 37
abbrev s_L_number : Stmt := top 38
abbrev s_L_next : Stmt := top 39
abbrev s_L_pick : Stmt := top 40
abbrev s_L_entry : Stmt := top 41
abbrev s_L_line : Stmt := top 42
abbrev s_L_shelf : Stmt := top 43
abbrev s_L_pairs : Stmt := top 44
abbrev s_L_doubt : Stmt := top 45
abbrev s_L_at : Stmt := top 46
abbrev s_L_width : Stmt := top 47
abbrev s_L_safe : Stmt := top 48
abbrev s_L_parts : Stmt := top 49
abbrev s_L_told : Stmt := top 50
abbrev s_L_step : Stmt := top 51
abbrev s_L_give : Stmt := top 52
abbrev s_L_empty : Stmt := top 53
abbrev s_L_is_at : Stmt := top 54
abbrev s_L_tried_right : Stmt := top 55
abbrev s_L_session_right : Stmt := top 56
abbrev s_law : Stmt := top 57
abbrev s_sh_init : Stmt := inClass (top 18) 1
abbrev s_sh_len : Stmt := inClass (top 18) 3
abbrev s_sh_eds : Stmt := inClass (top 18) 5
abbrev s_se_init : Stmt := inClass (top 33) 0
abbrev s_se_len : Stmt := inClass (top 33) 1
abbrev s_se_iter : Stmt := inClass (top 33) 2
abbrev s_se_doubt : Stmt := inClass (top 33) 3
abbrev s_se_journal : Stmt := inClass (top 33) 4
abbrev s_se_give : Stmt := inClass (top 33) 5
abbrev s_se_told : Stmt := inClass (top 33) 6
abbrev s_se_undo : Stmt := inClass (top 33) 7
abbrev s_se_branch : Stmt := inClass (top 33) 8
abbrev s_se_trial : Stmt := inClass (top 33) 9
abbrev s_se_tried : Stmt := inClass (top 33) 10
abbrev s_tr_init : Stmt := inClass (top 34) 0
abbrev s_tr_enter : Stmt := inClass (top 34) 1
abbrev s_tr_exit : Stmt := inClass (top 34) 2
/-- a def of the top -/
structure DefA (K : PySem.W.Frag) (mg : Str → Option Value) (x : Str) (st : Stmt) (ps : List Str) where
  f : Addr
  fd : FuncData
  F : Fun K x x st f fd
  g : mg x = some (.ref f)
  b : Binds K fd ps []
/-- a def in a class -/
structure MetA (K : PySem.W.Frag) (C : Addr) (x qual : Str) (st : Stmt) (ps : List Str) where
  f : Addr
  fd : FuncData
  F : Fun K x qual st f fd
  m : Meth K C x f
  b : Binds K fd ps []
/-- a property -/
structure ProA (K : PySem.W.Frag) (C : Addr) (x qual : Str) (st : Stmt) (ps : List Str) where
  p : Addr
  f : Addr
  fd : FuncData
  F : Fun K x qual st f fd
  o : PropOf K C x p f
  b : Binds K fd ps []
/-- an own exception class without an __init__ -/
structure ExA (K : PySem.W.Frag) (mg : Str → Option Value) (x : Str) (C : Addr) : Prop where
  g : mg x = some (.ref C)
  q : PySem.W.excIn K C [.type "ValueError", .type "Exception", .type "BaseException", .type "object"] "ValueError.__new__" = true
  k : PySem.W.keepIn K (.ref C) = true
  b : PySem.W.subIn K (.ref C) (.type "BaseException") = some true
  t : PySem.W.typeIn K (.ref C) = some (.type "type")
  e : PySem.W.exmOne K (.ref C) (.ref C) = some true
theorem exm_self {K : PySem.W.Frag} {S : Addr} (h1 : PySem.W.subIn K (.ref S) (.type "BaseException") = some true) (h2 : PySem.W.isClsIn K S = true) (h3 : PySem.W.typeIn K (.ref S) = some (.type "type")) (h4 : PySem.W.subIn K (.ref S) (.ref S) = some true) :
    PySem.W.exmOne K (.ref S) (.ref S) = some true := by
  have e1 : (PySem.W.subIn K (.ref S) (.type "BaseException") == some true) = true := by rw [h1] <;> rfl
  have e2 : ((PySem.W.clsIn K S).isSome && PySem.W.typeIn K (.ref S) == some (.type "type")) = true := by
    have h2' : (PySem.W.clsIn K S).isSome = true := h2
    rw [h2', h3] <;> rfl
  show (if (PySem.W.subIn K (.ref S) (.type "BaseException") == some true) = true then (if ((PySem.W.clsIn K S).isSome && PySem.W.typeIn K (.ref S) == some (.type "type")) = true then PySem.W.subIn K (.ref S) (.ref S) else none) else none) = some true
  rw [if_pos e1, if_pos e2]
  exact h4
/-- a constant of the top -/
def ConA (mg : Str → Option Value) (x : Str) (i : Int) : Prop := ∃ t, mg x = some (.int i t)
/-- all that the top has written -/
structure Top (P : Program) (K : PySem.W.Frag) (mg : Str → Option Value) where
  cSh : Addr
  cSe : Addr
  cTr : Addr
  cBC : Addr
  cND : Addr
  cBR : Addr
  iBR : Addr
  dBR : FuncData
  pRw : Addr
  pMn : Addr
  d_is_integer : DefA K mg "is_integer" s_is_integer ["value", "low", "high"]
  d_is_entry : DefA K mg "is_entry" s_is_entry ["value", "states"]
  d_is_edition : DefA K mg "is_edition" s_is_edition ["value", "commands"]
  d_commands_in : DefA K mg "commands_in" s_commands_in ["value"]
  d_check_shelf : DefA K mg "check_shelf" s_check_shelf ["shelf"]
  d_entry_at : DefA K mg "entry_at" s_entry_at ["shelf", "pair", "command"]
  d_is_doubt : DefA K mg "is_doubt" s_is_doubt ["shelf", "value"]
  d_is_pair : DefA K mg "is_pair" s_is_pair ["shelf", "value"]
  d_check_doubt : DefA K mg "check_doubt" s_check_doubt ["shelf", "doubt"]
  d_is_safe : DefA K mg "is_safe" s_is_safe ["shelf", "doubt", "command"]
  d_parts_after : DefA K mg "parts_after" s_parts_after ["shelf", "doubt", "command"]
  d_is_told : DefA K mg "is_told" s_is_told ["doubt"]
  d_is_command : DefA K mg "is_command" s_is_command ["shelf", "value"]
  d_check_row : DefA K mg "check_row" s_check_row ["shelf", "commands"]
  d_L_cell_at : DefA K mg "_law_cell_at" s_L_cell_at ["_law_script", "_law_k"]
  d_L_draw : DefA K mg "_law_draw" s_L_draw ["_law_cell", "_law_k", "_law_bound"]
  d_L_number : DefA K mg "_law_number" s_L_number ["_law_cell", "_law_k", "_law_bound"]
  d_L_next : DefA K mg "_law_next" s_L_next ["_law_draw_here", "_law_bound"]
  d_L_pick : DefA K mg "_law_pick" s_L_pick ["_law_draw_here", "_law_things"]
  d_L_entry : DefA K mg "_law_entry" s_L_entry ["_law_draw_here", "_law_many"]
  d_L_line : DefA K mg "_law_line" s_L_line ["_law_draw_here", "_law_width_here", "_law_many"]
  d_L_shelf : DefA K mg "_law_shelf" s_L_shelf ["_law_draw_here"]
  d_L_pairs : DefA K mg "_law_pairs" s_L_pairs ["_law_shelf_here"]
  d_L_doubt : DefA K mg "_law_doubt" s_L_doubt ["_law_draw_here", "_law_shelf_here"]
  d_L_at : DefA K mg "_law_at" s_L_at ["_law_shelf_here", "_law_pair", "_law_command"]
  d_L_width : DefA K mg "_law_width" s_L_width ["_law_shelf_here"]
  d_L_safe : DefA K mg "_law_safe" s_L_safe ["_law_shelf_here", "_law_doubt_here"]
  d_L_parts : DefA K mg "_law_parts" s_L_parts ["_law_shelf_here", "_law_doubt_here", "_law_command"]
  d_L_told : DefA K mg "_law_told" s_L_told ["_law_doubt_here"]
  d_L_step : DefA K mg "_law_step" s_L_step ["_law_shelf_here", "_law_doubt_here", "_law_pair", "_law_command"]
  d_L_give : DefA K mg "_law_give" s_L_give ["_law_session", "_law_command"]
  d_L_empty : DefA K mg "_law_empty" s_L_empty ["_law_session"]
  d_L_is_at : DefA K mg "_law_is_at" s_L_is_at ["_law_session", "_law_doubt_here", "_law_notes"]
  d_L_tried_right : DefA K mg "_law_tried_right" s_L_tried_right ["_law_draw_here", "_law_shelf_here", "_law_session", "_law_pair"]
  d_L_session_right : DefA K mg "_law_session_right" s_L_session_right ["_law_draw_here", "_law_shelf_here", "_law_doubt_here"]
  d_law : DefA K mg "law" s_law ["_law_script"]
  sh_init : MetA K cSh "__init__" "Shelf.__init__" s_sh_init ["self", "editions"]
  sh_len : MetA K cSh "__len__" "Shelf.__len__" s_sh_len ["self"]
  sh_eds : ProA K cSh "editions" "Shelf.editions" s_sh_eds ["self"]
  se_init : MetA K cSe "__init__" "Session.__init__" s_se_init ["self", "shelf", "doubt", "pair"]
  se_len : MetA K cSe "__len__" "Session.__len__" s_se_len ["self"]
  se_iter : MetA K cSe "__iter__" "Session.__iter__" s_se_iter ["self"]
  se_doubt : ProA K cSe "doubt" "Session.doubt" s_se_doubt ["self"]
  se_journal : ProA K cSe "journal" "Session.journal" s_se_journal ["self"]
  se_give : MetA K cSe "give" "Session.give" s_se_give ["self", "command"]
  se_told : MetA K cSe "told" "Session.told" s_se_told ["self"]
  se_undo : MetA K cSe "undo" "Session.undo" s_se_undo ["self"]
  se_branch : MetA K cSe "branch" "Session.branch" s_se_branch ["self"]
  se_trial : MetA K cSe "trial" "Session.trial" s_se_trial ["self"]
  se_tried : MetA K cSe "tried" "Session.tried" s_se_tried ["self", "commands"]
  tr_init : MetA K cTr "__init__" "Trial.__init__" s_tr_init ["self", "session"]
  tr_enter : MetA K cTr "__enter__" "Trial.__enter__" s_tr_enter ["self"]
  tr_exit : MetA K cTr "__exit__" "Trial.__exit__" s_tr_exit ["self", "kind", "value", "trace"]
  MAX_EDITIONS : ConA mg "MAX_EDITIONS" 4
  MAX_STATES : ConA mg "MAX_STATES" 3
  MAX_PAIRS : ConA mg "MAX_PAIRS" 8
  MAX_COMMANDS : ConA mg "MAX_COMMANDS" 3
  MAX_REPLY : ConA mg "MAX_REPLY" 2
  MAX_ROW : ConA mg "MAX_ROW" 8
  b_isinstance : mg "isinstance" = none
  b_len : mg "len" = none
  b_int : mg "int" = none
  b_bool : mg "bool" = none
  b_tuple : mg "tuple" = none
  b_list : mg "list" = none
  b_min : mg "min" = none
  b_max : mg "max" = none
  b_range : mg "range" = none
  b_all : mg "all" = none
  b_dict : mg "dict" = none
  b_sorted : mg "sorted" = none
  b_enumerate : mg "enumerate" = none
  b_iter : mg "iter" = none
  b_zip : mg "zip" = none
  e_BadCommand : ExA K mg "BadCommand" cBC
  e_NothingDone : ExA K mg "NothingDone" cND
  g_sh : mg "Shelf" = some (.ref cSh)
  g_se : mg "Session" = some (.ref cSe)
  g_tr : mg "Trial" = some (.ref cTr)
  g_br : mg "BadRow" = some (.ref cBR)
  shC : SCls K cSh
  shI : SlX.SIsi K cSh
  shM : Mk K cSh sh_init.f
  shR : Slot1 K cSh "rows" pRw 1
  shN : Slot1 K cSh "many" pMn 0
  shK : PySem.W.kitOne K (.ref cSh) (.ref cSh) = some true
  seC : Cls K cSe
  seM : Mk K cSe se_init.f
  seA : ∀ f ∈ ([("base" : Str), "now", "notes", "past", "mark"] : List Str), NoAttr K cSe f
  trC : Cls K cTr
  trM : Mk K cTr tr_init.f
  trA : ∀ f ∈ ([("session" : Str), "now", "notes", "past", "mark"] : List Str), NoAttr K cTr f
  brO : OexC K cBR
  brX : XfC K cBR
  brN : PySem.W.findIn K (.ref cBR) "index" = some none
  brI : PySem.W.findIn K (.ref cBR) "__init__" = some (some (.ref iBR))
  brT : PySem.W.typeIn K (.ref iBR) = some (.type "function")
  brS : SupI P K mg cBR iBR "index" "not a row of commands" dBR
  brB : Binds K dBR ["self", "index"] []
  brE : PySem.W.exmOne K (.ref cBR) (.ref cBR) = some true
end WF
end

section
set_option Elab.async false
set_option linter.all false
set_option maxRecDepth 100000
set_option maxHeartbeats 4000000
/-! Whichfirm: objects in the heap; small readings. -/
namespace WF
open PySem PySem.Spec PyProof.Rows L2 SlX

/-! ### what may change -/
def isMu : HO → Bool
  | .lst _ => true
  | .dK _ => true
  | .dT _ => true
  | .ins _ _ _ => true
  | _ => false
/-- all but lists, dicts and instances stays -/
def Chg (H H' : Hp) : Prop := ∀ b o, H b = some o → isMu o = false → H' b = some o
theorem Chg.refl (H : Hp) : Chg H H := fun _ _ h _ => h
theorem Chg.trans {H H1 H2 : Hp} (a : Chg H H1) (b : Chg H1 H2) : Chg H H2 := fun c o h m => b c o (a c o h m) m
theorem Chg.same {H H' : Hp} (s : Same H H') : Chg H H' := fun b o h _ => s b o h
theorem Chg.tk {H H' : Hp} (s : Chg H H') : TK H H' := fun b xs h => s b _ h rfl
theorem Chg.new {H : Hp} {a : Addr} {o : HO} (h : H a = none) : Chg H (upd H a o) := .same (Same.new h)
theorem Chg.put {H : Hp} {a : Addr} {o u : HO} (h : H a = some u) (m : isMu u = true) : Chg H (upd H a o) := fun b v e n => by
  by_cases hb : b = a
  · rw [hb, h] at e
    cases e
    rw [m] at n
    cases n
  · rw [upd_ne hb]
    exact e
theorem But.chg {l : List Addr} {H H' : Hp} (s : But l H H') (h : ∀ b ∈ l, ∃ o, H b = some o ∧ isMu o = true) : Chg H H' := fun b o e m => s b o e fun z => by
  obtain ⟨o', e', m'⟩ := h b z
  rw [e] at e'
  cases e'
  rw [m] at m'
  cases m'
theorem Same.upd' {H H' : Hp} {a : Addr} (h : Same H H') (n : H a = none) (o : HO) : Same H (upd H' a o) := fun b u e => by rw [upd_ne (ne_of_none e n)]; exact h b u e

/-! ### the shelf -/
/-- at a a Shelf of the width w with the editions sh -/
def ShfAt (C : Addr) (H : Hp) (a : Addr) (w : Nat) (sh : Shf) : Prop := ShOk w sh ∧ ∃ dx r, H a = some (SlO a C dx [some (.int w), some r]) ∧ H dx = some (.xd []) ∧ ShAt H r sh
theorem ShfAt.keep {C : Addr} {H H' : Hp} {a : Addr} {w : Nat} {sh : Shf} (h : ShfAt C H a w sh) (c : Chg H H') : ShfAt C H' a w sh := by
  obtain ⟨S, dx, r, h1, h2, h3⟩ := h
  exact ⟨S, dx, r, c _ _ h1 rfl, c _ _ h2 rfl, mono_sh _ _ _ _ c.tk h3⟩
theorem ShfAt.slt {C : Addr} {H : Hp} {a : Addr} {w : Nat} {sh : Shf} (h : ShfAt C H a w sh) : ∃ dx r, Slt H a C dx [some (.int w), some r] ∧ ShAt H r sh := by
  obtain ⟨S, dx, r, h1, h2, h3⟩ := h
  exact ⟨dx, r, .inr ⟨h1, h2⟩, h3⟩

/-! ### the script's draws -/
/-- the script at s, another object than d -/
def ScAt (K : PySem.W.Frag) (H : Hp) (d s : Addr) (ns : List Int) : Prop := (∃ u : HO, H s = some u ∧ (u = .lst (ns.map V.int) ∨ ∃ o, u = .frz o (.lst (ns.map V.int))) ∧ d ≠ s) ∨ ∀ H', SqL K H' s (ns.map V.int)
theorem ScAt.seq {K : PySem.W.Frag} {H : Hp} {d s : Addr} {ns : List Int} (h : ScAt K H d s ns) : SqL K H s (ns.map V.int) := by
  rcases h with ⟨u, h1, h2 | ⟨o, h2⟩, _⟩ | h
  · subst h2
    exact .inl (.inl h1)
  · subst h2
    exact .inl (.inr ⟨o, h1⟩)
  · exact h H
theorem ScAt.of {K : PySem.W.Frag} {H : Hp} {d s : Addr} {ns : List Int} (h : SqL K H s (ns.map V.int)) (hd : H d = none) : ScAt K H d s ns := by
  rcases h with (h | ⟨o, h⟩) | h
  · exact .inl ⟨_, h, .inl rfl, fun z => by rw [z, h] at hd; cases hd⟩
  · exact .inl ⟨_, h, .inr ⟨o, rfl⟩, fun z => by rw [z, h] at hd; cases hd⟩
  · exact .inr fun _ => .inr h
def DrAt (K : PySem.W.Frag) (H : Hp) (d s : Addr) (ns : List Int) : Prop := ∃ b c : Int, H d = some (.lst [.ref s, .int b, .int c]) ∧ 0 ≤ b ∧ 0 ≤ c ∧ ScAt K H d s ns
theorem ScAt.keep {K : PySem.W.Frag} {H H' : Hp} {d s : Addr} {ns : List Int} (h : ScAt K H d s ns) {l : List Addr} (c : But l H H') (hs : ∀ u, H s = some u → d ≠ s → s ∉ l) : ScAt K H' d s ns := by
  rcases h with ⟨u, h1, h2, h3⟩ | h
  · exact .inl ⟨u, c _ _ h1 (hs u h1 h3), h2, h3⟩
  · exact .inr h
theorem DrAt.keep {K : PySem.W.Frag} {H H' : Hp} {d s : Addr} {ns : List Int} (h : DrAt K H d s ns) {l : List Addr} (c : But l H H') (hd : d ∉ l) (hs : ∀ u, H s = some u → s ∉ l) : DrAt K H' d s ns := by
  obtain ⟨b, c', h1, h2, h3, h4⟩ := h
  exact ⟨b, c', c _ _ h1 hd, h2, h3, h4.keep c fun u hu _ => hs u hu⟩
theorem DrAt.same {K : PySem.W.Frag} {H H' : Hp} {d s : Addr} {ns : List Int} (h : DrAt K H d s ns) (c : Same H H') : DrAt K H' d s ns := h.keep (But.of c : But [] H H') (by simp) (by simp)
theorem DrAt.mu {K : PySem.W.Frag} {H : Hp} {d s : Addr} {ns : List Int} (h : DrAt K H d s ns) : ∀ b ∈ [d], ∃ o, H b = some o ∧ isMu o = true := fun b hb => by
  obtain ⟨b', c', h1, _⟩ := h
  rw [List.mem_singleton.mp hb]
  exact ⟨_, h1, rfl⟩
/-- what a draw leaves -/
structure Dr (K : PySem.W.Frag) (H H' : Hp) (d s : Addr) (ns : List Int) : Prop where
  at_ : DrAt K H' d s ns
  but : But [d] H H'
theorem Dr.trans {K : PySem.W.Frag} {H H1 H2 : Hp} {d s : Addr} {ns : List Int} (a : Dr K H H1 d s ns) (b : Dr K H1 H2 d s ns) : Dr K H H2 d s ns := ⟨b.at_, a.but.trans b.but⟩
theorem Dr.refl {K : PySem.W.Frag} {H : Hp} {d s : Addr} {ns : List Int} (a : DrAt K H d s ns) : Dr K H H d s ns := ⟨a, But.refl _ _⟩

/-! ### comprehensions -/
theorem yes_do {σ : L2.St} {H : Hp} {Q : Bool → Hp → Prop} (h : Q true H) : tYes σ H Q := h
section
variable {K : PySem.W.Frag} {α : Type} {R : Rl α} {i : Nat} {te : TE} {σ : L2.St} {H1 : Hp} {D : Addr} {Qd : Hp → Prop} {Z : Hp → Prop} {ys : List α}
/-- over a tuple, every item kept -/
theorem lcm_tup {a : Addr} {xs : List V} (hm : Mono R) (hD : H1 D = none) (h0 : Z (upd H1 D (.lst []))) (hZ : ∀ H l l', Z H → H D = some (.lst l) → Z (upd H D (.lst l'))) (ha : ∀ H, Z H → SqT K H a xs) (hl : ys.length = xs.length) (hz : xs.length ≤ 1000)
    (hw : ∀ x, wipe ((wipe σ [i]).set i (some x)) [i] = wipe σ [i])
    (hs : ∀ (j : Nat) (x : V) (y : α) (H : Hp), xs[j]? = some x → ys[j]? = some y → Z H → ∀ Q : VK, (∀ v H', Z H' → TK H H' → H' D = H D → R H' v y → Q v H') → te ((wipe σ [i]).set i (some x)) H Q)
    (hd : ∀ H vs, Z H → H D = some (.lst vs) → Paired (R H) vs ys → Qd H) :
    ∃ W : Nat → Nat → Hp → Prop, (∃ m, W 0 m (upd H1 D (.lst []))) ∧ ∀ k m H, W k m H →
      ((Itt K a).stop k H ∧ Qd H) ∨ ((Itt K a).go k H ∧ ∃ Nx : Hp → Prop, (∀ H', Nx H' → ∃ m', m' < m ∧ W (k + 1) m' H') ∧ ∀ x H', (Itt K a).yld k H x H' → gName i x (wipe σ [i]) H' fun σ2 H2 => wipe σ2 [i] = wipe σ [i] ∧ tYes σ2 H2 fun b H3 =>
        if b = true then te σ2 H3 fun y H4 => ∃ acc, H4 D = some (.lst acc) ∧ acc.length < sizeLine ∧ Nx (upd H4 D (.lst (acc ++ [y]))) else Nx H3) := by
  refine lc_tup (K := K) (a := a) (xs := xs) (fun k H => Z H ∧ ∃ vs, H D = some (.lst vs) ∧ Paired (R H) vs (ys.take k)) ⟨h0, [], upd_same, by rw [List.take_zero]; exact .nil⟩ (fun k H _ h => ha H h.1) ?_ ?_
  · rintro k x H hx ⟨hZH, vs, hv, hp⟩
    have hk : k < ys.length := by rw [hl]; exact (List.getElem?_eq_some_iff.mp hx).1
    obtain ⟨y, hy⟩ : ∃ y, ys[k]? = some y := ⟨_, List.getElem?_eq_getElem hk⟩
    refine ⟨hw x, ?_⟩
    refine yes_do ?_
    rw [if_pos rfl]
    refine hs k x y H hx hy hZH _ fun v H' hZ' ht hD' hr => ⟨vs, hD'.trans hv, ?_, ?_, vs ++ [v], upd_same, ?_⟩
    · have := Paired.length hp
      rw [List.length_take] at this
      exact small1000 (by omega)
    · exact hZ _ vs _ hZ' (hD'.trans hv)
    · have e : ys.take (k + 1) = ys.take k ++ [y] := by rw [List.take_succ, hy]; rfl
      have t2 : TK H' (upd H' D (.lst (vs ++ [v]))) := TK.putL (hD'.trans hv)
      rw [e]
      exact papp (pmono hp fun _ _ q => hm _ _ _ _ (ht.trans t2) q) (.cons (hm _ _ _ _ t2 hr) .nil)
  · rintro H ⟨hZH, vs, hv, hp⟩
    rw [List.take_of_length_le (by omega)] at hp
    exact hd H vs hZH hv hp
/-- over a range -/
theorem lcm_rng {lo : Int} {n : Nat} (hm : Mono R) (hD : H1 D = none) (h0 : Z (upd H1 D (.lst []))) (hZ : ∀ H l l', Z H → H D = some (.lst l) → Z (upd H D (.lst l'))) (hl : ys.length = n) (hz : n ≤ 1000)
    (hw : ∀ x, wipe ((wipe σ [i]).set i (some x)) [i] = wipe σ [i])
    (hs : ∀ (j : Nat) y H, j < n → ys[j]? = some y → Z H → ∀ Q : VK, (∀ v H', Z H' → TK H H' → H' D = H D → R H' v y → Q v H') → te ((wipe σ [i]).set i (some (.int (lo + j)))) H Q)
    (hd : ∀ H vs, Z H → H D = some (.lst vs) → Paired (R H) vs ys → Qd H) :
    ∃ W : Nat → Nat → Hp → Prop, (∃ m, W 0 m (upd H1 D (.lst []))) ∧ ∀ k m H, W k m H →
      ((Itr lo n).stop k H ∧ Qd H) ∨ ((Itr lo n).go k H ∧ ∃ Nx : Hp → Prop, (∀ H', Nx H' → ∃ m', m' < m ∧ W (k + 1) m' H') ∧ ∀ x H', (Itr lo n).yld k H x H' → gName i x (wipe σ [i]) H' fun σ2 H2 => wipe σ2 [i] = wipe σ [i] ∧ tYes σ2 H2 fun b H3 =>
        if b = true then te σ2 H3 fun y H4 => ∃ acc, H4 D = some (.lst acc) ∧ acc.length < sizeLine ∧ Nx (upd H4 D (.lst (acc ++ [y]))) else Nx H3) := by
  refine lc_range (fun k H => Z H ∧ ∃ vs, H D = some (.lst vs) ∧ Paired (R H) vs (ys.take k)) ⟨h0, [], upd_same, by rw [List.take_zero]; exact .nil⟩ ?_ ?_
  · rintro k H hx ⟨hZH, vs, hv, hp⟩
    have hk : k < ys.length := by omega
    obtain ⟨y, hy⟩ : ∃ y, ys[k]? = some y := ⟨_, List.getElem?_eq_getElem hk⟩
    refine ⟨hw _, ?_⟩
    refine yes_do ?_
    rw [if_pos rfl]
    refine hs k y H hx hy hZH _ fun v H' hZ' ht hD' hr => ⟨vs, hD'.trans hv, ?_, ?_, vs ++ [v], upd_same, ?_⟩
    · have := Paired.length hp
      rw [List.length_take] at this
      exact small1000 (by omega)
    · exact hZ _ vs _ hZ' (hD'.trans hv)
    · have e : ys.take (k + 1) = ys.take k ++ [y] := by rw [List.take_succ, hy]; rfl
      have t2 : TK H' (upd H' D (.lst (vs ++ [v]))) := TK.putL (hD'.trans hv)
      rw [e]
      exact papp (pmono hp fun _ _ q => hm _ _ _ _ (ht.trans t2) q) (.cons (hm _ _ _ _ t2 hr) .nil)
  · rintro H ⟨hZH, vs, hv, hp⟩
    rw [List.take_of_length_le (by omega)] at hp
    exact hd H vs hZH hv hp
/-- over a list -/
theorem lcm_lst {a : Addr} {xs : List V} (hm : Mono R) (hD : H1 D = none) (h0 : Z (upd H1 D (.lst []))) (hZ : ∀ H l l', Z H → H D = some (.lst l) → Z (upd H D (.lst l'))) (ha : ∀ H, Z H → SqL K H a xs) (hl : ys.length = xs.length) (hz : xs.length ≤ 1000)
    (hw : ∀ x, wipe ((wipe σ [i]).set i (some x)) [i] = wipe σ [i])
    (hs : ∀ (j : Nat) (x : V) (y : α) (H : Hp), xs[j]? = some x → ys[j]? = some y → Z H → ∀ Q : VK, (∀ v H', Z H' → TK H H' → H' D = H D → R H' v y → Q v H') → te ((wipe σ [i]).set i (some x)) H Q)
    (hd : ∀ H vs, Z H → H D = some (.lst vs) → Paired (R H) vs ys → Qd H) :
    ∃ W : Nat → Nat → Hp → Prop, (∃ m, W 0 m (upd H1 D (.lst []))) ∧ ∀ k m H, W k m H →
      ((Itl K a).stop k H ∧ Qd H) ∨ ((Itl K a).go k H ∧ ∃ Nx : Hp → Prop, (∀ H', Nx H' → ∃ m', m' < m ∧ W (k + 1) m' H') ∧ ∀ x H', (Itl K a).yld k H x H' → gName i x (wipe σ [i]) H' fun σ2 H2 => wipe σ2 [i] = wipe σ [i] ∧ tYes σ2 H2 fun b H3 =>
        if b = true then te σ2 H3 fun y H4 => ∃ acc, H4 D = some (.lst acc) ∧ acc.length < sizeLine ∧ Nx (upd H4 D (.lst (acc ++ [y]))) else Nx H3) := by
  refine lc_list (K := K) (a := a) (xs := xs) (fun k H => Z H ∧ ∃ vs, H D = some (.lst vs) ∧ Paired (R H) vs (ys.take k)) ⟨h0, [], upd_same, by rw [List.take_zero]; exact .nil⟩ (fun k H _ h => ha H h.1) ?_ ?_
  · rintro k x H hx ⟨hZH, vs, hv, hp⟩
    have hk : k < ys.length := by rw [hl]; exact (List.getElem?_eq_some_iff.mp hx).1
    obtain ⟨y, hy⟩ : ∃ y, ys[k]? = some y := ⟨_, List.getElem?_eq_getElem hk⟩
    refine ⟨hw x, ?_⟩
    refine yes_do ?_
    rw [if_pos rfl]
    refine hs k x y H hx hy hZH _ fun v H' hZ' ht hD' hr => ⟨vs, hD'.trans hv, ?_, ?_, vs ++ [v], upd_same, ?_⟩
    · have := Paired.length hp
      rw [List.length_take] at this
      exact small1000 (by omega)
    · exact hZ _ vs _ hZ' (hD'.trans hv)
    · have e : ys.take (k + 1) = ys.take k ++ [y] := by rw [List.take_succ, hy]; rfl
      have t2 : TK H' (upd H' D (.lst (vs ++ [v]))) := TK.putL (hD'.trans hv)
      rw [e]
      exact papp (pmono hp fun _ _ q => hm _ _ _ _ (ht.trans t2) q) (.cons (hm _ _ _ _ t2 hr) .nil)
  · rintro H ⟨hZH, vs, hv, hp⟩
    rw [List.take_of_length_le (by omega)] at hp
    exact hd H vs hZH hv hp
end
/-- bools -/
def BlAt : Rl Bool := fun _ v b => v = .bl b
theorem mono_bl : Mono BlAt := fun _ _ _ _ _ h => h
theorem bl_map {H : Hp} : ∀ {vs : List V} {bs : List Bool}, Paired (BlAt H) vs bs → vs = bs.map V.bl
  | _, _, .nil => rfl
  | _, _, .cons r t => by rw [List.map_cons, ← bl_map t, show _ = _ from r]
/-- ints -/
def InAt : Rl Int := fun _ v i => v = .int i
theorem mono_in : Mono InAt := fun _ _ _ _ _ h => h
theorem in_map {H : Hp} : ∀ {vs : List V} {bs : List Int}, Paired (InAt H) vs bs → vs = bs.map V.int
  | _, _, .nil => rfl
  | _, _, .cons r t => by rw [List.map_cons, ← in_map t, show _ = _ from r]

/-! ### names of built-ins -/
theorem bo_isinstance : bootBuiltins "isinstance" = some (.builtin "isinstance") := by decide +kernel
theorem bo_len : bootBuiltins "len" = some (.builtin "len") := by decide +kernel
theorem bo_int : bootBuiltins "int" = some (.type "int") := by decide +kernel
theorem bo_bool : bootBuiltins "bool" = some (.type "bool") := by decide +kernel
theorem bo_tuple : bootBuiltins "tuple" = some (.type "tuple") := by decide +kernel
theorem bo_list : bootBuiltins "list" = some (.type "list") := by decide +kernel
theorem bo_dict : bootBuiltins "dict" = some (.type "dict") := by decide +kernel
theorem bo_min : bootBuiltins "min" = some (.builtin "min") := by decide +kernel
theorem bo_max : bootBuiltins "max" = some (.builtin "max") := by decide +kernel
theorem bo_all : bootBuiltins "all" = some (.builtin "all") := by decide +kernel
theorem bo_sorted : bootBuiltins "sorted" = some (.builtin "sorted") := by decide +kernel
theorem bo_iter : bootBuiltins "iter" = some (.builtin "iter") := by decide +kernel
/-- a def of the top called, no exception leaves it -/
theorem pcall {X : Cx} {x : Str} {st : Stmt} {ps : List Str} {k : Nat} {sp : Sp} {e : Expr} {es : List Expr} {t : TA} {p pos : Pos} (D : DefA X.K X.mg x st ps) (F : FnOk X.prog X.w X.K X.mg X.base CX0 k D.f D.fd ps sp) (hr : Room k X.A) (hg : Gl X x) (ha : PA X (e :: es) t) (hdb : (x == ("__debug__" : Str)) = false := by decide)
    (he : starEach (e :: es) X.env = (false, eval e X.env) :: starEach es X.env := by rfl) (hpl : (backTo pos (starEach es X.env)).any (·.1) = false := by rfl) : PE X (.Call (.Name x p) (e :: es) [] pos) (tCall sp [] E0 t) :=
  pe_call F hr hg D.g D.F.kp D.b .nil pass0 ha hdb he hpl
/-- .. whose exceptions are known not to come -/
theorem pcallL {X : Cx} {x : Str} {st : Stmt} {ps : List Str} {k : Nat} {sp : Sp} {e : Expr} {es : List Expr} {t : TA} {p pos : Pos} (D : DefA X.K X.mg x st ps) (F : FnOk X.prog X.w X.K X.mg X.base (L2.CX X.prog X.w) k D.f D.fd ps sp) (hr : Room k X.A) (hg : Gl X x) (ha : PA X (e :: es) t) (hdb : (x == ("__debug__" : Str)) = false := by decide)
    (he : starEach (e :: es) X.env = (false, eval e X.env) :: starEach es X.env := by rfl) (hpl : (backTo pos (starEach es X.env)).any (·.1) = false := by rfl) : PE X (.Call (.Name x p) (e :: es) [] pos) (tCall sp [] E0 t) :=
  pe_call F hr hg D.g D.F.kp D.b .nil passL ha hdb he hpl

/-! ### rules whose reading names K itself (within a comprehension) -/
def rLenK (K : PySem.W.Frag) : List V → Hp → VK → Prop := fun xs H Q => ∃ p ys, xs = [.ref p] ∧ (SqL K H p ys ∨ SqT K H p ys) ∧ Q (.int ys.length) H
theorem call_lenK {X : Cx} {K : PySem.W.Frag} (h : X.K = K) : CallR X (.builtin "len") (rLenK K) := by
  subst h
  exact call_len_seq
theorem ix_tupK {X : Cx} {K : PySem.W.Frag} (h : X.K = K) : IxR X (rIxT K) := by
  subst h
  exact ix_tup
theorem ix_listK {X : Cx} {K : PySem.W.Frag} (h : X.K = K) : IxR X (rIxL K) := by
  subst h
  exact ix_list
theorem pe_slK {X : Cx} {K : PySem.W.Frag} {e : Expr} {f : Str} {pos : Pos} {ta : TE} (h : X.K = K) (he : PE X e ta) (hb : attributeBase e f X.env (eval e X.env) = eval e X.env := by rfl) : PE X (.Attribute e f pos) (tSl K ta f) := by
  subst h
  exact pe_sl he hb
theorem pg_tupK {X : Cx} {K : PySem.W.Frag} {es : List Expr} {k : Nat} {t : TGs} {n : Nat} {pos : Pos} (e : X.K = K) (hc : X.calm = true) (h : PGs X es t)
    (hn : (assignEach es X.env).length = n := by rfl) (hst : (assignEach es X.env).findIdx? (·.1) = none := by rfl) : PG X (.Tuple es k pos) (gTup K n t) := by
  subst e
  exact pg_tup hc h hn hst
/-- a, b = a pair, both in slots -/
abbrev gPair (K : PySem.W.Frag) (i j : Nat) : TG := gTup K 2 (gCons (gName i) (gCons (gName j) gNil))
theorem g_pair {K : PySem.W.Frag} {i j : Nat} {T : Addr} {x y : V} {σ : L2.St} {H : Hp} {Q : L2.St → Hp → Prop} (h : H T = some (.tup [x, y])) (q : Q ((σ.set i (some x)).set j (some y)) H) : gPair K i j (.ref T) σ H Q :=
  ⟨T, _, rfl, SqT.of h, rfl, x, _, rfl, y, _, rfl, rfl, q⟩
/-! ### enumerate -/
section
variable {K : PySem.W.Frag} {a : Addr} {xs : List V} {g : TG} {tb : TS} {D : Ends} {σ : L2.St} {H : Hp}
theorem for_enumT (Pv : Nat → L2.St → Hp → Prop) (h0 : Pv 0 σ H) (hl : ∀ i σ H, i ≤ xs.length → Pv i σ H → SqT K H a xs)
    (hs : ∀ i x σ H T, xs[i]? = some x → Pv i σ H → H T = none → g (.ref T) σ (upd H T (.tup [.int (i : Nat), x])) fun σ2 H2 => tb { D with nx := Pv (i + 1), ct := Pv (i + 1), bk := D.nx } σ2 H2) (hd : ∀ σ H, Pv xs.length σ H → D.nx σ H) :
    ∃ W : Nat → Nat → L2.St → Hp → Prop, (∃ m, W 0 m σ H) ∧ ∀ i m σ H, W i m σ H →
      ((IteT K a).stop i H ∧ D.nx σ H) ∨ ((IteT K a).go i H ∧ ∃ N : L2.St → Hp → Prop, (∀ σ' H', N σ' H' → ∃ m', m' < m ∧ W (i + 1) m' σ' H') ∧ ∀ x H', (IteT K a).yld i H x H' → g x σ H' fun σ2 H2 => tb { D with nx := N, ct := N, bk := D.nx } σ2 H2) := by
  refine ⟨fun i m σ H => m = xs.length - i ∧ i ≤ xs.length ∧ Pv i σ H, ⟨xs.length, by simp, Nat.zero_le _, h0⟩, ?_⟩
  rintro i m σ H ⟨rfl, hi, p⟩
  have q := hl i σ H hi p
  by_cases hlt : i < xs.length
  · refine .inr ⟨⟨xs, xs[i], q, by simp [hlt]⟩, Pv (i + 1), fun σ' H' p' => ⟨xs.length - (i + 1), by omega, rfl, hlt, p'⟩, fun v H' y => ?_⟩
    obtain ⟨T, x, e, hT, e2, y⟩ := y
    subst e
    subst e2
    exact hs i x σ H T (y xs q) p hT
  · have e : i = xs.length := by omega
    subst e
    exact .inl ⟨⟨xs, q, Nat.le_refl _⟩, hd σ H p⟩
theorem for_enumL (Pv : Nat → L2.St → Hp → Prop) (h0 : Pv 0 σ H) (hl : ∀ i σ H, i ≤ xs.length → Pv i σ H → SqL K H a xs)
    (hs : ∀ i x σ H T, xs[i]? = some x → Pv i σ H → H T = none → g (.ref T) σ (upd H T (.tup [.int (i : Nat), x])) fun σ2 H2 => tb { D with nx := Pv (i + 1), ct := Pv (i + 1), bk := D.nx } σ2 H2) (hd : ∀ σ H, Pv xs.length σ H → D.nx σ H) :
    ∃ W : Nat → Nat → L2.St → Hp → Prop, (∃ m, W 0 m σ H) ∧ ∀ i m σ H, W i m σ H →
      ((Ite K a).stop i H ∧ D.nx σ H) ∨ ((Ite K a).go i H ∧ ∃ N : L2.St → Hp → Prop, (∀ σ' H', N σ' H' → ∃ m', m' < m ∧ W (i + 1) m' σ' H') ∧ ∀ x H', (Ite K a).yld i H x H' → g x σ H' fun σ2 H2 => tb { D with nx := N, ct := N, bk := D.nx } σ2 H2) := by
  refine ⟨fun i m σ H => m = xs.length - i ∧ i ≤ xs.length ∧ Pv i σ H, ⟨xs.length, by simp, Nat.zero_le _, h0⟩, ?_⟩
  rintro i m σ H ⟨rfl, hi, p⟩
  have q := hl i σ H hi p
  by_cases hlt : i < xs.length
  · refine .inr ⟨⟨xs, xs[i], q, by simp [hlt]⟩, Pv (i + 1), fun σ' H' p' => ⟨xs.length - (i + 1), by omega, rfl, hlt, p'⟩, fun v H' y => ?_⟩
    obtain ⟨T, x, e, hT, e2, y⟩ := y
    subst e
    subst e2
    exact hs i x σ H T (y xs q) p hT
  · have e : i = xs.length := by omega
    subst e
    exact .inl ⟨⟨xs, q, Nat.le_refl _⟩, hd σ H p⟩
end
end WF
end

section
set_option Elab.async false
set_option linter.all false
set_option maxRecDepth 100000
set_option maxHeartbeats 4000000
/-! Whichfirm: the program's defs, 1. -/
namespace WF
open PySem PySem.Spec PyProof.Rows L2 SlX
section
variable {P : Program} {w : World} {K : PySem.W.Frag} {mg : Str → Option Value} {base : Heap}

/-! ### is_integer -/
def spIsInt : Sp := fun vs H Q _ => ∃ i lo hi : Int, vs = [.int i, .int lo, .int hi] ∧ Q (.bl (decide (lo ≤ i ∧ i ≤ hi))) H
theorem scIsInt : FnScope ["value", "low", "high"] ["value", "low", "high"] (defScope s_is_integer) := ⟨rfl, rfl, rfl, by decide +kernel, rfl, by decide +kernel, by decide +kernel⟩
theorem ok_is_integer (T : Top P K mg) : FnOk P w K mg base CX0 3 T.d_is_integer.f T.d_is_integer.fd ["value", "low", "high"] spIsInt := by
  refine T.d_is_integer.F.ok scIsInt (fun vs H Q E h => ?_) (fun cdv A outer s H vs Q E hr h => ?_)
  · obtain ⟨i, lo, hi, rfl, _⟩ := h
    rfl
  · obtain ⟨i, lo, hi, rfl, k⟩ := h
    refine ⟨_, pss_one (ps_ret (pe_and (pe_callB call_isi (by rfl) T.b_isinstance bo_isinstance (pa_cons (pv 0) (pa_cons (pe_bltn (by rfl) T.b_int bo_int (v := .ty "int") rfl) pa_nil)))
      (pe_and (pe_not (pe_callB call_isi (by rfl) T.b_isinstance bo_isinstance (pa_cons (pv 0) (pa_cons (pe_bltn (by rfl) T.b_bool bo_bool (v := .ty "bool") rfl) pa_nil))))
      (pe_one (pe_chain op_le op_le (pv 1) (pv 0) (pv 2)))))), ?_⟩
    refine ⟨_, rfl, .int i, .ty "int", .type "int", .type "int", true, rfl, .ty _, .base (.int i), kit_ty (by decide +kernel), true, rfl, iteT ?_⟩
    refine ⟨_, rfl, .int i, .ty "bool", .type "int", .type "bool", false, rfl, .ty _, .base (.int i), kit_ty (by decide +kernel), false, rfl, true, rfl, iteT ?_⟩
    refine ⟨_, rfl, _, rfl, lo, i, rfl, rfl, _, rfl, ?_⟩
    by_cases c : lo ≤ i
    · rw [decide_eq_true c]
      refine iteT ⟨_, rfl, i, hi, rfl, rfl, ?_⟩
      have e : decide (lo ≤ i ∧ i ≤ hi) = decide (i ≤ hi) := by
        by_cases d : i ≤ hi <;> simp [c, d]
      rw [e] at k
      exact k
    · rw [decide_eq_false c]
      refine iteF ?_
      have e : decide (lo ≤ i ∧ i ≤ hi) = false := by simp [c]
      rw [e] at k
      exact k

/-! ### is_entry -/
def spIsEnt : Sp := fun vs H Q _ => ∃ (v : V) (e : Ent) (n : Nat), vs = [v, .int n] ∧ EnAt H v e ∧ EntOk n e ∧ Q (.bl true) H
theorem scIsEnt : FnScope ["value", "states"] ["value", "states"] (defScope s_is_entry) := ⟨rfl, rfl, rfl, by decide +kernel, rfl, by decide +kernel, by decide +kernel⟩
theorem ok_is_entry (T : Top P K mg) : FnOk P w K mg base CX0 6 T.d_is_entry.f T.d_is_entry.fd ["value", "states"] spIsEnt := by
  refine T.d_is_entry.F.ok scIsEnt (fun vs H Q E h => ?_) (fun cdv A outer s H vs Q E hr h => ?_)
  · obtain ⟨v, e, n, rfl, _⟩ := h
    rfl
  · obtain ⟨v, e, n, rfl, he, ho, k⟩ := h
    have hr3 : Room 3 _ := hr.mono (by decide)
    obtain ⟨t, ht⟩ := T.MAX_REPLY
    refine ⟨_, pss_cons (ps_if (pt_cmpR op_isN (pv 0) pe_non (nomark _)) (pss_one (ps_ret pe_bl)) pss_nil)
      (pss_cons (ps_if (pw_or (pt_not (pt_val (pe_callB call_isi (by rfl) T.b_isinstance bo_isinstance (pa_cons (pv 0) (pa_cons (pe_bltn (by rfl) T.b_tuple bo_tuple (v := .ty "tuple") rfl) pa_nil)))))
        (pw_or1 (pt_cmpR op_ne (pe_callB call_len_seq (by rfl) T.b_len bo_len (pa_cons (pv 0) pa_nil)) pe_int (nomark _)))).pt (pss_one (ps_ret pe_bl)) pss_nil)
      (pss_one (ps_ret (pe_and (pcall T.d_is_integer (ok_is_integer T) hr3 (by rfl) (pa_cons (pe_ix ix_tup (pv 0) pe_int (fun _ _ => rfl)) (pa_cons pe_int (pa_cons (pe_glob (by rfl) ht (v := .int 2) ⟨_, rfl⟩) pa_nil))))
        (pe_one (pcall T.d_is_integer (ok_is_integer T) hr3 (by rfl) (pa_cons (pe_ix ix_tup (pv 0) pe_int (fun _ _ => rfl)) (pa_cons pe_int (pa_cons (pe_op op_sub (pv 1) pe_int) pa_nil))))))))), ?_⟩
    cases e with
    | none =>
      cases (show v = .non from he)
      exact ⟨_, rfl, rfl, _, rfl, iteT k⟩
    | some p =>
      obtain ⟨a, rfl, ha⟩ := (show PrAt H v p from he)
      obtain ⟨r, s⟩ := p
      obtain ⟨h1, h2, h3, h4⟩ := ho r s rfl
      refine ⟨_, rfl, rfl, _, rfl, iteF ?_⟩
      refine ⟨_, rfl, .ref a, .ty "tuple", .type "tuple", .type "tuple", true, rfl, .ty _, .base (.tup ha), kit_ty (by decide +kernel), true, rfl, iteF ?_⟩
      refine ⟨_, rfl, a, _, rfl, .inr (SqT.of ha), rfl, _, rfl, iteF ?_⟩
      refine ⟨_, rfl, a, _, _, _, rfl, rfl, SqT.of ha, rfl, r, 0, 2, rfl, true, ?_, iteT ?_⟩
      · rw [decide_eq_true ⟨h1, h2⟩]
      · refine ⟨_, rfl, a, _, _, _, rfl, rfl, SqT.of ha, rfl, _, rfl, _, _, rfl, rfl, s, 0, (n : Int) - 1, rfl, ?_⟩
        rw [decide_eq_true (by omega : (0 : Int) ≤ s ∧ s ≤ (n : Int) - 1)]
        exact k

/-! ### is_edition -/
def spIsEd : Sp := fun vs H Q _ => ∃ (v : V) (ed : Edn) (w : Nat), vs = [v, .int w] ∧ EdAt H v ed ∧ EdOk w ed ∧ w ≤ 3 ∧ ∀ H', Same H H' → Q (.bl true) H'
theorem scIsEd : FnScope ["value", "commands", "row", "entry"] ["value", "commands"] (defScope s_is_edition) := ⟨rfl, rfl, rfl, by decide +kernel, rfl, by decide +kernel, by decide +kernel⟩
theorem ok_is_edition (T : Top P K mg) : FnOk P w K mg base CX0 9 T.d_is_edition.f T.d_is_edition.fd ["value", "commands"] spIsEd := by
  refine T.d_is_edition.F.ok scIsEd (fun vs H Q E h => ?_) (fun cdv A outer s H vs Q E hr h => ?_)
  · obtain ⟨v, e, n, rfl, _⟩ := h
    rfl
  · obtain ⟨v, ed, wd, rfl, he, ho, hw3, k⟩ := h
    have hr6 : Room 6 _ := hr.mono (by decide)
    obtain ⟨t, ht⟩ := T.MAX_STATES
    refine ⟨_, pss_cons (ps_if (pw_or (pt_not (pt_val (pe_callB call_isi (by rfl) T.b_isinstance bo_isinstance (pa_cons (pv 0) (pa_cons (pe_bltn (by rfl) T.b_tuple bo_tuple (v := .ty "tuple") rfl) pa_nil)))))
        (pw_or1 (pt_not (pt_chain op_le op_le pe_int (pe_callB call_len_seq (by rfl) T.b_len bo_len (pa_cons (pv 0) pa_nil)) (pe_glob (by rfl) ht (v := .int 3) ⟨_, rfl⟩))))).pt (pss_one (ps_ret pe_bl)) pss_nil)
      (pss_cons (ps_for PassesOwn.never rfl (pi_tup (pv 0)) (pg_name (i := 2) scIsEd.nd rfl (Or.inl rfl))
        (pss_cons (ps_if (pw_or (pt_not (pt_val (pe_callB call_isi (by rfl) T.b_isinstance bo_isinstance (pa_cons (pv 2) (pa_cons (pe_bltn (by rfl) T.b_tuple bo_tuple (v := .ty "tuple") rfl) pa_nil)))))
          (pw_or1 (pt_cmpR op_ne (pe_callB call_len_seq (by rfl) T.b_len bo_len (pa_cons (pv 2) pa_nil)) (pv 1) (nomark _)))).pt (pss_one (ps_ret pe_bl)) pss_nil)
        (pss_one (ps_if (pt_not (pt_val (pe_callB (cr_all rfl) (by rfl) T.b_all bo_all (pa_cons (pe_lc (own := [("entry", 3)]) (g := gName 3) (tt := tYes) rfl scIsEd.nd (pi_tup (pv 2)) (blkOk_by (N := ["value", "commands", "row", "entry"]) (sc := defScope s_is_edition) (by decide +kernel))
            (fun _ _ _ _ _ => pg_name (i := 3) scIsEd.nd rfl (Or.inl rfl)) (fun _ _ _ _ _ => pts_nil)
            (fun _ _ _ _ _ => pcall T.d_is_entry (ok_is_entry T) hr6 (by rfl) (pa_cons (pv 3) (pa_cons (pe_callB (call_lenK (K := K) rfl) (by rfl) T.b_len bo_len (pa_cons (pv 0) pa_nil)) pa_nil)))) pa_nil)))) (pss_one (ps_ret pe_bl)) pss_nil))))
      (pss_one (ps_ret pe_bl))), ?_⟩
    obtain ⟨a, xs, rfl, ha, hp⟩ := he
    have hl := Paired.length hp
    have lo := ho.lo
    have hi := ho.hi
    refine ⟨_, rfl, .ref a, .ty "tuple", .type "tuple", .type "tuple", true, rfl, .ty _, .base (.tup ha), kit_ty (by decide +kernel), true, rfl, iteF ?_⟩
    refine ⟨_, rfl, a, _, rfl, .inr (SqT.of ha), _, _, rfl, rfl, _, rfl, ?_⟩
    rw [decide_eq_true (show (1 : Int) ≤ (xs.length : Int) by omega)]
    refine iteT ⟨_, _, rfl, rfl, _, rfl, ?_⟩
    rw [decide_eq_true (show (xs.length : Int) ≤ 3 by omega)]
    refine iteF ?_
    refine ⟨_, rfl, a, rfl, ⟨_, SqT.of ha⟩, for_tup (K := K) (a := a) (xs := xs) (fun i σ H' => ∃ o : Option V, σ = [some (.ref a), some (.int wd), o, none] ∧ Same H H') ⟨none, rfl, Same.refl H⟩ (fun i σ H' _ ⟨_, _, s⟩ => SqT.of (s _ _ ha)) ?_ ?_⟩
    · rintro i x σ H' hx ⟨o, rfl, sm⟩
      obtain ⟨l, hl2, lx⟩ := pget' hp hx
      have hlm := List.mem_of_getElem? hl2
      obtain ⟨r1, r2⟩ := ho.row l hlm
      obtain ⟨b, es, rfl, hb, hpe⟩ := lx
      have hb' := sm _ _ hb
      have hle := Paired.length hpe
      refine ⟨_, rfl, .ref b, .ty "tuple", .type "tuple", .type "tuple", true, rfl, .ty _, .base (.tup hb'), kit_ty (by decide +kernel), true, rfl, iteF ?_⟩
      refine ⟨_, rfl, b, _, rfl, .inr (SqT.of hb'), _, rfl, rfl, _, rfl, ?_⟩
      rw [show decide (V.int (es.length : Int) = V.int (wd : Int)) = true from decide_eq_true (by rw [hle, r1])]
      refine iteF ?_
      refine ⟨_, rfl, b, rfl, ⟨_, SqT.of hb'⟩, fun D hD => ?_⟩
      have hD0 : H D = none := sm.free hD
      refine lcm_tup (R := BlAt) (ys := es.map fun _ => true) (Z := fun H2 => Same H H2) mono_bl hD (Same.upd' sm hD0 _) (fun H2 l2 o2 z e => Same.upd' z hD0 _) (fun H2 z => SqT.of (z b _ hb)) (by simp) (by rw [hle, r1]; omega) (fun x => rfl) ?_ ?_
      · rintro j x y H2 hj hy z Q kq
        obtain ⟨e, he1, he2⟩ := pget' hpe hj
        have hem := List.mem_of_getElem? he1
        have hyt : y = true := by
          rw [List.getElem?_map, hj] at hy
          exact (Option.some.inj hy).symm
        subst hyt
        refine ⟨_, rfl, _, rfl, a, _, rfl, .inr (SqT.of (z a _ ha)), x, e, xs.length, rfl, mono_en _ _ _ _ (TK.same z) he2, ?_, kq _ H2 z (TK.refl _) rfl rfl⟩
        rw [hl]
        exact r2 e hem
      · rintro H2 vs z hv hpv
        rw [bl_map hpv] at hv
        refine ⟨D, _, rfl, SqL.of hv, true, ?_, ?_⟩
        · rw [show (es.map fun _ => true).all id = true by simp]
        · exact iteF ⟨_, rfl, z⟩
    · rintro σ H' ⟨o, rfl, sm⟩
      exact k H' sm
end
end WF
end

section
set_option Elab.async false
set_option linter.all false
set_option maxRecDepth 100000
set_option maxHeartbeats 4000000
/-! Whichfirm: the program's defs, 2. -/
namespace WF
open PySem PySem.Spec PyProof.Rows L2 SlX
section
variable {P : Program} {w : World} {K : PySem.W.Frag} {mg : Str → Option Value} {base : Heap}
/-! ### commands_in -/
theorem eqv_tup0 {d : PyData} {ds : List PyData} : PyData.eqv (.tuple (d :: ds)) (.tuple []) = false := by
  simp [PyData.eqv, PyData.eqvAll]
def spCmd : Sp := fun vs H Q _ => ∃ (v : V) (sh : Shf) (w : Nat), vs = [v] ∧ ShAt H v sh ∧ ShOk w sh ∧ ∀ H', Same H H' → Q (.int w) H'
theorem scCmd : FnScope ["value", "first"] ["value"] (defScope s_commands_in) := ⟨rfl, rfl, rfl, by decide +kernel, rfl, by decide +kernel, by decide +kernel⟩
theorem ok_commands_in (T : Top P K mg) : FnOk P w K mg base CX0 3 T.d_commands_in.f T.d_commands_in.fd ["value"] spCmd := by
  refine T.d_commands_in.F.ok scCmd (fun vs H Q E h => ?_) (fun cdv A outer s H vs Q E hr h => ?_)
  · obtain ⟨v, e, n, rfl, _⟩ := h
    rfl
  · obtain ⟨v, sh, wd, rfl, he, S, k⟩ := h
    have hu : (A.deeper (envOfC "commands_in" (defScope s_commands_in) s.heap.objs.size T.d_commands_in.f cdv)).units + 64 < cLine := hr.units
    obtain ⟨t, ht⟩ := T.MAX_COMMANDS
    refine ⟨_, pss_cons (ps_set (i := 1) scCmd.nd rfl (Or.inl rfl) (pe_ix ix_tup (pv 0) pe_int (fun _ _ => rfl)))
      (pss_cons (ps_if (pw_or (pt_not (pt_val (pe_callB call_isi (by rfl) T.b_isinstance bo_isinstance (pa_cons (pv 1) (pa_cons (pe_bltn (by rfl) T.b_tuple bo_tuple (v := .ty "tuple") rfl) pa_nil)))))
        (pw_or (pt_cmpR (op_eqD hu) (pv 1) (pe_tup pa_nil) (nomark _))
        (pw_or1 (pt_not (pt_val (pe_callB call_isi (by rfl) T.b_isinstance bo_isinstance (pa_cons (pe_ix ix_tup (pv 1) pe_int (fun _ _ => rfl)) (pa_cons (pe_bltn (by rfl) T.b_tuple bo_tuple (v := .ty "tuple") rfl) pa_nil)))))))).pt (pss_one (ps_ret pe_int)) pss_nil)
      (pss_one (ps_ret (pe_ifExp (pt_cmpR op_le (pe_callB call_len_seq (by rfl) T.b_len bo_len (pa_cons (pe_ix ix_tup (pv 1) pe_int (fun _ _ => rfl)) pa_nil)) (pe_glob (by rfl) ht (v := .int 3) ⟨_, rfl⟩) (nomark _))
        (pe_callB call_len_seq (by rfl) T.b_len bo_len (pa_cons (pe_ix ix_tup (pv 1) pe_int (fun _ _ => rfl)) pa_nil)) pe_int)))), ?_⟩
    obtain ⟨a, xs, rfl, ha, hp⟩ := he
    have hl := Paired.length hp
    have lo := S.lo
    obtain ⟨ed, hed⟩ : ∃ ed, sh[0]? = some ed := ⟨_, List.getElem?_eq_getElem (by omega)⟩
    obtain ⟨x, hx, b, es, rfl, hb, hq⟩ := pget hp hed
    have E1 := S.ed ed (List.mem_of_getElem? hed)
    have lo2 := E1.lo
    obtain ⟨l, hl0⟩ : ∃ l, ed[0]? = some l := ⟨_, List.getElem?_eq_getElem (by omega)⟩
    obtain ⟨y, hy, c, fs, rfl, hc, hf⟩ := pget hq hl0
    have hlw := (E1.row l (List.mem_of_getElem? hl0)).1
    have hfl := Paired.length hf
    have w3 := S.w3
    refine ⟨_, rfl, a, _, _, _, rfl, rfl, SqT.of ha, atI_nat hx, ?_⟩
    refine ⟨_, rfl, .ref b, .ty "tuple", .type "tuple", .type "tuple", true, rfl, .ty _, .base (.tup hb), kit_ty (by decide +kernel), true, rfl, iteF ?_⟩
    refine ⟨_, rfl, (by show 0 ≤ sizeLine; exact Nat.zero_le _), fun p hp0 => ?_⟩
    have s1 : Same H (upd H p (.tup [])) := Same.new hp0
    refine ⟨edD ed, .tuple [], rd_ed _ _ _ (mono_ed _ _ _ _ (TK.same s1) ⟨b, es, rfl, hb, hq⟩), .tup (SqT.of upd_same) .nil, (shal_ed ed).shaped (by decide), (by decide +kernel), ?_⟩
    rw [show PyData.eqv (edD ed) (.tuple []) = false from by
      cases ed with
      | nil => cases hl0
      | cons d ds => exact eqv_tup0]
    refine ⟨_, rfl, iteF ?_⟩
    refine ⟨_, rfl, b, _, _, _, rfl, rfl, SqT.of (s1 _ _ hb), atI_nat hy, .ref c, .ty "tuple", .type "tuple", .type "tuple", true, rfl, .ty _, .base (.tup (s1 _ _ hc)), kit_ty (by decide +kernel), true, rfl, iteF ?_⟩
    refine ⟨_, rfl, b, _, _, _, rfl, rfl, SqT.of (s1 _ _ hb), atI_nat hy, c, _, rfl, .inr (SqT.of (s1 _ _ hc)), _, _, rfl, rfl, _, rfl, ?_⟩
    rw [decide_eq_true (show (fs.length : Int) ≤ 3 by omega)]
    refine iteT ⟨_, rfl, b, _, _, _, rfl, rfl, SqT.of (s1 _ _ hb), atI_nat hy, c, _, rfl, .inr (SqT.of (s1 _ _ hc)), ?_⟩
    rw [show ((fs.length : Nat) : Int) = (wd : Int) by omega]
    exact k _ s1

/-! ### Shelf -/
theorem tot_succ {sh : Shf} {i : Nat} {ed : Edn} (h : sh[i]? = some ed) : ((sh.take (i + 1)).map List.length).sum = ((sh.take i).map List.length).sum + ed.length := by
  rw [List.take_succ, h]
  simp
theorem tot_le (sh : Shf) (i : Nat) : ((sh.take i).map List.length).sum ≤ (sh.map List.length).sum := by
  conv => rhs; rw [← List.take_append_drop i sh]
  rw [List.map_append, List.sum_append]
  omega
def spShInit (C : Addr) : Sp := fun vs H Q _ => ∃ (p dx : Addr) (v : V) (sh : Shf) (w : Nat), vs = [.ref p, v] ∧ H p = some (.ins C dx []) ∧ H dx = some (.own p) ∧ ShAt H v sh ∧ ShOk w sh ∧ ∀ H', But [p, dx] H H' → ShfAt C H' p w sh → Q .non H'
theorem scShInit : FnScope ["self", "editions", "commands", "total", "index", "edition"] ["self", "editions"] (defScope s_sh_init) := ⟨rfl, rfl, rfl, by decide +kernel, rfl, by decide +kernel, by decide +kernel⟩
theorem ok_sh_init (T : Top P K mg) : FnOk P w K mg base CX0 12 T.sh_init.f T.sh_init.fd ["self", "editions"] (spShInit T.cSh) := by
  refine T.sh_init.F.ok scShInit (fun vs H Q E h => ?_) (fun cdv A outer s H vs Q E hr h => ?_)
  · obtain ⟨p, dx, v, sh, n, rfl, _⟩ := h
    rfl
  · obtain ⟨p, dx, v, sh, wd, rfl, hpp, hdx, he, S, k⟩ := h
    have hne : dx ≠ p := ne_of hdx hpp (fun z => nomatch z)
    have hr9 : Room 9 _ := hr.mono (by decide)
    have hr3 : Room 3 _ := hr.mono (by decide)
    obtain ⟨t4, ht4⟩ := T.MAX_EDITIONS
    obtain ⟨t8, ht8⟩ := T.MAX_PAIRS
    refine ⟨_, pss_cons (ps_if (pw_or (pt_not (pt_val (pe_callB call_isi (by rfl) T.b_isinstance bo_isinstance (pa_cons (pv 1) (pa_cons (pe_bltn (by rfl) T.b_tuple bo_tuple (v := .ty "tuple") rfl) pa_nil)))))
        (pw_or1 (pt_not (pt_chain op_le op_le pe_int (pe_callB call_len_seq (by rfl) T.b_len bo_len (pa_cons (pv 1) pa_nil)) (pe_glob (by rfl) ht4 (v := .int 4) ⟨_, rfl⟩))))).pt pss_never pss_nil)
      (pss_cons (ps_set (i := 2) scShInit.nd rfl (Or.inl rfl) (pcall T.d_commands_in (ok_commands_in T) hr3 (by rfl) (pa_cons (pv 1) pa_nil)))
      (pss_cons (ps_set (i := 3) scShInit.nd rfl (Or.inl rfl) pe_int)
      (pss_cons (ps_for PassesOwn.never rfl (pi_enumT (by rfl) T.b_enumerate (pa_cons (pv 1) pa_nil)) (pg_tupK (K := K) rfl rfl (pgs_cons (pg_name (i := 4) scShInit.nd rfl (Or.inl rfl)) (pgs_cons (pg_name (i := 5) scShInit.nd rfl (Or.inl rfl)) pgs_nil)))
        (pss_cons (ps_if (pw_or (pt_cmpR op_eq (pv 2) pe_int (nomark _)) (pw_or1 (pt_not (pt_val (pcall T.d_is_edition (ok_is_edition T) hr9 (by rfl) (pa_cons (pv 5) (pa_cons (pv 2) pa_nil))))))).pt pss_never pss_nil)
        (pss_cons (ps_aug (i := 3) scShInit.nd rfl (Or.inl rfl) (pe_callB call_len_seq (by rfl) T.b_len bo_len (pa_cons (pv 5) pa_nil)) ip_add)
        (pss_one (ps_if (pt_cmpR op_gt (pv 3) (pe_glob (by rfl) ht8 (v := .int 8) ⟨_, rfl⟩) (nomark _)) pss_never pss_nil)))))
      (pss_cons (ps_sl (pv 0) (pv 1)) (pss_one (ps_sl (pv 0) (pv 2))))))), ?_⟩
    obtain ⟨a, xs, rfl, ha, hp⟩ := id he
    have hl := Paired.length hp
    have lo := S.lo
    have hi := S.hi
    have w1 := S.w1
    have w3 := S.w3
    refine ⟨_, rfl, .ref a, .ty "tuple", .type "tuple", .type "tuple", true, rfl, .ty _, .base (.tup ha), kit_ty (by decide +kernel), true, rfl, iteF ?_⟩
    refine ⟨_, rfl, a, _, rfl, .inr (SqT.of ha), _, _, rfl, rfl, _, rfl, ?_⟩
    rw [decide_eq_true (show (2 : Int) ≤ (xs.length : Int) by omega)]
    refine iteT ⟨_, _, rfl, rfl, _, rfl, ?_⟩
    rw [decide_eq_true (show (xs.length : Int) ≤ 4 by omega)]
    refine iteF ?_
    refine ⟨_, rfl, .ref a, sh, wd, rfl, he, S, fun H1 s1 => ?_⟩
    refine ⟨_, rfl, a, xs, rfl, SqT.of (s1 _ _ ha), for_enumT (K := K) (a := a) (xs := xs)
      (fun i σ H' => ∃ o1 o2 : Option V, σ = [some (.ref p), some (.ref a), some (.int wd), some (.int (((sh.take i).map List.length).sum : Nat)), o1, o2] ∧ Same H H') ⟨none, none, by simp [L2.start], s1⟩ (fun i σ H' _ ⟨_, _, _, s⟩ => SqT.of (s _ _ ha)) ?_ ?_⟩
    · rintro i x σ H' T' hx ⟨o1, o2, rfl, sm⟩ hT'
      obtain ⟨ed, hed, hxe⟩ := pget' hp hx
      have E1 := S.ed ed (List.mem_of_getElem? hed)
      have sm2 : Same H (upd H' T' (.tup [.int (i : Nat), x])) := Same.upd' sm (sm.free hT') _
      refine g_pair upd_same ?_
      refine ⟨_, rfl, rfl, _, rfl, ?_⟩
      rw [show decide (V.int (wd : Int) = V.int 0) = false from decide_eq_false (fun z => by injection z with z; omega)]
      refine iteF ⟨_, rfl, _, rfl, x, ed, wd, rfl, mono_ed _ _ _ _ (TK.same sm2) hxe, E1, w3, fun H3 s3 => ⟨true, rfl, iteF ?_⟩⟩
      obtain ⟨b, es, rfl, hb, hq⟩ := hxe
      have sm3 : Same H H3 := sm2.trans s3
      have hql := Paired.length hq
      refine ⟨_, rfl, _, rfl, b, _, rfl, .inr (SqT.of (sm3 _ _ hb)), _, _, rfl, rfl, ?_⟩
      have tl := tot_le sh (i + 1)
      have ts := tot_succ hed
      have tt := S.tot
      refine ⟨_, rfl, _, _, rfl, rfl, _, rfl, ?_⟩
      rw [decide_eq_false (show ¬ ((8 : Int) < (((sh.take i).map List.length).sum : Nat) + (es.length : Int)) by omega)]
      refine iteF ⟨some (.int (i : Nat)), some (.ref b), ?_, sm3⟩
      rw [ts, show ((((sh.take i).map List.length).sum + ed.length : Nat) : Int) = (((sh.take i).map List.length).sum : Nat) + (es.length : Int) by omega]
      rfl
    · rintro σ H' ⟨o1, o2, rfl, sm⟩
      have hp1 : H' p = some (.ins T.cSh dx []) := sm _ _ hpp
      refine ⟨_, rfl, _, rfl, p, T.cSh, dx, T.pRw, [], 1, rfl, .inl ⟨hp1, rfl⟩, T.shC, T.shR, ?_⟩
      refine ⟨_, rfl, _, rfl, p, T.cSh, dx, T.pMn, _, 0, rfl, slH_slt hne, T.shC, T.shN, ?_⟩
      rw [slH_twice hne]
      show Q .non (slH H' p T.cSh dx [some (.int wd), some (.ref a)])
      have st : ∀ b o, b ≠ p → b ≠ dx → H b = some o → slH H' p T.cSh dx [some (.int wd), some (.ref a)] b = some o := fun b o h1 h2 e => by
        rw [slH_ne h1 h2]
        exact sm _ _ e
      have tk : TK H (slH H' p T.cSh dx [some (.int wd), some (.ref a)]) := fun b ys e => st b _ (ne_of e hpp (fun z => nomatch z)) (ne_of e hdx (fun z => nomatch z)) e
      refine k _ (fun b o e hn => ?_) ⟨S, dx, .ref a, upd_same, ?_, mono_sh _ _ _ _ tk he⟩
      · simp at hn
        exact st b o hn.1 hn.2 e
      · unfold slH
        rw [upd_ne hne, upd_same]
end
end WF
end

section
set_option Elab.async false
set_option linter.all false
set_option maxRecDepth 100000
set_option maxHeartbeats 4000000
/-! Whichfirm: the program's defs, 3. -/
namespace WF
open PySem PySem.Spec PyProof.Rows L2 SlX RZ
/-- [.. for x, y in zip(t, u)], tuples -/
theorem lcm_zip {K : PySem.W.Frag} {α : Type} {R : Rl α} {i j : Nat} {te : TE} {σ : L2.St} {H1 : Hp} {D : Addr} {Qd : Hp → Prop} {Z : Hp → Prop} {zs : List α} {a b : Addr} {xs ys : List V}
    (hm : Mono R) (hD : H1 D = none) (h0 : Z (upd H1 D (.lst []))) (hZ : ∀ H l o, Z H → H D = some (.lst l) → Z (upd H D o)) (hZn : ∀ H T o, Z H → H T = none → Z (upd H T o)) (ha : ∀ H, Z H → SqT K H a xs) (hb : ∀ H, Z H → SqT K H b ys) (hl : zs.length = ys.length) (hl2 : ys.length ≤ xs.length) (hz : xs.length ≤ 1000)
    (hw : ∀ x y, wipe (((wipe σ [i, j]).set i (some x)).set j (some y)) [i, j] = wipe σ [i, j])
    (hs : ∀ (k : Nat) (x y : V) (z : α) (H : Hp), xs[k]? = some x → ys[k]? = some y → zs[k]? = some z → Z H → ∀ Q : VK, (∀ v H', Z H' → TK H H' → H' D = H D → R H' v z → Q v H') → te (((wipe σ [i, j]).set i (some x)).set j (some y)) H Q)
    (hd : ∀ H vs, Z H → H D = some (.lst vs) → Paired (R H) vs zs → Qd H) :
    ∃ W : Nat → Nat → Hp → Prop, (∃ m, W 0 m (upd H1 D (.lst []))) ∧ ∀ k m H, W k m H →
      ((ItzT K a b).stop k H ∧ Qd H) ∨ ((ItzT K a b).go k H ∧ ∃ Nx : Hp → Prop, (∀ H', Nx H' → ∃ m', m' < m ∧ W (k + 1) m' H') ∧ ∀ x H', (ItzT K a b).yld k H x H' → gPair K i j x (wipe σ [i, j]) H' fun σ2 H2 => wipe σ2 [i, j] = wipe σ [i, j] ∧ tYes σ2 H2 fun b H3 =>
        if b = true then te σ2 H3 fun y H4 => ∃ acc, H4 D = some (.lst acc) ∧ acc.length < sizeLine ∧ Nx (upd H4 D (.lst (acc ++ [y]))) else Nx H3) := by
  refine ⟨fun k m H => m = ys.length - k ∧ k ≤ ys.length ∧ Z H ∧ ∃ vs, H D = some (.lst vs) ∧ Paired (R H) vs (zs.take k), ⟨ys.length, by simp, Nat.zero_le _, h0, [], upd_same, by rw [List.take_zero]; exact .nil⟩, ?_⟩
  rintro k m H ⟨rfl, hk, hZH, vs, hv, hp⟩
  by_cases hlt : k < ys.length
  · obtain ⟨y, hy⟩ : ∃ y, ys[k]? = some y := ⟨_, List.getElem?_eq_getElem hlt⟩
    obtain ⟨x, hx⟩ : ∃ x, xs[k]? = some x := ⟨_, List.getElem?_eq_getElem (by omega)⟩
    obtain ⟨z, hzz⟩ : ∃ z, zs[k]? = some z := ⟨_, List.getElem?_eq_getElem (by omega)⟩
    refine .inr ⟨⟨xs, ys, x, y, ha H hZH, hb H hZH, hx, hy⟩, fun H' => k + 1 ≤ ys.length ∧ Z H' ∧ ∃ vs, H' D = some (.lst vs) ∧ Paired (R H') vs (zs.take (k + 1)), fun H' p' => ⟨ys.length - (k + 1), by omega, rfl, p'⟩, fun v H' yl => ?_⟩
    obtain ⟨T, x', y', rfl, hT, rfl, e1, e2⟩ := yl
    obtain rfl : x = x' := Option.some.inj (hx.symm.trans (e1 xs (ha H hZH)))
    obtain rfl : y = y' := Option.some.inj (hy.symm.trans (e2 ys (hb H hZH)))
    have hZT : Z (upd H T (.tup [x, y])) := hZn H T _ hZH hT
    have hDT : D ≠ T := ne_of_none hv hT
    refine g_pair upd_same ⟨hw x y, yes_do ?_⟩
    rw [if_pos rfl]
    refine hs k x y z _ hx hy hzz hZT _ fun v' H' hZ' ht hD' hr => ⟨vs, ?_, ?_, by omega, ?_, vs ++ [v'], upd_same, ?_⟩
    · rw [hD', upd_ne hDT, hv]
    · have := Paired.length hp
      rw [List.length_take] at this
      exact small1000 (by omega)
    · exact hZ _ vs _ hZ' (by rw [hD', upd_ne hDT, hv])
    · have e : zs.take (k + 1) = zs.take k ++ [z] := by rw [List.take_succ, hzz]; rfl
      have t1 : TK H H' := (TK.new hT).trans ht
      have t2 : TK H' (upd H' D (.lst (vs ++ [v']))) := TK.putL (by rw [hD', upd_ne hDT, hv])
      rw [e]
      exact papp (pmono hp fun _ _ q => hm _ _ _ _ (t1.trans t2) q) (.cons (hm _ _ _ _ t2 hr) .nil)
  · have e : k = ys.length := by omega
    subst e
    rw [List.take_of_length_le (by omega)] at hp
    exact .inl ⟨⟨xs, ys, ha H hZH, hb H hZH, .inr (Nat.le_refl _)⟩, hd H vs hZH hv hp⟩
theorem rawR {P : Program} {w : World} {K : PySem.W.Frag} {mg : Str → Option Value} {base : Heap} {CX : CXT} {k : Nat} {f : Addr} {fd : FuncData} {ps : List Str} {sp : Sp} (F : FnOk P w K mg base CX k f fd ps sp) (b : Binds K fd ps []) : FnR P w K mg base CX k f sp :=
  (F.raw b .nil).imp fun vs H Q E h => by
    rw [List.append_nil]
    exact h
section
variable {P : Program} {w : World} {K : PySem.W.Frag} {mg : Str → Option Value} {base : Heap}
/-! ### len(shelf), shelf.editions, check_shelf, entry_at -/
def spShLen (C : Addr) : Sp := fun vs H Q _ => ∃ (a : Addr) (w : Nat) (sh : Shf), vs = [.ref a] ∧ ShfAt C H a w sh ∧ Q (.int sh.length) H
theorem scShLen : FnScope ["self"] ["self"] (defScope s_sh_len) := ⟨rfl, rfl, rfl, by decide +kernel, rfl, by decide +kernel, by decide +kernel⟩
theorem ok_sh_len (T : Top P K mg) : FnOk P w K mg base CX0 3 T.sh_len.f T.sh_len.fd ["self"] (spShLen T.cSh) := by
  refine T.sh_len.F.ok scShLen (fun vs H Q E h => ?_) (fun cdv A outer s H vs Q E hr h => ?_)
  · obtain ⟨a, w, sh, rfl, _⟩ := h
    rfl
  · obtain ⟨a, w, sh, rfl, hs, k⟩ := h
    refine ⟨_, pss_one (ps_ret (pe_callB call_len_seq (by rfl) T.b_len bo_len (pa_cons (pe_sl (pv 0)) pa_nil))), ?_⟩
    obtain ⟨dx, r, hS, b, xs, rfl, hb, hp⟩ := hs.slt
    rw [← Paired.length hp] at k
    exact ⟨_, rfl, a, T.cSh, dx, T.pRw, _, 1, _, rfl, hS, T.shC, T.shR, rfl, b, xs, rfl, .inr (SqT.of hb), k⟩
def spShEds (C : Addr) : Sp := fun vs H Q _ => ∃ (a : Addr) (w : Nat) (sh : Shf), vs = [.ref a] ∧ ShfAt C H a w sh ∧ ∀ r, ShAt H r sh → Q r H
theorem scShEds : FnScope ["self"] ["self"] (defScope s_sh_eds) := ⟨rfl, rfl, rfl, by decide +kernel, rfl, by decide +kernel, by decide +kernel⟩
theorem ok_sh_eds (T : Top P K mg) : FnOk P w K mg base CX0 3 T.sh_eds.f T.sh_eds.fd ["self"] (spShEds T.cSh) := by
  refine T.sh_eds.F.ok scShEds (fun vs H Q E h => ?_) (fun cdv A outer s H vs Q E hr h => ?_)
  · obtain ⟨a, w, sh, rfl, _⟩ := h
    rfl
  · obtain ⟨a, w, sh, rfl, hs, k⟩ := h
    refine ⟨_, pss_one (ps_ret (pe_sl (pv 0))), ?_⟩
    obtain ⟨dx, r, hS, hr⟩ := hs.slt
    exact ⟨_, rfl, a, T.cSh, dx, T.pRw, _, 1, r, rfl, hS, T.shC, T.shR, rfl, k r hr⟩
def spChSh (C : Addr) : Sp := fun vs H Q _ => ∃ (a : Addr) (w : Nat) (sh : Shf), vs = [.ref a] ∧ ShfAt C H a w sh ∧ Q .non H
theorem scChSh : FnScope ["shelf"] ["shelf"] (defScope s_check_shelf) := ⟨rfl, rfl, rfl, by decide +kernel, rfl, by decide +kernel, by decide +kernel⟩
theorem ok_check_shelf (T : Top P K mg) : FnOk P w K mg base CX0 3 T.d_check_shelf.f T.d_check_shelf.fd ["shelf"] (spChSh T.cSh) := by
  refine T.d_check_shelf.F.ok scChSh (fun vs H Q E h => ?_) (fun cdv A outer s H vs Q E hr h => ?_)
  · obtain ⟨a, w, sh, rfl, _⟩ := h
    rfl
  · obtain ⟨a, w, sh, rfl, hs, k⟩ := h
    refine ⟨_, pss_one (ps_if (pt_not (pt_val (pe_callB (call_isiSl (.ref T.cSh)) (by rfl) T.b_isinstance bo_isinstance (pa_cons (pv 0) (pa_cons (pe_glob (by rfl) T.g_sh (v := .ref T.cSh) rfl) pa_nil))))) pss_never pss_nil), ?_⟩
    obtain ⟨dx, r, hS, hr⟩ := hs.slt
    exact ⟨_, rfl, a, T.cSh, dx, _, .ref T.cSh, true, rfl, rfl, fun w h => h, hS, T.shC, T.shI, T.shK, true, rfl, iteF k⟩
def spEnt (C : Addr) : Sp := fun vs H Q _ => ∃ (a : Addr) (w : Nat) (sh : Shf) (v : V) (p : Pr) (c : Int), vs = [.ref a, v, .int c] ∧ ShfAt C H a w sh ∧ PrAt H v p ∧ PrOk sh p ∧ 0 ≤ c ∧ c < w ∧ ∀ r, EnAt H r (ent sh p c) → Q r H
theorem scEnt : FnScope ["shelf", "pair", "command"] ["shelf", "pair", "command"] (defScope s_entry_at) := ⟨rfl, rfl, rfl, by decide +kernel, rfl, by decide +kernel, by decide +kernel⟩
theorem ok_entry_at (T : Top P K mg) : FnOk P w K mg base CX0 3 T.d_entry_at.f T.d_entry_at.fd ["shelf", "pair", "command"] (spEnt T.cSh) := by
  refine T.d_entry_at.F.ok scEnt (fun vs H Q E h => ?_) (fun cdv A outer s H vs Q E hr h => ?_)
  · obtain ⟨a, w, sh, v, p, c, rfl, _⟩ := h
    rfl
  · obtain ⟨a, w, sh, v, p, c, rfl, hs, hp, ho, h0, hc, k⟩ := h
    refine ⟨_, pss_one (ps_ret (pe_ix ix_tup (pe_ix ix_tup (pe_ix ix_tup (pe_sl (pv 0)) (pe_ix ix_tup (pv 1) pe_int (fun _ _ => rfl)) (fun _ _ => rfl)) (pe_ix ix_tup (pv 1) pe_int (fun _ _ => rfl)) (fun _ _ => rfl)) (pv 2) (fun _ _ => rfl))), ?_⟩
    have S := hs.1
    obtain ⟨dx, r, hS, b, xs, rfl, hb, hq⟩ := hs.slt
    obtain ⟨pa, rfl, hpa⟩ := hp
    obtain ⟨ed, l, e, e1, _, e3, _, e5, _, e7, _⟩ := ent_at S ho h0 hc
    obtain ⟨x1, h1, b1, ys1, rfl, hb1, hq1⟩ := pat hq e1
    obtain ⟨x2, h2, b2, ys2, rfl, hb2, hq2⟩ := pat hq1 e3
    obtain ⟨x3, h3, hx3⟩ := pat hq2 e5
    refine ⟨_, rfl, a, T.cSh, dx, T.pRw, _, 1, _, rfl, hS, T.shC, T.shR, rfl, _, rfl, pa, _, _, _, rfl, rfl, SqT.of hpa, rfl, b, xs, _, _, rfl, rfl, SqT.of hb, h1, ?_⟩
    refine ⟨_, rfl, pa, _, _, _, rfl, rfl, SqT.of hpa, rfl, b1, _, _, _, rfl, rfl, SqT.of hb1, h2, _, rfl, b2, _, _, _, rfl, rfl, SqT.of hb2, h3, k x3 ?_⟩
    rw [e7]
    exact hx3
end
end WF
end

section
set_option Elab.async false
set_option linter.all false
set_option maxRecDepth 100000
set_option maxHeartbeats 4000000
/-! Whichfirm: the program's defs, 4. -/
namespace WF
open PySem PySem.Spec PyProof.Rows L2 SlX RZ
theorem eqv_pr {p q : Pr} : PyData.eqv (prD p) (prD q) = decide (p = q) := by
  obtain ⟨a, b⟩ := p
  obtain ⟨c, d⟩ := q
  by_cases h1 : a = c <;> by_cases h2 : b = d <;> simp [prD, PyData.eqv, PyData.eqvAll, h1, h2]
theorem lex2 {p q : Pr} : HT.lexLt [p.1, p.2] [q.1, q.2] = decide (ltP p q) := by
  obtain ⟨a, b⟩ := p
  obtain ⟨c, d⟩ := q
  rw [HT.lexLt_cons]
  unfold WF.ltP
  by_cases h1 : a = c
  · subst h1
    rw [if_pos rfl, HT.lexLt_cons]
    by_cases h2 : b = d
    · subst h2
      simp [HT.lexLt]
    · rw [if_neg h2]
      simp
  · rw [if_neg h1]
    simp [h1]
theorem all_true : ∀ (l : List V), (l.map fun _ => true).all id = true
  | [] => rfl
  | x :: l => by
    rw [List.map_cons, List.all_cons, all_true l]
    rfl
theorem op_ltTK {X : Cx} {K : PySem.W.Frag} (h : X.K = K) (hu : X.A.units < cLine) : OpR X (compareOp .Lt) (rLtT K) := by
  subst h
  exact op_ltT hu
theorem asc_at {d : List Pr} (h : Asc d) {k : Nat} {p q : Pr} (hp : d[k]? = some p) (hq : d[k + 1]? = some q) : ltP p q := by
  obtain ⟨h1, e1⟩ := List.getElem?_eq_some_iff.mp hp
  obtain ⟨h2, e2⟩ := List.getElem?_eq_some_iff.mp hq
  rw [← e1, ← e2]
  exact List.pairwise_iff_getElem.mp h k (k + 1) h1 h2 (by omega)
section
variable {P : Program} {w : World} {K : PySem.W.Frag} {mg : Str → Option Value} {base : Heap}
/-! ### is_pair -/
def spIsPr (C : Addr) : Sp := fun vs H Q _ => ∃ (a : Addr) (w : Nat) (sh : Shf) (v : V) (p : Pr), vs = [.ref a, v] ∧ ShfAt C H a w sh ∧ PrAt H v p ∧ PrOk sh p ∧ Q (.bl true) H
theorem scIsPr : FnScope ["shelf", "value"] ["shelf", "value"] (defScope s_is_pair) := ⟨rfl, rfl, rfl, by decide +kernel, rfl, by decide +kernel, by decide +kernel⟩
theorem ok_is_pair (T : Top P K mg) : FnOk P w K mg base CX0 8 T.d_is_pair.f T.d_is_pair.fd ["shelf", "value"] (spIsPr T.cSh) := by
  refine T.d_is_pair.F.ok scIsPr (fun vs H Q E h => ?_) (fun cdv A outer s H vs Q E hr h => ?_)
  · obtain ⟨a, w, sh, v, p, rfl, _⟩ := h
    rfl
  · obtain ⟨a, w, sh, v, p, rfl, hs, hp, ho, k⟩ := h
    have hr3 : Room 3 _ := hr.mono (by decide)
    have hr4 : Room 4 _ := hr.mono (by decide)
    refine ⟨_, pss_cons (ps_if (pw_or (pt_not (pt_val (pe_callB call_isi (by rfl) T.b_isinstance bo_isinstance (pa_cons (pv 1) (pa_cons (pe_bltn (by rfl) T.b_tuple bo_tuple (v := .ty "tuple") rfl) pa_nil)))))
        (pw_or (pt_cmpR op_ne (pe_callB call_len_seq (by rfl) T.b_len bo_len (pa_cons (pv 1) pa_nil)) pe_int (nomark _))
        (pw_or1 (pt_not (pt_val (pcall T.d_is_integer (ok_is_integer T) hr3 (by rfl) (pa_cons (pe_ix ix_tup (pv 1) pe_int (fun _ _ => rfl)) (pa_cons pe_int (pa_cons (pe_op op_sub (pe_callB (call_lenS T.sh_len.m.at_ T.sh_len.m.fn (rawR (ok_sh_len T) T.sh_len.b) hr4 pass0) (by rfl) T.b_len bo_len (pa_cons (pv 0) pa_nil)) pe_int) pa_nil))))))))).pt (pss_one (ps_ret pe_bl)) pss_nil)
      (pss_one (ps_ret (pcall T.d_is_integer (ok_is_integer T) hr3 (by rfl) (pa_cons (pe_ix ix_tup (pv 1) pe_int (fun _ _ => rfl)) (pa_cons pe_int (pa_cons (pe_op op_sub (pe_callB call_len_seq (by rfl) T.b_len bo_len (pa_cons (pe_ix ix_tup (pe_sl (pv 0)) (pe_ix ix_tup (pv 1) pe_int (fun _ _ => rfl)) (fun _ _ => rfl)) pa_nil)) pe_int) pa_nil)))))), ?_⟩
    have S := hs.1
    have hi := S.hi
    obtain ⟨dx, r, hS, b, xs, rfl, hb, hq⟩ := hs.slt
    obtain ⟨pa, rfl, hpa⟩ := hp
    obtain ⟨q0, ed, he, q1, q2⟩ := ho
    have hel : p.1.toNat < sh.length := (List.getElem?_eq_some_iff.mp he).1
    obtain ⟨x1, h1, b1, ys1, rfl, hb1, hq1⟩ := pat hq (atI_eq q0 he)
    have hl1 := Paired.length hq1
    refine ⟨_, rfl, .ref pa, .ty "tuple", .type "tuple", .type "tuple", true, rfl, .ty _, .base (.tup hpa), kit_ty (by decide +kernel), true, rfl, iteF ?_⟩
    refine ⟨_, rfl, pa, _, rfl, .inr (SqT.of hpa), rfl, _, rfl, iteF ?_⟩
    refine ⟨_, rfl, pa, _, _, _, rfl, rfl, SqT.of hpa, rfl, _, rfl, a, dx, _, rfl, hS, a, w, sh, rfl, hs, sh.length, rfl, by omega, by omega, _, _, rfl, rfl, p.1, 0, (sh.length : Int) - 1, rfl, true, ?_, iteF ?_⟩
    · rw [decide_eq_true (by omega : (0 : Int) ≤ p.1 ∧ p.1 ≤ (sh.length : Int) - 1)]
    · refine ⟨_, rfl, pa, _, _, _, rfl, rfl, SqT.of hpa, rfl, _, rfl, a, T.cSh, dx, T.pRw, _, 1, _, rfl, hS, T.shC, T.shR, rfl, _, rfl, pa, _, _, _, rfl, rfl, SqT.of hpa, rfl, b, xs, _, _, rfl, rfl, SqT.of hb, h1, b1, _, rfl, .inr (SqT.of hb1), _, _, rfl, rfl, p.2, 0, (ys1.length : Int) - 1, rfl, ?_⟩
      rw [decide_eq_true (by omega : (0 : Int) ≤ p.2 ∧ p.2 ≤ (ys1.length : Int) - 1)]
      exact k
/-! ### is_doubt, check_doubt -/
def spIsDb (C : Addr) : Sp := fun vs H Q _ => ∃ (a : Addr) (w : Nat) (sh : Shf) (v : V) (d : List Pr), vs = [.ref a, v] ∧ ShfAt C H a w sh ∧ DbAt H v d ∧ DbOk sh d ∧ d.length ≤ 8 ∧ ∀ H', Same H H' → Q (.bl true) H'
theorem scIsDb : FnScope ["shelf", "value", "pair", "one", "other"] ["shelf", "value"] (defScope s_is_doubt) := ⟨rfl, rfl, rfl, by decide +kernel, rfl, by decide +kernel, by decide +kernel⟩
theorem ok_is_doubt (T : Top P K mg) : FnOk P w K mg base CX0 10 T.d_is_doubt.f T.d_is_doubt.fd ["shelf", "value"] (spIsDb T.cSh) := by
  refine T.d_is_doubt.F.ok scIsDb (fun vs H Q E h => ?_) (fun cdv A outer s H vs Q E hr h => ?_)
  · obtain ⟨a, w, sh, v, p, rfl, _⟩ := h
    rfl
  · obtain ⟨a, w, sh, v, d, rfl, hs, hd, ho, h8, k⟩ := h
    have hr8 : Room 8 _ := hr.mono (by decide)
    have hu : (A.deeper (envOfC "is_doubt" (defScope s_is_doubt) s.heap.objs.size T.d_is_doubt.f cdv)).units + 64 < cLine := hr.units
    have hu0 : (A.deeper (envOfC "is_doubt" (defScope s_is_doubt) s.heap.objs.size T.d_is_doubt.f cdv)).units < cLine := hr.units0
    refine ⟨_, pss_cons (ps_if (pw_or (pt_not (pt_val (pe_callB call_isi (by rfl) T.b_isinstance bo_isinstance (pa_cons (pv 1) (pa_cons (pe_bltn (by rfl) T.b_tuple bo_tuple (v := .ty "tuple") rfl) pa_nil)))))
        (pw_or (pt_cmpR (op_eqD hu) (pv 1) (pe_tup pa_nil) (nomark _))
        (pw_or1 (pt_not (pt_val (pe_callB (cr_all rfl) (by rfl) T.b_all bo_all (pa_cons (pe_lc (own := [("pair", 2)]) (g := gName 2) (tt := tYes) rfl scIsDb.nd (pi_tup (pv 1)) (blkOk_by (N := ["shelf", "value", "pair", "one", "other"]) (sc := defScope s_is_doubt) (by decide +kernel))
            (fun _ _ _ _ _ => pg_name (i := 2) scIsDb.nd rfl (Or.inl rfl)) (fun _ _ _ _ _ => pts_nil)
            (fun _ _ _ _ _ => pcall T.d_is_pair (ok_is_pair T) hr8 (by rfl) (pa_cons (pv 0) (pa_cons (pv 2) pa_nil)))) pa_nil))))))).pt (pss_one (ps_ret pe_bl)) pss_nil)
      (pss_one (ps_ret (pe_callB (cr_all rfl) (by rfl) T.b_all bo_all (pa_cons (pe_lc (own := [("one", 3), ("other", 4)]) (g := gPair K 3 4) (tt := tYes) rfl scIsDb.nd (pi_zipA (by rfl) T.b_zip (pa_cons (pv 1) (pa_cons (pe_slice sl_tup (pv 1) (po_some pe_int) po_none) pa_nil))) (blkOk_by (N := ["shelf", "value", "pair", "one", "other"]) (sc := defScope s_is_doubt) (by decide +kernel))
            (fun _ _ _ _ _ => pg_tupK (K := K) rfl rfl (pgs_cons (pg_name (i := 3) scIsDb.nd rfl (Or.inl rfl)) (pgs_cons (pg_name (i := 4) scIsDb.nd rfl (Or.inl rfl)) pgs_nil))) (fun _ _ _ _ _ => pts_nil)
            (fun _ _ _ _ _ => pe_cmpR (op_ltTK (K := K) rfl hu0) (pv 3) (pv 4) (nomark _))) pa_nil)))), ?_⟩
    obtain ⟨b, xs, rfl, hb, hp⟩ := id hd
    have hl := Paired.length hp
    have hne := ho.ne
    have hpos : 0 < d.length := List.length_pos_iff.mpr hne
    refine ⟨_, rfl, .ref b, .ty "tuple", .type "tuple", .type "tuple", true, rfl, .ty _, .base (.tup hb), kit_ty (by decide +kernel), true, rfl, iteF ?_⟩
    refine ⟨_, rfl, (by show 0 ≤ sizeLine; exact Nat.zero_le _), fun t0 ht0 => ?_⟩
    have s1 : Same H (upd H t0 (.tup [])) := Same.new ht0
    refine ⟨dbD d, .tuple [], rd_db _ _ _ (mono_db _ _ _ _ (TK.same s1) hd), .tup (SqT.of upd_same) .nil, (shal_db d).shaped (by decide), (by decide +kernel), ?_⟩
    rw [show PyData.eqv (dbD d) (.tuple []) = false from by
      cases d with
      | nil => exact absurd rfl hne
      | cons x ds => exact eqv_tup0]
    refine ⟨_, rfl, iteF ?_⟩
    refine ⟨_, rfl, b, rfl, ⟨_, SqT.of (s1 _ _ hb)⟩, fun D hD => ?_⟩
    have hD0 : H D = none := s1.free hD
    refine lcm_tup (R := BlAt) (ys := xs.map fun _ => true) (Z := fun H2 => Same H H2) mono_bl hD (Same.upd' s1 hD0 _) (fun H2 l2 o2 z e => Same.upd' z hD0 _) (fun H2 z => SqT.of (z b _ hb)) (by simp) (by omega) (fun x => rfl) ?_ ?_
    · rintro j x y H2 hj hy z Q kq
      obtain ⟨p, he1, he2⟩ := pget' hp hj
      have hyt : y = true := by
        rw [List.getElem?_map, hj] at hy
        exact (Option.some.inj hy).symm
      subst hyt
      exact ⟨_, rfl, _, rfl, a, w, sh, x, p, rfl, hs.keep (Chg.same z), mono_pr _ _ _ _ (TK.same z) he2, ho.pr p (List.mem_of_getElem? he1), kq _ H2 z (TK.refl _) rfl rfl⟩
    · rintro H2 vs z hv hpv
      rw [bl_map hpv] at hv
      refine ⟨D, _, rfl, SqL.of hv, true, ?_, iteF ?_⟩
      · rw [all_true]
      · refine ⟨_, rfl, _, rfl, _, rfl, b, xs, rfl, SqT.of (z _ _ hb), ?_, fun t1 ht1 => ?_⟩
        · rintro ⟨z1, _⟩
          have : HT.sIx xs.length 0 (some ((1 : Nat) : Int)) = 0 := z1
          rw [HT.sIx_nat] at this
          omega
        · have hcut : cutV xs (some 1) none = xs.drop 1 := by
            unfold cutV
            rw [show (some (1 : Int)) = some ((1 : Nat) : Int) from rfl, HT.sIx_nat, HT.sIx_none, show min 1 xs.length = 1 by omega]
            exact List.take_of_length_le (by rw [List.length_drop]; omega)
          rw [hcut]
          have z2 : Same H (upd H2 t1 (.tup (xs.drop 1))) := Same.upd' z (z.free ht1) _
          have hbt : b ≠ t1 := ne_of_none hb (z.free ht1)
          refine ⟨b, t1, xs, xs.drop 1, rfl, .inr ⟨SqT.of (z2 _ _ hb), SqT.of upd_same, fun D2 hD2 => ?_⟩⟩
          have hD20 : H D2 = none := z2.free hD2
          have hDt : t1 ≠ D2 := fun e => by
            rw [← e, upd_same] at hD2
            cases hD2
          refine lcm_zip (R := BlAt) (zs := (xs.drop 1).map fun _ => true) (Z := fun H3 => Same H H3 ∧ H3 t1 = some (.tup (xs.drop 1))) mono_bl hD2 ⟨Same.upd' z2 hD20 _, by rw [upd_ne hDt, upd_same]⟩
            (fun H3 l2 o2 q e => ⟨Same.upd' q.1 hD20 _, by rw [upd_ne (ne_of q.2 e (fun z => nomatch z))]; exact q.2⟩) (fun H3 T o q e => ⟨Same.upd' q.1 (q.1.free e) _, by rw [upd_ne (ne_of_none q.2 e)]; exact q.2⟩)
            (fun H3 q => SqT.of (q.1 b _ hb)) (fun H3 q => SqT.of q.2) (by simp) (by rw [List.length_drop]; omega) (by omega) (fun x y => rfl) ?_ ?_
          · rintro j x y c H3 hx hy hc q Q2 kq
            rw [List.getElem?_drop, Nat.add_comm] at hy
            obtain ⟨p, he1, pa, rfl, he2⟩ := pget' hp hx
            obtain ⟨p2, he3, pb, rfl, he4⟩ := pget' hp hy
            have hct : c = true := by
              rw [List.getElem?_map] at hc
              cases e : (xs.drop 1)[j]? with
              | none => rw [e] at hc; cases hc
              | some u => rw [e] at hc; exact (Option.some.inj hc).symm
            subst hct
            refine ⟨_, rfl, _, rfl, pa, pb, [p.1, p.2], [p2.1, p2.2], rfl, rfl, SqT.of (q.1 _ _ he2), SqT.of (q.1 _ _ he4), ?_⟩
            rw [lex2, decide_eq_true (asc_at ho.asc he1 he3)]
            exact kq _ H3 q (TK.refl _) rfl rfl
          · rintro H3 vs2 q hv2 hpv2
            rw [bl_map hpv2] at hv2
            refine ⟨D2, _, rfl, SqL.of hv2, ?_⟩
            rw [all_true]
            exact k H3 q.1
def spChDb (C : Addr) : Sp := fun vs H Q _ => ∃ (a : Addr) (w : Nat) (sh : Shf) (v : V) (d : List Pr), vs = [.ref a, v] ∧ ShfAt C H a w sh ∧ DbAt H v d ∧ DbOk sh d ∧ d.length ≤ 8 ∧ ∀ H', Same H H' → Q .non H'
theorem scChDb : FnScope ["shelf", "doubt"] ["shelf", "doubt"] (defScope s_check_doubt) := ⟨rfl, rfl, rfl, by decide +kernel, rfl, by decide +kernel, by decide +kernel⟩
theorem ok_check_doubt (T : Top P K mg) : FnOk P w K mg base CX0 12 T.d_check_doubt.f T.d_check_doubt.fd ["shelf", "doubt"] (spChDb T.cSh) := by
  refine T.d_check_doubt.F.ok scChDb (fun vs H Q E h => ?_) (fun cdv A outer s H vs Q E hr h => ?_)
  · obtain ⟨a, w, sh, v, p, rfl, _⟩ := h
    rfl
  · obtain ⟨a, w, sh, v, d, rfl, hs, hd, ho, h8, k⟩ := h
    have hr10 : Room 10 _ := hr.mono (by decide)
    have hr3 : Room 3 _ := hr.mono (by decide)
    refine ⟨_, pss_cons (ps_expr (pcall T.d_check_shelf (ok_check_shelf T) hr3 (by rfl) (pa_cons (pv 0) pa_nil)))
      (pss_one (ps_if (pt_not (pt_val (pcall T.d_is_doubt (ok_is_doubt T) hr10 (by rfl) (pa_cons (pv 0) (pa_cons (pv 1) pa_nil))))) pss_never pss_nil)), ?_⟩
    exact ⟨_, rfl, a, w, sh, rfl, hs, _, rfl, _, rfl, a, w, sh, v, d, rfl, hs, hd, ho, h8, fun H' s' => ⟨true, rfl, iteF (k H' s')⟩⟩
/-! ### is_safe -/
def spSafe (C : Addr) : Sp := fun vs H Q _ => ∃ (a : Addr) (w : Nat) (sh : Shf) (v : V) (d : List Pr) (c : Int), vs = [.ref a, v, .int c] ∧ ShfAt C H a w sh ∧ DbAt H v d ∧ (∀ p ∈ d, PrOk sh p) ∧ d.length ≤ 8 ∧ 0 ≤ c ∧ c < w ∧ ∀ H', Same H H' → Q (.bl (safe sh d c)) H'
theorem scSafe : FnScope ["shelf", "doubt", "command", "pair"] ["shelf", "doubt", "command"] (defScope s_is_safe) := ⟨rfl, rfl, rfl, by decide +kernel, rfl, by decide +kernel, by decide +kernel⟩
theorem ok_is_safe (T : Top P K mg) : FnOk P w K mg base CX0 6 T.d_is_safe.f T.d_is_safe.fd ["shelf", "doubt", "command"] (spSafe T.cSh) := by
  refine T.d_is_safe.F.ok scSafe (fun vs H Q E h => ?_) (fun cdv A outer s H vs Q E hr h => ?_)
  · obtain ⟨a, w, sh, v, p, c, rfl, _⟩ := h
    rfl
  · obtain ⟨a, w, sh, v, d, c, rfl, hs, hd, ho, h8, h0, hc, k⟩ := h
    have hr3 : Room 3 _ := hr.mono (by decide)
    refine ⟨_, pss_one (ps_ret (pe_callB (cr_all rfl) (by rfl) T.b_all bo_all (pa_cons (pe_lc (own := [("pair", 3)]) (g := gName 3) (tt := tYes) rfl scSafe.nd (pi_tup (pv 1)) (blkOk_by (N := ["shelf", "doubt", "command", "pair"]) (sc := defScope s_is_safe) (by decide +kernel))
            (fun _ _ _ _ _ => pg_name (i := 3) scSafe.nd rfl (Or.inl rfl)) (fun _ _ _ _ _ => pts_nil)
            (fun _ _ _ _ _ => pe_cmpR op_notN (pcall T.d_entry_at (ok_entry_at T) hr3 (by rfl) (pa_cons (pv 0) (pa_cons (pv 3) (pa_cons (pv 2) pa_nil)))) pe_non (nomark _))) pa_nil))), ?_⟩
    obtain ⟨b, xs, rfl, hb, hp⟩ := id hd
    have hl := Paired.length hp
    refine ⟨_, rfl, b, rfl, ⟨_, SqT.of hb⟩, fun D hD => ?_⟩
    refine lcm_tup (R := BlAt) (ys := d.map fun p => (ent sh p c).isSome) (Z := fun H2 => Same H H2) mono_bl hD (Same.new hD) (fun H2 l2 o2 z e => Same.upd' z hD _) (fun H2 z => SqT.of (z b _ hb)) (by simp [hl]) (by omega) (fun x => rfl) ?_ ?_
    · rintro j x y H2 hj hy z Q2 kq
      obtain ⟨p, he1, he2⟩ := pget' hp hj
      have hyt : y = (ent sh p c).isSome := by
        rw [List.getElem?_map, he1] at hy
        exact (Option.some.inj hy).symm
      subst hyt
      refine ⟨_, rfl, _, rfl, _, rfl, a, w, sh, x, p, c, rfl, hs.keep (Chg.same z), mono_pr _ _ _ _ (TK.same z) he2, ho p (List.mem_of_getElem? he1), h0, hc, fun r hr => ⟨rfl, ?_⟩⟩
      refine kq _ H2 z (TK.refl _) rfl ?_
      show V.bl (!decide (r = .non)) = V.bl (ent sh p c).isSome
      cases e : ent sh p c with
      | none =>
        rw [e] at hr
        rw [show r = .non from hr]
        rfl
      | some q =>
        rw [e] at hr
        obtain ⟨aq, rfl, _⟩ := hr
        rfl
    · rintro H2 vs z hv hpv
      rw [bl_map hpv] at hv
      refine ⟨D, _, rfl, SqL.of hv, ?_⟩
      rw [List.all_map]
      exact k H2 z
/-! ### is_command -/
def spIsCo (C : Addr) : Sp := fun vs H Q _ => ∃ (a : Addr) (w : Nat) (sh : Shf) (c : Int), vs = [.ref a, .int c] ∧ ShfAt C H a w sh ∧ Q (.bl (decide (0 ≤ c ∧ c < w))) H
theorem scIsCo : FnScope ["shelf", "value"] ["shelf", "value"] (defScope s_is_command) := ⟨rfl, rfl, rfl, by decide +kernel, rfl, by decide +kernel, by decide +kernel⟩
theorem ok_is_command (T : Top P K mg) : FnOk P w K mg base CX0 6 T.d_is_command.f T.d_is_command.fd ["shelf", "value"] (spIsCo T.cSh) := by
  refine T.d_is_command.F.ok scIsCo (fun vs H Q E h => ?_) (fun cdv A outer s H vs Q E hr h => ?_)
  · obtain ⟨a, w, sh, c, rfl, _⟩ := h
    rfl
  · obtain ⟨a, w, sh, c, rfl, hs, k⟩ := h
    have hr3 : Room 3 _ := hr.mono (by decide)
    refine ⟨_, pss_one (ps_ret (pcall T.d_is_integer (ok_is_integer T) hr3 (by rfl) (pa_cons (pv 1) (pa_cons pe_int (pa_cons (pe_op op_sub (pe_sl (pv 0)) pe_int) pa_nil))))), ?_⟩
    obtain ⟨dx, r, hS, _⟩ := hs.slt
    refine ⟨_, rfl, _, rfl, a, T.cSh, dx, T.pMn, _, 0, _, rfl, hS, T.shC, T.shN, rfl, _, _, rfl, rfl, c, 0, (w : Int) - 1, rfl, ?_⟩
    rw [show decide (0 ≤ c ∧ c ≤ (w : Int) - 1) = decide (0 ≤ c ∧ c < (w : Int)) by
      by_cases h : 0 ≤ c ∧ c < (w : Int)
      · rw [decide_eq_true h, decide_eq_true (by omega)]
      · rw [decide_eq_false h, decide_eq_false (by omega)]]
    exact k
/-! ### check_row -/
def spChRow (C : Addr) : Sp := fun vs H Q _ => ∃ (a : Addr) (w : Nat) (sh : Shf) (l : Addr) (cs : List Int), vs = [.ref a, .ref l] ∧ ShfAt C H a w sh ∧ (H l = some (.lst (cs.map V.int)) ∨ H l = some (.tup (cs.map V.int))) ∧ cs.length ≤ 8 ∧ (∀ c ∈ cs, 0 ≤ c ∧ c < w) ∧ ∀ H', Same H H' → Q .non H'
theorem scChRow : FnScope ["shelf", "commands", "index", "command"] ["shelf", "commands"] (defScope s_check_row) := ⟨rfl, rfl, rfl, by decide +kernel, rfl, by decide +kernel, by decide +kernel⟩
theorem int_at {cs : List Int} {i : Nat} {x : V} (h : (cs.map V.int)[i]? = some x) : ∃ c, cs[i]? = some c ∧ x = .int c := by
  rw [List.getElem?_map] at h
  cases e : cs[i]? with
  | none => rw [e] at h; cases h
  | some c => rw [e] at h; exact ⟨c, rfl, (Option.some.inj h).symm⟩
theorem ok_check_row (T : Top P K mg) : FnOk P w K mg base CX0 9 T.d_check_row.f T.d_check_row.fd ["shelf", "commands"] (spChRow T.cSh) := by
  refine T.d_check_row.F.ok scChRow (fun vs H Q E h => ?_) (fun cdv A outer s H vs Q E hr h => ?_)
  · obtain ⟨a, w, sh, l, c, rfl, _⟩ := h
    rfl
  · obtain ⟨a, w, sh, l, cs, rfl, hs, hl, h8, ho, k⟩ := h
    have hr6 : Room 6 _ := hr.mono (by decide)
    obtain ⟨t8, ht8⟩ := T.MAX_ROW
    refine ⟨_, pss_cons (ps_if (pw_or (pt_not (pt_val (pe_callB call_isiT (by rfl) T.b_isinstance bo_isinstance (pa_cons (pv 1) (pa_cons (pe_tup (pa_cons (pe_bltn (by rfl) T.b_list bo_list (v := .ty "list") rfl) (pa_cons (pe_bltn (by rfl) T.b_tuple bo_tuple (v := .ty "tuple") rfl) pa_nil))) pa_nil)))))
        (pw_or1 (pt_cmpR op_gt (pe_callB call_len_seq (by rfl) T.b_len bo_len (pa_cons (pv 1) pa_nil)) (pe_glob (by rfl) ht8 (v := .int 8) ⟨_, rfl⟩) (nomark _)))).pt pss_never pss_nil)
      (pss_one (ps_for PassesOwn.never rfl (pi_enum2 (by rfl) T.b_enumerate (pa_cons (pv 1) pa_nil)) (pg_tupK (K := K) rfl rfl (pgs_cons (pg_name (i := 2) scChRow.nd rfl (Or.inl rfl)) (pgs_cons (pg_name (i := 3) scChRow.nd rfl (Or.inl rfl)) pgs_nil)))
        (pss_one (ps_if (pt_not (pt_val (pcall T.d_is_command (ok_is_command T) hr6 (by rfl) (pa_cons (pv 0) (pa_cons (pv 3) pa_nil))))) pss_never pss_nil)))), ?_⟩
    refine ⟨_, rfl, (by show 2 ≤ sizeLine; decide), fun tp htp => ?_⟩
    have s1 : Same H (upd H tp (.tup [.ty "list", .ty "tuple"])) := Same.new htp
    have body : ∀ (i : Nat) (x : V) (σ : L2.St) (H' : Hp) (T' : Addr), (cs.map V.int)[i]? = some x → (∃ o1 o2 : Option V, σ = [some (.ref a), some (.ref l), o1, o2] ∧ Same H H') → H' T' = none →
        gPair K 2 3 (.ref T') σ (upd H' T' (.tup [.int (i : Nat), x])) fun σ2 H2 => (tIfS (tNot (tB (tCall (spIsCo T.cSh) [] E0 (tCons (tVar 0) (tCons (tVar 3) tNil))))) tNever tNext) { nx := fun σ H' => ∃ o1 o2 : Option V, σ = [some (.ref a), some (.ref l), o1, o2] ∧ Same H H', ct := fun σ H' => ∃ o1 o2 : Option V, σ = [some (.ref a), some (.ref l), o1, o2] ∧ Same H H', bk := fun _ H' => Q .non H', rt := Q } σ2 H2 := by
      rintro i x σ H' T' hx ⟨o1, o2, rfl, sm⟩ hT'
      obtain ⟨c, hc1, rfl⟩ := int_at hx
      have sm2 : Same H (upd H' T' (.tup [.int (i : Nat), .int c])) := Same.upd' sm (sm.free hT') _
      refine g_pair upd_same ⟨_, rfl, _, rfl, a, w, sh, c, rfl, hs.keep (Chg.same sm2), true, ?_, iteF ⟨_, _, rfl, sm2⟩⟩
      rw [decide_eq_true (ho c (List.mem_of_getElem? hc1))]
    rcases hl with hl | hl
    · refine ⟨.ref l, tp, _, .type "list", [.type "list", .type "tuple"], true, rfl, upd_same, .cons (.ty _) (.cons (.ty _) .nil), .base (.lst (s1 _ _ hl)), kitAny_cons (b := true) (kit_ty (by decide +kernel)) (fun z => nomatch z) (fun _ => rfl), true, rfl, iteF ?_⟩
      refine ⟨_, rfl, l, _, rfl, .inl (SqL.of (s1 _ _ hl)), _, _, rfl, rfl, _, rfl, ?_⟩
      rw [decide_eq_false (show ¬ ((8 : Int) < ((cs.map V.int).length : Nat)) by rw [List.length_map]; omega)]
      refine iteF ⟨_, rfl, l, _, rfl, .inl ⟨SqL.of (s1 _ _ hl), for_enumL (K := K) (a := l) (xs := cs.map V.int) (fun i σ H' => ∃ o1 o2 : Option V, σ = [some (.ref a), some (.ref l), o1, o2] ∧ Same H H') ⟨none, none, rfl, s1⟩ (fun i σ H' _ ⟨_, _, _, s⟩ => SqL.of (s _ _ hl)) ?_ ?_⟩⟩
      · intro i x σ H' T' hx hP hT'
        exact body i x σ H' T' hx hP hT'
      · rintro σ H' ⟨o1, o2, rfl, sm⟩
        exact k H' sm
    · refine ⟨.ref l, tp, _, .type "tuple", [.type "list", .type "tuple"], true, rfl, upd_same, .cons (.ty _) (.cons (.ty _) .nil), .base (.tup (s1 _ _ hl)), kitAny_cons (b := false) (kit_ty (by decide +kernel)) (fun _ => kitAny_cons (b := true) (kit_ty (by decide +kernel)) (fun z => nomatch z) (fun _ => rfl)) (fun z => nomatch z), true, rfl, iteF ?_⟩
      refine ⟨_, rfl, l, _, rfl, .inr (SqT.of (s1 _ _ hl)), _, _, rfl, rfl, _, rfl, ?_⟩
      rw [decide_eq_false (show ¬ ((8 : Int) < ((cs.map V.int).length : Nat)) by rw [List.length_map]; omega)]
      refine iteF ⟨_, rfl, l, _, rfl, .inr ⟨SqT.of (s1 _ _ hl), for_enumT (K := K) (a := l) (xs := cs.map V.int) (fun i σ H' => ∃ o1 o2 : Option V, σ = [some (.ref a), some (.ref l), o1, o2] ∧ Same H H') ⟨none, none, rfl, s1⟩ (fun i σ H' _ ⟨_, _, _, s⟩ => SqT.of (s _ _ hl)) ?_ ?_⟩⟩
      · intro i x σ H' T' hx hP hT'
        exact body i x σ H' T' hx hP hT'
      · rintro σ H' ⟨o1, o2, rfl, sm⟩
        exact k H' sm
end
end WF
end

section
set_option Elab.async false
set_option linter.all false
set_option maxRecDepth 100000
set_option maxHeartbeats 4000000
/-! Whichfirm: the program's defs, 5: dicts of dicts. -/
namespace WF
open PySem PySem.Spec PyProof.Rows L2 SlX RZ
/-! ### the dict of dicts -/
def kvOf (ks : List Int) (ad : Int → Addr) : List (Key × V) := ks.map fun r => (Sum.inl r, V.ref (ad r))
theorem kvOf_len (ks : List Int) (ad : Int → Addr) : (kvOf ks ad).length = ks.length := List.length_map ..
theorem valV_kvOf (ad : Int → Addr) (r : Int) : ∀ ks : List Int, valV (kvOf ks ad) (Sum.inl r : Key) = if r ∈ ks then some (.ref (ad r)) else none
  | [] => rfl
  | k :: ks => by
    by_cases e : k = r
    · subst e
      rw [if_pos List.mem_cons_self]
      exact valV_pos (p := ((Sum.inl k : Key), V.ref (ad k))) rfl
    · have n : ¬ (Sum.inl k : Key) = Sum.inl r := fun z => e (Sum.inl.inj z)
      show valV ((Sum.inl k, V.ref (ad k)) :: kvOf ks ad) _ = _
      rw [valV_neg (p := ((Sum.inl k : Key), V.ref (ad k))) n, valV_kvOf ad r ks]
      by_cases m : r ∈ ks
      · rw [if_pos m, if_pos (List.mem_cons_of_mem _ m)]
      · rw [if_neg m, if_neg (fun z => (List.mem_cons.mp z).elim (fun y => e y.symm) m)]
theorem kvOf_congr {ad ad' : Int → Addr} {ks : List Int} (h : ∀ r ∈ ks, ad r = ad' r) : kvOf ks ad = kvOf ks ad' := List.map_congr_left fun r hr => by rw [h r hr]
def setA (ad : Int → Addr) (r : Int) (q : Addr) : Int → Addr := fun x => if x = r then q else ad x
theorem setA_eq {ad : Int → Addr} {r : Int} {q : Addr} : setA ad r q r = q := if_pos rfl
theorem setA_ne {ad : Int → Addr} {r x : Int} {q : Addr} (h : x ≠ r) : setA ad r q x = ad x := if_neg h
def addR (ks : List Int) (r : Int) : List Int := if r ∈ ks then ks else ks ++ [r]
theorem kvOf_put (ks : List Int) (ad : Int → Addr) (r : Int) (q : Addr) : putK (kvOf ks ad) (Sum.inl r : Key) (V.ref q) = kvOf (addR ks r) (setA ad r q) := by
  unfold addR
  by_cases m : r ∈ ks
  · rw [if_pos m]
    unfold putK
    rw [valV_any, valV_kvOf, if_pos m]
    rw [if_pos (show (Option.some (V.ref (ad r))).isSome = true from rfl)]
    unfold kvOf
    rw [List.map_map]
    refine List.map_congr_left fun x hx => ?_
    show (if (Sum.inl x : Key) = Sum.inl r then ((Sum.inl x : Key), V.ref q) else (Sum.inl x, V.ref (ad x))) = (Sum.inl x, V.ref (setA ad r q x))
    by_cases e : x = r
    · subst e
      rw [if_pos rfl, setA_eq]
    · rw [if_neg (fun z => e (Sum.inl.inj z)), setA_ne e]
  · rw [if_neg m, putK_new _ (by rw [valV_kvOf, if_neg m])]
    unfold kvOf
    rw [List.map_append]
    congr 1
    · refine List.map_congr_left fun x hx => ?_
      rw [setA_ne (fun z : x = r => m (by rw [← z]; exact hx))]
    · show [((Sum.inl r : Key), V.ref q)] = [((Sum.inl r : Key), V.ref (setA ad r q r))]
      rw [setA_eq]
/-- the replies that came, each with the dict of its pairs -/
structure Grp (H : Hp) (f : Addr) (sh : Shf) (c : Int) (pre : List Pr) (ks : List Int) (ad : Int → Addr) : Prop where
  fd : H f = some (.dK (kvOf ks ad))
  nd : ks.Nodup
  mem : ∀ r, r ∈ ks ↔ ∃ p ∈ pre, ∃ n, ent sh p c = some (r, n)
  at_ : ∀ r ∈ ks, H (ad r) = some (.dT (dtOf (bag sh c r [] pre)))
  inj : ∀ r ∈ ks, ∀ r' ∈ ks, ad r = ad r' → r = r'
  len : ks.length ≤ pre.length
theorem bag_same {sh : Shf} {c r : Int} {pre : List Pr} {p : Pr} {n : Int} (e : ent sh p c = some (r, n)) : bag sh c r [] (pre ++ [p]) = addK (bag sh c r [] pre) (p.1, n) := by
  rw [bag_snoc]
  unfold bagS
  rw [e]
  exact if_pos rfl
theorem bag_other {sh : Shf} {c r r' : Int} {pre : List Pr} {p : Pr} {n : Int} (e : ent sh p c = some (r, n)) (h : r' ≠ r) : bag sh c r' [] (pre ++ [p]) = bag sh c r' [] pre := by
  rw [bag_snoc]
  unfold bagS
  rw [e]
  exact if_neg (fun z => h z.symm)
theorem bag_none {sh : Shf} {c r : Int} {pre : List Pr} (h : ¬ ∃ p ∈ pre, ∃ n, ent sh p c = some (r, n)) : bag sh c r [] pre = [] := by
  refine List.eq_nil_iff_forall_not_mem.mpr fun x hx => h ?_
  rcases (mem_bag sh c r x pre []).mp hx with q | ⟨p, hp, n, e, _⟩
  · cases q
  · exact ⟨p, hp, n, e⟩
theorem mem_addR {ks : List Int} {r x : Int} : x ∈ addR ks r ↔ x ∈ ks ∨ x = r := by
  unfold addR
  split
  · rename_i h
    exact ⟨.inl, fun z => z.elim id fun e => e ▸ h⟩
  · rw [List.mem_append, List.mem_singleton]
theorem nd_addR {ks : List Int} {r : Int} (h : ks.Nodup) : (addR ks r).Nodup := by
  unfold addR
  split
  · exact h
  · rename_i hk
    rw [List.nodup_append]
    refine ⟨h, by simp, fun a ha b hb e => ?_⟩
    rw [List.mem_singleton] at hb
    subst hb; subst e
    exact hk ha
theorem Grp.mem_snoc {H : Hp} {f : Addr} {sh : Shf} {c : Int} {pre : List Pr} {ks : List Int} {ad : Int → Addr} (g : Grp H f sh c pre ks ad) {p : Pr} {r n : Int} (e : ent sh p c = some (r, n)) (x : Int) :
    x ∈ addR ks r ↔ ∃ q ∈ pre ++ [p], ∃ n, ent sh q c = some (x, n) := by
  rw [mem_addR, g.mem]
  constructor
  · rintro (⟨q, hq, m, eq⟩ | rfl)
    · exact ⟨q, List.mem_append_left _ hq, m, eq⟩
    · exact ⟨p, List.mem_append_right _ (List.mem_singleton.mpr rfl), n, e⟩
  · rintro ⟨q, hq, m, eq⟩
    rcases List.mem_append.mp hq with hq | hq
    · exact .inl ⟨q, hq, m, eq⟩
    · rw [List.mem_singleton.mp hq, e] at eq
      cases eq
      exact .inr rfl
/-- a further pair, its reply's dict is written -/
theorem Grp.old {H Hf : Hp} {f : Addr} {sh : Shf} {c : Int} {pre : List Pr} {ks : List Int} {ad : Int → Addr} (g : Grp H f sh c pre ks ad) {p : Pr} {r n : Int} (e : ent sh p c = some (r, n)) (hr : r ∈ ks)
    (h1 : Hf f = H f) (h2 : Hf (ad r) = some (.dT (dtOf (addK (bag sh c r [] pre) (p.1, n))))) (h3 : ∀ r' ∈ ks, r' ≠ r → Hf (ad r') = H (ad r')) : Grp Hf f sh c (pre ++ [p]) ks ad where
  fd := h1.trans g.fd
  nd := g.nd
  mem := fun x => by
    have q := g.mem_snoc e x
    unfold addR at q
    rw [if_pos hr] at q
    exact q
  at_ := fun x hx => by
    by_cases ex : x = r
    · subst ex
      rw [h2, bag_same e]
    · rw [h3 x hx ex, g.at_ x hx, bag_other e ex]
  inj := g.inj
  len := by
    have := g.len
    rw [List.length_append]
    omega
/-- .. is made anew -/
theorem Grp.put {H Hf : Hp} {f q : Addr} {sh : Shf} {c : Int} {pre : List Pr} {ks : List Int} {ad : Int → Addr} (g : Grp H f sh c pre ks ad) {p : Pr} {r n : Int} (e : ent sh p c = some (r, n))
    (h1 : Hf f = some (.dK (putK (kvOf ks ad) (Sum.inl r : Key) (V.ref q)))) (h2 : Hf q = some (.dT (dtOf (addK (bag sh c r [] pre) (p.1, n))))) (h3 : ∀ r' ∈ ks, r' ≠ r → Hf (ad r') = H (ad r') ∧ ad r' ≠ q) : Grp Hf f sh c (pre ++ [p]) (addR ks r) (setA ad r q) where
  fd := by rw [h1, kvOf_put]
  nd := nd_addR g.nd
  mem := g.mem_snoc e
  at_ := fun x hx => by
    by_cases ex : x = r
    · subst ex
      rw [setA_eq, h2, bag_same e]
    · have hx' : x ∈ ks := (mem_addR.mp hx).resolve_right ex
      rw [setA_ne ex, (h3 x hx' ex).1, g.at_ x hx', bag_other e ex]
  inj := fun x hx y hy z => by
    by_cases ex : x = r <;> by_cases ey : y = r
    · exact ex.trans ey.symm
    · rw [ex, setA_eq, setA_ne ey] at z
      exact absurd z.symm (h3 y ((mem_addR.mp hy).resolve_right ey) ey).2
    · rw [ey, setA_eq, setA_ne ex] at z
      exact absurd z (h3 x ((mem_addR.mp hx).resolve_right ex) ex).2
    · rw [setA_ne ex, setA_ne ey] at z
      exact g.inj x ((mem_addR.mp hx).resolve_right ex) y ((mem_addR.mp hy).resolve_right ey) z
  len := by
    have := g.len
    rw [List.length_append, List.length_singleton]
    unfold addR
    split
    · omega
    · rw [List.length_append, List.length_singleton]
      omega
theorem Grp.same {H Hf : Hp} {f : Addr} {sh : Shf} {c : Int} {pre : List Pr} {ks : List Int} {ad : Int → Addr} (g : Grp H f sh c pre ks ad) (s : Same H Hf) : Grp Hf f sh c pre ks ad :=
  ⟨s _ _ g.fd, g.nd, g.mem, fun r hr => s _ _ (g.at_ r hr), g.inj, g.len⟩
theorem Grp.nil {H : Hp} {f : Addr} {sh : Shf} {c : Int} {ad : Int → Addr} (h : H f = some (.dK [])) : Grp H f sh c [] [] ad :=
  ⟨h, List.nodup_nil, fun r => ⟨fun z => absurd z (by simp), fun ⟨p, hp, _⟩ => absurd hp (by simp)⟩, fun r hr => absurd hr (by simp), fun r hr => absurd hr (by simp), Nat.le_refl _⟩
end WF
end

section
set_option Elab.async false
set_option linter.all false
set_option maxRecDepth 100000
set_option maxHeartbeats 4000000
/-! Whichfirm: the program's defs, 6: is_told, parts_after. -/
namespace WF
open PySem PySem.Spec PyProof.Rows L2 SlX RZ
theorem dc_lst {K : PySem.W.Frag} {a : Addr} {xs : List V} {g : TG} {tt : TT} {tk tv : TE} {vs : List Nat} {σ : L2.St} {H1 : Hp} {D : Addr} {Qd : Hp → Prop} (Pv : Nat → Hp → Prop) (h0 : Pv 0 (upd H1 D (.dK []))) (hl : ∀ i H, i ≤ xs.length → Pv i H → SqL K H a xs)
    (hs : ∀ i x H, xs[i]? = some x → Pv i H → g x (wipe σ vs) H fun σ2 H2 => wipe σ2 vs = wipe σ vs ∧ tt σ2 H2 fun b H3 =>
      if b = true then tk σ2 H3 fun y H4 => tv σ2 H4 fun z H5 => ∃ kvs k, y = kV k ∧ H5 D = some (.dK kvs) ∧ kvs.length < sizeLine ∧ Pv (i + 1) (upd H5 D (.dK (putK kvs k z))) else Pv (i + 1) H3) (hd : ∀ H, Pv xs.length H → Qd H) :
    ∃ W : Nat → Nat → Hp → Prop, (∃ m, W 0 m (upd H1 D (.dK []))) ∧ ∀ i m H, W i m H →
      ((Itl K a).stop i H ∧ Qd H) ∨ ((Itl K a).go i H ∧ ∃ Nx : Hp → Prop, (∀ H', Nx H' → ∃ m', m' < m ∧ W (i + 1) m' H') ∧ ∀ x H', (Itl K a).yld i H x H' → g x (wipe σ vs) H' fun σ2 H2 => wipe σ2 vs = wipe σ vs ∧ tt σ2 H2 fun b H3 =>
        if b = true then tk σ2 H3 fun y H4 => tv σ2 H4 fun z H5 => ∃ kvs k, y = kV k ∧ H5 D = some (.dK kvs) ∧ kvs.length < sizeLine ∧ Nx (upd H5 D (.dK (putK kvs k z))) else Nx H3) := by
  refine ⟨fun i m H => m = xs.length - i ∧ i ≤ xs.length ∧ Pv i H, ⟨xs.length, by simp, Nat.zero_le _, h0⟩, ?_⟩
  rintro i m H ⟨rfl, hi, p⟩
  have q := hl i H hi p
  by_cases hlt : i < xs.length
  · refine .inr ⟨⟨xs, xs[i], q, by simp [hlt]⟩, Pv (i + 1), fun H' p' => ⟨xs.length - (i + 1), by omega, rfl, hlt, p'⟩, fun x H' y => ?_⟩
    obtain ⟨e, y⟩ := y
    subst e
    exact hs i x _ (y xs q) p
  · have e : i = xs.length := by omega
    subst e
    exact .inl ⟨⟨xs, q, Nat.le_refl _⟩, hd H p⟩
theorem call_tuple_ofK {X : Cx} {K : PySem.W.Frag} (h : X.K = K) : CallR X (.type "tuple") (fun xs H Q => ∃ p ys, xs = [.ref p] ∧ ((SqL K H p ys ∧ ∀ l, H l = none → Q (.ref l) (upd H l (.tup ys))) ∨ (SqT K H p ys ∧ Q (.ref p) H))) := by
  subst h
  exact call_tuple_of
section
variable {P : Program} {w : World} {K : PySem.W.Frag} {mg : Str → Option Value} {base : Heap}
/-! ### is_told -/
/-- the editions, in the order of their coming -/
def edns (d : List Pr) : List Int := d.foldl (fun l p => addR l p.1) []
theorem edns_snoc (d : List Pr) (p : Pr) : edns (d ++ [p]) = addR (edns d) p.1 := by
  unfold edns
  rw [List.foldl_append]
  rfl
theorem mem_ednsG (x : Int) : ∀ (d : List Pr) (acc : List Int), x ∈ d.foldl (fun l p => addR l p.1) acc ↔ x ∈ acc ∨ ∃ p ∈ d, p.1 = x
  | [], acc => by simp
  | p :: d, acc => by
    rw [List.foldl_cons, mem_ednsG x d, mem_addR]
    constructor
    · rintro ((h | rfl) | ⟨q, hq, e⟩)
      · exact .inl h
      · exact .inr ⟨p, List.mem_cons_self, rfl⟩
      · exact .inr ⟨q, List.mem_cons_of_mem _ hq, e⟩
    · rintro (h | ⟨q, hq, e⟩)
      · exact .inl (.inl h)
      · rcases List.mem_cons.mp hq with rfl | hq
        · exact .inl (.inr e.symm)
        · exact .inr ⟨q, hq, e⟩
theorem mem_edns (d : List Pr) (x : Int) : x ∈ edns d ↔ ∃ p ∈ d, p.1 = x := by
  unfold edns
  rw [mem_ednsG]
  simp
theorem nd_ednsG : ∀ (d : List Pr) (acc : List Int), acc.Nodup → (d.foldl (fun l p => addR l p.1) acc).Nodup
  | [], _, h => h
  | p :: d, acc, h => nd_ednsG d _ (nd_addR h)
theorem one_edn {d : List Pr} (hne : d ≠ []) : decide ((edns d).length = 1) = told d := by
  have hn : (edns d).Nodup := nd_ednsG d [] List.nodup_nil
  obtain ⟨p, d', rfl⟩ := List.exists_cons_of_ne_nil hne
  by_cases h : told (p :: d') = true
  · rw [h]
    have ha : ∀ q ∈ p :: d', q.1 = p.1 := fun q hq => of_decide_eq_true (List.all_eq_true.mp h q hq)
    have hm : ∀ x ∈ edns (p :: d'), x = p.1 := fun x hx => by
      obtain ⟨q, hq, e⟩ := (mem_edns _ _).mp hx
      rw [← e]
      exact ha q hq
    have hp : p.1 ∈ edns (p :: d') := (mem_edns _ _).mpr ⟨p, List.mem_cons_self, rfl⟩
    refine decide_eq_true ?_
    match e : edns (p :: d'), hn, hm, hp with
    | [], _, _, hp => cases hp
    | [x], _, _, _ => rfl
    | x :: y :: l, hn, hm, _ =>
      exfalso
      have e1 := hm x List.mem_cons_self
      have e2 := hm y (List.mem_cons_of_mem _ List.mem_cons_self)
      rw [List.nodup_cons] at hn
      exact hn.1 (by rw [e1, ← e2]; exact List.mem_cons_self)
  · rw [Bool.eq_false_iff.mpr h]
    refine decide_eq_false fun z => h ?_
    refine List.all_eq_true.mpr fun q hq => decide_eq_true ?_
    show q.1 = p.1
    have h1 : p.1 ∈ edns (p :: d') := (mem_edns _ _).mpr ⟨p, List.mem_cons_self, rfl⟩
    have h2 : q.1 ∈ edns (p :: d') := (mem_edns _ _).mpr ⟨q, hq, rfl⟩
    match e : edns (p :: d'), z, h1, h2 with
    | [x], _, h1, h2 => rw [List.mem_singleton.mp h1, List.mem_singleton.mp h2]
def edK (ks : List Int) : List (Key × V) := ks.map fun r => (Sum.inl r, V.bl true)
theorem edK_put (ks : List Int) (r : Int) : putK (edK ks) (Sum.inl r : Key) (V.bl true) = edK (addR ks r) := by
  have hv : ∀ ks : List Int, valV (edK ks) (Sum.inl r : Key) = if r ∈ ks then some (.bl true) else none := fun ks => by
    induction ks with
    | nil => rfl
    | cons k ks ih =>
      show valV ((Sum.inl k, V.bl true) :: edK ks) _ = _
      by_cases e : k = r
      · subst e
        rw [if_pos List.mem_cons_self]
        exact valV_pos (p := ((Sum.inl k : Key), V.bl true)) rfl
      · rw [valV_neg (p := ((Sum.inl k : Key), V.bl true)) (fun z => e (Sum.inl.inj z)), ih]
        by_cases m : r ∈ ks
        · rw [if_pos m, if_pos (List.mem_cons_of_mem _ m)]
        · rw [if_neg m, if_neg (fun z => (List.mem_cons.mp z).elim (fun y => e y.symm) m)]
  unfold addR
  by_cases m : r ∈ ks
  · rw [if_pos m]
    unfold putK
    rw [valV_any, hv, if_pos m]
    rw [if_pos (show (Option.some (V.bl true)).isSome = true from rfl)]
    unfold edK
    rw [List.map_map]
    refine List.map_congr_left fun x hx => ?_
    show (if (Sum.inl x : Key) = Sum.inl r then ((Sum.inl x : Key), V.bl true) else (Sum.inl x, V.bl true)) = (Sum.inl x, V.bl true)
    split <;> rfl
  · rw [if_neg m, putK_new _ (by rw [hv, if_neg m])]
    unfold edK
    rw [List.map_append]
    rfl
theorem len_ednsG : ∀ (d : List Pr) (acc : List Int), (d.foldl (fun l p => addR l p.1) acc).length ≤ acc.length + d.length
  | [], _ => Nat.le_refl _
  | p :: d, acc => by
    have h1 := len_ednsG d (addR acc p.1)
    have h2 : (addR acc p.1).length ≤ acc.length + 1 := by
      unfold addR
      split
      · omega
      · rw [List.length_append]
        exact Nat.le_refl _
    rw [List.foldl_cons, List.length_cons]
    omega
def spTold : Sp := fun vs H Q _ => ∃ (v : V) (d : List Pr), vs = [v] ∧ DbAt H v d ∧ d ≠ [] ∧ d.length ≤ 8 ∧ ∀ H', Same H H' → Q (.bl (told d)) H'
theorem scTold : FnScope ["doubt", "edition", "state"] ["doubt"] (defScope s_is_told) := ⟨rfl, rfl, rfl, by decide +kernel, rfl, by decide +kernel, by decide +kernel⟩
theorem ok_is_told (T : Top P K mg) : FnOk P w K mg base CX0 3 T.d_is_told.f T.d_is_told.fd ["doubt"] spTold := by
  refine T.d_is_told.F.ok scTold (fun vs H Q E h => ?_) (fun cdv A outer s H vs Q E hr h => ?_)
  · obtain ⟨v, d, rfl, _⟩ := h
    rfl
  · obtain ⟨v, d, rfl, hd, hne, h8, k⟩ := h
    refine ⟨_, pss_one (ps_ret (pe_cmpR op_eq (pe_callB call_lenD (by rfl) T.b_len bo_len (pa_cons (pe_dc (own := [("edition", 1), ("state", 2)]) (g := gPair K 1 2) (tt := tYes) (tk := tVar 1) (tv := tC (.bl true)) rfl scTold.nd (pi_tup (pv 0)) (blkOk_by (N := ["doubt", "edition", "state"]) (sc := defScope s_is_told) (by decide +kernel))
            (fun _ _ _ _ _ => pg_tupK (K := K) rfl rfl (pgs_cons (pg_name (i := 1) scTold.nd rfl (Or.inl rfl)) (pgs_cons (pg_name (i := 2) scTold.nd rfl (Or.inl rfl)) pgs_nil))) (fun _ _ _ _ _ => pts_nil)
            (fun _ _ _ _ _ => pv 1) (fun _ _ _ _ _ => pe_bl)) pa_nil)) pe_int (nomark _))), ?_⟩
    obtain ⟨b, xs, rfl, hb, hp⟩ := id hd
    have hl := Paired.length hp
    refine ⟨_, rfl, b, rfl, ⟨_, SqT.of hb⟩, fun D hD => ?_⟩
    refine dc_tup (K := K) (a := b) (xs := xs) (fun i H2 => Same H H2 ∧ H2 D = some (.dK (edK (edns (d.take i))))) ⟨Same.new hD, upd_same⟩ (fun i H2 _ q => SqT.of (q.1 _ _ hb)) ?_ ?_
    · rintro i x H2 hx ⟨sm, hv⟩
      obtain ⟨p, he1, a, rfl, he2⟩ := pget' hp hx
      refine g_pair (sm _ _ he2) ⟨rfl, yes_do ?_⟩
      rw [if_pos rfl]
      have e : d.take (i + 1) = d.take i ++ [p] := by rw [List.take_succ, he1]; rfl
      refine ⟨_, rfl, edK (edns (d.take i)), Sum.inl p.1, rfl, hv, ?_, Same.upd' sm hD _, ?_⟩
      · have := len_ednsG (d.take i) []
        rw [List.length_take] at this
        refine small1000 ?_
        unfold edK
        rw [List.length_map]
        show (edns (d.take i)).length ≤ 1000
        unfold edns
        have h0 : ([] : List Int).length = 0 := rfl
        omega
      · rw [upd_same, e, edns_snoc, edK_put]
    · rintro H2 ⟨sm, hv⟩
      rw [List.take_of_length_le (by omega)] at hv
      refine ⟨D, _, rfl, hv, rfl, ?_⟩
      rw [show decide (V.int ((edK (edns d)).length : Nat) = V.int 1) = told d from by
        rw [← one_edn hne]
        unfold edK
        rw [List.length_map]
        by_cases h1 : (edns d).length = 1
        · rw [decide_eq_true h1, h1]
          rfl
        · rw [decide_eq_false h1]
          exact decide_eq_false fun z => h1 (by injection z with z; omega)]
      exact k H2 sm
end
end WF
end

section
set_option Elab.async false
set_option linter.all false
set_option maxRecDepth 100000
set_option maxHeartbeats 4000000
/-! Whichfirm: the program's defs, 7: parts_after. -/
namespace WF
open PySem PySem.Spec PyProof.Rows L2 SlX RZ
/-- a dict from replies to doubts -/
def PartsAt (H : Hp) (q : Addr) (sh : Shf) (d : List Pr) (c : Int) : Prop := ∃ kvs : List (Key × V), H q = some (.dK kvs) ∧ ∀ r : Int, (∃ p ∈ d, ∃ n, ent sh p c = some (r, n)) → ∃ x, valV kvs (Sum.inl r : Key) = some x ∧ DbAt H x (aft sh d c r)
section
variable {P : Program} {w : World} {K : PySem.W.Frag} {mg : Str → Option Value} {base : Heap}
def spParts (C : Addr) : Sp := fun vs H Q _ => ∃ (a : Addr) (w : Nat) (sh : Shf) (v : V) (d : List Pr) (c : Int), vs = [.ref a, v, .int c] ∧ ShfAt C H a w sh ∧ DbAt H v d ∧ (∀ p ∈ d, PrOk sh p) ∧ d.length ≤ 8 ∧ 0 ≤ c ∧ c < w ∧ safe sh d c = true ∧ ∀ H' q, Same H H' → PartsAt H' q sh d c → Q (.ref q) H'
theorem scParts : FnScope ["shelf", "doubt", "command", "found", "pair", "reply", "state"] ["shelf", "doubt", "command"] (defScope s_parts_after) := ⟨rfl, rfl, rfl, by decide +kernel, rfl, by decide +kernel, by decide +kernel⟩
theorem ok_parts_after (T : Top P K mg) : FnOk P w K mg base CX0 6 T.d_parts_after.f T.d_parts_after.fd ["shelf", "doubt", "command"] (spParts T.cSh) := by
  refine T.d_parts_after.F.ok scParts (fun vs H Q E h => ?_) (fun cdv A outer s H vs Q E hr h => ?_)
  · obtain ⟨a, w, sh, v, p, c, rfl, _⟩ := h
    rfl
  · obtain ⟨a, w, sh, v, d, c, rfl, hs, hd, ho, h8, h0, hc, hsf, k⟩ := h
    have hr3 : Room 3 _ := hr.mono (by decide)
    have hu := hu_of hr
    refine ⟨_, pss_cons (ps_set (i := 3) scParts.nd rfl (Or.inr rfl) pe_dnewK)
      (pss_cons (ps_for PassesOwn.never rfl (pi_tup (pv 1)) (pg_name (i := 4) scParts.nd rfl (Or.inl rfl))
        (pss_cons (ps_asg (pcall T.d_entry_at (ok_entry_at T) hr3 (by rfl) (pa_cons (pv 0) (pa_cons (pv 4) (pa_cons (pv 2) pa_nil)))) (pg_tupK (K := K) rfl rfl (pgs_cons (pg_name (i := 5) scParts.nd rfl (Or.inl rfl)) (pgs_cons (pg_name (i := 6) scParts.nd rfl (Or.inl rfl)) pgs_nil))))
        (pss_one (ps_dput hu (pe_dsetd (pv 3) (pv 5) pe_dnewT ⟨by rfl, by rfl, by rfl, by rfl⟩) (pe_tup (pa_cons (pe_ix ix_tup (pv 4) pe_int (fun _ _ => rfl)) (pa_cons (pv 6) pa_nil))) pe_bl rfl))))
      (pss_one (ps_ret (pe_dc (own := [("reply", 5)]) (g := gName 5) (tt := tYes) (tk := tVar 5) rfl scParts.nd (pi_list (pe_callB (call_sortedDI rfl) (by rfl) T.b_sorted bo_sorted (pa_cons (pv 3) pa_nil))) (blkOk_by (N := ["shelf", "doubt", "command", "found", "pair", "reply", "state"]) (sc := defScope s_parts_after) (by decide +kernel))
          (fun _ _ _ _ _ => pg_name (i := 5) scParts.nd rfl (Or.inl rfl)) (fun _ _ _ _ _ => pts_nil) (fun _ _ _ _ _ => pv 5)
          (fun _ _ _ _ _ => pe_callTy (call_tuple_ofK (K := K) rfl) (by rfl) T.b_tuple bo_tuple (pa_cons (pe_callB (call_sortedDT rfl) (by rfl) T.b_sorted bo_sorted (pa_cons (pe_dget hu (pv 3) (pv 5) (fun _ _ => rfl)) pa_nil)) pa_nil)))))), ?_⟩
    obtain ⟨b, xs, rfl, hb, hp⟩ := id hd
    have hl := Paired.length hp
    intro f hf
    have s1 : Same H (upd H f (.dK [])) := Same.new hf
    refine ⟨_, rfl, b, rfl, ⟨_, SqT.of (s1 _ _ hb)⟩, for_tup (K := K) (a := b) (xs := xs)
      (fun i σ H2 => ∃ (o4 o5 o6 : Option V) (ks : List Int) (ad : Int → Addr), σ = [some (.ref a), some (.ref b), some (.int c), some (.ref f), o4, o5, o6] ∧ Same H H2 ∧ Grp H2 f sh c (d.take i) ks ad ∧ (∀ r ∈ ks, H (ad r) = none))
      ⟨none, none, none, [], fun _ => 0, rfl, s1, by rw [List.take_zero]; exact Grp.nil upd_same, fun r hr => absurd hr (by simp)⟩ (fun i σ H2 _ ⟨_, _, _, _, _, _, sm, _⟩ => SqT.of (sm _ _ hb)) ?_ ?_⟩
    · rintro i x σ H2 hx ⟨o4, o5, o6, ks, ad, rfl, sm, g, hfr⟩
      obtain ⟨p, he1, he2⟩ := pget' hp hx
      have hpm := List.mem_of_getElem? he1
      obtain ⟨r, n, hrn⟩ := safe_some hsf hpm
      have e : d.take (i + 1) = d.take i ++ [p] := by rw [List.take_succ, he1]; rfl
      refine ⟨_, rfl, _, rfl, _, rfl, a, w, sh, x, p, c, rfl, hs.keep (Chg.same sm), mono_pr _ _ _ _ (TK.same sm) he2, ho p hpm, h0, hc, fun y hy => ?_⟩
      rw [hrn] at hy
      obtain ⟨pa, rfl, hpa⟩ := id he2
      obtain ⟨ya, rfl, hya⟩ := hy
      refine g_pair hya ?_
      refine ⟨_, rfl, f, rfl, .inl ⟨_, .inl g.fd⟩, _, rfl, fun q hq => ⟨kvOf ks ad, Sum.inl r, ?_, rfl, ?_, ?_, ?_⟩⟩
      · rw [upd_ne (ne_of_none g.fd hq)]
        exact g.fd
      · rw [kvOf_len]
        have := g.len
        rw [List.length_take] at this
        exact small1000 (by omega)
      · intro y hy
        rw [valV_kvOf] at hy
        by_cases m : r ∈ ks
        · rw [if_pos m] at hy
          cases hy
          have hpq : upd H2 q (.dT []) pa = some (.tup [.int p.1, .int p.2]) := by
            rw [upd_ne (ne_of_none (sm _ _ hpa) hq)]
            exact sm _ _ hpa
          refine ⟨_, rfl, pa, _, _, _, rfl, rfl, SqT.of hpq, rfl, _, rfl, (by show 2 ≤ sizeLine; decide), fun t ht => ?_⟩
          · have hr1 := g.at_ r m
            have nq : ∀ {b o}, H2 b = some o → b ≠ q := fun e => ne_of_none e hq
            have ht2 : H2 t = none := by
              cases z : H2 t with
              | none => rfl
              | some o => rw [upd_ne (nq z), z] at ht; cases ht
            have nt : ∀ {b o}, H2 b = some o → b ≠ t := fun e => ne_of_none e ht2
            have nf : f ≠ ad r := ne_of g.fd hr1 (fun z => nomatch z)
            have hput : DPut (upd (upd H2 q (.dT [])) t (.tup [.int p.1, .int n])) (ad r) (.ref t) (.bl true) _ :=
              DPut.t (k := [Sum.inl p.1, Sum.inl n]) (kvs := dtOf (bag sh c r [] (d.take i))) (by rw [upd_ne (nt hr1), upd_ne (nq hr1)]; exact hr1) upd_same (by
                rw [dtOf_len]
                have := len_bag sh c r (d.take i) []
                rw [List.length_take, List.length_nil] at this
                exact small1000 (by omega))
            refine ⟨ad r, _, rfl, hput, _, _, _, ks, ad, rfl, ?_, ?_, hfr⟩
            · exact Same.upd' (Same.upd' (Same.upd' sm (sm.free hq) _) (sm.free ht2) _) (hfr r m) _
            · rw [e]
              refine g.old hrn m ?_ ?_ ?_
              · rw [upd_ne nf, upd_ne (nt g.fd), upd_ne (nq g.fd)]
              · rw [upd_same]
                exact congrArg (fun l => some (HO.dT l)) (dtOf_put _ (p.1, n))
              · intro r' hr' hne
                have hr2 := g.at_ r' hr'
                rw [upd_ne (fun z => hne (g.inj r' hr' r m z)), upd_ne (nt hr2), upd_ne (nq hr2)]
        · rw [if_neg m] at hy
          cases hy
      · intro hy
        rw [valV_kvOf] at hy
        have m : r ∉ ks := fun m => by rw [if_pos m] at hy; cases hy
        have nq : ∀ {b o}, H2 b = some o → b ≠ q := fun e => ne_of_none e hq
        have fq : f ≠ q := nq g.fd
        have hpq : upd (upd H2 q (.dT [])) f (.dK (putK (kvOf ks ad) (Sum.inl r) (.ref q))) pa = some (.tup [.int p.1, .int p.2]) := by
          rw [upd_ne (ne_of (sm _ _ hpa) g.fd (fun z => nomatch z)), upd_ne (nq (sm _ _ hpa))]
          exact sm _ _ hpa
        refine ⟨_, rfl, pa, _, _, _, rfl, rfl, SqT.of hpq, rfl, _, rfl, (by show 2 ≤ sizeLine; decide), fun t ht => ?_⟩
        · have htf : t ≠ f := fun z => by rw [z, upd_same] at ht; cases ht
          have htq : t ≠ q := fun z => by rw [z, upd_ne (Ne.symm fq), upd_same] at ht; cases ht
          have ht2 : H2 t = none := by
            rw [upd_ne htf, upd_ne htq] at ht
            exact ht
          have nt : ∀ {b o}, H2 b = some o → b ≠ t := fun e => ne_of_none e ht2
          have hput : DPut (upd (upd (upd H2 q (.dT [])) f (.dK (putK (kvOf ks ad) (Sum.inl r) (.ref q)))) t (.tup [.int p.1, .int n])) q (.ref t) (.bl true) _ :=
            DPut.t (k := [Sum.inl p.1, Sum.inl n]) (kvs := dtOf []) (by rw [upd_ne (Ne.symm htq), upd_ne (Ne.symm fq), upd_same]; rfl) upd_same (small1000 (Nat.zero_le _))
          refine ⟨q, _, rfl, hput, _, _, _, addR ks r, setA ad r q, rfl, ?_, ?_, ?_⟩
          · have sf : Same H (upd (upd H2 q (.dT [])) f (.dK (putK (kvOf ks ad) (Sum.inl r) (.ref q)))) := Same.upd' (Same.upd' sm (sm.free hq) _) hf _
            exact Same.upd' (Same.upd' sf (sm.free ht2) _) (sm.free hq) _
          · rw [e]
            refine g.put hrn ?_ ?_ ?_
            · rw [upd_ne fq, upd_ne (Ne.symm htf), upd_same]
            · rw [upd_same, bag_none (fun z => m ((g.mem r).mpr z))]
              exact congrArg (fun l => some (HO.dT l)) (dtOf_put _ (p.1, n))
            · intro r' hr' hne
              have hr2 := g.at_ r' hr'
              refine ⟨?_, nq hr2⟩
              rw [upd_ne (nq hr2), upd_ne (nt hr2), upd_ne (ne_of hr2 g.fd (fun z => nomatch z)), upd_ne (nq hr2)]
          · intro r' hr'
            by_cases er : r' = r
            · rw [er, setA_eq]
              exact sm.free hq
            · rw [setA_ne er]
              exact hfr r' ((mem_addR.mp hr').resolve_right er)
    · rintro σ H2 ⟨o4, o5, o6, ks, ad, rfl, sm, g, hfr⟩
      rw [List.take_of_length_le (by omega)] at g
      have hkl := g.len
      refine ⟨_, rfl, f, kvOf ks ad, ks, rfl, .inl g.fd, ?_, by omega, fun ys p0 hperm hasc hp0 => ?_⟩
      · unfold kvOf
        rw [List.map_map]
        rfl
      · have s2 : Same H2 (upd H2 p0 (.lst (ys.map V.int))) := Same.new hp0
        have hyl : ys.length = ks.length := hperm.length_eq
        have nf0 : f ≠ p0 := ne_of_none g.fd hp0
        refine ⟨p0, rfl, ⟨_, SqL.of upd_same⟩, fun D hD => ?_⟩
        have hD2 : H2 D = none := s2.free hD
        have hpD : p0 ≠ D := fun z => by rw [← z, upd_same] at hD; cases hD
        refine dc_lst (K := K) (a := p0) (xs := ys.map V.int) (fun i H3 => Same H2 H3 ∧ H3 p0 = some (.lst (ys.map V.int)) ∧ ∃ kvs : List (Key × V), H3 D = some (.dK kvs) ∧ kvs.length ≤ i ∧ ∀ r ∈ ys.take i, ∃ x, valV kvs (Sum.inl r : Key) = some x ∧ DbAt H3 x (aft sh d c r))
          ⟨Same.upd' s2 hD2 _, by rw [upd_ne hpD, upd_same], [], upd_same, Nat.le_refl _, fun r hr => by rw [List.take_zero] at hr; cases hr⟩ (fun i H3 _ q => SqL.of q.2.1) ?_ ?_
        · rintro i x H3 hx ⟨sm3, hp3, kvs, hkv, hkl3, hall⟩
          obtain ⟨r, hr1, rfl⟩ := int_at hx
          have hrm : r ∈ ks := hperm.subset (List.mem_of_getElem? hr1)
          have hil : i < ys.length := (List.getElem?_eq_some_iff.mp hr1).1
          refine ⟨rfl, yes_do ?_⟩
          rw [if_pos rfl]
          refine ⟨_, rfl, _, rfl, _, rfl, f, .ref (ad r), rfl, ?_, ad r, bag sh c r [] d, rfl, .inl (sm3 _ _ (g.at_ r hrm)), fun l1 bs hl1 hbs => ?_⟩
          · have := DGet.k (H := H3) (a := f) (kvs := kvOf ks ad) (k := Sum.inl r) (sm3 _ _ g.fd)
            rw [valV_kvOf, if_pos hrm] at this
            exact this
          · refine ⟨l1, bs, rfl, .inl ⟨SqL.of upd_same, fun l2 hl2 => ⟨kvs, Sum.inl r, rfl, ?_, ?_, ?_⟩⟩⟩
            · have h21 : l2 ≠ l1 := fun z => by rw [z, upd_same] at hl2; cases hl2
              have hl2' : H3 l2 = none := by rw [upd_ne h21] at hl2; exact hl2
              rw [upd_ne (ne_of_none hkv hl2'), upd_ne (ne_of_none hkv hl1)]
              exact hkv
            · exact small1000 (by omega)
            · have h21 : l2 ≠ l1 := fun z => by rw [z, upd_same] at hl2; cases hl2
              have hl2' : H3 l2 = none := by rw [upd_ne h21] at hl2; exact hl2
              have s4 : Same H3 (upd (upd H3 l1 (.lst bs)) l2 (.tup bs)) := Same.upd' (Same.new hl1) hl2' _
              have sF : Same H2 (upd (upd (upd H3 l1 (.lst bs)) l2 (.tup bs)) D (.dK (putK kvs (Sum.inl r) (.ref l2)))) := Same.upd' (sm3.trans s4) hD2 _
              have tkF : TK H3 (upd (upd (upd H3 l1 (.lst bs)) l2 (.tup bs)) D (.dK (putK kvs (Sum.inl r) (.ref l2)))) := (TK.same s4).trans (TK.put (s4 _ _ hkv) (fun xs z => by cases z))
              have l2D : l2 ≠ D := fun z => by rw [z, hkv] at hl2'; cases hl2'
              refine ⟨sF, ?_, putK kvs (Sum.inl r) (.ref l2), upd_same, ?_, ?_⟩
              · rw [upd_ne hpD]
                exact s4 _ _ hp3
              · have := length_putK kvs (Sum.inl r : Key) (.ref l2)
                omega
              · intro r' hr'
                rw [valV_put]
                by_cases er : (Sum.inl r' : Key) = Sum.inl r
                · rw [if_pos er]
                  rw [Sum.inl.inj er]
                  refine ⟨_, rfl, l2, bs, rfl, ?_, pmono hbs fun _ _ q => mono_pr _ _ _ _ tkF q⟩
                  rw [upd_ne l2D, upd_same]
                · rw [if_neg er]
                  have e2 : ys.take (i + 1) = ys.take i ++ [r] := by rw [List.take_succ, hr1]; rfl
                  rw [e2] at hr'
                  rcases List.mem_append.mp hr' with hr' | hr'
                  · obtain ⟨x, hx1, hx2⟩ := hall r' hr'
                    exact ⟨x, hx1, mono_db _ _ _ _ tkF hx2⟩
                  · exact absurd (congrArg Sum.inl (List.mem_singleton.mp hr')) er
        · rintro H3 ⟨sm3, hp3, kvs, hkv, _, hall⟩
          rw [List.length_map, List.take_of_length_le (Nat.le_refl _)] at hall
          exact k H3 D (sm.trans sm3) ⟨kvs, hkv, fun r hr => hall r (hperm.symm.subset ((g.mem r).mpr hr))⟩
end
end WF
end

section
set_option Elab.async false
set_option linter.all false
set_option maxRecDepth 100000
set_option maxHeartbeats 4000000
/-! Whichfirm: Session, 1. -/
namespace WF
open PySem PySem.Spec PyProof.Rows L2 SlX RZ
theorem putF_ne {f g : Str} {v y : V} {r : List (Str × V)} (h : ¬ g = f) : putF f v ((g, y) :: r) = (g, y) :: putF f v r := if_neg h
theorem putF_eq {f : Str} {v y : V} {r : List (Str × V)} : putF f v ((f, y) :: r) = (f, v) :: r := if_pos rfl
theorem putF_nil {f : Str} {v : V} : putF f v [] = [(f, v)] := rfl
/-- a session's attributes -/
def sF (b : Addr) (v : V) (nl pl : Addr) (m : Int) : List (Str × V) := [("base", .ref b), ("now", v), ("notes", .ref nl), ("past", .ref pl), ("mark", .int m)]
section
variable (b : Addr) (v v' : V) (nl pl l' : Addr) (m m' : Int)
theorem sF_base : (sF b v nl pl m).lookup ("base" : Str) = some (.ref b) := by rfl
theorem sF_now : (sF b v nl pl m).lookup ("now" : Str) = some v := by rfl
theorem sF_notes : (sF b v nl pl m).lookup ("notes" : Str) = some (.ref nl) := by rfl
theorem sF_past : (sF b v nl pl m).lookup ("past" : Str) = some (.ref pl) := by rfl
theorem sF_mark : (sF b v nl pl m).lookup ("mark" : Str) = some (.int m) := by rfl
theorem sF_pnow : putF "now" v' (sF b v nl pl m) = sF b v' nl pl m := by
  unfold sF
  rw [putF_ne (by decide +kernel), putF_eq]
theorem sF_pnotes : putF "notes" (.ref l') (sF b v nl pl m) = sF b v l' pl m := by
  unfold sF
  rw [putF_ne (by decide +kernel), putF_ne (by decide +kernel), putF_eq]
theorem sF_ppast : putF "past" (.ref l') (sF b v nl pl m) = sF b v nl l' m := by
  unfold sF
  rw [putF_ne (by decide +kernel), putF_ne (by decide +kernel), putF_ne (by decide +kernel), putF_eq]
theorem sF_pmark : putF "mark" (.int m') (sF b v nl pl m) = sF b v nl pl m' := by
  unfold sF
  rw [putF_ne (by decide +kernel), putF_ne (by decide +kernel), putF_ne (by decide +kernel), putF_ne (by decide +kernel), putF_eq]
theorem sF_len : (sF b v nl pl m).length = 5 := rfl
theorem sF_no {f : Str} (h1 : ¬ f = "base") (h2 : ¬ f = "now") (h3 : ¬ f = "notes") (h4 : ¬ f = "past") (h5 : ¬ f = "mark") : (sF b v nl pl m).lookup f = none := by
  unfold sF
  rw [lookup_put, if_neg h1, lookup_put, if_neg h2, lookup_put, if_neg h3, lookup_put, if_neg h4, lookup_put, if_neg h5]
  rfl
theorem sF_new : putF "mark" (.int m) (putF "past" (.ref pl) (putF "notes" (.ref nl) (putF "now" v (putF "base" (.ref b) [])))) = sF b v nl pl m := by
  repeat (first | rw [putF_nil] | rw [putF_ne (by decide +kernel)])
  rfl
end
def StOk8 (sh : Shf) (s : Stt) : Prop := StOk sh s ∧ s.1.length ≤ 8
/-- a Session stands at a -/
structure SesAt (C Cs : Addr) (H : Hp) (a b nl pl : Addr) (w : Nat) (sh : Shf) (now : Stt) (notes : List Pr) (past : List Stt) (mark : Int) : Prop where
  ob : ∃ dx v, H a = some (.ins C dx (sF b v nl pl mark)) ∧ StAt H v now
  sf : ShfAt Cs H b w sh
  nt : LstAt PrAt H nl notes
  ps : LstAt StAt H pl past
  ne : nl ≠ pl
  ok : StOk8 sh now
section
variable {C Cs : Addr} {H H' : Hp} {a b nl pl : Addr} {w : Nat} {sh : Shf} {now : Stt} {notes : List Pr} {past : List Stt} {mark : Int}
theorem SesAt.keep (h : SesAt C Cs H a b nl pl w sh now notes past mark) (c : Chg H H') (ea : H' a = H a) (en : H' nl = H nl) (ep : H' pl = H pl) : SesAt C Cs H' a b nl pl w sh now notes past mark := by
  obtain ⟨⟨dx, v, h1, h2⟩, h3, h4, h5, h6, h7⟩ := h
  exact ⟨⟨dx, v, ea.trans h1, mono_st _ _ _ _ c.tk h2⟩, h3.keep c, h4.keep mono_pr c.tk fun o e => en.trans e, h5.keep mono_st c.tk fun o e => ep.trans e, h6, h7⟩
theorem SesAt.same (h : SesAt C Cs H a b nl pl w sh now notes past mark) (c : Same H H') : SesAt C Cs H' a b nl pl w sh now notes past mark := by
  obtain ⟨dx, v, h1, h2⟩ := h.ob
  obtain ⟨xs, h4, _⟩ := h.nt
  obtain ⟨ys, h5, _⟩ := h.ps
  exact h.keep (.same c) ((c _ _ h1).trans h1.symm) ((c _ _ h4).trans h4.symm) ((c _ _ h5).trans h5.symm)
theorem SesAt.mu (h : SesAt C Cs H a b nl pl w sh now notes past mark) : ∀ x ∈ [a, nl, pl], ∃ o, H x = some o ∧ isMu o = true := fun x hx => by
  obtain ⟨dx, v, h1, h2⟩ := h.ob
  obtain ⟨xs, h4, _⟩ := h.nt
  obtain ⟨ys, h5, _⟩ := h.ps
  simp at hx
  rcases hx with rfl | rfl | rfl
  · exact ⟨_, h1, rfl⟩
  · exact ⟨_, h4, rfl⟩
  · exact ⟨_, h5, rfl⟩
end
section
variable {P : Program} {w : World} {K : PySem.W.Frag} {mg : Str → Option Value} {base : Heap}
/-! ### Session.__init__ -/
def spSeInit (C Cs : Addr) : Sp := fun vs H Q _ => ∃ (p dx b : Addr) (v u : V) (w : Nat) (sh : Shf) (d : List Pr) (q : Pr), vs = [.ref p, .ref b, v, u] ∧ H p = some (.ins C dx []) ∧ ShfAt Cs H b w sh ∧ DbAt H v d ∧ PrAt H u q ∧ StOk8 sh (d, q) ∧
  ∀ H' nl pl, But [p] H H' → H nl = none → H pl = none → SesAt C Cs H' p b nl pl w sh (d, q) [] [] 0 → Q .non H'
theorem scSeInit : FnScope ["self", "shelf", "doubt", "pair"] ["self", "shelf", "doubt", "pair"] (defScope s_se_init) := ⟨rfl, rfl, rfl, by decide +kernel, rfl, by decide +kernel, by decide +kernel⟩
theorem ok_se_init (T : Top P K mg) : FnOk P w K mg base CX0 14 T.se_init.f T.se_init.fd ["self", "shelf", "doubt", "pair"] (spSeInit T.cSe T.cSh) := by
  refine T.se_init.F.ok scSeInit (fun vs H Q E h => ?_) (fun cdv A outer s H vs Q E hr h => ?_)
  · obtain ⟨p, dx, b, v, u, w, sh, d, q, rfl, _⟩ := h
    rfl
  · obtain ⟨p, dx, b, v, u, w, sh, d, q, rfl, hpp, hs, hd, hq, ⟨⟨ho, hqd⟩, h8⟩, k⟩ := h
    have hr12 : Room 12 _ := hr.mono (by decide)
    have hr8 : Room 8 _ := hr.mono (by decide)
    have hu65 : (A.deeper (envOfC "Session.__init__" (defScope s_se_init) s.heap.objs.size T.se_init.f cdv)).units + 65 < cLine := by
      have := hr.un
      omega
    refine ⟨_, pss_cons (ps_expr (pcall T.d_check_doubt (ok_check_doubt T) hr12 (by rfl) (pa_cons (pv 1) (pa_cons (pv 2) pa_nil))))
      (pss_cons (ps_if (pw_or (pt_not (pt_val (pcall T.d_is_pair (ok_is_pair T) hr8 (by rfl) (pa_cons (pv 1) (pa_cons (pv 3) pa_nil))))) (pw_or1 (pt_cmpR (op_notInT hu65) (pv 3) (pv 2) rfl))).pt pss_never pss_nil)
      (pss_cons (ps_fld (pv 0) (pv 1) rfl)
      (pss_cons (ps_fld (pv 0) (pe_tup (pa_cons (pv 2) (pa_cons (pv 3) pa_nil))) rfl)
      (pss_cons (ps_fld (pv 0) (pe_lst pa_nil) rfl)
      (pss_cons (ps_fld (pv 0) (pe_lst pa_nil) rfl)
      (pss_one (ps_fld (pv 0) pe_int rfl))))))), ?_⟩
    refine ⟨_, rfl, _, rfl, b, w, sh, v, d, rfl, hs, hd, ho, h8, fun H1 s1 => ?_⟩
    refine ⟨_, rfl, _, rfl, b, w, sh, u, q, rfl, hs.keep (.same s1), mono_pr _ _ _ _ (.same s1) hq, ho.pr q hqd, true, rfl, iteF ?_⟩
    refine ⟨_, rfl, _, rfl, prD q, d.map prD, rd_pr _ _ _ (mono_pr _ _ _ _ (.same s1) hq), rd_db _ _ _ (mono_db _ _ _ _ (.same s1) hd), (shal_pr q).shaped (by decide), (shal_db d).shaped (by decide), ?_⟩
    rw [show ((d.map prD).any fun z => PyData.eqv z (prD q)) = true from by
      rw [List.any_map]
      exact List.any_eq_true.mpr ⟨q, hqd, by show PyData.eqv (prD q) (prD q) = true; rw [eqv_pr]; exact decide_eq_true rfl⟩]
    refine ⟨_, rfl, iteF ?_⟩
    have nA := T.seA
    have p1 : H1 p = some (.ins T.cSe dx []) := s1 _ _ hpp
    refine ⟨_, rfl, _, rfl, p, T.cSe, dx, _, rfl, p1, T.seC, nA _ (by simp), (by show 0 < 1000; decide), ?_⟩
    refine ⟨_, rfl, _, rfl, (by show 2 ≤ sizeLine; decide), fun t ht => ?_⟩
    have pt : p ≠ t := fun z => by rw [← z, upd_same] at ht; cases ht
    have t1 : H1 t = none := by rw [upd_ne (Ne.symm pt)] at ht; exact ht
    refine ⟨_, rfl, p, T.cSe, dx, _, rfl, (by rw [upd_ne pt]; exact upd_same), T.seC, nA _ (by simp), (by show 1 < 1000; decide), ?_⟩
    refine ⟨(by show 0 ≤ sizeLine; exact Nat.zero_le _), fun nl hnl => ?_⟩
    have pnl : p ≠ nl := fun z => by rw [← z, upd_same] at hnl; cases hnl
    have tnl : t ≠ nl := fun z => by rw [← z, upd_ne (Ne.symm pt), upd_same] at hnl; cases hnl
    have nl1 : H1 nl = none := by
      rw [upd_ne (Ne.symm pnl), upd_ne (Ne.symm tnl), upd_ne (Ne.symm pnl)] at hnl
      exact hnl
    refine ⟨_, rfl, p, T.cSe, dx, _, rfl, (by rw [upd_ne pnl]; exact upd_same), T.seC, nA _ (by simp), (by show 2 < 1000; decide), ?_⟩
    refine ⟨(by show 0 ≤ sizeLine; exact Nat.zero_le _), fun pl hpl => ?_⟩
    have ppl : p ≠ pl := fun z => by rw [← z, upd_same] at hpl; cases hpl
    have npl : nl ≠ pl := fun z => by rw [← z, upd_ne (Ne.symm pnl), upd_same] at hpl; cases hpl
    have tpl : t ≠ pl := fun z => by rw [← z, upd_ne (Ne.symm pt), upd_ne tnl, upd_ne (Ne.symm pt), upd_same] at hpl; cases hpl
    have pl1 : H1 pl = none := by
      rw [upd_ne (Ne.symm ppl), upd_ne (Ne.symm npl), upd_ne (Ne.symm ppl), upd_ne (Ne.symm tpl), upd_ne (Ne.symm ppl)] at hpl
      exact hpl
    refine ⟨_, rfl, p, T.cSe, dx, _, rfl, (by rw [upd_ne ppl]; exact upd_same), T.seC, nA _ (by simp), (by show 3 < 1000; decide), ?_⟩
    refine ⟨_, rfl, p, T.cSe, dx, _, rfl, upd_same, T.seC, nA _ (by simp), (by show 4 < 1000; decide), ?_⟩
    show Q .non _
    generalize hHf : upd _ p _ = Hf
    have e : ∀ x, x ≠ p → x ≠ pl → x ≠ nl → x ≠ t → Hf x = H1 x := fun x h1 h2 h3 h4 => by
      rw [← hHf, upd_ne h1, upd_ne h1, upd_ne h2, upd_ne h1, upd_ne h3, upd_ne h1, upd_ne h4, upd_ne h1]
    have ep : Hf p = some (.ins T.cSe dx (sF b (.ref t) nl pl 0)) := by
      rw [← hHf, upd_same, sF_new]
    have epl : Hf pl = some (.lst []) := by rw [← hHf, upd_ne (Ne.symm ppl), upd_ne (Ne.symm ppl), upd_same]
    have enl : Hf nl = some (.lst []) := by rw [← hHf, upd_ne (Ne.symm pnl), upd_ne (Ne.symm pnl), upd_ne npl, upd_ne (Ne.symm pnl), upd_same]
    have et : Hf t = some (.tup [v, u]) := by rw [← hHf, upd_ne (Ne.symm pt), upd_ne (Ne.symm pt), upd_ne tpl, upd_ne (Ne.symm pt), upd_ne tnl, upd_ne (Ne.symm pt), upd_same]
    have bf : But [p] H Hf := fun x o hx hn => by
      have hx1 := s1 _ _ hx
      rw [e x (fun z => hn (by rw [z]; exact List.mem_cons_self)) (ne_of_none hx1 pl1) (ne_of_none hx1 nl1) (ne_of_none hx1 t1)]
      exact hx1
    have cf : Chg H Hf := bf.chg fun x hx => ⟨.ins T.cSe dx [], by rw [List.mem_singleton.mp hx]; exact hpp, rfl⟩
    refine k Hf nl pl bf (s1.free nl1) (s1.free pl1) ⟨⟨dx, .ref t, ep, t, v, u, rfl, et, mono_db _ _ _ _ cf.tk hd, mono_pr _ _ _ _ cf.tk hq⟩, hs.keep cf, ⟨[], enl, .nil⟩, ⟨[], epl, .nil⟩, npl, ⟨ho, hqd⟩, h8⟩
end
end WF
end

section
set_option Elab.async false
set_option linter.all false
set_option maxRecDepth 100000
set_option maxHeartbeats 4000000
/-! Whichfirm: Session, 2. -/
namespace WF
open PySem PySem.Spec PyProof.Rows L2 SlX RZ
/-! ### a property whatever exception is handled -/
section
variable {X : Cx} {k : Nat} {C p g a dx : Addr} {fs : List (Str × V)} {f : Str} {sp : Sp} {e : Expr} {pos : Pos} {ta : TE}
theorem getprop_U {pins : List (Addr × Obj)} {σ : L2.St} {H : Hp} {s : Shared} {Q : VK} {b : Bool} {E' : Value → Shared → Prop} (I : Inv X pins σ H s) (ea : H a = some (.ins C dx fs)) (c : Cls X.K C) (hp : PropOf X.K C f p g)
    (F : FnU X.prog X.w X.K X.mg X.base CX0 k g sp) (hr : L2H.RoomH (k + 1) X.A) (h : sp [.ref a] H Q E0) : wpAny (model X.prog X.w) X.A (getAttr (.ref a) f b) (EP X pins σ Q) E' s := by
  obtain ⟨mA, O, _, _, _, _⟩ := ins_get I.hok ea
  obtain ⟨od, J, _⟩ := O.look
  obtain ⟨rest, hrec⟩ := hp.rec_
  have I1 := I.tok (s.toks + 1)
  have hc : (PySem.W.clsIn X.K C).isSome = true := by
    obtain ⟨cd, hc, _⟩ := PySem.W.any_some c.hd
    rw [hc]
    rfl
  have rh : L2H.RoomH k X.A.in1 := ⟨by have := hr.dp; show X.A.depth + 3 * k + 5 < _; omega, by have := hr.un; show X.A.units + 1 + 16 * k + 200 < _; omega⟩
  refine PySem.W.get_bind I.kIn J (PySem.W.plainGet_of (c.get f)).1 (PySem.W.findObj_data hc hp.at_ hp.get hp.tak) (PySem.W.plainGet_of (c.get f)).2 (wpAny_call (PySem.W.prop_get (s := { s with toks := s.toks + 1 }) I.kIn hrec ?_))
  refine codeAny_mono (F X.A.in1 X.stack { s with toks := s.toks + 1 } H [.ref a] [.ref a] Q E0 rh I1.env0.in1 (.cons rfl .nil) h) fun r s' hq => ?_
  cases r with
  | error er => exact False.elim hq
  | ok fl =>
    cases fl with
    | ret u =>
      obtain ⟨v, H', I3, rv, q3⟩ := I1.after hq
      show wpAny _ _ (handedOut u) _ _ _
      rw [PySem.W.handedOut_of (handed_of rv)]
      exact wpAny_pure ⟨v, H', I3, rv, q3⟩
    | next => exact False.elim hq
    | brk => exact False.elim hq
    | cont => exact False.elim hq
def tPropU (C : Addr) (sp : Sp) (ta : TE) : TE := fun σ H Q => ta σ H fun x H1 => ∃ a dx fs, x = .ref a ∧ H1 a = some (.ins C dx fs) ∧ sp [.ref a] H1 Q E0
theorem pe_propU (he : PE X e ta) (c : Cls X.K C) (hp : PropOf X.K C f p g) (F : FnU X.prog X.w X.K X.mg X.base CX0 k g sp) (hr : L2H.RoomH (k + 1) X.A) (hab : attributeBase e f X.env (eval e X.env) = eval e X.env := by rfl) : PE X (.Attribute e f pos) (tPropU C sp ta) := by
  refine ⟨fun pins s σ H Q I h => ?_⟩
  refine attr_of hab (thn (he.run pins s σ H _ I h) fun u s1 ⟨x, H1, I1, rx, a, dx, fs, ex, ea, q⟩ => ?_)
  subst ex
  obtain rfl : u = Value.ref a := rx
  exact getprop_U I1 ea c hp F hr q
end
section
variable {P : Program} {w : World} {K : PySem.W.Frag} {mg : Str → Option Value} {base : Heap}
/-! ### len, iter, doubt, journal, told -/
theorem scSe1 {st : Stmt} (h : (defScope st).kind = .function ∧ (defScope st).isCoroutine = false ∧ (defScope st).isGenerator = false ∧ (∀ x ∈ (["self"] : List Str), (defScope st).names.lookup x = some .local ∨ (defScope st).names.lookup x = some .cell) ∧ ∀ y ∈ (defScope st).names, y.2 ≠ .free) : FnScope ["self"] ["self"] (defScope st) := ⟨h.1, h.2.1, h.2.2.1, by decide +kernel, rfl, h.2.2.2.1, h.2.2.2.2⟩
theorem scSeLen : FnScope ["self"] ["self"] (defScope s_se_len) := ⟨rfl, rfl, rfl, by decide +kernel, rfl, by decide +kernel, by decide +kernel⟩
theorem ok_se_len (T : Top P K mg) : FnOk P w K mg base CX0 3 T.se_len.f T.se_len.fd ["self"] (spLenL T.cSe "notes") := by
  refine T.se_len.F.ok scSeLen (fun vs H Q E h => ?_) (fun cdv A outer s H vs Q E hr h => ?_)
  · obtain ⟨a, l, zs, rfl, _⟩ := h
    rfl
  · obtain ⟨a, l, zs, rfl, ⟨dx, fs, h1, h2, h3⟩, k⟩ := h
    exact ⟨_, pss_one (ps_ret (pe_callB call_len_seq (by rfl) T.b_len bo_len (pa_cons (pe_fld (pv 0) rfl) pa_nil))), _, rfl, a, T.cSe, dx, fs, _, rfl, h1, T.seC, T.seA _ (by simp), h2, l, zs, rfl, .inl (SqL.of h3), k⟩
theorem scSeIter : FnScope ["self"] ["self"] (defScope s_se_iter) := ⟨rfl, rfl, rfl, by decide +kernel, rfl, by decide +kernel, by decide +kernel⟩
theorem ok_se_iter (T : Top P K mg) : FnOk P w K mg base CX0 3 T.se_iter.f T.se_iter.fd ["self"] (spIterL T.cSe "notes") := by
  refine T.se_iter.F.ok scSeIter (fun vs H Q E h => ?_) (fun cdv A outer s H vs Q E hr h => ?_)
  · obtain ⟨a, l, zs, rfl, _⟩ := h
    rfl
  · obtain ⟨a, l, zs, rfl, ⟨dx, fs, h1, h2, h3⟩, k⟩ := h
    exact ⟨_, pss_one (ps_ret (pe_callB call_iterL (by rfl) T.b_iter bo_iter (pa_cons (pe_fld (pv 0) rfl) pa_nil))), _, rfl, a, T.cSe, dx, fs, _, rfl, h1, T.seC, T.seA _ (by simp), h2, l, zs, rfl, SqL.of h3, k⟩
def spDoubt (C : Addr) : Sp := fun vs H Q _ => ∃ (a dx : Addr) (fs : List (Str × V)) (v : V) (now : Stt), vs = [.ref a] ∧ H a = some (.ins C dx fs) ∧ fs.lookup ("now" : Str) = some v ∧ StAt H v now ∧ ∀ x, DbAt H x now.1 → Q x H
theorem scDoubt : FnScope ["self"] ["self"] (defScope s_se_doubt) := ⟨rfl, rfl, rfl, by decide +kernel, rfl, by decide +kernel, by decide +kernel⟩
theorem ok_doubt (T : Top P K mg) : FnU P w K mg base CX0 3 T.se_doubt.f (spDoubt T.cSe) := by
  refine okU T.se_doubt.F T.se_doubt.b scDoubt (fun vs H Q E h => ?_) (fun cdv A outer s H vs Q E hr h => ?_)
  · obtain ⟨a, dx, fs, v, now, rfl, _⟩ := h
    rfl
  · obtain ⟨a, dx, fs, v, now, rfl, h1, h2, ⟨t, x, y, rfl, h3, h4, h5⟩, k⟩ := h
    exact ⟨_, pss_one (ps_ret (pe_ix ix_tup (pe_fld (pv 0) rfl) pe_int (fun _ _ => rfl))), _, rfl, a, T.cSe, dx, fs, _, rfl, h1, T.seC, T.seA _ (by simp), h2, t, _, _, x, rfl, rfl, SqT.of h3, rfl, k x h4⟩
def spJournal (C : Addr) : Sp := fun vs H Q _ => ∃ (a dx l : Addr) (fs : List (Str × V)) (notes : List Pr), vs = [.ref a] ∧ H a = some (.ins C dx fs) ∧ fs.lookup ("notes" : Str) = some (.ref l) ∧ LstAt PrAt H l notes ∧ ∀ H' j, Same H H' → H j = none → LstAt PrAt H' j notes → Q (.ref j) H'
theorem scJournal : FnScope ["self"] ["self"] (defScope s_se_journal) := ⟨rfl, rfl, rfl, by decide +kernel, rfl, by decide +kernel, by decide +kernel⟩
theorem ok_journal (T : Top P K mg) : FnU P w K mg base CX0 3 T.se_journal.f (spJournal T.cSe) := by
  refine okU T.se_journal.F T.se_journal.b scJournal (fun vs H Q E h => ?_) (fun cdv A outer s H vs Q E hr h => ?_)
  · obtain ⟨a, dx, l, fs, notes, rfl, _⟩ := h
    rfl
  · obtain ⟨a, dx, l, fs, notes, rfl, h1, h2, ⟨xs, h3, h4⟩, k⟩ := h
    refine ⟨_, pss_one (ps_ret (pe_callTy call_list_of (by rfl) T.b_list bo_list (pa_cons (pe_fld (pv 0) rfl) pa_nil))), _, rfl, a, T.cSe, dx, fs, _, rfl, h1, T.seC, T.seA _ (by simp), h2, l, xs, rfl, .inl (SqL.of h3), fun j hj => ?_⟩
    exact k _ j (Same.new hj) hj ⟨xs, upd_same, pmono h4 fun _ _ q => mono_pr _ _ _ _ (TK.new hj) q⟩
def spSeTold (C Cs : Addr) : Sp := fun vs H Q _ => ∃ (a b nl pl : Addr) (w : Nat) (sh : Shf) (now : Stt) (notes : List Pr) (past : List Stt) (mark : Int), vs = [.ref a] ∧ SesAt C Cs H a b nl pl w sh now notes past mark ∧
  ∀ H', Same H H' → Q (if told now.1 = true then .int now.2.1 else .non) H'
theorem scSeTold : FnScope ["self"] ["self"] (defScope s_se_told) := ⟨rfl, rfl, rfl, by decide +kernel, rfl, by decide +kernel, by decide +kernel⟩
theorem ok_se_told (T : Top P K mg) : FnOk P w K mg base CX0 6 T.se_told.f T.se_told.fd ["self"] (spSeTold T.cSe T.cSh) := by
  refine T.se_told.F.ok scSeTold (fun vs H Q E h => ?_) (fun cdv A outer s H vs Q E hr h => ?_)
  · obtain ⟨a, b, nl, pl, w, sh, now, notes, past, mark, rfl, _⟩ := h
    rfl
  · obtain ⟨a, b, nl, pl, w, sh, now, notes, past, mark, rfl, S, k⟩ := h
    have hr3 : Room 3 _ := hr.mono (by decide)
    have hr4 : Room 4 _ := hr.mono (by decide)
    refine ⟨_, pss_one (ps_ret (pe_ifExp (pt_val (pcall T.d_is_told (ok_is_told T) hr3 (by rfl) (pa_cons (pe_propU (pv 0) T.seC T.se_doubt.o (ok_doubt T) (L2H.roomH_of hr4)) pa_nil)))
      (pe_ix ix_tup (pe_ix ix_tup (pe_fld (pv 0) rfl) pe_int (fun _ _ => rfl)) pe_int (fun _ _ => rfl)) pe_non)), ?_⟩
    obtain ⟨dx, v, h1, hv⟩ := S.ob
    have hne := S.ok.1.1.ne
    refine ⟨_, rfl, a, dx, _, rfl, h1, a, dx, _, v, now, rfl, h1, sF_now .., hv, fun x hx => ⟨x, now.1, rfl, hx, hne, S.ok.2, fun H1 s1 => ?_⟩⟩
    obtain ⟨t, x0, y0, rfl, h3, h4, pa, rfl, h5⟩ := hv
    refine ⟨_, rfl, ?_⟩
    have kk := k H1 s1
    by_cases c : told now.1 = true
    · rw [c] at kk ⊢
      rw [if_pos rfl] at kk
      refine iteT ?_
      exact ⟨_, rfl, a, T.cSe, dx, _, _, rfl, s1 _ _ h1, T.seC, T.seA _ (by simp), sF_now .., t, _, _, _, rfl, rfl, SqT.of (s1 _ _ h3), rfl, pa, _, _, _, rfl, rfl, SqT.of (s1 _ _ h5), rfl, kk⟩
    · rw [Bool.eq_false_iff.mpr c] at kk ⊢
      rw [if_neg Bool.false_ne_true] at kk
      exact iteF kk
end
end WF
end

section
set_option Elab.async false
set_option linter.all false
set_option maxRecDepth 100000
set_option maxHeartbeats 4000000
/-! Whichfirm: Session, 3: give, undo, branch. -/
namespace WF
open PySem PySem.Spec PyProof.Rows L2 SlX RZ
theorem ins_len (x : Pr) : ∀ l : List Pr, (ins x l).length = l.length + 1
  | [] => rfl
  | y :: l => by
    unfold ins
    split
    · rfl
    · rw [List.length_cons, ins_len x l, List.length_cons]
theorem srt_len : ∀ l : List Pr, (srt l).length = l.length
  | [] => rfl
  | x :: l => by
    show (ins x (srt l)).length = _
    rw [ins_len, srt_len l, List.length_cons]
theorem aft_len (sh : Shf) (d : List Pr) (c r : Int) : (aft sh d c r).length ≤ d.length := by
  unfold aft
  rw [srt_len]
  have := len_bag sh c r d []
  rw [List.length_nil] at this
  omega
theorem stp8 {w : Nat} {sh : Shf} (S : ShOk w sh) {s : Stt} (O : StOk8 sh s) {c : Int} (h0 : 0 ≤ c) (hc : c < w) (h : safe sh s.1 c = true) :
    ∃ r n, ent sh s.2 c = some (r, n) ∧ stp sh s c = some (r, (aft sh s.1 c r, (s.2.1, n))) ∧ StOk8 sh (aft sh s.1 c r, (s.2.1, n)) := by
  obtain ⟨r, n, e, h1, h2, _⟩ := stp_some S O.1 h0 hc h
  exact ⟨r, n, e, h1, h2, Nat.le_trans (aft_len ..) O.2⟩
section
variable {P : Program} {w : World} {K : PySem.W.Frag} {mg : Str → Option Value} {base : Heap}
/-! ### give -/
def spGive (C Cs cB : Addr) : Sp := fun vs H Q E => ∃ (a b nl pl : Addr) (w : Nat) (sh : Shf) (now : Stt) (notes : List Pr) (past : List Stt) (mark c : Int), vs = [.ref a, .int c] ∧ SesAt C Cs H a b nl pl w sh now notes past mark ∧ notes.length ≤ 900 ∧ past.length ≤ 900 ∧
  ((0 ≤ c ∧ c < w ∧ safe sh now.1 c = true) → ∀ r st, stp sh now c = some (r, st) → ∀ H', But [a, nl, pl] H H' → SesAt C Cs H' a b nl pl w sh st (notes ++ [(c, r)]) (past ++ [now]) mark → Q (.int r) H') ∧
  (¬(0 ≤ c ∧ c < w ∧ safe sh now.1 c = true) → ∀ H', Same H H' → E (.ref cB) none H')
theorem scGive : FnScope ["self", "command", "doubt", "pair", "reply", "state"] ["self", "command"] (defScope s_se_give) := ⟨rfl, rfl, rfl, by decide +kernel, rfl, by decide +kernel, by decide +kernel⟩
theorem ok_give (T : Top P K mg) : FnOk P w K mg base (L2.CX P w) 8 T.se_give.f T.se_give.fd ["self", "command"] (spGive T.cSe T.cSh T.cBC) := by
  refine T.se_give.F.okX scGive (fun vs H Q E h => ?_) (fun cdv A outer s H vs Q E hr h => ?_)
  · obtain ⟨a, b, nl, pl, w, sh, now, notes, past, mark, c, rfl, _⟩ := h
    rfl
  · obtain ⟨a, b, nl, pl, w, sh, now, notes, past, mark, c, rfl, S, hn9, hp9, kok, kex⟩ := h
    have hr3 : Room 3 _ := hr.mono (by decide)
    have hr4 : Room 4 _ := hr.mono (by decide)
    have hr6 : Room 6 _ := hr.mono (by decide)
    have hu := hu_of hr
    refine ⟨_, pss_cons (ps_if (pw_or (pt_not (pt_val (pcall T.d_is_command (ok_is_command T) hr6 (by rfl) (pa_cons (pe_fld (pv 0) rfl) (pa_cons (pv 1) pa_nil)))))
        (pw_or1 (pt_not (pt_val (pcall T.d_is_safe (ok_is_safe T) hr6 (by rfl) (pa_cons (pe_fld (pv 0) rfl) (pa_cons (pe_propU (pv 0) T.seC T.se_doubt.o (ok_doubt T) (L2H.roomH_of hr4)) (pa_cons (pv 1) pa_nil)))))))).pt
        (pss_one (ps_raise rfl (takes_of rfl rfl rfl rfl) (pmk_own PySem.F.excBase_ValueError T.e_BadCommand.q T.e_BadCommand.g T.e_BadCommand.k (raises_own T.e_BadCommand.b T.e_BadCommand.t) rfl))) pss_nil)
      (pss_cons (ps_asg (pe_fld (pv 0) rfl) (pg_tupK (K := K) rfl rfl (pgs_cons (pg_name (i := 2) scGive.nd rfl (Or.inl rfl)) (pgs_cons (pg_name (i := 3) scGive.nd rfl (Or.inl rfl)) pgs_nil))))
      (pss_cons (ps_asg (pcall T.d_entry_at (ok_entry_at T) hr3 (by rfl) (pa_cons (pe_fld (pv 0) rfl) (pa_cons (pv 3) (pa_cons (pv 1) pa_nil)))) (pg_tupK (K := K) rfl rfl (pgs_cons (pg_name (i := 4) scGive.nd rfl (Or.inl rfl)) (pgs_cons (pg_name (i := 5) scGive.nd rfl (Or.inl rfl)) pgs_nil))))
      (pss_cons (ps_expr (pe_bm PySem.F.plainAttrs_list PySem.F.slot_list_append PySem.F.type_list_append mt_append (pe_fld (pv 0) rfl) (pa_cons (pe_tup (pa_cons (pv 1) (pa_cons (pv 4) pa_nil))) pa_nil)))
      (pss_cons (ps_expr (pe_bm PySem.F.plainAttrs_list PySem.F.slot_list_append PySem.F.type_list_append mt_append (pe_fld (pv 0) rfl) (pa_cons (pe_fld (pv 0) rfl) pa_nil)))
      (pss_cons (ps_fld (pv 0) (pe_tup (pa_cons (pe_dget hu (pcall T.d_parts_after (ok_parts_after T) hr6 (by rfl) (pa_cons (pe_fld (pv 0) rfl) (pa_cons (pv 2) (pa_cons (pv 1) pa_nil)))) (pv 4) (fun _ _ => rfl)) (pa_cons (pe_tup (pa_cons (pe_ix ix_tup (pv 3) pe_int (fun _ _ => rfl)) (pa_cons (pv 5) pa_nil))) pa_nil))) rfl)
      (pss_one (ps_ret (pv 4)))))))), ?_⟩
    obtain ⟨dx, v, h1, hv⟩ := id S.ob
    have hS := S.sf.1
    have nA := T.seA
    obtain ⟨t, x0, y0, rfl, h3, h4, h5⟩ := id hv
    refine ⟨_, rfl, a, T.cSe, dx, _, _, rfl, h1, T.seC, nA _ (by simp), sF_base .., _, rfl, b, w, sh, c, rfl, S.sf, ?_⟩
    refine ⟨_, rfl, ?_⟩
    by_cases hcw : 0 ≤ c ∧ c < (w : Int)
    · rw [decide_eq_true hcw]
      refine iteF ?_
      refine ⟨_, rfl, a, T.cSe, dx, _, _, rfl, h1, T.seC, nA _ (by simp), sF_base .., _, rfl, a, dx, _, rfl, h1, a, dx, _, _, now, rfl, h1, sF_now .., hv, fun x hx => ⟨_, rfl, b, w, sh, x, now.1, c, rfl, S.sf, hx, S.ok.1.1.pr, S.ok.2, hcw.1, hcw.2, fun H1 s1 => ⟨_, rfl, ?_⟩⟩⟩
      by_cases hsf : safe sh now.1 c = true
      · rw [hsf]
        refine iteF ?_
        have h1' := s1 _ _ h1
        refine ⟨_, rfl, a, T.cSe, dx, _, _, rfl, h1', T.seC, nA _ (by simp), sF_now .., g_pair (s1 _ _ h3) ?_⟩
        have h4' := mono_db _ _ _ _ (TK.same s1) h4
        have h5' := mono_pr _ _ _ _ (TK.same s1) h5
        obtain ⟨r, n, e1, e2, e3⟩ := stp8 hS S.ok hcw.1 hcw.2 hsf
        refine ⟨_, rfl, a, T.cSe, dx, _, _, rfl, h1', T.seC, nA _ (by simp), sF_base .., _, rfl, _, rfl, b, w, sh, y0, now.2, c, rfl, S.sf.keep (.same s1), h5', S.ok.1.1.pr _ S.ok.1.2, hcw.1, hcw.2, fun z hz => ?_⟩
        rw [e1] at hz
        obtain ⟨za, rfl, hza⟩ := hz
        refine g_pair hza ?_
        obtain ⟨xs, hxs, hxp⟩ := id S.nt
        obtain ⟨ys, hys, hyp⟩ := id S.ps
        have hxl := Paired.length hxp
        have hyl := Paired.length hyp
        have npl := S.ne
        have anl : a ≠ nl := ne_of h1 hxs (fun z => nomatch z)
        have apl : a ≠ pl := ne_of h1 hys (fun z => nomatch z)
        refine ⟨_, rfl, a, T.cSe, dx, _, _, rfl, h1', T.seC, nA _ (by simp), sF_notes .., .inl ⟨rfl, _, SqL.of (s1 _ _ hxs)⟩, _, rfl, _, rfl, (by show 2 ≤ sizeLine; decide), fun t2 ht2 => ?_⟩
        have s2 : Same H (upd H1 t2 (.tup [.int c, .int r])) := Same.upd' s1 (s1.free ht2) _
        have e2t : upd H1 t2 (.tup [.int c, .int r]) t2 = some (.tup [.int c, .int r]) := upd_same
        refine ⟨nl, xs, _, rfl, rfl, s2 _ _ hxs, small1000 (by omega), ?_⟩
        have b3 : But [nl] H (upd (upd H1 t2 (.tup [.int c, .int r])) nl (.lst (xs ++ [.ref t2]))) := (But.of s2).trans (But.put List.mem_cons_self)
        have f2 : H t2 = none := s1.free ht2
        have n2 : nl ≠ t2 := ne_of_none hxs f2
        have e3n : upd (upd H1 t2 (.tup [.int c, .int r])) nl (.lst (xs ++ [.ref t2])) nl = some (.lst (xs ++ [.ref t2])) := upd_same
        have e3t : upd (upd H1 t2 (.tup [.int c, .int r])) nl (.lst (xs ++ [.ref t2])) t2 = some (.tup [.int c, .int r]) := by rw [upd_ne (Ne.symm n2)]; exact e2t
        revert b3 e3n e3t
        generalize upd (upd H1 t2 (.tup [.int c, .int r])) nl (.lst (xs ++ [.ref t2])) = H3
        intro b3 e3n e3t
        have ha3 : H3 a = some (.ins T.cSe dx (sF b (.ref t) nl pl mark)) := b3 _ _ h1 (by simp [anl])
        have hp3 : H3 pl = some (.lst ys) := b3 _ _ hys (by simp [Ne.symm npl])
        refine ⟨_, rfl, a, T.cSe, dx, _, _, rfl, ha3, T.seC, nA _ (by simp), sF_past .., .inl ⟨rfl, _, SqL.of hp3⟩, _, rfl, a, T.cSe, dx, _, _, rfl, ha3, T.seC, nA _ (by simp), sF_now .., pl, ys, _, rfl, rfl, hp3, small1000 (by omega), ?_⟩
        have b4 : But [nl, pl] H (upd H3 pl (.lst (ys ++ [.ref t]))) := (b3.mono (by simp)).trans (But.put (by simp))
        have e4n : upd H3 pl (.lst (ys ++ [.ref t])) nl = some (.lst (xs ++ [.ref t2])) := by rw [upd_ne npl]; exact e3n
        have e4t : upd H3 pl (.lst (ys ++ [.ref t])) t2 = some (.tup [.int c, .int r]) := by rw [upd_ne (Ne.symm (ne_of_none hys f2))]; exact e3t
        have e4p : upd H3 pl (.lst (ys ++ [.ref t])) pl = some (.lst (ys ++ [.ref t])) := upd_same
        revert b4 e4n e4t e4p
        generalize upd H3 pl (.lst (ys ++ [.ref t])) = H4
        intro b4 e4n e4t e4p
        have c4 : Chg H H4 := b4.chg fun z hz => by
          simp at hz
          rcases hz with rfl | rfl
          · exact ⟨_, hxs, rfl⟩
          · exact ⟨_, hys, rfl⟩
        have ha4 : H4 a = some (.ins T.cSe dx (sF b (.ref t) nl pl mark)) := b4 _ _ h1 (by simp [anl, apl])
        refine ⟨_, rfl, a, T.cSe, dx, _, _, rfl, ha4, T.seC, nA _ (by simp), sF_base .., _, rfl, _, rfl, b, w, sh, x0, now.1, c, rfl, S.sf.keep c4, mono_db _ _ _ _ c4.tk h4, S.ok.1.1.pr, S.ok.2, hcw.1, hcw.2, hsf, fun H5 q s5 hP => ?_⟩
        obtain ⟨kvs, hkv, hall⟩ := hP
        obtain ⟨x1, hx1, hx2⟩ := hall r ⟨now.2, S.ok.1.2, n, e1⟩
        have hdg : DGet H5 q (.int r) (some x1) := by
          rw [← hx1]
          exact DGet.k (k := Sum.inl r) hkv
        obtain ⟨pa, rfl, hpa⟩ := id h5
        have hpa5 := s5 _ _ (c4.tk _ _ hpa)
        refine ⟨_, rfl, q, x1, rfl, hdg, _, rfl, pa, _, _, _, rfl, rfl, SqT.of hpa5, rfl, _, rfl, (by show 2 ≤ sizeLine; decide), fun t3 ht3 => ⟨(by show 2 ≤ sizeLine; decide), fun t4 ht4 => ?_⟩⟩
        have s6 : Same H5 (upd H5 t3 (.tup [.int now.2.1, .int n])) := Same.new ht3
        have s7 : Same H5 (upd (upd H5 t3 (.tup [.int now.2.1, .int n])) t4 (.tup [x1, .ref t3])) := Same.upd' s6 (s6.free ht4) _
        have e7 : upd (upd H5 t3 (.tup [.int now.2.1, .int n])) t4 (.tup [x1, .ref t3]) t4 = some (.tup [x1, .ref t3]) := upd_same
        have n34 : t3 ≠ t4 := fun z => by rw [← z, upd_same] at ht4; cases ht4
        have e73 : upd (upd H5 t3 (.tup [.int now.2.1, .int n])) t4 (.tup [x1, .ref t3]) t3 = some (.tup [.int now.2.1, .int n]) := by rw [upd_ne n34, upd_same]
        revert s7 e7 e73
        generalize upd (upd H5 t3 (.tup [.int now.2.1, .int n])) t4 (.tup [x1, .ref t3]) = H7
        intro s7 e7 e73
        have s47 : Same H4 H7 := s5.trans s7
        refine ⟨_, rfl, a, T.cSe, dx, _, rfl, s47 _ _ ha4, T.seC, nA _ (by simp), (by show 5 < 1000; decide), _, rfl, ?_⟩
        have a4 : a ≠ t4 := ne_of (s47 _ _ ha4) e7 (fun z => nomatch z)
        have tk8 : TK H7 (upd H7 a (.ins T.cSe dx (putF "now" (.ref t4) (sF b (.ref t) nl pl mark)))) := TK.put (s47 _ _ ha4) (fun xs z => by cases z)
        have b8 : But [a, nl, pl] H (upd H7 a (.ins T.cSe dx (putF "now" (.ref t4) (sF b (.ref t) nl pl mark)))) := ((b4.mono (by simp)).trans (But.of s47)).trans (But.put (by simp))
        have c8 : Chg H (upd H7 a (.ins T.cSe dx (putF "now" (.ref t4) (sF b (.ref t) nl pl mark)))) := b8.chg S.mu
        refine kok ⟨hcw.1, hcw.2, hsf⟩ r _ e2 _ b8 ⟨⟨dx, .ref t4, by rw [upd_same, sF_pnow], t4, x1, .ref t3, rfl, tk8 _ _ e7, mono_db _ _ _ _ ((TK.same s7).trans tk8) hx2, t3, rfl, tk8 _ _ e73⟩, S.sf.keep c8, ⟨xs ++ [.ref t2], by rw [upd_ne (Ne.symm anl)]; exact s47 _ _ e4n, papp (pmono hxp fun _ _ z => mono_pr _ _ _ _ c8.tk z) (.cons ⟨t2, rfl, tk8 _ _ (s47 _ _ e4t)⟩ .nil)⟩,
          ⟨ys ++ [.ref t], by rw [upd_ne (Ne.symm apl)]; exact s47 _ _ e4p, papp (pmono hyp fun _ _ z => mono_st _ _ _ _ c8.tk z) (.cons (mono_st _ _ _ _ c8.tk hv) .nil)⟩, npl, e3⟩
      · rw [Bool.eq_false_iff.mpr hsf]
        exact iteT (kex (fun z => hsf z.2.2) H1 s1)
    · rw [decide_eq_false hcw]
      exact iteT (kex (fun z => hcw ⟨z.1, z.2.1⟩) H (Same.refl H))
end
end WF
end

section
set_option Elab.async false
set_option linter.all false
set_option maxRecDepth 100000
set_option maxHeartbeats 4000000
/-! Whichfirm: Session, 4: undo, branch. -/
namespace WF
open PySem PySem.Spec PyProof.Rows L2 SlX RZ
theorem last_at {α : Type} {xs : List V} {l : List α} {x : α} {F : V → α → Prop} (h : Paired F xs (l ++ [x])) : ∃ y, xs[xs.length - 1]? = some y ∧ F y x ∧ Paired F xs.dropLast l := by
  have hl := Paired.length h
  rw [List.length_append, List.length_singleton] at hl
  obtain ⟨y, hy, hf⟩ := pget (i := xs.length - 1) h (by rw [hl, Nat.add_sub_cancel, List.getElem?_append_right (Nat.le_refl _), Nat.sub_self]; rfl)
  refine ⟨y, hy, hf, ?_⟩
  have := pdropLast h
  rw [List.dropLast_concat] at this
  exact this
section
variable {P : Program} {w : World} {K : PySem.W.Frag} {mg : Str → Option Value} {base : Heap}
def spUndo (C Cs cN : Addr) : Sp := fun vs H Q E => ∃ (a b nl pl : Addr) (w : Nat) (sh : Shf) (now : Stt) (notes : List Pr) (past : List Stt) (mark : Int), vs = [.ref a] ∧ SesAt C Cs H a b nl pl w sh now notes past mark ∧
  (((notes.length : Int) ≤ mark ∧ E (.ref cN) none H) ∨
    (mark < notes.length ∧ ∃ ns x ps st, notes = ns ++ [x] ∧ past = ps ++ [st] ∧ StOk8 sh st ∧ ∀ H' v, But [a, nl, pl] H H' → SesAt C Cs H' a b nl pl w sh st ns ps mark → PrAt H' v x → Q v H'))
theorem scUndo : FnScope ["self"] ["self"] (defScope s_se_undo) := ⟨rfl, rfl, rfl, by decide +kernel, rfl, by decide +kernel, by decide +kernel⟩
theorem ok_undo (T : Top P K mg) : FnOk P w K mg base (L2.CX P w) 3 T.se_undo.f T.se_undo.fd ["self"] (spUndo T.cSe T.cSh T.cND) := by
  refine T.se_undo.F.okX scUndo (fun vs H Q E h => ?_) (fun cdv A outer s H vs Q E hr h => ?_)
  · obtain ⟨a, b, nl, pl, w, sh, now, notes, past, mark, rfl, _⟩ := h
    rfl
  · obtain ⟨a, b, nl, pl, w, sh, now, notes, past, mark, rfl, S, k⟩ := h
    refine ⟨_, pss_cons (ps_if (pt_cmpR op_le (pe_callB call_len_seq (by rfl) T.b_len bo_len (pa_cons (pe_fld (pv 0) rfl) pa_nil)) (pe_fld (pv 0) rfl) (nomark _))
        (pss_one (ps_raise rfl (takes_of rfl rfl rfl rfl) (pmk_own PySem.F.excBase_ValueError T.e_NothingDone.q T.e_NothingDone.g T.e_NothingDone.k (raises_own T.e_NothingDone.b T.e_NothingDone.t) rfl))) pss_nil)
      (pss_cons (ps_fld (pv 0) (pe_bm0 PySem.F.plainAttrs_list PySem.F.slot_list_pop PySem.F.type_list_pop mt_pop (pe_fld (pv 0) rfl)) rfl)
      (pss_one (ps_ret (pe_bm0 PySem.F.plainAttrs_list PySem.F.slot_list_pop PySem.F.type_list_pop mt_pop (pe_fld (pv 0) rfl))))), ?_⟩
    obtain ⟨dx, v, h1, hv⟩ := id S.ob
    have nA := T.seA
    obtain ⟨xs, hxs, hxp⟩ := id S.nt
    obtain ⟨ys, hys, hyp⟩ := id S.ps
    have hxl := Paired.length hxp
    have npl := S.ne
    have anl : a ≠ nl := ne_of h1 hxs (fun z => nomatch z)
    have apl : a ≠ pl := ne_of h1 hys (fun z => nomatch z)
    refine ⟨_, rfl, a, T.cSe, dx, _, _, rfl, h1, T.seC, nA _ (by simp), sF_notes .., nl, xs, rfl, .inl (SqL.of hxs), _, rfl, a, T.cSe, dx, _, _, rfl, h1, T.seC, nA _ (by simp), sF_mark .., _, _, rfl, rfl, _, rfl, ?_⟩
    rcases k with ⟨kl, ke⟩ | ⟨kl, ns, x, ps, st, rfl, rfl, hst, kk⟩
    · rw [decide_eq_true (show (xs.length : Int) ≤ mark by omega)]
      exact iteT ke
    · rw [decide_eq_false (show ¬ (xs.length : Int) ≤ mark by omega)]
      refine iteF ?_
      obtain ⟨y, hy1, hy2, hy3⟩ := last_at hyp
      obtain ⟨x', hx1, hx2, hx3⟩ := last_at hxp
      refine ⟨_, rfl, a, T.cSe, dx, _, _, rfl, h1, T.seC, nA _ (by simp), sF_past .., .inl ⟨rfl, _, SqL.of hys⟩, pl, ys, y, rfl, rfl, hys, hy1, ?_⟩
      have h1p : upd H pl (.lst ys.dropLast) a = some (.ins T.cSe dx (sF b v nl pl mark)) := by rw [upd_ne apl]; exact h1
      refine ⟨_, rfl, a, T.cSe, dx, _, rfl, h1p, T.seC, nA _ (by simp), (by show 5 < 1000; decide), ?_⟩
      have ea : upd (upd H pl (.lst ys.dropLast)) a (.ins T.cSe dx (putF "now" y (sF b v nl pl mark))) a = some (.ins T.cSe dx (sF b y nl pl mark)) := by rw [upd_same, sF_pnow]
      have en : upd (upd H pl (.lst ys.dropLast)) a (.ins T.cSe dx (putF "now" y (sF b v nl pl mark))) nl = some (.lst xs) := by rw [upd_ne (Ne.symm anl), upd_ne npl]; exact hxs
      have ep : upd (upd H pl (.lst ys.dropLast)) a (.ins T.cSe dx (putF "now" y (sF b v nl pl mark))) pl = some (.lst ys.dropLast) := by rw [upd_ne (Ne.symm apl), upd_same]
      have bb : But [a, nl, pl] H (upd (upd H pl (.lst ys.dropLast)) a (.ins T.cSe dx (putF "now" y (sF b v nl pl mark)))) := (But.put (by simp)).trans (But.put (by simp))
      revert ea en ep bb
      generalize upd (upd H pl (.lst ys.dropLast)) a (.ins T.cSe dx (putF "now" y (sF b v nl pl mark))) = H3
      intro ea en ep bb
      refine ⟨_, rfl, a, T.cSe, dx, _, _, rfl, ea, T.seC, nA _ (by simp), sF_notes .., .inl ⟨rfl, _, SqL.of en⟩, nl, xs, x', rfl, rfl, en, hx1, ?_⟩
      have b4 : But [a, nl, pl] H (upd H3 nl (.lst xs.dropLast)) := bb.trans (But.put (by simp))
      have c4 := b4.chg S.mu
      exact kk _ _ b4 ⟨⟨dx, y, by rw [upd_ne anl]; exact ea, mono_st _ _ _ _ c4.tk hy2⟩, S.sf.keep c4, ⟨xs.dropLast, upd_same, pmono hx3 fun _ _ z => mono_pr _ _ _ _ c4.tk z⟩, ⟨ys.dropLast, by rw [upd_ne (Ne.symm npl)]; exact ep, pmono hy3 fun _ _ z => mono_st _ _ _ _ c4.tk z⟩, npl, hst⟩ (mono_pr _ _ _ _ c4.tk hx2)
/-! ### branch -/
def spBranch (C Cs : Addr) : Sp := fun vs H Q _ => ∃ (a b nl pl : Addr) (w : Nat) (sh : Shf) (now : Stt) (notes : List Pr) (past : List Stt) (mark : Int), vs = [.ref a] ∧ SesAt C Cs H a b nl pl w sh now notes past mark ∧
  ∀ H' a' nl' pl', Same H H' → H a' = none → H nl' = none → H pl' = none → SesAt C Cs H' a' b nl' pl' w sh now notes past 0 → Q (.ref a') H'
theorem scBranch : FnScope ["self", "found"] ["self"] (defScope s_se_branch) := ⟨rfl, rfl, rfl, by decide +kernel, rfl, by decide +kernel, by decide +kernel⟩
theorem ok_branch (T : Top P K mg) : FnOk P w K mg base CX0 17 T.se_branch.f T.se_branch.fd ["self"] (spBranch T.cSe T.cSh) := by
  refine T.se_branch.F.ok scBranch (fun vs H Q E h => ?_) (fun cdv A outer s H vs Q E hr h => ?_)
  · obtain ⟨a, b, nl, pl, w, sh, now, notes, past, mark, rfl, _⟩ := h
    rfl
  · obtain ⟨a, b, nl, pl, w, sh, now, notes, past, mark, rfl, S, k⟩ := h
    have hr15 : Room 15 _ := hr.mono (by decide)
    refine ⟨_, pss_cons (ps_set (i := 1) scBranch.nd rfl (Or.inl rfl) (pe_make T.seM (ok_se_init T) hr15 (by rfl) T.g_se T.se_init.b .nil pass0 (pa_cons (pe_fld (pv 0) rfl) (pa_cons (pe_ix ix_tup (pe_fld (pv 0) rfl) pe_int (fun _ _ => rfl)) (pa_cons (pe_ix ix_tup (pe_fld (pv 0) rfl) pe_int (fun _ _ => rfl)) pa_nil)))))
      (pss_cons (ps_fld (pv 1) (pe_callTy call_list_of (by rfl) T.b_list bo_list (pa_cons (pe_fld (pv 0) rfl) pa_nil)) rfl)
      (pss_cons (ps_fld (pv 1) (pe_callTy call_list_of (by rfl) T.b_list bo_list (pa_cons (pe_fld (pv 0) rfl) pa_nil)) rfl)
      (pss_one (ps_ret (pv 1))))), ?_⟩
    obtain ⟨dx, v, h1, t, x0, y0, rfl, h3, h4, h5⟩ := id S.ob
    have nA := T.seA
    obtain ⟨xs, hxs, hxp⟩ := id S.nt
    obtain ⟨ys, hys, hyp⟩ := id S.ps
    refine ⟨_, rfl, a, T.cSe, dx, _, _, rfl, h1, T.seC, nA _ (by simp), sF_base .., _, rfl, a, T.cSe, dx, _, _, rfl, h1, T.seC, nA _ (by simp), sF_now .., t, _, _, _, rfl, rfl, SqT.of h3, rfl, _, rfl, a, T.cSe, dx, _, _, rfl, h1, T.seC, nA _ (by simp), sF_now .., t, _, _, _, rfl, rfl, SqT.of h3, rfl, fun p dp hp hdp hne => ?_⟩
    have s1 : Same H (upd (upd H dp (.own p)) p (.ins T.cSe dp [])) := Same.upd' (Same.new hdp) hp _
    refine ⟨p, dp, b, x0, y0, w, sh, now.1, now.2, rfl, upd_same, S.sf.keep (.same s1), mono_db _ _ _ _ (.same s1) h4, mono_pr _ _ _ _ (.same s1) h5, S.ok, fun H2 n2 p2 b2 hn2 hp2 S2 => ⟨rfl, ?_⟩⟩
    have s2 : Same H H2 := fun q o e => b2 _ _ (s1 _ _ e) (by simp; exact ne_of_none e hp)
    obtain ⟨dq, vq, g1, g2⟩ := id S2.ob
    have fn2 : H n2 = none := s1.free hn2
    have fp2 : H p2 = none := s1.free hp2
    refine ⟨_, rfl, a, T.cSe, dx, _, _, rfl, s2 _ _ h1, T.seC, nA _ (by simp), sF_notes .., nl, xs, rfl, .inl (SqL.of (s2 _ _ hxs)), fun l1 hl1 => ?_⟩
    have f1 : H l1 = none := s2.free hl1
    refine ⟨_, rfl, p, T.cSe, dq, _, rfl, (by rw [upd_ne (ne_of_none g1 hl1)]; exact g1), T.seC, nA _ (by simp), (by show 5 < 1000; decide), ?_⟩
    rw [sF_pnotes]
    have s3 : Same H (upd (upd H2 l1 (.lst xs)) p (.ins T.cSe dq (sF b vq l1 p2 0))) := Same.upd' (Same.upd' s2 f1 _) hp _
    have g3 : upd (upd H2 l1 (.lst xs)) p (.ins T.cSe dq (sF b vq l1 p2 0)) p = some (.ins T.cSe dq (sF b vq l1 p2 0)) := upd_same
    have pl1 : p ≠ l1 := ne_of_none g1 hl1
    have e3 : upd (upd H2 l1 (.lst xs)) p (.ins T.cSe dq (sF b vq l1 p2 0)) l1 = some (.lst xs) := by rw [upd_ne (Ne.symm pl1), upd_same]
    have tk3 : TK H2 (upd (upd H2 l1 (.lst xs)) p (.ins T.cSe dq (sF b vq l1 p2 0))) := (TK.new hl1).trans (TK.put (by rw [upd_ne pl1]; exact g1) (fun xs z => by cases z))
    revert s3 g3 e3 tk3
    generalize upd (upd H2 l1 (.lst xs)) p (.ins T.cSe dq (sF b vq l1 p2 0)) = H3
    intro s3 g3 e3 tk3
    refine ⟨_, rfl, a, T.cSe, dx, _, _, rfl, s3 _ _ h1, T.seC, nA _ (by simp), sF_past .., pl, ys, rfl, .inl (SqL.of (s3 _ _ hys)), fun l2 hl2 => ?_⟩
    have f2 : H l2 = none := s3.free hl2
    refine ⟨_, rfl, p, T.cSe, dq, _, rfl, (by rw [upd_ne (ne_of_none g3 hl2)]; exact g3), T.seC, nA _ (by simp), (by show 5 < 1000; decide), _, rfl, ?_⟩
    rw [sF_ppast]
    have pl2 : p ≠ l2 := ne_of_none g3 hl2
    have s4 : Same H (upd (upd H3 l2 (.lst ys)) p (.ins T.cSe dq (sF b vq l1 l2 0))) := Same.upd' (Same.upd' s3 f2 _) hp _
    have tk4 : TK H2 (upd (upd H3 l2 (.lst ys)) p (.ins T.cSe dq (sF b vq l1 l2 0))) := tk3.trans ((TK.new hl2).trans (TK.put (by rw [upd_ne pl2]; exact g3) (fun xs z => by cases z)))
    exact k _ p l1 l2 s4 hp f1 f2 ⟨⟨dq, vq, upd_same, mono_st _ _ _ _ tk4 g2⟩, S.sf.keep (.same s4), ⟨xs, by rw [upd_ne (Ne.symm pl1), upd_ne (ne_of_none e3 hl2)]; exact e3, pmono hxp fun _ _ z => mono_pr _ _ _ _ (.same s4) z⟩,
      ⟨ys, by rw [upd_ne (Ne.symm pl2), upd_same], pmono hyp fun _ _ z => mono_st _ _ _ _ (.same s4) z⟩, ne_of_none e3 hl2, S.ok⟩
end
end WF
end

section
set_option Elab.async false
set_option linter.all false
set_option maxRecDepth 100000
set_option maxHeartbeats 4000000
/-! Whichfirm: Trial. -/
namespace WF
open PySem PySem.Spec PyProof.Rows L2 SlX RZ
/-- a trial's attributes -/
def tF (a : Addr) (v : V) (nl pl : Addr) (m : Int) : List (Str × V) := [("session", .ref a), ("now", v), ("notes", .ref nl), ("past", .ref pl), ("mark", .int m)]
section
variable (b : Addr) (v v' : V) (nl pl l' : Addr) (m m' : Int)
theorem tF_session : (tF b v nl pl m).lookup ("session" : Str) = some (.ref b) := by rfl
theorem tF_now : (tF b v nl pl m).lookup ("now" : Str) = some v := by rfl
theorem tF_notes : (tF b v nl pl m).lookup ("notes" : Str) = some (.ref nl) := by rfl
theorem tF_past : (tF b v nl pl m).lookup ("past" : Str) = some (.ref pl) := by rfl
theorem tF_mark : (tF b v nl pl m).lookup ("mark" : Str) = some (.int m) := by rfl
theorem tF_pnow : putF "now" v' (tF b v nl pl m) = tF b v' nl pl m := by
  unfold tF
  rw [putF_ne (by decide +kernel), putF_eq]
theorem tF_pnotes : putF "notes" (.ref l') (tF b v nl pl m) = tF b v l' pl m := by
  unfold tF
  rw [putF_ne (by decide +kernel), putF_ne (by decide +kernel), putF_eq]
theorem tF_ppast : putF "past" (.ref l') (tF b v nl pl m) = tF b v nl l' m := by
  unfold tF
  rw [putF_ne (by decide +kernel), putF_ne (by decide +kernel), putF_ne (by decide +kernel), putF_eq]
theorem tF_pmark : putF "mark" (.int m') (tF b v nl pl m) = tF b v nl pl m' := by
  unfold tF
  rw [putF_ne (by decide +kernel), putF_ne (by decide +kernel), putF_ne (by decide +kernel), putF_ne (by decide +kernel), putF_eq]
theorem tF_new : putF "mark" (.int m) (putF "past" (.ref pl) (putF "notes" (.ref nl) (putF "now" v (putF "session" (.ref b) [])))) = tF b v nl pl m := by
  repeat (first | rw [putF_nil] | rw [putF_ne (by decide +kernel)])
  rfl
end
/-- at t a Trial that keeps a state of the session at a -/
structure TrAt (CT : Addr) (H : Hp) (t a nl pl : Addr) (sh : Shf) (now : Stt) (notes : List Pr) (past : List Stt) (mark : Int) : Prop where
  ob : ∃ dx v, H t = some (.ins CT dx (tF a v nl pl mark)) ∧ StAt H v now
  nt : LstAt PrAt H nl notes
  ps : LstAt StAt H pl past
  ne : nl ≠ pl
  ok : StOk8 sh now
theorem TrAt.keep {CT : Addr} {H H' : Hp} {t a nl pl : Addr} {sh : Shf} {now : Stt} {notes : List Pr} {past : List Stt} {mark : Int} (h : TrAt CT H t a nl pl sh now notes past mark) (c : Chg H H') (ea : H' t = H t) (en : H' nl = H nl) (ep : H' pl = H pl) : TrAt CT H' t a nl pl sh now notes past mark := by
  obtain ⟨⟨dx, v, h1, h2⟩, h4, h5, h6, h7⟩ := h
  exact ⟨⟨dx, v, ea.trans h1, mono_st _ _ _ _ c.tk h2⟩, h4.keep mono_pr c.tk fun o e => en.trans e, h5.keep mono_st c.tk fun o e => ep.trans e, h6, h7⟩
section
variable {P : Program} {w : World} {K : PySem.W.Frag} {mg : Str → Option Value} {base : Heap}
def spTrInit (C : Addr) : Sp := fun vs H Q _ => ∃ (p dx a : Addr), vs = [.ref p, .ref a] ∧ H p = some (.ins C dx []) ∧ ∀ H' nl pl, But [p] H H' → H' p = some (.ins C dx (tF a .non nl pl 0)) → Q .non H'
theorem scTrInit : FnScope ["self", "session"] ["self", "session"] (defScope s_tr_init) := ⟨rfl, rfl, rfl, by decide +kernel, rfl, by decide +kernel, by decide +kernel⟩
theorem ok_tr_init (T : Top P K mg) : FnOk P w K mg base CX0 3 T.tr_init.f T.tr_init.fd ["self", "session"] (spTrInit T.cTr) := by
  refine T.tr_init.F.ok scTrInit (fun vs H Q E h => ?_) (fun cdv A outer s H vs Q E hr h => ?_)
  · obtain ⟨p, dx, a, rfl, _⟩ := h
    rfl
  · obtain ⟨p, dx, a, rfl, hp, k⟩ := h
    refine ⟨_, pss_cons (ps_fld (pv 0) (pv 1) rfl)
      (pss_cons (ps_fld (pv 0) pe_non rfl)
      (pss_cons (ps_fld (pv 0) (pe_lst pa_nil) rfl)
      (pss_cons (ps_fld (pv 0) (pe_lst pa_nil) rfl)
      (pss_one (ps_fld (pv 0) pe_int rfl))))), ?_⟩
    have nA := T.trA
    refine ⟨_, rfl, _, rfl, p, T.cTr, dx, _, rfl, hp, T.trC, nA _ (by simp), (by show 0 < 1000; decide), ?_⟩
    refine ⟨_, rfl, p, T.cTr, dx, _, rfl, upd_same, T.trC, nA _ (by simp), (by show 1 < 1000; decide), ?_⟩
    refine ⟨(by show 0 ≤ sizeLine; exact Nat.zero_le _), fun nl hnl => ?_⟩
    have pnl : p ≠ nl := fun z => by rw [← z, upd_same] at hnl; cases hnl
    refine ⟨_, rfl, p, T.cTr, dx, _, rfl, (by rw [upd_ne pnl]; exact upd_same), T.trC, nA _ (by simp), (by show 2 < 1000; decide), ?_⟩
    refine ⟨(by show 0 ≤ sizeLine; exact Nat.zero_le _), fun pl hpl => ?_⟩
    have ppl : p ≠ pl := fun z => by rw [← z, upd_same] at hpl; cases hpl
    refine ⟨_, rfl, p, T.cTr, dx, _, rfl, (by rw [upd_ne ppl]; exact upd_same), T.trC, nA _ (by simp), (by show 3 < 1000; decide), ?_⟩
    refine ⟨_, rfl, p, T.cTr, dx, _, rfl, upd_same, T.trC, nA _ (by simp), (by show 4 < 1000; decide), ?_⟩
    have nl1 : H nl = none := by
      rw [upd_ne (Ne.symm pnl), upd_ne (Ne.symm pnl)] at hnl
      exact hnl
    have pl1 : H pl = none := by
      by_cases z : pl = nl
      · rw [z]
        exact nl1
      · rw [upd_ne (Ne.symm ppl), upd_ne z, upd_ne (Ne.symm ppl), upd_ne (Ne.symm ppl)] at hpl
        exact hpl
    refine k _ nl pl (fun x o hx hn => ?_) (by rw [upd_same, tF_new])
    have xp : x ≠ p := fun z => hn (by rw [z]; exact List.mem_cons_self)
    rw [upd_ne xp, upd_ne xp, upd_ne (ne_of_none hx pl1), upd_ne xp, upd_ne (ne_of_none hx nl1), upd_ne xp, upd_ne xp]
    exact hx
def spTrial (CT : Addr) : Sp := fun vs H Q _ => ∃ a, vs = [.ref a] ∧ ∀ H' t dx nl pl, Same H H' → H t = none → H' t = some (.ins CT dx (tF a .non nl pl 0)) → Q (.ref t) H'
theorem scTrial : FnScope ["self"] ["self"] (defScope s_se_trial) := ⟨rfl, rfl, rfl, by decide +kernel, rfl, by decide +kernel, by decide +kernel⟩
theorem ok_trial (T : Top P K mg) : FnOk P w K mg base CX0 6 T.se_trial.f T.se_trial.fd ["self"] (spTrial T.cTr) := by
  refine T.se_trial.F.ok scTrial (fun vs H Q E h => ?_) (fun cdv A outer s H vs Q E hr h => ?_)
  · obtain ⟨a, rfl, _⟩ := h
    rfl
  · obtain ⟨a, rfl, k⟩ := h
    have hr4 : Room 4 _ := hr.mono (by decide)
    refine ⟨_, pss_one (ps_ret (pe_make T.trM (ok_tr_init T) hr4 (by rfl) T.g_tr T.tr_init.b .nil pass0 (pa_cons (pv 0) pa_nil))), ?_⟩
    refine ⟨_, rfl, fun p dp hp hdp hne => ⟨p, dp, a, rfl, upd_same, fun H2 nl pl b2 h2 => ⟨rfl, ?_⟩⟩⟩
    have s1 : Same H (upd (upd H dp (.own p)) p (.ins T.cTr dp [])) := Same.upd' (Same.new hdp) hp _
    exact k H2 p dp nl pl (fun q o e => b2 _ _ (s1 _ _ e) (by simp; exact ne_of_none e hp)) hp h2
/-! ### __enter__ -/
def spEnter (C Cs CT : Addr) : Sp := fun vs H Q _ => ∃ (t dt tl tp a b nl pl : Addr) (w : Nat) (sh : Shf) (now : Stt) (notes : List Pr) (past : List Stt) (mark : Int), vs = [.ref t] ∧ H t = some (.ins CT dt (tF a .non tl tp 0)) ∧ t ≠ a ∧ SesAt C Cs H a b nl pl w sh now notes past mark ∧
  ∀ H' n2 p2, But [t, a] H H' → H n2 = none → H p2 = none → TrAt CT H' t a n2 p2 sh now notes past mark → SesAt C Cs H' a b nl pl w sh now notes past notes.length → Q (.ref a) H'
theorem scEnter : FnScope ["self"] ["self"] (defScope s_tr_enter) := ⟨rfl, rfl, rfl, by decide +kernel, rfl, by decide +kernel, by decide +kernel⟩
theorem ok_enter (T : Top P K mg) : FnOk P w K mg base CX0 3 T.tr_enter.f T.tr_enter.fd ["self"] (spEnter T.cSe T.cSh T.cTr) := by
  refine T.tr_enter.F.ok scEnter (fun vs H Q E h => ?_) (fun cdv A outer s H vs Q E hr h => ?_)
  · obtain ⟨t, dt, tl, tp, a, b, nl, pl, w, sh, now, notes, past, mark, rfl, _⟩ := h
    rfl
  · obtain ⟨t, dt, tl, tp, a, b, nl, pl, w, sh, now, notes, past, mark, rfl, ht, hta, S, k⟩ := h
    refine ⟨_, pss_cons (ps_asg (pe_tup (pa_cons (pe_fld (pe_fld (pv 0) rfl) rfl) (pa_cons (pe_fld (pe_fld (pv 0) rfl) rfl) pa_nil))) (pg_tupK (K := K) rfl rfl (pgs_cons (pg_fld (pv 0)) (pgs_cons (pg_fld (pv 0)) pgs_nil))))
      (pss_cons (ps_asg (pe_tup (pa_cons (pe_callTy call_list_of (by rfl) T.b_list bo_list (pa_cons (pe_fld (pe_fld (pv 0) rfl) rfl) pa_nil)) (pa_cons (pe_callTy call_list_of (by rfl) T.b_list bo_list (pa_cons (pe_fld (pe_fld (pv 0) rfl) rfl) pa_nil)) pa_nil))) (pg_tupK (K := K) rfl rfl (pgs_cons (pg_fld (pv 0)) (pgs_cons (pg_fld (pv 0)) pgs_nil))))
      (pss_cons (ps_fld (pe_fld (pv 0) rfl) (pe_callB call_len_seq (by rfl) T.b_len bo_len (pa_cons (pe_fld (pv 0) rfl) pa_nil)) rfl)
      (pss_one (ps_ret (pe_fld (pv 0) rfl))))), ?_⟩
    obtain ⟨dx, v, h1, hv⟩ := id S.ob
    have nA := T.seA
    have nT := T.trA
    obtain ⟨xs, hxs, hxp⟩ := id S.nt
    obtain ⟨ys, hys, hyp⟩ := id S.ps
    have hxl := Paired.length hxp
    refine ⟨_, rfl, t, T.cTr, dt, _, _, rfl, ht, T.trC, nT _ (by simp), tF_session .., a, T.cSe, dx, _, _, rfl, h1, T.seC, nA _ (by simp), sF_now .., _, rfl, t, T.cTr, dt, _, _, rfl, ht, T.trC, nT _ (by simp), tF_session .., a, T.cSe, dx, _, _, rfl, h1, T.seC, nA _ (by simp), sF_mark .., (by show 2 ≤ sizeLine; decide), fun q hq => ?_⟩
    have tq : t ≠ q := ne_of_none ht hq
    refine ⟨q, _, rfl, SqT.of upd_same, rfl, v, _, rfl, _, rfl, t, T.cTr, dt, _, rfl, (by rw [upd_ne tq]; exact ht), T.trC, nT _ (by simp), (by show 5 < 1000; decide), .int mark, _, rfl, _, rfl, t, T.cTr, dt, _, rfl, upd_same, T.trC, nT _ (by simp), ?_, rfl, ?_⟩
    · rw [tF_pnow]
      show 5 < 1000
      decide
    rw [tF_pnow, tF_pmark, upd_upd]
    have b1 : But [t] H (upd (upd H q (.tup [v, .int mark])) t (.ins T.cTr dt (tF a v tl tp mark))) := (But.of (Same.new hq)).trans (But.put (by simp))
    have e1 : upd (upd H q (.tup [v, .int mark])) t (.ins T.cTr dt (tF a v tl tp mark)) t = some (.ins T.cTr dt (tF a v tl tp mark)) := upd_same
    revert b1 e1
    generalize upd (upd H q (.tup [v, .int mark])) t (.ins T.cTr dt (tF a v tl tp mark)) = H1
    intro b1 e1
    have at_ : a ≠ t := Ne.symm hta
    have nlt : nl ≠ t := ne_of hxs ht (fun z => nomatch z)
    have plt : pl ≠ t := ne_of hys ht (fun z => nomatch z)
    have ha1 := b1 _ _ h1 (by simp [at_])
    have hx1 := b1 _ _ hxs (by simp [nlt])
    have hy1 := b1 _ _ hys (by simp [plt])
    refine ⟨_, rfl, t, T.cTr, dt, _, _, rfl, e1, T.trC, nT _ (by simp), tF_session .., a, T.cSe, dx, _, _, rfl, ha1, T.seC, nA _ (by simp), sF_notes .., nl, xs, rfl, .inl (SqL.of hx1), fun l1 hl1 => ?_⟩
    have s2 : Same H1 (upd H1 l1 (.lst xs)) := Same.new hl1
    refine ⟨_, rfl, t, T.cTr, dt, _, _, rfl, s2 _ _ e1, T.trC, nT _ (by simp), tF_session .., a, T.cSe, dx, _, _, rfl, s2 _ _ ha1, T.seC, nA _ (by simp), sF_past .., pl, ys, rfl, .inl (SqL.of (s2 _ _ hy1)), fun l2 hl2 => ⟨(by show 2 ≤ sizeLine; decide), fun q2 hq2 => ?_⟩⟩
    have s3 : Same H1 (upd (upd (upd H1 l1 (.lst xs)) l2 (.lst ys)) q2 (.tup [.ref l1, .ref l2])) := (s2.trans (Same.new hl2)).trans (Same.new hq2)
    have l12 : l1 ≠ l2 := fun z => by rw [← z, upd_same] at hl2; cases hl2
    have f1 : upd (upd (upd H1 l1 (.lst xs)) l2 (.lst ys)) q2 (.tup [.ref l1, .ref l2]) l1 = some (.lst xs) := (Same.new hq2) _ _ ((Same.new hl2) _ _ upd_same)
    have f2 : upd (upd (upd H1 l1 (.lst xs)) l2 (.lst ys)) q2 (.tup [.ref l1, .ref l2]) l2 = some (.lst ys) := (Same.new hq2) _ _ upd_same
    have f3 : upd (upd (upd H1 l1 (.lst xs)) l2 (.lst ys)) q2 (.tup [.ref l1, .ref l2]) q2 = some (.tup [.ref l1, .ref l2]) := upd_same
    have l2n : H1 l2 = none := s2.free hl2
    revert s3 f1 f2 f3
    generalize upd (upd (upd H1 l1 (.lst xs)) l2 (.lst ys)) q2 (.tup [.ref l1, .ref l2]) = H2
    intro s3 f1 f2 f3
    refine ⟨q2, _, rfl, SqT.of f3, rfl, .ref l1, _, rfl, _, rfl, t, T.cTr, dt, _, rfl, s3 _ _ e1, T.trC, nT _ (by simp), (by show 5 < 1000; decide), .ref l2, _, rfl, _, rfl, t, T.cTr, dt, _, rfl, upd_same, T.trC, nT _ (by simp), ?_, rfl, ?_⟩
    · rw [tF_pnotes]
      show 5 < 1000
      decide
    rw [tF_pnotes, tF_ppast, upd_upd]
    have b3 : But [t] H (upd H2 t (.ins T.cTr dt (tF a v l1 l2 mark))) := (b1.trans (But.of s3)).trans (But.put (by simp))
    have e3 : upd H2 t (.ins T.cTr dt (tF a v l1 l2 mark)) t = some (.ins T.cTr dt (tF a v l1 l2 mark)) := upd_same
    have g1 : upd H2 t (.ins T.cTr dt (tF a v l1 l2 mark)) l1 = some (.lst xs) := by rw [upd_ne (ne_of f1 (s3 _ _ e1) (fun z => nomatch z))]; exact f1
    have g2 : upd H2 t (.ins T.cTr dt (tF a v l1 l2 mark)) l2 = some (.lst ys) := by rw [upd_ne (ne_of f2 (s3 _ _ e1) (fun z => nomatch z))]; exact f2
    revert b3 e3 g1 g2
    generalize upd H2 t (.ins T.cTr dt (tF a v l1 l2 mark)) = H3
    intro b3 e3 g1 g2
    have ha3 := b3 _ _ h1 (by simp [at_])
    refine ⟨_, rfl, t, T.cTr, dt, _, _, rfl, e3, T.trC, nT _ (by simp), tF_notes .., l1, xs, rfl, .inl (SqL.of g1), _, rfl, t, T.cTr, dt, _, _, rfl, e3, T.trC, nT _ (by simp), tF_session .., a, T.cSe, dx, _, rfl, ha3, T.seC, nA _ (by simp), (by show 5 < 1000; decide), ?_⟩
    rw [sF_pmark]
    have b4 : But [t, a] H (upd H3 a (.ins T.cSe dx (sF b v nl pl (xs.length : Nat)))) := (b3.mono (by simp)).trans (But.put (by simp))
    have e4 : upd H3 a (.ins T.cSe dx (sF b v nl pl (xs.length : Nat))) t = some (.ins T.cTr dt (tF a v l1 l2 mark)) := by rw [upd_ne hta]; exact e3
    refine ⟨_, rfl, t, T.cTr, dt, _, _, rfl, e4, T.trC, nT _ (by simp), tF_session .., ?_⟩
    have c4 : Chg H (upd H3 a (.ins T.cSe dx (sF b v nl pl (xs.length : Nat)))) := b4.chg fun x hx => by
      simp at hx
      rcases hx with rfl | rfl
      · exact ⟨_, ht, rfl⟩
      · exact ⟨_, h1, rfl⟩
    have l1H : H l1 = none := b1.fresh hl1 (by simp; exact ne_of_none e1 hl1 |> fun z => Ne.symm z)
    have l2H : H l2 = none := b1.fresh l2n (by simp; exact ne_of_none e1 l2n |> fun z => Ne.symm z)
    have al1 : l1 ≠ a := fun z => by rw [z, h1] at l1H; cases l1H
    have al2 : l2 ≠ a := fun z => by rw [z, h1] at l2H; cases l2H
    have anl : nl ≠ a := ne_of hxs h1 (fun z => nomatch z)
    have apl : pl ≠ a := ne_of hys h1 (fun z => nomatch z)
    refine k _ l1 l2 b4 l1H l2H ⟨⟨dt, v, e4, mono_st _ _ _ _ c4.tk hv⟩, ⟨xs, by rw [upd_ne al1]; exact g1, pmono hxp fun _ _ z => mono_pr _ _ _ _ c4.tk z⟩, ⟨ys, by rw [upd_ne al2]; exact g2, pmono hyp fun _ _ z => mono_st _ _ _ _ c4.tk z⟩, l12, S.ok⟩
      ⟨⟨dx, v, by rw [upd_same, hxl], mono_st _ _ _ _ c4.tk hv⟩, S.sf.keep c4, ⟨xs, by rw [upd_ne anl]; exact b3 _ _ hxs (by simp [nlt]), pmono hxp fun _ _ z => mono_pr _ _ _ _ c4.tk z⟩, ⟨ys, by rw [upd_ne apl]; exact b3 _ _ hys (by simp [plt]), pmono hyp fun _ _ z => mono_st _ _ _ _ c4.tk z⟩, S.ne, S.ok⟩
/-! ### __exit__ -/
def spExit (C Cs CT : Addr) : Sp := fun vs H Q _ => ∃ (t a b nl pl n2 p2 : Addr) (k1 k2 k3 : V) (w : Nat) (sh : Shf) (now now2 : Stt) (notes notes2 : List Pr) (past past2 : List Stt) (mark mark2 : Int), vs = [.ref t, k1, k2, k3] ∧ TrAt CT H t a n2 p2 sh now2 notes2 past2 mark2 ∧ SesAt C Cs H a b nl pl w sh now notes past mark ∧
  ∀ H', But [a] H H' → SesAt C Cs H' a b n2 p2 w sh now2 notes2 past2 mark2 → Q .non H'
theorem scExit : FnScope ["self", "kind", "value", "trace"] ["self", "kind", "value", "trace"] (defScope s_tr_exit) := ⟨rfl, rfl, rfl, by decide +kernel, rfl, by decide +kernel, by decide +kernel⟩
theorem ok_exit (T : Top P K mg) : FnU P w K mg base CX0 3 T.tr_exit.f (spExit T.cSe T.cSh T.cTr) := by
  refine okU T.tr_exit.F T.tr_exit.b scExit (fun vs H Q E h => ?_) (fun cdv A outer s H vs Q E hr h => ?_)
  · obtain ⟨t, a, b, nl, pl, n2, p2, k1, k2, k3, w, sh, now, now2, notes, notes2, past, past2, mark, mark2, rfl, _⟩ := h
    rfl
  · obtain ⟨t, a, b, nl, pl, n2, p2, k1, k2, k3, w, sh, now, now2, notes, notes2, past, past2, mark, mark2, rfl, R, S, k⟩ := h
    refine ⟨_, pss_cons (ps_fld (pe_fld (pv 0) rfl) (pe_fld (pv 0) rfl) rfl) (pss_cons (ps_fld (pe_fld (pv 0) rfl) (pe_fld (pv 0) rfl) rfl) (pss_cons (ps_fld (pe_fld (pv 0) rfl) (pe_fld (pv 0) rfl) rfl) (pss_one (ps_fld (pe_fld (pv 0) rfl) (pe_fld (pv 0) rfl) rfl)))), ?_⟩
    obtain ⟨dx, v, h1, hv⟩ := id S.ob
    obtain ⟨dt, v2, ht, hv2⟩ := id R.ob
    obtain ⟨xs, hxs, hxp⟩ := id R.nt
    obtain ⟨ys, hys, hyp⟩ := id R.ps
    have nA := T.seA
    have nT := T.trA
    have hta : t ≠ a := fun z => by
      rw [z, h1] at ht
      injection ht with ht
      injection ht with _ _ ht
      have := congrArg (List.lookup ("session" : Str)) ht
      rw [tF_session, sF_no _ _ _ _ _ (by decide +kernel) (by decide +kernel) (by decide +kernel) (by decide +kernel) (by decide +kernel)] at this
      cases this
    refine ⟨_, rfl, t, T.cTr, dt, _, _, rfl, ht, T.trC, nT _ (by simp), tF_now .., _, rfl, t, T.cTr, dt, _, _, rfl, ht, T.trC, nT _ (by simp), tF_session .., a, T.cSe, dx, _, rfl, h1, T.seC, nA _ (by simp), (by show 5 < 1000; decide), ?_⟩
    rw [sF_pnow]
    have ht2 : upd H a (.ins T.cSe dx (sF b v2 nl pl mark)) t = some (.ins T.cTr dt (tF a v2 n2 p2 mark2)) := by rw [upd_ne hta]; exact ht
    refine ⟨_, rfl, t, T.cTr, dt, _, _, rfl, ht2, T.trC, nT _ (by simp), tF_notes .., _, rfl, t, T.cTr, dt, _, _, rfl, ht2, T.trC, nT _ (by simp), tF_session .., a, T.cSe, dx, _, rfl, upd_same, T.seC, nA _ (by simp), (by show 5 < 1000; decide), ?_⟩
    rw [sF_pnotes, upd_upd]
    have ht3 : upd H a (.ins T.cSe dx (sF b v2 n2 pl mark)) t = some (.ins T.cTr dt (tF a v2 n2 p2 mark2)) := by rw [upd_ne hta]; exact ht
    refine ⟨_, rfl, t, T.cTr, dt, _, _, rfl, ht3, T.trC, nT _ (by simp), tF_past .., _, rfl, t, T.cTr, dt, _, _, rfl, ht3, T.trC, nT _ (by simp), tF_session .., a, T.cSe, dx, _, rfl, upd_same, T.seC, nA _ (by simp), (by show 5 < 1000; decide), ?_⟩
    rw [sF_ppast, upd_upd]
    have ht4 : upd H a (.ins T.cSe dx (sF b v2 n2 p2 mark)) t = some (.ins T.cTr dt (tF a v2 n2 p2 mark2)) := by rw [upd_ne hta]; exact ht
    refine ⟨_, rfl, t, T.cTr, dt, _, _, rfl, ht4, T.trC, nT _ (by simp), tF_mark .., _, rfl, t, T.cTr, dt, _, _, rfl, ht4, T.trC, nT _ (by simp), tF_session .., a, T.cSe, dx, _, rfl, upd_same, T.seC, nA _ (by simp), (by show 5 < 1000; decide), ?_⟩
    rw [sF_pmark, upd_upd]
    have bf : But [a] H (upd H a (.ins T.cSe dx (sF b v2 n2 p2 mark2))) := But.put (by simp)
    have cf : Chg H (upd H a (.ins T.cSe dx (sF b v2 n2 p2 mark2))) := Chg.put h1 rfl
    exact k _ bf ⟨⟨dx, v2, upd_same, mono_st _ _ _ _ cf.tk hv2⟩, S.sf.keep cf, ⟨xs, by rw [upd_ne (ne_of hxs h1 (fun z => nomatch z))]; exact hxs, pmono hxp fun _ _ z => mono_pr _ _ _ _ cf.tk z⟩, ⟨ys, by rw [upd_ne (ne_of hys h1 (fun z => nomatch z))]; exact hys, pmono hyp fun _ _ z => mono_st _ _ _ _ cf.tk z⟩, R.ne, R.ok⟩
end
end WF
end

section
set_option Elab.async false
set_option linter.all false
set_option maxRecDepth 100000
set_option maxHeartbeats 4000000
/-! Whichfirm: Session.tried. -/
namespace WF
open PySem PySem.Spec PyProof.Rows L2 SlX RZ
section
variable {X : Cx} {K : PySem.W.Frag}
theorem pe_fldK {e : Expr} {f : Str} {pos : Pos} {ta : TE} (h : X.K = K) (he : PE X e ta) (hb : attributeBase e f X.env (eval e X.env) = eval e X.env := by rfl) : PE X (.Attribute e f pos) (tFld K ta f) := by
  subst h
  exact pe_fld he hb
theorem pi_enum2K {e : Expr} {ta : TA} {p pos tpos : Pos} {elts : List Expr} {kk : Nat} (h : X.K = K) (hg : Gl X "enumerate") (hm : X.mg "enumerate" = none) (ha : PA X [e] ta) (hs : starEach [e] X.env = [(false, eval e X.env)] := by rfl) :
    PI X (.Tuple elts kk tpos) (.Call (.Name "enumerate" p) [e] [] pos) (iEnum2 K ta) := by
  subst h
  exact pi_enum2 hg hm ha hs
theorem pe_appendK {o e : Expr} {to te : TE} {apos cpos : Pos} (h : X.K = K) (ho : PE X o to) (he : PE X e te) (hbase : attributeBase o "append" X.env (eval o X.env) = eval o X.env := by rfl)
    (hfew : ((backTo cpos (starEach [e] X.env)).all (fun x => !x.1) && (backToKw cpos (keywordEach [] X.env)).all (fun x => x.1.isSome) && decide (([e] : List Expr).length + ([] : List Keyword).length + (if ([] : List Keyword).isEmpty then 0 else 1) < 30)) = true := by rfl)
    (hline : (apos.endLine == cpos.line) = true := by rfl) (hs : starEach [e] X.env = (false, eval e X.env) :: starEach [] X.env := by rfl) (hplain : (backTo cpos (starEach [] X.env)).any (·.1) = false := by rfl) :
    PE X (.Call (.Attribute o "append" apos) [e] [] cpos) (tBM K "list" rAppend to (tCons te tNil)) := by
  subst h
  exact pe_bm PySem.F.plainAttrs_list PySem.F.slot_list_append PySem.F.type_list_append mt_append ho (pa_cons he pa_nil hs) hbase hfew hline hs hplain
end
theorem for_enum2 {K : PySem.W.Frag} {a : Addr} {xs : List V} {g : TG} {tb : TS} {D : Ends} {σ : L2.St} {H : Hp} (Pv : Nat → L2.St → Hp → Prop) (h0 : Pv 0 σ H) (hl : (∀ i σ H, i ≤ xs.length → Pv i σ H → SqL K H a xs) ∨ (∀ i σ H, i ≤ xs.length → Pv i σ H → SqT K H a xs))
    (hs : ∀ i x σ H T, xs[i]? = some x → Pv i σ H → H T = none → g (.ref T) σ (upd H T (.tup [.int (i : Nat), x])) fun σ2 H2 => tb { D with nx := Pv (i + 1), ct := Pv (i + 1), bk := D.nx } σ2 H2) (hd : ∀ σ H, Pv xs.length σ H → D.nx σ H) :
    (SqL K H a xs ∧ ∃ W : Nat → Nat → L2.St → Hp → Prop, (∃ m, W 0 m σ H) ∧ ∀ i m σ H, W i m σ H →
      ((Ite K a).stop i H ∧ D.nx σ H) ∨ ((Ite K a).go i H ∧ ∃ N : L2.St → Hp → Prop, (∀ σ' H', N σ' H' → ∃ m', m' < m ∧ W (i + 1) m' σ' H') ∧ ∀ x H', (Ite K a).yld i H x H' → g x σ H' fun σ2 H2 => tb { D with nx := N, ct := N, bk := D.nx } σ2 H2)) ∨
    (SqT K H a xs ∧ ∃ W : Nat → Nat → L2.St → Hp → Prop, (∃ m, W 0 m σ H) ∧ ∀ i m σ H, W i m σ H →
      ((IteT K a).stop i H ∧ D.nx σ H) ∨ ((IteT K a).go i H ∧ ∃ N : L2.St → Hp → Prop, (∀ σ' H', N σ' H' → ∃ m', m' < m ∧ W (i + 1) m' σ' H') ∧ ∀ x H', (IteT K a).yld i H x H' → g x σ H' fun σ2 H2 => tb { D with nx := N, ct := N, bk := D.nx } σ2 H2)) := by
  rcases hl with hl | hl
  · exact .inl ⟨hl 0 σ H (Nat.zero_le _) h0, for_enumL Pv h0 hl hs hd⟩
  · exact .inr ⟨hl 0 σ H (Nat.zero_le _) h0, for_enumT Pv h0 hl hs hd⟩
section
variable {P : Program} {w : World} {K : PySem.W.Frag} {mg : Str → Option Value} {base : Heap}
def spTried (C Cs cB : Addr) : Sp := fun vs H Q E => ∃ (a b nl pl l : Addr) (w : Nat) (sh : Shf) (now : Stt) (notes : List Pr) (past : List Stt) (mark : Int) (cs : List Int), vs = [.ref a, .ref l] ∧ SesAt C Cs H a b nl pl w sh now notes past mark ∧ notes.length ≤ 800 ∧ past.length ≤ 800 ∧
  (H l = some (.lst (cs.map V.int)) ∨ H l = some (.tup (cs.map V.int))) ∧ l ≠ nl ∧ l ≠ pl ∧ cs.length ≤ 8 ∧ (∀ c ∈ cs, 0 ≤ c ∧ c < w) ∧
  ((run sh now cs).2.1 = none → ∀ H' f n2 p2, But [a, nl, pl] H H' → H f = none → H n2 = none → H p2 = none → IntsAt H' f (run sh now cs).1 → SesAt C Cs H' a b n2 p2 w sh now notes past mark → Q (.ref f) H') ∧
  (∀ i, (run sh now cs).2.1 = some i → ∀ H' d n2 p2, But [a, nl, pl] H H' → H n2 = none → H p2 = none → H' d = some (.xd [("index", .int (i : Nat))]) → SesAt C Cs H' a b n2 p2 w sh now notes past mark → E (.ref cB) (some d) H')
theorem scTried : FnScope ["self", "commands", "found", "index", "command"] ["self", "commands"] (defScope s_se_tried) := ⟨rfl, rfl, rfl, by decide +kernel, rfl, by decide +kernel, by decide +kernel⟩
theorem ok_tried (T : Top P K mg) : FnOk P w K mg base (L2.CX P w) 12 T.se_tried.f T.se_tried.fd ["self", "commands"] (spTried T.cSe T.cSh T.cBR) := by
  refine T.se_tried.F.okX scTried (fun vs H Q E h => ?_) (fun cdv A outer s H vs Q E hr h => ?_)
  · obtain ⟨a, b, nl, pl, l, w, sh, now, notes, past, mark, cs, rfl, _⟩ := h
    rfl
  · obtain ⟨a, b, nl, pl, l, w, sh, now, notes, past, mark, cs, rfl, S, hn8, hp8, hl, lnl, lpl, h8, hcs, kok, kex⟩ := h
    have hr2 : Room 2 _ := hr.mono (by decide)
    have hr3 : Room 3 _ := hr.mono (by decide)
    have hr4 : Room 4 _ := hr.mono (by decide)
    have hr6 : Room 6 _ := hr.mono (by decide)
    have hr8 : Room 8 _ := hr.mono (by decide)
    have hr9 : Room 9 _ := hr.mono (by decide)
    refine ⟨_, pss_cons (ps_expr (pcall T.d_check_row (ok_check_row T) hr9 (by rfl) (pa_cons (pe_fld (pv 0) rfl) (pa_cons (pv 1) pa_nil))))
      (pss_cons (ps_set (i := 2) scTried.nd rfl (Or.inl rfl) (pe_lst pa_nil))
      (pss_cons (ps_with rfl rfl rfl (takes_of rfl rfl rfl rfl) hr3 (pe_meth0 (pv 0) T.seC T.se_trial.m (ok_trial T) hr6 T.se_trial.b .nil pass0) T.tr_enter.m.at_ T.tr_enter.m.fn T.tr_exit.m.at_ T.tr_exit.m.fn (rawR (ok_enter T) T.tr_enter.b) (ok_exit T)
        (fun W pn xe tk po => pss_one (ps_for po rfl (pi_enum2K (K := K) rfl (by rfl) T.b_enumerate (pa_cons (pv 1) pa_nil)) (pg_tupK (K := K) (n := 2) rfl rfl (pgs_cons (pg_name (i := 3) scTried.nd rfl (Or.inl rfl)) (pgs_cons (pg_name (i := 4) scTried.nd rfl (Or.inl rfl)) pgs_nil)))
          (pss_cons (ps_if (pt_not (pt_val (pcall T.d_is_safe (ok_is_safe T) hr6 (by rfl) (pa_cons (pe_fldK (K := K) rfl (pv 0)) (pa_cons (pe_propU (pv 0) T.seC T.se_doubt.o (ok_doubt T) (L2H.roomH_of hr4)) (pa_cons (pv 4) pa_nil))))))
            (pss_one (ps_raise rfl tk (pmk_bad T.brS T.brO T.brN (by decide +kernel) (by decide +kernel) (by decide +kernel) (by decide +kernel) (by decide +kernel) T.brI T.brT T.brB (k := 0) hr2 (by rfl) T.g_br (pv 3) (fun σ H Q1 Q2 hm ⟨v, e, q⟩ => ⟨v, e, hm _ _ q⟩)))) pss_nil)
          (pss_one (ps_expr (pe_appendK (K := K) rfl (pv 2) (pe_meth (pv 0) T.seC T.se_give.m (ok_give T) hr8 T.se_give.b .nil passL (pa_cons (pv 4) pa_nil)))))))))
      (pss_one (ps_ret (pv 2))))), ?_⟩
    obtain ⟨dx, v, h1, hv⟩ := id S.ob
    have nA := T.seA
    have hS := S.sf.1
    obtain ⟨xs0, hxs0, _⟩ := id S.nt
    obtain ⟨ys0, hys0, _⟩ := id S.ps
    have hlm : ∃ o, H l = some o ∧ ∀ C dx fs, o ≠ .ins C dx fs := by
      rcases hl with h | h
      · exact ⟨_, h, fun _ _ _ z => by cases z⟩
      · exact ⟨_, h, fun _ _ _ z => by cases z⟩
    obtain ⟨ol, hol, hnol⟩ := hlm
    have lna : l ≠ a := ne_of hol h1 (hnol _ _ _)
    have lS : ∀ {H' : Hp}, But [a, nl, pl] H H' → H' l = H l := fun bb => (bb _ _ hol (by simp [lna, lnl, lpl])).trans hol.symm
    refine ⟨_, rfl, a, T.cSe, dx, _, _, rfl, h1, T.seC, nA _ (by simp), sF_base .., _, rfl, b, w, sh, l, cs, rfl, S.sf, hl, h8, hcs, fun H1 s1 => ?_⟩
    refine ⟨(by show 0 ≤ sizeLine; exact Nat.zero_le _), fun f hf => ?_⟩
    have hfH : H f = none := s1.free hf
    have s2 : Same H (upd H1 f (.lst [])) := Same.upd' s1 hfH _
    have e2 : upd H1 f (.lst []) f = some (.lst []) := upd_same
    revert s2 e2
    generalize upd H1 f (.lst []) = H2
    intro s2 e2
    refine ⟨_, rfl, a, dx, _, rfl, s2 _ _ h1, sF_no _ _ _ _ _ (by decide +kernel) (by decide +kernel) (by decide +kernel) (by decide +kernel) (by decide +kernel), a, rfl, fun H3 t dt tl tp s3 ht2 et => ?_⟩
    have htH : H t = none := s2.free ht2
    have s13 : Same H H3 := s2.trans s3
    have tna : t ≠ a := fun z => by rw [z, h1] at htH; cases htH
    refine ⟨t, dt, _, rfl, et, t, dt, tl, tp, a, b, nl, pl, w, sh, now, notes, past, mark, rfl, et, tna, S.same s13, fun H4 n2 p2 b4 hn2 hp2 R4 S4 => ?_⟩
    have hn2H : H n2 = none := s13.free hn2
    have hp2H : H p2 = none := s13.free hp2
    have bH4 : But [a, nl, pl] H H4 := fun x o hx hn => b4 _ _ (s13 _ _ hx) (by
      simp at hn ⊢
      exact ⟨fun z => (by rw [z, htH] at hx; cases hx), hn.1⟩)
    have neH : ∀ {x y : Addr} {o : HO}, H x = none → H y = some o → x ≠ y := fun hx hy z => by
      rw [z, hy] at hx
      cases hx
    have f4 : H4 f = some (.lst []) := b4 _ _ (s3 _ _ e2) (by
      simp
      exact ⟨ne_of_none e2 ht2, neH hfH h1⟩)
    -- what give leaves alone
    have outG : ∀ {x : Addr}, H x = none → x ∉ [a, nl, pl] := fun hx => by
      simp
      exact ⟨neH hx h1, neH hx hxs0, neH hx hys0⟩
    refine ⟨_, rfl, l, cs.map V.int, rfl, for_enum2 (K := K) (a := l) (xs := cs.map V.int) (fun i σ H' => ∃ (o3 o4 : Option V) (rs : List Int) (st : Stt) (ns : List Pr) (ps : List Stt), σ = [some (.ref a), some (.ref l), some (.ref f), o3, o4] ∧ run sh now (cs.take i) = (rs, none, st) ∧ But [a, nl, pl] H H' ∧ IntsAt H' f rs ∧
        SesAt T.cSe T.cSh H' a b nl pl w sh st ns ps notes.length ∧ ns.length ≤ notes.length + i ∧ ps.length ≤ past.length + i ∧ rs.length ≤ i ∧ TrAt T.cTr H' t a n2 p2 sh now notes past mark)
      ⟨none, none, [], now, notes, past, rfl, by rw [List.take_zero]; rfl, bH4, f4, S4, Nat.le_refl _, Nat.le_refl _, Nat.le_refl _, R4⟩ ?_ ?_ ?_⟩
    · rcases hl with hl | hl
      · exact .inl fun i σ H' _ ⟨_, _, _, _, _, _, _, _, bb, _⟩ => SqL.of ((lS bb).trans hl)
      · exact .inr fun i σ H' _ ⟨_, _, _, _, _, _, _, _, bb, _⟩ => SqT.of ((lS bb).trans hl)
    · rintro i x σ H' T' hx ⟨o3, o4, rs, st, ns, ps, rfl, hrun, bb, hfr, Si, hni, hpi, hri, Ri⟩ hT'
      obtain ⟨c, hc1, rfl⟩ := int_at hx
      have hil : i < cs.length := (List.getElem?_eq_some_iff.mp hc1).1
      obtain ⟨hc0, hcw⟩ := hcs c (List.mem_of_getElem? hc1)
      refine g_pair upd_same ?_
      have sT : Same H' (upd H' T' (.tup [.int (i : Nat), .int c])) := Same.new hT'
      have bT : But [a, nl, pl] H (upd H' T' (.tup [.int (i : Nat), .int c])) := bb.trans (But.of sT)
      have ST := Si.same sT
      have fT := sT _ _ hfr
      have RT := Ri.keep (Chg.same sT) (by obtain ⟨_, _, z, _⟩ := Ri.ob; exact (sT _ _ z).trans z.symm) (by obtain ⟨_, z, _⟩ := Ri.nt; exact (sT _ _ z).trans z.symm) (by obtain ⟨_, z, _⟩ := Ri.ps; exact (sT _ _ z).trans z.symm)
      revert bT ST fT RT
      generalize upd H' T' (.tup [.int (i : Nat), .int c]) = H5
      intro bT ST fT RT
      obtain ⟨dx5, v5, g1, gv⟩ := id ST.ob
      have tkx : run sh now (cs.take (i + 1)) = runS sh (rs, none, st) i c := by rw [run_take sh now hc1, hrun]
      refine ⟨_, rfl, a, T.cSe, dx5, _, _, rfl, g1, T.seC, nA _ (by simp), sF_base .., _, rfl, a, dx5, _, rfl, g1, a, dx5, _, _, st, rfl, g1, sF_now .., gv, fun x hx => ⟨_, rfl, b, w, sh, x, st.1, c, rfl, ST.sf, hx, ST.ok.1.1.pr, ST.ok.2, hc0, hcw, fun H6 s6 => ⟨_, rfl, ?_⟩⟩⟩
      by_cases hsf : safe sh st.1 c = true
      · rw [hsf]
        refine iteF ?_
        have S6 := ST.same s6
        obtain ⟨dx6, v6, k1, kv⟩ := id S6.ob
        obtain ⟨r, n, e1, e2s, e3⟩ := stp8 hS S6.ok hc0 hcw hsf
        refine ⟨_, rfl, .inl ⟨rfl, _, SqL.of (s6 _ _ fT)⟩, _, rfl, a, dx6, _, rfl, k1, sF_no _ _ _ _ _ (by decide +kernel) (by decide +kernel) (by decide +kernel) (by decide +kernel) (by decide +kernel), _, rfl, a, b, nl, pl, w, sh, st, ns, ps, _, c, rfl, S6, by omega, by omega, ?_, fun z => absurd ⟨hc0, hcw, hsf⟩ z⟩
        rintro - r' st' he H7 b7 S7
        rw [e2s] at he
        cases he
        have f7 : H7 f = some (.lst (rs.map V.int)) := b7 _ _ (s6 _ _ fT) (outG hfH)
        refine ⟨f, _, _, rfl, rfl, f7, small1000 (by rw [List.length_map]; omega), ?_⟩
        have b8 : But [a, nl, pl] H (upd H7 f (.lst (rs.map V.int ++ [.int r]))) := fun x o hx hn => by
          rw [upd_ne (Ne.symm (neH hfH hx))]
          exact b7 _ _ (s6 _ _ (bT _ _ hx hn)) hn
        have S8 := S7.keep (H' := upd H7 f (.lst (rs.map V.int ++ [.int r]))) (Chg.put f7 rfl) (upd_ne (Ne.symm (neH hfH h1))) (upd_ne (Ne.symm (neH hfH hxs0))) (upd_ne (Ne.symm (neH hfH hys0)))
        obtain ⟨dt5, vt5, q1, _⟩ := id RT.ob
        obtain ⟨xn5, q2, _⟩ := id RT.nt
        obtain ⟨xp5, q3, _⟩ := id RT.ps
        have c7 : Chg H5 (upd H7 f (.lst (rs.map V.int ++ [.int r]))) := (Chg.same s6).trans ((b7.chg S6.mu).trans (Chg.put f7 rfl))
        have keep7 : ∀ {x : Addr} {o : HO}, H x = none → x ≠ f → H5 x = some o → upd H7 f (.lst (rs.map V.int ++ [.int r])) x = H5 x := fun {x o} hx hxf h5x => by
          rw [upd_ne hxf, b7 _ _ (s6 _ _ h5x) (outG hx), h5x]
        have nf2 : n2 ≠ f := fun z => by
          have := s3 _ _ e2
          rw [← z, hn2] at this
          cases this
        have pf2 : p2 ≠ f := fun z => by
          have := s3 _ _ e2
          rw [← z, hp2] at this
          cases this
        have tf2 : t ≠ f := Ne.symm (ne_of_none e2 ht2)
        have R8 := RT.keep c7 (keep7 htH tf2 q1) (keep7 hn2H nf2 q2) (keep7 hp2H pf2 q3)
        refine ⟨_, _, rs ++ [r], _, _, _, rfl, ?_, b8, ?_, S8, ?_, ?_, ?_, R8⟩
        · rw [tkx]
          unfold runS
          rw [e2s]
        · show upd H7 f _ f = some (.lst ((rs ++ [r]).map V.int))
          rw [upd_same, List.map_append]
          rfl
        · rw [List.length_append, List.length_singleton]
          omega
        · rw [List.length_append, List.length_singleton]
          omega
        · rw [List.length_append, List.length_singleton]
          omega
      · rw [Bool.eq_false_iff.mpr hsf]
        refine iteT ?_
        have e2s := stp_none (s := st) (Bool.eq_false_iff.mpr hsf)
        have wr : run sh now (cs.take (i + 1)) = (rs, some i, st) := by
          rw [tkx]
          unfold runS
          rw [e2s]
        have wr2 : (run sh now cs).2.1 = some i := by
          rw [run_stop sh now (k := i) (i := i + 1) (by rw [wr]), wr]
        refine ⟨_, rfl, fun d H7 hd s7 e7 => ⟨⟨.ref T.cBR, rfl⟩, fun kv vv tv => ?_⟩⟩
        have s57 : Same H5 H7 := s6.trans s7
        have S7 := ST.same s57
        have R7 := RT.keep (Chg.same s57) (by obtain ⟨_, _, z, _⟩ := RT.ob; exact (s57 _ _ z).trans z.symm) (by obtain ⟨_, z, _⟩ := RT.nt; exact (s57 _ _ z).trans z.symm) (by obtain ⟨_, z, _⟩ := RT.ps; exact (s57 _ _ z).trans z.symm)
        refine ⟨t, a, b, nl, pl, n2, p2, kv, vv, tv, w, sh, st, now, ns, notes, ps, past, _, mark, rfl, R7, S7, fun H8 b8 S8 => ⟨rfl, ?_⟩⟩
        have da : d ≠ a := fun z => by
          obtain ⟨dxz, vz, gz, _⟩ := S7.ob
          rw [z, gz] at e7
          cases e7
        exact kex i wr2 H8 d n2 p2 ((bT.trans (But.of s57)).trans (b8.mono (by simp))) hn2H hp2H (b8 _ _ e7 (by simp [da])) S8
    · rintro σ H' ⟨o3, o4, rs, st, ns, ps, rfl, hrun, bb, hfr, Si, hni, hpi, hri, Ri⟩
      rw [List.length_map, List.take_of_length_le (Nat.le_refl _)] at hrun
      refine ⟨t, a, b, nl, pl, n2, p2, .non, .non, .non, w, sh, st, now, ns, notes, ps, past, _, mark, rfl, Ri, Si, fun H8 b8 S8 => ?_⟩
      refine ⟨_, rfl, kok (by rw [hrun]) H8 f n2 p2 (bb.trans (b8.mono (by simp))) hfH hn2H hp2H ?_ S8⟩
      rw [hrun]
      exact b8 _ _ hfr (by simp; exact neH hfH h1)
end
end WF
end

section
set_option Elab.async false
set_option linter.all false
set_option maxRecDepth 100000
set_option maxHeartbeats 4000000
/-! Whichfirm: the law's draws. -/
namespace WF
open PySem PySem.Spec PyProof.Rows L2 SlX RZ
section
variable {P : Program} {w : World} {K : PySem.W.Frag} {mg : Str → Option Value} {base : Heap}
def spCell (K : PySem.W.Frag) : Sp := fun vs H Q _ => ∃ (s : Addr) (ns : List Int) (k : Int), vs = [.ref s, .int k] ∧ SqL K H s (ns.map V.int) ∧ 0 ≤ k ∧ ∀ i, Q (.int i) H
theorem scCell : FnScope ["_law_script", "_law_k"] ["_law_script", "_law_k"] (defScope s_L_cell_at) := ⟨rfl, rfl, rfl, by decide +kernel, rfl, by decide +kernel, by decide +kernel⟩
theorem ok_cell (T : Top P K mg) : FnOk P w K mg base CX0 3 T.d_L_cell_at.f T.d_L_cell_at.fd ["_law_script", "_law_k"] (spCell K) := by
  refine T.d_L_cell_at.F.ok scCell (fun vs H Q E h => ?_) (fun cdv A outer s H vs Q E hr h => ?_)
  · obtain ⟨s, ns, k, rfl, _⟩ := h
    rfl
  · obtain ⟨s, ns, k, rfl, hs, hk, kk⟩ := h
    refine ⟨_, pss_cons (ps_if (pt_cmpR op_lt (pv 1) (pe_callB call_len_seq (by rfl) T.b_len bo_len (pa_cons (pv 0) pa_nil)) (nomark _)) (pss_one (ps_ret (pe_ix ix_list (pv 0) (pv 1) (fun _ _ => rfl)))) pss_nil)
      (pss_one (ps_ret pe_int)), ?_⟩
    refine ⟨_, rfl, _, rfl, s, _, rfl, .inl hs, _, _, rfl, rfl, _, rfl, ?_⟩
    by_cases c : k < ((ns.map V.int).length : Nat)
    · rw [decide_eq_true c]
      obtain ⟨x, hx, hx2⟩ := atI_of (xs := ns.map V.int) hk c
      obtain ⟨i, _, rfl⟩ := int_at hx2
      exact iteT ⟨_, rfl, _, rfl, s, _, _, _, rfl, rfl, hs, hx, kk i⟩
    · rw [decide_eq_false c]
      exact iteF (kk 0)
def spDraw : Sp := fun vs H Q _ => ∃ c k b : Int, vs = [.int c, .int k, .int b] ∧ 0 < b ∧ 0 ≤ k ∧ ∀ H' i, Same H H' → 0 ≤ i → i < b → Q (.int i) H'
theorem scDraw : FnScope ["_law_cell", "_law_k", "_law_bound", "_law_primes"] ["_law_cell", "_law_k", "_law_bound"] (defScope s_L_draw) := ⟨rfl, rfl, rfl, by decide +kernel, rfl, by decide +kernel, by decide +kernel⟩
def primes : List Int := [1000003, 1000033, 1000037, 1000039, 1000081, 1000099, 1000117, 1000121, 1000133, 1000151, 1000159, 1000171, 1000183, 1000187, 1000193, 1000199]
theorem ok_draw (T : Top P K mg) : FnOk P w K mg base CX0 3 T.d_L_draw.f T.d_L_draw.fd ["_law_cell", "_law_k", "_law_bound"] spDraw := by
  refine T.d_L_draw.F.ok scDraw (fun vs H Q E h => ?_) (fun cdv A outer s H vs Q E hr h => ?_)
  · obtain ⟨c, k, b, rfl, _⟩ := h
    rfl
  · obtain ⟨c, k, b, rfl, hb, hk, kk⟩ := h
    refine ⟨_, pss_cons (ps_set (i := 3) scDraw.nd rfl (Or.inl rfl) (pe_tup (pa_cons pe_int (pa_cons pe_int (pa_cons pe_int (pa_cons pe_int (pa_cons pe_int (pa_cons pe_int (pa_cons pe_int (pa_cons pe_int (pa_cons pe_int (pa_cons pe_int (pa_cons pe_int (pa_cons pe_int (pa_cons pe_int (pa_cons pe_int (pa_cons pe_int (pa_cons pe_int pa_nil))))))))))))))))))
      (pss_one (ps_ret (pe_op op_mod (pe_op op_mod (pe_callTy call_int1 (by rfl) T.b_int bo_int (pa_cons (pe_op op_add (pe_op op_mul (pv 0) pe_int) (pe_op op_mul (pv 1) pe_int)) pa_nil)) (pe_ix ix_tup (pv 3) (pe_op op_mod (pe_callTy call_int1 (by rfl) T.b_int bo_int (pa_cons (pv 1) pa_nil)) pe_int) (fun _ _ => rfl))) (pv 2)))), ?_⟩
    refine ⟨(by show 16 ≤ sizeLine; decide), fun t ht => ?_⟩
    have hpr : ∃ p : Int, atI (primes.map V.int) (k % 16) = some (.int p) ∧ 0 < p := by
      obtain ⟨x, hx, hx2⟩ := atI_of (xs := primes.map V.int) (i := k % 16) (by omega) (by show k % 16 < 16; omega)
      obtain ⟨p, hp, rfl⟩ := int_at hx2
      refine ⟨p, hx, ?_⟩
      have hm := List.mem_of_getElem? hp
      have : ∀ q ∈ primes, 0 < q := by decide
      exact this p hm
    obtain ⟨p, hp, hp0⟩ := hpr
    refine ⟨_, rfl, _, _, rfl, rfl, .inr ⟨by decide, by decide⟩, _, rfl, _, _, rfl, rfl, .inr ⟨by decide, by decide⟩, _, _, rfl, rfl, .inl ⟨_, rfl, ?_⟩⟩
    refine ⟨_, rfl, _, rfl, .inl ⟨_, rfl, _, _, rfl, rfl, (by show (0 : Int) < 16; decide), t, primes.map V.int, _, _, rfl, rfl, SqT.of upd_same, hp, _, _, rfl, rfl, hp0, _, rfl, _, _, rfl, rfl, hb, ?_⟩⟩
    exact kk _ _ (Same.new ht) (Int.emod_nonneg _ (by omega)) (Int.emod_lt_of_pos _ hb)
def spNum : Sp := fun vs H Q _ => ∃ c k b : Int, vs = [.int c, .int k, .int b] ∧ 0 < b ∧ 0 ≤ k ∧ k ≤ 100 ∧ ∀ H' i, Same H H' → 0 ≤ i → i < b → Q (.int i) H'
theorem scNum : FnScope ["_law_cell", "_law_k", "_law_bound", "_law_power", "_law_times", "_law_remains", "_law_small"] ["_law_cell", "_law_k", "_law_bound"] (defScope s_L_number) := ⟨rfl, rfl, rfl, by decide +kernel, rfl, by decide +kernel, by decide +kernel⟩
theorem ok_number (T : Top P K mg) : FnOk P w K mg base CX0 5 T.d_L_number.f T.d_L_number.fd ["_law_cell", "_law_k", "_law_bound"] spNum := by
  refine T.d_L_number.F.ok scNum (fun vs H Q E h => ?_) (fun cdv A outer s H vs Q E hr h => ?_)
  · obtain ⟨c, k, b, rfl, _⟩ := h
    rfl
  · obtain ⟨c, k, b, rfl, hb, hk, hk2, kk⟩ := h
    have hr3 : Room 3 _ := hr.mono (by decide)
    refine ⟨_, pss_cons (ps_set (i := 3) scNum.nd rfl (Or.inl rfl) pe_int)
      (pss_cons (ps_for PassesOwn.never rfl (pi_range1 (by rfl) T.b_range (pa_cons (pe_op op_mod (pe_callTy call_int1 (by rfl) T.b_int bo_int (pa_cons (pv 1) pa_nil)) pe_int) pa_nil)) (pg_name (i := 4) scNum.nd rfl (Or.inl rfl))
        (pss_one (ps_set (i := 3) scNum.nd rfl (Or.inl rfl) (pe_op op_mul (pv 3) pe_int))))
      (pss_cons (ps_set (i := 5) scNum.nd rfl (Or.inl rfl) (pe_op op_fdivW (pe_op op_sub (pv 0) (pe_op op_pow pe_int pe_int)) (pv 3)))
      (pss_cons (ps_if (pt_cmpR op_gt (pv 5) pe_int (nomark _)) (pss_one (ps_ret (pe_op op_mod (pe_op op_mod (pe_callTy call_int1 (by rfl) T.b_int bo_int (pa_cons (pv 5) pa_nil)) pe_int) (pv 2)))) pss_nil)
      (pss_cons (ps_set (i := 6) scNum.nd rfl (Or.inl rfl) (pe_op op_mod (pe_callTy call_int1 (by rfl) T.b_int bo_int (pa_cons (pv 0) pa_nil)) pe_int))
      (pss_one (ps_ret (pe_op op_mod (pcall T.d_L_draw (ok_draw T) hr3 (by rfl) (pa_cons (pe_op op_mul (pe_op op_add (pv 6) (pe_op op_mul pe_int (pv 1))) (pe_op op_add (pe_op op_add (pv 6) (pe_op op_mul pe_int (pv 1))) pe_int))
        (pa_cons (pe_op op_add (pe_op op_mod (pe_callTy call_int1 (by rfl) T.b_int bo_int (pa_cons (pv 1) pa_nil)) pe_int) pe_int) (pa_cons pe_int pa_nil)))) (pv 2)))))))), ?_⟩
    refine ⟨_, rfl, .inl ⟨_, rfl, _, _, rfl, rfl, (by show (0 : Int) < 24; decide), k % 24, rfl, by omega, by omega, ?_⟩⟩
    refine for_range (fun i σ H' => ∃ o4 : Option V, σ = [some (.int c), some (.int k), some (.int b), some (.int (1009 ^ i)), o4, none, none] ∧ H' = H) ⟨none, rfl, rfl⟩ ?_ ?_
    · rintro i σ H' hi ⟨o4, rfl, rfl⟩
      refine ⟨_, rfl, _, _, rfl, rfl, .inr ⟨by decide, by decide⟩, some (.int (0 + (i : Nat))), ?_, rfl⟩
      show [some (V.int c), some (V.int k), some (V.int b), some (V.int (1009 ^ i * 1009)), _, none, none] = _
      rw [show (1009 : Int) ^ (i + 1) = 1009 ^ i * 1009 from Int.pow_succ _ _]
    · rintro σ H' ⟨o4, rfl, rfl⟩
      have hpw : (0 : Int) < 1009 ^ (k % 24).toNat := Int.pow_pos (by decide)
      have hpb : ((1009 : Int) ^ (k % 24).toNat).natAbs < 2 ^ 240 := by
        rw [Int.natAbs_pow]
        exact Nat.lt_of_le_of_lt (Nat.pow_le_pow_right (by decide) (show (k % 24).toNat ≤ 23 by omega)) (by decide)
      refine ⟨_, rfl, _, _, rfl, rfl, ⟨by decide, by decide, by decide⟩, _, _, rfl, rfl, _, rfl, _, _, rfl, rfl, wide_div hpw hpb (by decide) (by decide), ?_⟩
      have md : ∀ x : Int, 0 ≤ x % b ∧ x % b < b := fun x => ⟨Int.emod_nonneg _ (by omega), Int.emod_lt_of_pos _ hb⟩
      refine ⟨_, rfl, _, _, rfl, rfl, _, rfl, ite2 (fun _ => ?_) (fun _ => ?_)⟩
      · exact ⟨_, rfl, .inl ⟨_, rfl, _, _, rfl, rfl, (by show (0 : Int) < 1009; decide), _, rfl, _, _, rfl, rfl, hb, kk _ _ (Same.refl _) (md _).1 (md _).2⟩⟩
      · have sm : ∀ x : Int, 0 ≤ x % 1000003 ∧ x % 1000003 < 1000003 := fun x => ⟨Int.emod_nonneg _ (by decide), Int.emod_lt_of_pos _ (by decide)⟩
        refine ⟨_, rfl, .inl ⟨_, rfl, _, _, rfl, rfl, (by show (0 : Int) < 1000003; decide), ?_⟩⟩
        refine ⟨_, rfl, _, rfl, _, _, rfl, rfl, .inl ⟨by decide, by decide⟩, _, _, rfl, rfl, _, rfl, _, rfl, _, _, rfl, rfl, .inl ⟨by decide, by decide⟩, _, _, rfl, rfl, _, _, rfl, rfl, _, _, rfl, rfl, .inl ⟨by have := sm c; omega, by have := sm c; omega⟩, ?_⟩
        refine ⟨_, rfl, .inl ⟨_, rfl, _, _, rfl, rfl, (by show (0 : Int) < 9; decide), _, _, rfl, rfl, _, _, _, rfl, by decide, by have := Int.emod_nonneg k (show (9 : Int) ≠ 0 by decide); omega, fun H1 i s1 _ _ => ⟨_, rfl, _, _, rfl, rfl, hb, kk H1 _ s1 (md _).1 (md _).2⟩⟩⟩
end
end WF
end

section
set_option Elab.async false
set_option linter.all false
set_option maxRecDepth 100000
set_option maxHeartbeats 4000000
/-! Whichfirm: the law's draws, 2. -/
namespace WF
open PySem PySem.Spec PyProof.Rows L2 SlX RZ
section
variable {P : Program} {w : World} {K : PySem.W.Frag} {mg : Str → Option Value} {base : Heap}
def spNext (K : PySem.W.Frag) : Sp := fun vs H Q _ => ∃ (d s : Addr) (ns : List Int) (b : Int), vs = [.ref d, .int b] ∧ DrAt K H d s ns ∧ 0 < b ∧ ∀ H' i, Dr K H H' d s ns → 0 ≤ i → i < b → Q (.int i) H'
theorem scNext : FnScope ["_law_draw_here", "_law_bound", "_law_at_here", "_law_cell"] ["_law_draw_here", "_law_bound"] (defScope s_L_next) := ⟨rfl, rfl, rfl, by decide +kernel, rfl, by decide +kernel, by decide +kernel⟩
theorem ok_next (T : Top P K mg) : FnOk P w K mg base CX0 7 T.d_L_next.f T.d_L_next.fd ["_law_draw_here", "_law_bound"] (spNext K) := by
  refine T.d_L_next.F.ok scNext (fun vs H Q E h => ?_) (fun cdv A outer s H vs Q E hr h => ?_)
  · obtain ⟨d, s, ns, b, rfl, _⟩ := h
    rfl
  · obtain ⟨d, s, ns, b, rfl, ⟨b0, c0, h1, hb0, hc0, hsc⟩, hb, kk⟩ := h
    have hr3 : Room 3 _ := hr.mono (by decide)
    have hr5 : Room 5 _ := hr.mono (by decide)
    refine ⟨_, pss_cons (ps_asg (pe_op op_add (pe_ix ix_list (pv 0) pe_int (fun _ _ => rfl)) pe_int) (pg_sub (pv 0) pe_int set_list))
      (pss_cons (ps_set (i := 2) scNext.nd rfl (Or.inl rfl) (pe_op op_fdiv (pe_ix ix_list (pv 0) pe_int (fun _ _ => rfl)) pe_int))
      (pss_cons (ps_set (i := 3) scNext.nd rfl (Or.inl rfl) (pe_op op_add (pcall T.d_L_cell_at (ok_cell T) hr3 (by rfl) (pa_cons (pe_ix ix_list (pv 0) pe_int (fun _ _ => rfl)) (pa_cons (pe_op op_add (pe_ix ix_list (pv 0) pe_int (fun _ _ => rfl)) (pv 2)) pa_nil))) (pe_op op_mul pe_int (pv 2))))
      (pss_one (ps_ret (pcall T.d_L_number (ok_number T) hr5 (by rfl) (pa_cons (pv 3) (pa_cons (pe_op op_add (pe_op op_mod (pe_callTy call_int1 (by rfl) T.b_int bo_int (pa_cons (pe_ix ix_list (pv 0) pe_int (fun _ _ => rfl)) pa_nil)) pe_int) pe_int) (pa_cons (pv 1) pa_nil)))))))), ?_⟩
    refine ⟨_, rfl, d, _, _, _, rfl, rfl, SqL.of h1, rfl, _, _, rfl, rfl, _, rfl, d, _, 2, 2, rfl, rfl, h1, rfl, ?_⟩
    have b1 : But [d] H (upd H d (.lst [.ref s, .int b0, .int (c0 + 1)])) := But.put (by simp)
    have e1 : upd H d (.lst [.ref s, .int b0, .int (c0 + 1)]) d = some (.lst [.ref s, .int b0, .int (c0 + 1)]) := upd_same
    have sc1 : ScAt K (upd H d (.lst [.ref s, .int b0, .int (c0 + 1)])) d s ns := hsc.keep b1 fun u hu hds => by simp; exact Ne.symm hds
    show tSeq _ _ _ _ (upd H d (.lst [.ref s, .int b0, .int (c0 + 1)]))
    revert b1 e1 sc1
    generalize upd H d (.lst [.ref s, .int b0, .int (c0 + 1)]) = H1
    intro b1 e1 sc1
    refine ⟨_, rfl, d, _, _, _, rfl, rfl, SqL.of e1, rfl, _, _, rfl, rfl, ⟨by decide, by decide⟩, ?_⟩
    refine ⟨_, rfl, d, _, _, _, rfl, rfl, SqL.of e1, rfl, _, rfl, d, _, _, _, rfl, rfl, SqL.of e1, rfl, _, rfl, _, _, rfl, rfl, s, ns, _, rfl, sc1.seq, ?_, fun i => ⟨_, rfl, _, _, rfl, rfl, .inl ⟨by decide, by decide⟩, _, _, rfl, rfl, ?_⟩⟩
    · have : 0 ≤ (c0 + 1) / 12 := Int.ediv_nonneg (by omega) (by decide)
      omega
    · refine ⟨_, rfl, _, rfl, d, _, _, _, rfl, rfl, SqL.of e1, rfl, .inl ⟨_, rfl, _, _, rfl, rfl, (by show (0 : Int) < 12; decide), _, _, rfl, rfl, _, rfl, _, _, _, rfl, hb, ?_, ?_, fun H2 j s2 j0 j1 => ?_⟩⟩
      · have := Int.emod_nonneg (c0 + 1) (show (12 : Int) ≠ 0 by decide)
        omega
      · have := Int.emod_lt_of_pos (c0 + 1) (show (0 : Int) < 12 by decide)
        omega
      · exact kk H2 j ⟨DrAt.same ⟨b0, c0 + 1, e1, hb0, by omega, sc1⟩ s2, b1.trans (But.of s2)⟩ j0 j1

theorem Dr.of {K : PySem.W.Frag} {H H1 : Hp} {d s : Addr} {ns : List Int} (a : DrAt K H d s ns) (h : Same H H1) : Dr K H H1 d s ns := ⟨a.same h, But.of h⟩
theorem Dr.same {K : PySem.W.Frag} {H H1 H2 : Hp} {d s : Addr} {ns : List Int} (a : Dr K H H1 d s ns) (h : Same H1 H2) : Dr K H H2 d s ns := a.trans (Dr.of a.at_ h)
theorem Dr.chg {K : PySem.W.Frag} {H H1 : Hp} {d s : Addr} {ns : List Int} (a : Dr K H H1 d s ns) (h : DrAt K H d s ns) : Chg H H1 := a.but.chg h.mu
theorem Dr.dr {K : PySem.W.Frag} {H : Hp} {d s : Addr} {ns : List Int} (h : DrAt K H d s ns) {H1 : Hp} {o : HO} {b : Addr} (a : Dr K H H1 d s ns) (hb : H b = some o) (n : b ≠ d) : H1 b = some o := a.but _ _ hb (by simp [n])
theorem DrAt.ne_tup {K : PySem.W.Frag} {H : Hp} {d s : Addr} {ns : List Int} (h : DrAt K H d s ns) {b : Addr} {xs : List V} (hb : H b = some (.tup xs)) : b ≠ d := by
  obtain ⟨_, _, h1, _⟩ := h
  exact ne_of hb h1 (fun z => nomatch z)
theorem DrAt.ne_none {K : PySem.W.Frag} {H : Hp} {d s : Addr} {ns : List Int} (h : DrAt K H d s ns) {b : Addr} (hb : H b = none) : d ≠ b := by
  obtain ⟨_, _, h1, _⟩ := h
  exact ne_of_none h1 hb
theorem Dr.free {K : PySem.W.Frag} {H H1 : Hp} {d s : Addr} {ns : List Int} (a : Dr K H H1 d s ns) (h : DrAt K H d s ns) {b : Addr} (hb : H1 b = none) : H b = none := a.but.fresh hb (by simp; exact Ne.symm (a.at_.ne_none hb))
theorem Dr.put {K : PySem.W.Frag} {H H1 : Hp} {d s : Addr} {ns : List Int} {o : HO} (hd : DrAt K H d s ns) (a : Dr K H H1 d s ns) {b : Addr} (hb : H b = none) : Dr K H (upd H1 b o) d s ns := by
  have hbd : d ≠ b := hd.ne_none hb
  obtain ⟨b0, c0, h1, h2, h3, _⟩ := a.at_
  refine ⟨⟨b0, c0, by rw [upd_ne hbd]; exact h1, h2, h3, ?_⟩, fun x u hx hn => by rw [upd_ne (ne_of_none hx hb)]; exact a.but _ _ hx hn⟩
  obtain ⟨_, _, _, _, _, hs⟩ := hd
  rcases hs with ⟨u, g1, g2, g3⟩ | hs
  · exact .inl ⟨u, by rw [upd_ne (ne_of_none g1 hb)]; exact a.but _ _ g1 (by simp; exact Ne.symm g3), g2, g3⟩
  · exact .inr hs
def spPick (K : PySem.W.Frag) : Sp := fun vs H Q _ => ∃ (d s l : Addr) (ns : List Int) (xs : List V), vs = [.ref d, .ref l] ∧ DrAt K H d s ns ∧ ((H l = some (.lst xs) ∧ l ≠ d) ∨ H l = some (.tup xs)) ∧ xs ≠ [] ∧ ∀ H' (i : Nat) x, Dr K H H' d s ns → xs[i]? = some x → Q x H'
theorem scPick : FnScope ["_law_draw_here", "_law_things"] ["_law_draw_here", "_law_things"] (defScope s_L_pick) := ⟨rfl, rfl, rfl, by decide +kernel, rfl, by decide +kernel, by decide +kernel⟩
theorem ok_pick (T : Top P K mg) : FnOk P w K mg base CX0 9 T.d_L_pick.f T.d_L_pick.fd ["_law_draw_here", "_law_things"] (spPick K) := by
  refine T.d_L_pick.F.ok scPick (fun vs H Q E h => ?_) (fun cdv A outer s H vs Q E hr h => ?_)
  · obtain ⟨d, s, l, ns, xs, rfl, _⟩ := h
    rfl
  · obtain ⟨d, s, l, ns, xs, rfl, hd, hl, hne, kk⟩ := h
    have hr7 : Room 7 _ := hr.mono (by decide)
    have hpos : 0 < xs.length := List.length_pos_iff.mpr hne
    refine ⟨_, pss_one (ps_ret (pe_ix ix_seq (pv 1) (pcall T.d_L_next (ok_next T) hr7 (by rfl) (pa_cons (pv 0) (pa_cons (pe_callB call_len_seq (by rfl) T.b_len bo_len (pa_cons (pv 1) pa_nil)) pa_nil))) (fun _ _ => rfl))), ?_⟩
    have hs : SqL K H l xs ∨ SqT K H l xs := hl.elim (fun z => .inl (SqL.of z.1)) fun z => .inr (SqT.of z)
    refine ⟨_, rfl, _, rfl, _, rfl, l, xs, rfl, hs, d, s, ns, _, rfl, hd, by omega, fun H' i hD i0 i1 => ?_⟩
    obtain ⟨x, hx, hx2⟩ := atI_of (xs := xs) i0 i1
    rcases hl with ⟨hl, hld⟩ | hl
    · exact .inl ⟨l, xs, i, x, rfl, rfl, SqL.of (hD.dr hd hl hld), hx, kk H' _ x hD hx2⟩
    · exact .inr (.inl ⟨l, xs, i, x, rfl, rfl, SqT.of (hD.dr hd hl (hd.ne_tup hl)), hx, kk H' _ x hD hx2⟩)
def spEntry (K : PySem.W.Frag) : Sp := fun vs H Q _ => ∃ (d s : Addr) (ns : List Int) (n : Nat), vs = [.ref d, .int n] ∧ DrAt K H d s ns ∧ 1 ≤ n ∧ ∀ H' v e, Dr K H H' d s ns → EnAt H' v e → EntOk n e → Q v H'
theorem scEntry : FnScope ["_law_draw_here", "_law_many"] ["_law_draw_here", "_law_many"] (defScope s_L_entry) := ⟨rfl, rfl, rfl, by decide +kernel, rfl, by decide +kernel, by decide +kernel⟩
theorem ok_entry (T : Top P K mg) : FnOk P w K mg base CX0 11 T.d_L_entry.f T.d_L_entry.fd ["_law_draw_here", "_law_many"] (spEntry K) := by
  refine T.d_L_entry.F.ok scEntry (fun vs H Q E h => ?_) (fun cdv A outer s H vs Q E hr h => ?_)
  · obtain ⟨d, s, ns, n, rfl, _⟩ := h
    rfl
  · obtain ⟨d, s, ns, n, rfl, hd, hn, kk⟩ := h
    have hr7 : Room 7 _ := hr.mono (by decide)
    have hr9 : Room 9 _ := hr.mono (by decide)
    refine ⟨_, pss_cons (ps_if (pt_cmpR op_eq (pcall T.d_L_next (ok_next T) hr7 (by rfl) (pa_cons (pv 0) (pa_cons pe_int pa_nil))) pe_int (nomark _)) (pss_one (ps_ret pe_non)) pss_nil)
      (pss_one (ps_ret (pe_tup (pa_cons (pcall T.d_L_pick (ok_pick T) hr9 (by rfl) (pa_cons (pv 0) (pa_cons (pe_lst (pa_cons pe_int (pa_cons pe_int (pa_cons pe_int (pa_cons pe_int (pa_cons pe_int pa_nil)))))) pa_nil))) (pa_cons (pcall T.d_L_next (ok_next T) hr7 (by rfl) (pa_cons (pv 0) (pa_cons (pv 1) pa_nil))) pa_nil))))), ?_⟩
    refine ⟨_, rfl, d, s, ns, 7, rfl, hd, by decide, fun H1 i D1 i0 i1 => ⟨rfl, _, rfl, ite2 (fun _ => ?_) (fun _ => ?_)⟩⟩
    · exact kk H1 .non none D1 rfl (fun r s z => by cases z)
    · refine ⟨_, rfl, (by show 5 ≤ sizeLine; decide), fun l hl => ?_⟩
      have D2 : Dr K H (upd H1 l (.lst [.int 0, .int 0, .int 1, .int 1, .int 2])) d s ns := D1.same (Same.new hl)
      refine ⟨d, s, l, ns, _, rfl, D2.at_, .inl ⟨upd_same, Ne.symm (D1.at_.ne_none hl)⟩, by simp, fun H3 j x D3 hx => ?_⟩
      have hr : ∃ r : Int, x = .int r ∧ 0 ≤ r ∧ r ≤ 2 := by
        have hm := List.mem_of_getElem? hx
        simp at hm
        rcases hm with rfl | rfl | rfl
        · exact ⟨0, rfl, by decide, by decide⟩
        · exact ⟨1, rfl, by decide, by decide⟩
        · exact ⟨2, rfl, by decide, by decide⟩
      obtain ⟨r, rfl, r0, r2⟩ := hr
      have D13 := D2.trans D3
      refine ⟨_, rfl, _, rfl, d, s, ns, n, rfl, D13.at_, by omega, fun H4 m D4 m0 m1 => ⟨(by show 2 ≤ sizeLine; decide), fun t ht => ?_⟩⟩
      exact kk _ (.ref t) (some (r, m)) ((D13.trans D4).same (Same.new ht)) ⟨t, rfl, upd_same⟩ (fun r' s' z => by cases z; exact ⟨r0, r2, m0, m1⟩)
/-! ### lines -/
/-- at l a list of w entries for n states -/
def LineAt (H : Hp) (l : Addr) (w n : Nat) : Prop := ∃ es, LstAt EnAt H l es ∧ es.length = w ∧ ∀ e ∈ es, EntOk n e
theorem LineAt.keep {H H' : Hp} {l : Addr} {w n : Nat} (h : LineAt H l w n) (t : TK H H') (e : ∀ o, H l = some o → H' l = some o) : LineAt H' l w n := by
  obtain ⟨es, h1, h2⟩ := h
  exact ⟨es, h1.keep mono_en t e, h2⟩
def spLine (K : PySem.W.Frag) : Sp := fun vs H Q _ => ∃ (d s : Addr) (ns : List Int) (w n : Nat), vs = [.ref d, .int w, .int n] ∧ DrAt K H d s ns ∧ 1 ≤ n ∧ w ≤ 3 ∧ ∀ H' l, Dr K H H' d s ns → H l = none → LineAt H' l w n → Q (.ref l) H'
theorem scLine : FnScope ["_law_draw_here", "_law_width_here", "_law_many", "_law_command"] ["_law_draw_here", "_law_width_here", "_law_many"] (defScope s_L_line) := ⟨rfl, rfl, rfl, by decide +kernel, rfl, by decide +kernel, by decide +kernel⟩
theorem ok_line (T : Top P K mg) : FnOk P w K mg base CX0 13 T.d_L_line.f T.d_L_line.fd ["_law_draw_here", "_law_width_here", "_law_many"] (spLine K) := by
  refine T.d_L_line.F.ok scLine (fun vs H Q E h => ?_) (fun cdv A outer s H vs Q E hr h => ?_)
  · obtain ⟨d, s, ns, w, n, rfl, _⟩ := h
    rfl
  · obtain ⟨d, s, ns, w, n, rfl, hd, hn, hw3, kk⟩ := h
    have hr11 : Room 11 _ := hr.mono (by decide)
    refine ⟨_, pss_one (ps_ret (pe_lc (own := [("_law_command", 3)]) (g := gName 3) (tt := tYes) rfl scLine.nd (pi_range1 (by rfl) T.b_range (pa_cons (pv 1) pa_nil)) (blkOk_by (N := ["_law_draw_here", "_law_width_here", "_law_many", "_law_command"]) (sc := defScope s_L_line) (by decide +kernel))
          (fun _ _ _ _ _ => pg_name (i := 3) scLine.nd rfl (Or.inl rfl)) (fun _ _ _ _ _ => pts_nil)
          (fun _ _ _ _ _ => pcall T.d_L_entry (ok_entry T) hr11 (by rfl) (pa_cons (pv 0) (pa_cons (pv 2) pa_nil))))), ?_⟩
    refine ⟨_, rfl, (w : Int), rfl, by omega, by omega, fun D hD => ?_⟩
    have hDd : D ≠ d := Ne.symm (hd.ne_none hD)
    refine lc_range (fun k H' => Dr K H H' d s ns ∧ LineAt H' D k n) ⟨Dr.of hd (Same.new hD), [], ⟨[], upd_same, .nil⟩, rfl, fun e he => by cases he⟩ ?_ ?_
    · rintro k H' hk ⟨D1, es, ⟨xs, hx, hp⟩, hl, hok⟩
      refine ⟨rfl, yes_do ?_⟩
      rw [if_pos rfl]
      refine ⟨_, rfl, _, rfl, d, s, ns, n, rfl, D1.at_, hn, fun H2 v e D2 hv hve => ?_⟩
      have hx2 := D2.dr D1.at_ hx hDd
      have hxl := Paired.length hp
      have tk : TK H' (upd H2 D (.lst (xs ++ [v]))) := (D2.chg D1.at_).tk.trans (TK.putL hx2)
      have D3 := D1.trans D2
      refine ⟨xs, hx2, small1000 (by omega), Dr.put hd D3 hD, es ++ [e], ⟨xs ++ [v], upd_same, papp (pmono hp fun _ _ q => mono_en _ _ _ _ tk q) (.cons (mono_en _ _ _ _ (TK.putL hx2) hv) .nil)⟩, by rw [List.length_append, hl]; rfl, fun x hx => ?_⟩
      rcases List.mem_append.mp hx with hx | hx
      · exact hok x hx
      · rw [List.mem_singleton.mp hx]
        exact hve
    · rintro H' ⟨D1, L⟩
      have : (w : Int).toNat = w := by omega
      rw [this] at L
      exact kk H' D D1 hD L
end
end WF
end

section
set_option Elab.async false
set_option linter.all false
set_option maxRecDepth 100000
set_option maxHeartbeats 4000000
/-! Whichfirm: the law's shelves. -/
namespace WF
open PySem PySem.Spec PyProof.Rows L2 SlX RZ
/-! ### a rest that is read once -/
def tMid (t u : TS) : TS := fun D σ H => ∃ M : L2.St → Hp → Prop, t { D with nx := M } σ H ∧ ∀ σ' H', M σ' H' → u D σ' H'
theorem pss_mid {X : Cx} {st : Stmt} {rest : List Stmt} {t u : TS} (h1 : PS X st t) (h2 : PSs X rest u) : PSs X (st :: rest) (tMid t u) := by
  refine ⟨fun pins s σ H D I h => ?_⟩
  obtain ⟨M, ht, hu⟩ := h
  refine wpAny_execs_cons (thn (h1.run pins s σ H { D with nx := M } I ht) fun f s1 q => ?_)
  cases f with
  | next =>
    obtain ⟨σ', H', I', q⟩ := q
    exact h2.run pins s1 σ' H' D I' (hu σ' H' q)
  | brk => exact q
  | cont => exact q
  | ret v => exact q
theorem call_list_ofK {X : Cx} {K : PySem.W.Frag} (h : X.K = K) : CallR X (.type "list") (fun xs H Q => ∃ p ys, xs = [.ref p] ∧ (SqL K H p ys ∨ SqT K H p ys) ∧ ∀ l, H l = none → Q (.ref l) (upd H l (.lst ys))) := by
  subst h
  exact call_list_of
/-- at e a list of k lists of w entries for n states; all new against H0, none at rl -/
def EdsAt (H0 H : Hp) (rl e : Addr) (w n k : Nat) : Prop := H0 e = none ∧ e ≠ rl ∧ ∃ refs : List Addr, H e = some (.lst (refs.map V.ref)) ∧ refs.length = k ∧ ∀ a ∈ refs, H0 a = none ∧ a ≠ e ∧ a ≠ rl ∧ LineAt H a w n
theorem ref_at {refs : List Addr} {i : Nat} {x : V} (h : (refs.map V.ref)[i]? = some x) : ∃ a, refs[i]? = some a ∧ x = .ref a := by
  rw [List.getElem?_map] at h
  cases e : refs[i]? with
  | none => rw [e] at h; cases h
  | some c => rw [e] at h; exact ⟨c, rfl, (Option.some.inj h).symm⟩
theorem eqv_l0 {d : PyData} {ds : List PyData} : PyData.eqv (.list (d :: ds)) (.list []) = false := by
  simp [PyData.eqv, PyData.eqvAll]
theorem eqv_00 : PyData.eqv (.list []) (.list []) = true := by
  simp [PyData.eqv, PyData.eqvAll]
theorem eqv_le {l : List PyData} : PyData.eqv (.list l) (.list []) = decide (l = []) := by
  cases l with
  | nil => rw [eqv_00]; rfl
  | cons d ds => rw [eqv_l0]; rfl
theorem shal_eds (l : Shf) : Shal 4 (.list (l.map edD)) := shal_lst (shal_map shal_ed l)
theorem ixN_of {n : Nat} {i : Int} (h0 : 0 ≤ i) (h1 : i < n) : ixN n i = some i.toNat := by
  unfold ixN
  rw [if_pos (by omega), if_pos (by omega)]
theorem ex_paired {α β : Type} {F : α → β → Prop} : ∀ {xs : List α}, (∀ x ∈ xs, ∃ y, F x y) → ∃ ys, Paired F xs ys
  | [], _ => ⟨[], .nil⟩
  | x :: xs, h => by
    obtain ⟨y, hy⟩ := h x List.mem_cons_self
    obtain ⟨ys, hys⟩ := ex_paired (xs := xs) fun z hz => h z (List.mem_cons_of_mem _ hz)
    exact ⟨y :: ys, .cons hy hys⟩
section
variable {K : PySem.W.Frag} {H0 H H' : Hp} {d sc rl e : Addr} {ns : List Int} {w n k : Nat}
theorem EdsAt.dr (E : EdsAt H0 H rl e w n k) (h0 : DrAt K H0 d sc ns) (h : DrAt K H d sc ns) (D : Dr K H H' d sc ns) : EdsAt H0 H' rl e w n k := by
  obtain ⟨h1, h2, refs, h3, h4, h5⟩ := E
  refine ⟨h1, h2, refs, D.dr h h3 (Ne.symm (h0.ne_none h1)), h4, fun a ha => ?_⟩
  obtain ⟨g1, g2, g3, g4⟩ := h5 a ha
  exact ⟨g1, g2, g3, g4.keep (D.chg h).tk fun o ho => D.dr h ho (Ne.symm (h0.ne_none g1))⟩
theorem EdsAt.same (E : EdsAt H0 H rl e w n k) (D : Same H H') : EdsAt H0 H' rl e w n k := by
  obtain ⟨h1, h2, refs, h3, h4, h5⟩ := E
  refine ⟨h1, h2, refs, D _ _ h3, h4, fun a ha => ?_⟩
  obtain ⟨g1, g2, g3, g4⟩ := h5 a ha
  exact ⟨g1, g2, g3, g4.keep (.same D) fun o ho => D _ _ ho⟩
/-- a line more -/
theorem EdsAt.add (E : EdsAt H0 H rl e w n k) {l : Addr} (hl : H l = none) (hl0 : H0 l = none) (hlr : l ≠ rl) (S : Same H H') (L : LineAt H' l w n) {refs : List Addr} (hr : H e = some (.lst (refs.map V.ref))) : EdsAt H0 (upd H' e (.lst (refs.map V.ref ++ [.ref l]))) rl e w n (k + 1) := by
  obtain ⟨h1, h2, refs', h3, h4, h5⟩ := E
  have er : refs' = refs := by
    rw [h3] at hr
    injection hr with hr
    injection hr with hr
    have inj : ∀ {a b : List Addr}, a.map V.ref = b.map V.ref → a = b := by
      intro a
      induction a with
      | nil => intro b h; cases b with
        | nil => rfl
        | cons _ _ => cases h
      | cons x a ih => intro b h; cases b with
        | nil => cases h
        | cons y b =>
          rw [List.map_cons, List.map_cons] at h
          injection h with h1 h2
          injection h1 with h1
          rw [h1, ih h2]
    exact inj hr
  subst er
  have tk : TK H' (upd H' e (.lst (refs'.map V.ref ++ [.ref l]))) := TK.putL (S _ _ h3)
  refine ⟨h1, h2, refs' ++ [l], by rw [upd_same, List.map_append]; rfl, by rw [List.length_append, h4]; rfl, fun a ha => ?_⟩
  rcases List.mem_append.mp ha with ha | ha
  · obtain ⟨g1, g2, g3, g4⟩ := h5 a ha
    exact ⟨g1, g2, g3, g4.keep ((TK.same S).trans tk) fun o ho => by rw [upd_ne g2]; exact S _ _ ho⟩
  · rw [List.mem_singleton.mp ha]
    have hle : l ≠ e := fun z => by rw [z, h3] at hl; cases hl
    exact ⟨hl0, hle, hlr, L.keep tk fun o ho => by rw [upd_ne hle]; exact ho⟩
theorem rows_dr {sh : Shf} (L : LstAt EdAt H rl sh) (hrl : rl ≠ d) (h : DrAt K H d sc ns) (D : Dr K H H' d sc ns) : LstAt EdAt H' rl sh := L.keep mono_ed (D.chg h).tk fun o ho => D.dr h ho hrl
theorem rows_same {sh : Shf} (L : LstAt EdAt H rl sh) (D : Same H H') : LstAt EdAt H' rl sh := L.keep mono_ed (.same D) fun o ho => D _ _ ho
end
abbrev tot (sh : Shf) : Nat := (sh.map List.length).sum
theorem tot_snoc (sh : Shf) (ed : Edn) : tot (sh ++ [ed]) = tot sh + ed.length := by
  simp [tot]
section
variable {P : Program} {w : World} {K : PySem.W.Frag} {mg : Str → Option Value} {base : Heap}
def spShelf (K : PySem.W.Frag) (C : Addr) : Sp := fun vs H Q _ => ∃ (d s : Addr) (ns : List Int), vs = [.ref d] ∧ DrAt K H d s ns ∧ ∀ H' a w sh, Dr K H H' d s ns → H a = none → ShfAt C H' a w sh → Q (.ref a) H'
theorem scShelf : FnScope ["_law_draw_here", "_law_width_here", "_law_rows", "_law_total", "_law_turn", "_law_many", "_law_edition", "_law_fresh", "_law_line_here", "_law_state"] ["_law_draw_here"] (defScope s_L_shelf) := ⟨rfl, rfl, rfl, by decide +kernel, rfl, by decide +kernel, by decide +kernel⟩
theorem ok_shelf (T : Top P K mg) : FnOk P w K mg base CX0 15 T.d_L_shelf.f T.d_L_shelf.fd ["_law_draw_here"] (spShelf K T.cSh) := by
  refine T.d_L_shelf.F.ok scShelf (fun vs H Q E h => ?_) (fun cdv A outer s H vs Q E hr h => ?_)
  · obtain ⟨d, s, ns, rfl, _⟩ := h
    rfl
  · obtain ⟨d, sc, ns, rfl, hd, kk⟩ := h
    have hr7 : Room 7 _ := hr.mono (by decide)
    have hr9 : Room 9 _ := hr.mono (by decide)
    have hr11 : Room 11 _ := hr.mono (by decide)
    have hr13 : Room 13 _ := hr.mono (by decide)
    have hu : (A.deeper (envOfC "_law_shelf" (defScope s_L_shelf) s.heap.objs.size T.d_L_shelf.f cdv)).units + 64 < cLine := hr.units
    refine ⟨_, pss_cons (ps_asg (pe_tup (pa_cons (pe_op op_add pe_int (pcall T.d_L_next (ok_next T) hr7 (by rfl) (pa_cons (pv 0) (pa_cons pe_int pa_nil)))) (pa_cons (pe_lst pa_nil) (pa_cons pe_int pa_nil)))) (pg_tupK (K := K) (n := 3) rfl rfl (pgs_cons (pg_name (i := 1) scShelf.nd rfl (Or.inr rfl)) (pgs_cons (pg_name (i := 2) scShelf.nd rfl (Or.inl rfl)) (pgs_cons (pg_name (i := 3) scShelf.nd rfl (Or.inl rfl)) pgs_nil)))))
      (pss_cons (ps_for PassesOwn.never rfl (pi_range1 (by rfl) T.b_range (pa_cons (pe_op op_add pe_int (pcall T.d_L_next (ok_next T) hr7 (by rfl) (pa_cons (pv 0) (pa_cons pe_int pa_nil)))) pa_nil)) (pg_name (i := 4) scShelf.nd rfl (Or.inl rfl))
        (pss_cons (ps_set (i := 5) scShelf.nd rfl (Or.inr rfl) (pe_callB (call_min2 rfl) (by rfl) T.b_min bo_min (pa_cons (pe_op op_add pe_int (pcall T.d_L_next (ok_next T) hr7 (by rfl) (pa_cons (pv 0) (pa_cons pe_int pa_nil)))) (pa_cons (pe_op op_sub pe_int (pv 3)) pa_nil))))
        (pss_one (ps_if (pt_cmpR op_gt (pv 5) pe_int (nomark _))
          (pss_cons (ps_setLc (i := 6) (own := [("_law_state", 9)]) (g := gName 9) (tt := tYes) rfl scShelf.nd rfl rfl (sw_true rfl rfl rfl (by decide +kernel)) (pi_range1 (by rfl) T.b_range (pa_cons (pv 5) pa_nil)) (blkOk_by (N := ["_law_draw_here", "_law_width_here", "_law_rows", "_law_total", "_law_turn", "_law_many", "_law_edition", "_law_fresh", "_law_line_here", "_law_state"]) (sc := defScope s_L_shelf) (by decide +kernel))
              (fun _ _ _ _ _ => pg_name (i := 9) scShelf.nd rfl (Or.inl rfl)) (fun _ _ _ _ _ => pts_nil) (fun _ _ _ _ _ => pcall T.d_L_line (ok_line T) hr13 (by rfl) (pa_cons (pv 0) (pa_cons (pv 1) (pa_cons (pv 5) pa_nil)))))
          (pss_mid (ps_if (pw_and (pt_cmpR (op_neD hu) (pv 2) (pe_lst pa_nil) (nomark _)) (pw_and (pt_cmpR op_eq (pcall T.d_L_next (ok_next T) hr7 (by rfl) (pa_cons (pv 0) (pa_cons pe_int pa_nil))) pe_int (nomark _))
                (pw_and1 (pt_cmpR op_le (pe_op op_add (pe_callB call_len_seq (by rfl) T.b_len bo_len (pa_cons (pe_ix ix_list (pv 2) pe_int (fun _ _ => rfl)) pa_nil)) (pv 3)) pe_int (nomark _))))).pt
              (pss_cons (ps_setLc (i := 6) (own := [("_law_line_here", 8)]) (g := gName 8) (tt := tYes) rfl scShelf.nd rfl rfl (sw_true rfl rfl rfl (by decide +kernel)) (pi_tup (pe_ix ix_list (pv 2) pe_int (fun _ _ => rfl))) (blkOk_by (N := ["_law_draw_here", "_law_width_here", "_law_rows", "_law_total", "_law_turn", "_law_many", "_law_edition", "_law_fresh", "_law_line_here", "_law_state"]) (sc := defScope s_L_shelf) (by decide +kernel))
                (fun _ _ _ _ _ => pg_name (i := 8) scShelf.nd rfl (Or.inl rfl)) (fun _ _ _ _ _ => pts_nil) (fun _ _ _ _ _ => pe_callTy (call_list_ofK (K := K) rfl) (by rfl) T.b_list bo_list (pa_cons (pv 8) pa_nil)))
              (pss_cons (ps_set (i := 7) scShelf.nd rfl (Or.inl rfl) (pcall T.d_L_entry (ok_entry T) hr11 (by rfl) (pa_cons (pv 0) (pa_cons (pe_callB call_len_seq (by rfl) T.b_len bo_len (pa_cons (pv 6) pa_nil)) pa_nil))))
              (pss_cons (ps_set (i := 8) scShelf.nd rfl (Or.inl rfl) (pcall T.d_L_pick (ok_pick T) hr9 (by rfl) (pa_cons (pv 0) (pa_cons (pv 6) pa_nil))))
              (pss_one (ps_asg (pv 7) (pg_sub (pv 8) (pcall T.d_L_next (ok_next T) hr7 (by rfl) (pa_cons (pv 0) (pa_cons (pv 1) pa_nil))) set_list)))))) pss_nil)
          (pss_cons (ps_expr (pe_bm PySem.F.plainAttrs_list PySem.F.slot_list_append PySem.F.type_list_append mt_append (pv 2) (pa_cons (pe_callTy call_tuple_of (by rfl) T.b_tuple bo_tuple (pa_cons (pe_lc (own := [("_law_line_here", 8)]) (g := gName 8) (tt := tYes) rfl scShelf.nd (pi_list (pv 6)) (blkOk_by (N := ["_law_draw_here", "_law_width_here", "_law_rows", "_law_total", "_law_turn", "_law_many", "_law_edition", "_law_fresh", "_law_line_here", "_law_state"]) (sc := defScope s_L_shelf) (by decide +kernel))
                (fun _ _ _ _ _ => pg_name (i := 8) scShelf.nd rfl (Or.inl rfl)) (fun _ _ _ _ _ => pts_nil) (fun _ _ _ _ _ => pe_callTy (call_tuple_ofK (K := K) rfl) (by rfl) T.b_tuple bo_tuple (pa_cons (pv 8) pa_nil))) pa_nil)) pa_nil)))
          (pss_one (ps_set (i := 3) scShelf.nd rfl (Or.inl rfl) (pe_op op_add (pv 3) (pe_callB call_len_seq (by rfl) T.b_len bo_len (pa_cons (pv 6) pa_nil)))))))) pss_nil))))
      (pss_cons (ps_if (pt_cmpR op_lt (pe_callB call_len_seq (by rfl) T.b_len bo_len (pa_cons (pv 2) pa_nil)) pe_int (nomark _)) pss_never pss_nil)
      (pss_one (ps_ret (pe_make T.shM (ok_sh_init T) hr13 (by rfl) T.g_sh T.sh_init.b .nil pass0 (pa_cons (pe_callTy call_tuple_of (by rfl) T.b_tuple bo_tuple (pa_cons (pv 2) pa_nil)) pa_nil)))))), ?_⟩
    refine ⟨_, rfl, d, sc, ns, 3, rfl, hd, by decide, fun H1 r1 D1 a0 a1 => ⟨_, _, rfl, rfl, (by show 0 ≤ sizeLine; exact Nat.zero_le _), fun rl hrl => ⟨(by show 3 ≤ sizeLine; decide), fun t ht => ?_⟩⟩⟩
    obtain ⟨wd, hwd⟩ : ∃ wd : Nat, (1 : Int) + r1 = wd := ⟨(1 + r1).toNat, by omega⟩
    refine ⟨t, _, rfl, SqT.of upd_same, rfl, _, _, rfl, _, _, rfl, _, _, rfl, rfl, ?_⟩
    have hrl0 : H rl = none := D1.free hd hrl
    have rld : rl ≠ d := Ne.symm (hd.ne_none hrl0)
    have rlt : rl ≠ t := fun z => by rw [← z, upd_same] at ht; cases ht
    have D2 : Dr K H (upd (upd H1 rl (.lst [])) t (.tup [.int (1 + r1), .ref rl, .int 0])) d sc ns := (D1.same (Same.new hrl)).same (Same.new ht)
    have L2 : LstAt EdAt (upd (upd H1 rl (.lst [])) t (.tup [.int (1 + r1), .ref rl, .int 0])) rl [] := ⟨[], by rw [upd_ne rlt, upd_same], .nil⟩
    show tSeq _ _ _ _ (upd (upd H1 rl (.lst [])) t (.tup [.int (1 + r1), .ref rl, .int 0]))
    revert D2 L2
    generalize upd (upd H1 rl (.lst [])) t (.tup [.int (1 + r1), .ref rl, .int 0]) = H2
    intro D2 L2
    refine ⟨_, rfl, d, sc, ns, 3, rfl, D2.at_, by decide, fun H3 r2 D3 b0 b1 => ⟨_, _, rfl, rfl, 2 + r2, rfl, by omega, by omega, ?_⟩⟩
    refine for_range (fun i σ H' => ∃ (o4 o5 o6 o7 o8 : Option V) (sh : Shf), σ = [some (.ref d), some (.int wd), some (.ref rl), some (.int (tot sh : Nat)), o4, o5, o6, o7, o8, none] ∧ Dr K H H' d sc ns ∧ LstAt EdAt H' rl sh ∧ (∀ ed ∈ sh, EdOk wd ed) ∧ min i 2 ≤ sh.length ∧ sh.length ≤ i ∧ tot sh ≤ 3 * sh.length ∧ tot sh ≤ 8)
      ⟨none, none, none, none, none, [], by rw [← hwd]; rfl, D2.trans D3, rows_dr L2 rld D2.at_ D3, fun ed h => absurd h (by simp), Nat.zero_le _, Nat.le_refl _, Nat.le_refl _, Nat.zero_le _⟩ ?_ ?_
    · rintro i σ H' hi ⟨o4, o5, o6, o7, o8, sh, rfl, Di, Li, hE, hlo, hhi, ht3, ht8⟩
      refine ⟨_, rfl, d, sc, ns, 3, rfl, Di.at_, by decide, fun H4 r4 D4 c0 c1 => ⟨_, _, rfl, rfl, _, rfl, _, _, rfl, rfl, _, _, rfl, ?_⟩⟩
      have Di4 := Di.trans D4
      have L4 := rows_dr Li rld Di.at_ D4
      obtain ⟨m, hm⟩ : ∃ m : Nat, (if (8 : Int) - (tot sh : Nat) < 1 + r4 then (8 : Int) - (tot sh : Nat) else 1 + r4) = m := ⟨(if (8 : Int) - (tot sh : Nat) < 1 + r4 then (8 : Int) - (tot sh : Nat) else 1 + r4).toNat, by split <;> omega⟩
      have hm3 : m ≤ 3 := by split at hm <;> omega
      have hm8 : tot sh + m ≤ 8 := by split at hm <;> omega
      have hm0 : m = 0 → tot sh = 8 := by split at hm <;> omega
      rw [hm]
      refine ⟨_, rfl, _, _, rfl, rfl, _, rfl, ite2 (fun hgt => ?_) (fun hle => ?_)⟩
      · have hm1 : 1 ≤ m := by
          have := of_decide_eq_true hgt
          omega
        refine ⟨_, rfl, (m : Int), rfl, by omega, by omega, fun D hD => ?_⟩
        have hD0 : H D = none := Di4.free hd hD
        have hDrl : D ≠ rl := Ne.symm (by obtain ⟨_, z, _⟩ := L4; exact ne_of_none z hD)
        refine lc_range (fun k H5 => Dr K H H5 d sc ns ∧ LstAt EdAt H5 rl sh ∧ EdsAt H H5 rl D wd m k) ⟨Di4.same (Same.new hD), rows_same L4 (Same.new hD), hD0, hDrl, [], upd_same, rfl, fun a ha => absurd ha (by simp)⟩ ?_ ?_
        · rintro k H5 hk ⟨D5, L5, E5⟩
          refine ⟨rfl, yes_do ?_⟩
          rw [if_pos rfl]
          refine ⟨_, rfl, _, rfl, _, rfl, d, sc, ns, wd, m, rfl, D5.at_, hm1, by omega, fun H6 l D6 hl L => ?_⟩
          obtain ⟨_, _, refs, g3, g4, g5⟩ := id E5
          have g3' := D6.dr D5.at_ g3 (Ne.symm (hd.ne_none hD0))
          have hl0 : H l = none := D5.free hd hl
          have lrl : l ≠ rl := Ne.symm (by obtain ⟨_, z, _⟩ := L5; exact ne_of_none z hl)
          refine ⟨refs.map V.ref, g3', small1000 (by rw [List.length_map]; omega), Dr.put hd (D5.trans D6) hD0, ?_, ?_⟩
          · have L6 := rows_dr L5 rld D5.at_ D6
            exact L6.keep mono_ed (TK.putL g3') fun o ho => by rw [upd_ne (Ne.symm hDrl)]; exact ho
          · have lD : l ≠ D := Ne.symm (ne_of_none g3 hl)
            have tk := TK.putL (o := .lst (refs.map V.ref ++ [.ref l])) g3'
            refine ⟨hD0, hDrl, refs ++ [l], by rw [upd_same, List.map_append]; rfl, by rw [List.length_append, g4]; rfl, fun a ha => ?_⟩
            rcases List.mem_append.mp ha with ha | ha
            · obtain ⟨q1, q2, q3, q4⟩ := g5 a ha
              exact ⟨q1, q2, q3, q4.keep ((D6.chg D5.at_).tk.trans tk) fun o ho => by rw [upd_ne q2]; exact D6.dr D5.at_ ho (Ne.symm (hd.ne_none q1))⟩
            · rw [List.mem_singleton.mp ha]
              exact ⟨hl0, lD, lrl, L.keep tk fun o ho => by rw [upd_ne lD]; exact ho⟩
        · rintro H5 ⟨D5, L5, E5⟩
          rw [show ((m : Int)).toNat = m by omega] at E5
          refine ⟨fun σ' H' => ∃ (o7 o8 : Option V) (e n : Nat), σ' = [some (.ref d), some (.int wd), some (.ref rl), some (.int (tot sh : Nat)), some (.int (0 + (i : Int))), some (.int m), some (.ref e), o7, o8, none] ∧ Dr K H H' d sc ns ∧ LstAt EdAt H' rl sh ∧ EdsAt H H' rl e wd n n ∧ 1 ≤ n ∧ n ≤ 3 ∧ tot sh + n ≤ 8, ?_, ?_⟩
          · have noDup : ∀ H', Dr K H H' d sc ns → LstAt EdAt H' rl sh → EdsAt H H' rl D wd m m → ∃ (p7 p8 : Option V) (e n : Nat), [some (V.ref d), some (.int wd), some (.ref rl), some (.int (tot sh : Nat)), some (.int (0 + (i : Int))), some (.int m), some (.ref D), o7, o8, none] = [some (.ref d), some (.int wd), some (.ref rl), some (.int (tot sh : Nat)), some (.int (0 + (i : Int))), some (.int m), some (.ref e), p7, p8, none] ∧ Dr K H H' d sc ns ∧ LstAt EdAt H' rl sh ∧ EdsAt H H' rl e wd n n ∧ 1 ≤ n ∧ n ≤ 3 ∧ tot sh + n ≤ 8 :=
              fun H' D' L' E' => ⟨_, _, D, m, rfl, D', L', E', hm1, hm3, hm8⟩
            refine ⟨_, rfl, (by show 0 ≤ sizeLine; exact Nat.zero_le _), fun e0 he0 => ?_⟩
            have s6 : Same H5 (upd H5 e0 (.lst [])) := Same.new he0
            have D6 := D5.same s6
            have L6 := rows_same L5 s6
            have E6 := E5.same s6
            refine ⟨.list (sh.map edD), .list [], dp_lst rd_ed L6, .lst (SqL.of upd_same) .nil, (shal_eds sh).shaped (by decide), (by decide +kernel), _, rfl, ?_⟩
            rw [eqv_le]
            revert D6 L6 E6
            generalize upd H5 e0 (.lst []) = H6
            intro D6 L6 E6
            by_cases hne : sh = []
            · rw [hne]
              refine iteF (iteF ?_)
              rw [← hne]
              exact noDup H6 D6 L6 E6
            · rw [decide_eq_false (fun z => hne (List.map_eq_nil_iff.mp z))]
              refine iteT ?_
              refine ⟨_, rfl, d, sc, ns, 2, rfl, D6.at_, by decide, fun H7 r7 D7 d0 d1 => ⟨rfl, _, rfl, ite2 (fun _ => ?_) (fun _ => iteF (noDup H7 (D6.trans D7) (rows_dr L6 rld D6.at_ D7) (E6.dr hd D6.at_ D7)))⟩⟩
              have D67 := D6.trans D7
              have L7 := rows_dr L6 rld D6.at_ D7
              have E7 := E6.dr hd D6.at_ D7
              obtain ⟨ed0, sh', rfl⟩ := List.exists_cons_of_ne_nil hne
              obtain ⟨rx, hrx, hrp⟩ := id L7
              obtain ⟨x0, hx0, b, fs, rfl, hb, hfp⟩ := pget (i := 0) hrp rfl
              have hfl := Paired.length hfp
              have EO := hE ed0 List.mem_cons_self
              have n1 := EO.lo
              have n3 := EO.hi
              refine ⟨_, rfl, rl, _, _, _, rfl, rfl, SqL.of hrx, atI_nat hx0, b, _, rfl, .inr (SqT.of hb), _, rfl, _, _, rfl, rfl, _, _, rfl, rfl, _, rfl, ite2 (fun hle8 => ?_) (fun _ => noDup H7 D67 L7 E7)⟩
              have hle8' := of_decide_eq_true hle8
              -- a copy of the first edition
              refine ⟨_, rfl, rl, _, _, _, rfl, rfl, SqL.of hrx, atI_nat hx0, b, rfl, ⟨_, SqT.of hb⟩, fun D2 hD2 => ?_⟩
              have hD20 : H D2 = none := D67.free hd hD2
              have hD2rl : D2 ≠ rl := Ne.symm (ne_of_none hrx hD2)
              refine lc_tup (K := K) (a := b) (xs := fs) (fun k H8 => Dr K H H8 d sc ns ∧ TK H7 H8 ∧ LstAt EdAt H8 rl (ed0 :: sh') ∧ EdsAt H H8 rl D2 wd ed0.length k) ⟨D67.same (Same.new hD2), TK.new hD2, rows_same L7 (Same.new hD2), hD20, hD2rl, [], upd_same, rfl, fun a ha => absurd ha (by simp)⟩ (fun k H8 _ q => SqT.of (q.2.1 _ _ hb)) ?_ ?_
              · rintro k x H8 hx ⟨D8, tk8, L8, E8⟩
                obtain ⟨ln, hln, c, es, rfl, hc, hce⟩ := pget' hfp hx
                have hkl : k < fs.length := (List.getElem?_eq_some_iff.mp hx).1
                obtain ⟨w1, w2⟩ := EO.row ln (List.mem_of_getElem? hln)
                refine ⟨rfl, yes_do ?_⟩
                rw [if_pos rfl]
                refine ⟨_, rfl, c, es, rfl, .inr (SqT.of (tk8 _ _ hc)), fun l hl => ?_⟩
                obtain ⟨_, _, refs, g3, g4, g5⟩ := id E8
                have hl0 : H l = none := D8.free hd hl
                have lrl : l ≠ rl := Ne.symm (by obtain ⟨_, z, _⟩ := L8; exact ne_of_none z hl)
                have s9 : Same H8 (upd H8 l (.lst es)) := Same.new hl
                have D9 := D8.same s9
                have tk9 : TK H8 (upd (upd H8 l (.lst es)) D2 (.lst (refs.map V.ref ++ [.ref l]))) := (TK.same s9).trans (TK.putL (s9 _ _ g3))
                refine ⟨refs.map V.ref, s9 _ _ g3, small1000 (by rw [List.length_map]; omega), Dr.put hd D9 hD20, tk8.trans tk9, ?_, E8.add hl hl0 lrl s9 ⟨ln, ⟨es, upd_same, pmono hce fun _ _ q => mono_en _ _ _ _ (tk8.trans (TK.same s9)) q⟩, w1, w2⟩ g3⟩
                exact (rows_same L8 s9).keep mono_ed (TK.putL (s9 _ _ g3)) fun o ho => by rw [upd_ne (Ne.symm hD2rl)]; exact ho
              · rintro H8 ⟨D8, tk8, L8, E8⟩
                rw [hfl] at E8
                obtain ⟨_, _, refs, g3, g4, g5⟩ := id E8
                refine ⟨_, rfl, _, rfl, D2, _, rfl, .inl (SqL.of g3), d, sc, ns, ed0.length, by rw [List.length_map, g4]; rfl, D8.at_, n1, fun H9 v e D9 hv hve => ?_⟩
                have D89 := D8.trans D9
                have L9 := rows_dr L8 rld D8.at_ D9
                have E9 := E8.dr hd D8.at_ D9
                have g39 := D9.dr D8.at_ g3 (Ne.symm (hd.ne_none hD20))
                refine ⟨_, rfl, _, rfl, d, sc, D2, ns, _, rfl, D89.at_, .inl ⟨g39, Ne.symm (hd.ne_none hD20)⟩, (fun z => by
                  have := congrArg List.length z
                  rw [List.length_map, g4] at this
                  exact absurd this (by show ed0.length ≠ 0; omega)), fun H10 j x D10 hx => ?_⟩
                obtain ⟨a, ha, rfl⟩ := ref_at hx
                have ham := List.mem_of_getElem? ha
                have L10 := rows_dr L9 rld D89.at_ D10
                have E10 := E9.dr hd D89.at_ D10
                have hv10 := mono_en _ _ _ _ (D10.chg D89.at_).tk hv
                refine ⟨_, rfl, _, rfl, _, rfl, _, rfl, d, sc, ns, wd, rfl, (D89.trans D10).at_, by omega, fun H11 j1 D11 j10 j11 => ?_⟩
                have D811 := (D89.trans D10).trans D11
                have L11 := rows_dr L10 rld (D89.trans D10).at_ D11
                have E11 := E10.dr hd (D89.trans D10).at_ D11
                have hv11 := mono_en _ _ _ _ (D11.chg (D89.trans D10).at_).tk hv10
                obtain ⟨q1, q2, refs', q3, q4, q5⟩ := id E11
                have er : refs' = refs := by
                  have e1 := D11.dr (D89.trans D10).at_ (D10.dr D89.at_ g39 (Ne.symm (hd.ne_none hD20))) (Ne.symm (hd.ne_none hD20))
                  rw [q3] at e1
                  injection e1 with e1
                  injection e1 with e1
                  exact (List.map_inj_right (fun _ _ z => by injection z)).mp e1
                subst er
                obtain ⟨p1, p2, p3, es, ⟨xs', hxs, hxp⟩, hel, hok⟩ := q5 a ham
                have hxl := Paired.length hxp
                refine ⟨a, xs', j1, j1.toNat, rfl, rfl, hxs, ixN_of j10 (by omega), ?_⟩
                have tk12 : TK H11 (upd H11 a (.lst (xs'.set j1.toNat v))) := TK.putL hxs
                refine ⟨_, _, D2, ed0.length, rfl, Dr.put hd D811 p1, L11.keep mono_ed tk12 (fun o ho => by rw [upd_ne (Ne.symm p3)]; exact ho), ⟨q1, q2, refs', by rw [upd_ne (Ne.symm p2)]; exact q3, q4, fun a' ha' => ?_⟩, n1, n3, by omega⟩
                obtain ⟨p1', p2', p3', LL⟩ := q5 a' ha'
                refine ⟨p1', p2', p3', ?_⟩
                by_cases ea : a' = a
                · subst ea
                  refine ⟨es.set j1.toNat e, ⟨xs'.set j1.toNat v, upd_same, pset (mono_en _ _ _ _ tk12 hv11) _ (pmono hxp fun _ _ q => mono_en _ _ _ _ tk12 q)⟩, by rw [List.length_set, hel], fun y hy => ?_⟩
                  rcases List.mem_or_eq_of_mem_set hy with hy | hy
                  · exact hok y hy
                  · rw [hy]
                    exact hve
                · exact LL.keep tk12 fun o ho => by rw [upd_ne ea]; exact ho
          · rintro σ' H' ⟨o7, o8, e, n, rfl, D', L', E', n1, n3, n8⟩
            obtain ⟨q1, q2, refs, q3, q4, q5⟩ := id E'
            obtain ⟨rx, hrx, hrp⟩ := id L'
            have hrl2 := Paired.length hrp
            obtain ⟨lns, hlns⟩ := ex_paired (F := fun a es => LstAt EnAt H' a es ∧ es.length = wd ∧ ∀ e ∈ es, EntOk n e) (xs := refs) fun a ha => (q5 a ha).2.2.2
            have hll := Paired.length hlns
            refine ⟨_, rfl, .inl ⟨rfl, _, SqL.of hrx⟩, _, rfl, e, rfl, ⟨_, SqL.of q3⟩, fun D2 hD2 => ?_⟩
            have hD20 : H D2 = none := D'.free hd hD2
            refine lcm_lst (R := LnAt) (ys := lns) (Z := fun H6 => Dr K H H6 d sc ns ∧ (∀ b o, H' b = some o → H6 b = some o) ∧ ∃ l, H6 D2 = some (.lst l)) mono_ln hD2 ⟨D'.same (Same.new hD2), Same.new hD2, _, upd_same⟩
              (fun H6 l o z hz => ⟨Dr.put hd z.1 hD20, fun b o' hb => by rw [upd_ne (ne_of_none hb hD2)]; exact z.2.1 _ _ hb, _, upd_same⟩) (fun H6 z => SqL.of (z.2.1 _ _ q3)) (by rw [List.length_map, hll]) (by rw [List.length_map]; omega) (fun x => rfl) ?_ ?_
            · rintro j x y H6 hx hy ⟨z1, z2, l6, hl6⟩ Q2 kq
              obtain ⟨a, ha, rfl⟩ := ref_at hx
              obtain ⟨y', hy', ⟨es, he1, he2⟩, hel, hok⟩ := pget' hlns ha
              obtain rfl : y = y' := Option.some.inj (hy.symm.trans hy')
              refine ⟨_, rfl, a, es, rfl, .inl ⟨SqL.of (z2 _ _ he1), fun l hl => ?_⟩⟩
              have hl' : H' l = none := Same.free z2 hl
              have hDl : D2 ≠ l := ne_of_none hl6 hl
              exact kq (.ref l) _ ⟨z1.same (Same.new hl), fun b o hb => (Same.new hl) _ _ (z2 _ _ hb), l6, (Same.new hl) _ _ hl6⟩ (TK.new hl) (upd_ne hDl) ⟨l, es, rfl, upd_same, pmono he2 fun _ _ q => mono_en _ _ _ _ ((TK.same z2).trans (TK.new hl)) q⟩
            · rintro H6 vs ⟨z1, z2, _⟩ hv hpv
              refine ⟨D2, vs, rfl, .inl ⟨SqL.of hv, fun p hp => ?_⟩⟩
              have s7 : Same H6 (upd H6 p (.tup vs)) := Same.new hp
              refine ⟨rl, rx, .ref p, rfl, rfl, s7 _ _ (z2 _ _ hrx), small1000 (by omega), ?_⟩
              have tk8 : TK H6 (upd (upd H6 p (.tup vs)) rl (.lst (rx ++ [.ref p]))) := (TK.same s7).trans (TK.putL (s7 _ _ (z2 _ _ hrx)))
              have prl : p ≠ rl := fun z => by rw [z, z2 _ _ hrx] at hp; cases hp
              have erl : e ≠ rl := q2
              refine ⟨_, rfl, _, rfl, e, _, rfl, .inl (SqL.of (by rw [upd_ne erl]; exact s7 _ _ (z2 _ _ q3))), _, _, rfl, rfl, ?_⟩
              have hlnl : lns.length = n := by omega
              have tss := tot_snoc sh lns
              refine ⟨some (.int (0 + (i : Int))), some (.int m), some (.ref e), o7, o8, sh ++ [lns], ?_, Dr.put hd (z1.same s7) hrl0, ⟨rx ++ [.ref p], upd_same, papp (pmono hrp fun _ _ q => mono_ed _ _ _ _ ((TK.same z2).trans tk8) q) (.cons ⟨p, vs, rfl, by rw [upd_ne prl, upd_same], pmono hpv fun _ _ q => mono_ln _ _ _ _ tk8 q⟩ .nil)⟩, fun ed hed => ?_, ?_, ?_, ?_, ?_⟩
              · rw [tss, List.length_map, q4, hlnl]
                show [_, _, _, some (V.int ((tot sh : Nat) + (n : Nat))), _, _, _, _, _, _] = [_, _, _, some (V.int ((tot sh + n : Nat))), _, _, _, _, _, _]
                rw [show ((tot sh + n : Nat) : Int) = (tot sh : Nat) + (n : Nat) by omega]
              · rcases List.mem_append.mp hed with hed | hed
                · exact hE ed hed
                · rw [List.mem_singleton.mp hed]
                  refine ⟨by omega, by omega, fun l hl => ?_⟩
                  obtain ⟨k, hk⟩ := List.mem_iff_getElem?.mp hl
                  obtain ⟨a, ha, _, hel, hok⟩ := pget hlns hk
                  rw [hlnl]
                  exact ⟨hel, hok⟩
              · rw [List.length_append, List.length_singleton]
                omega
              · rw [List.length_append, List.length_singleton]
                omega
              · rw [tss, List.length_append, List.length_singleton]
                omega
              · rw [tss]
                omega
      · have hz : m = 0 := by
          rcases Nat.eq_zero_or_pos m with z | z
          · exact z
          · exact absurd (decide_eq_true (show (0 : Int) < m by omega)) hle
        have := hm0 hz
        exact ⟨_, _, _, _, _, sh, rfl, Di4, L4, hE, by omega, by omega, ht3, ht8⟩
    · rintro σ H' ⟨o4, o5, o6, o7, o8, sh, rfl, Di, Li, hE, hlo, hhi, ht3, ht8⟩
      have hn : (2 + r2).toNat = 2 + r2.toNat := by omega
      rw [hn] at hlo hhi
      obtain ⟨rx, hrx, hrp⟩ := id Li
      have hrxl := Paired.length hrp
      refine ⟨_, rfl, rl, _, rfl, .inl (SqL.of hrx), _, _, rfl, rfl, _, rfl, ?_⟩
      rw [decide_eq_false (show ¬ (rx.length : Int) < 2 by omega)]
      refine iteF ?_
      have w1 : 1 ≤ wd := by omega
      refine ⟨_, rfl, rl, _, rfl, .inl ⟨SqL.of hrx, fun tp htp => fun p dp hp hdp hne => ?_⟩⟩
      have S : ShOk wd sh := ⟨w1, by omega, by omega, by omega, hE, ht8⟩
      have s1 : Same H' (upd H' tp (.tup rx)) := Same.new htp
      have s2 : Same H' (upd (upd (upd H' tp (.tup rx)) dp (.own p)) p (.ins T.cSh dp [])) := Same.upd' (Same.upd' s1 (s1.free hdp) _) (s1.free hp) _
      have tpp : tp ≠ p := fun z => by rw [← z, upd_same] at hp; cases hp
      have tpd : tp ≠ dp := fun z => by rw [← z, upd_same] at hdp; cases hdp
      refine ⟨p, dp, .ref tp, sh, wd, rfl, upd_same, by rw [upd_ne hne, upd_same], ⟨tp, rx, rfl, by rw [upd_ne tpp, upd_ne tpd, upd_same], pmono hrp fun _ _ q => mono_ed _ _ _ _ (TK.same s2) q⟩, S, fun H9 b9 S9 => ⟨rfl, ?_⟩⟩
      have s9 : Same H' H9 := fun x o hx => b9 _ _ (s2 _ _ hx) (by
        simp
        exact ⟨ne_of_none hx (s1.free hp), ne_of_none hx (s1.free hdp)⟩)
      exact kk H9 p wd sh (Di.same s9) (Di.free hd (s1.free hp)) S9
end
end WF
end

section
set_option Elab.async false
set_option linter.all false
set_option maxRecDepth 100000
set_option maxHeartbeats 4000000
/-! Whichfirm: the law's own machine, 1. -/
namespace WF
open PySem PySem.Spec PyProof.Rows L2 SlX RZ
section
variable {P : Program} {w : World} {K : PySem.W.Frag} {mg : Str → Option Value} {base : Heap}
/-- shelf.editions -/
theorem p_eds (T : Top P K mg) {X : Cx} {e : Expr} {ta : TE} {pos : Pos} (hK : X.K = K) (hmg : X.mg = mg) (hP : X.prog = P) (he : PE X e ta) (hr : Room 4 X.A) (hb : attributeBase e "editions" X.env (eval e X.env) = eval e X.env := by rfl) : PE X (.Attribute e "editions" pos) (tPropSl T.cSh (spShEds T.cSh) E0 ta) := by
  subst hK
  subst hmg
  subst hP
  obtain ⟨rest, hrec⟩ := T.sh_eds.o.rec_
  exact pe_propSl he T.shC T.sh_eds.o.at_ T.sh_eds.o.get T.sh_eds.o.tak ⟨rest, hrec⟩ (rawR (w := X.w) (base := X.base) (ok_sh_eds T) T.sh_eds.b) hr (fun _ _ _ _ h => h.elim) hb
theorem eds_read {C : Addr} {H : Hp} {a : Addr} {w : Nat} {sh : Shf} {Q : VK} (h : ShfAt C H a w sh) (k : ∀ r, ShAt H r sh → Q r H) : ∃ a' dx vs, V.ref a = .ref a' ∧ Slt H a' C dx vs ∧ spShEds C [.ref a'] H Q E0 := by
  obtain ⟨dx, r, hS, hr⟩ := h.slt
  exact ⟨a, dx, _, rfl, hS, a, w, sh, rfl, h, k⟩
/-! ### _law_at, _law_width -/
theorem scAt : FnScope ["_law_shelf_here", "_law_pair", "_law_command"] ["_law_shelf_here", "_law_pair", "_law_command"] (defScope s_L_at) := ⟨rfl, rfl, rfl, by decide +kernel, rfl, by decide +kernel, by decide +kernel⟩
theorem ok_at (T : Top P K mg) : FnOk P w K mg base CX0 6 T.d_L_at.f T.d_L_at.fd ["_law_shelf_here", "_law_pair", "_law_command"] (spEnt T.cSh) := by
  refine T.d_L_at.F.ok scAt (fun vs H Q E h => ?_) (fun cdv A outer s H vs Q E hr h => ?_)
  · obtain ⟨a, w, sh, v, p, c, rfl, _⟩ := h
    rfl
  · obtain ⟨a, w, sh, v, p, c, rfl, hs, hp, ho, h0, hc, k⟩ := h
    have hr4 : Room 4 _ := hr.mono (by decide)
    refine ⟨_, pss_one (ps_ret (pe_ix ix_tup (pe_ix ix_tup (pe_ix ix_tup (p_eds T rfl rfl rfl (pv 0) hr4) (pe_ix ix_tup (pv 1) pe_int (fun _ _ => rfl)) (fun _ _ => rfl)) (pe_ix ix_tup (pv 1) pe_int (fun _ _ => rfl)) (fun _ _ => rfl)) (pv 2) (fun _ _ => rfl))), ?_⟩
    have S := hs.1
    refine ⟨_, rfl, eds_read hs fun r hr => ?_⟩
    obtain ⟨b, xs, rfl, hb, hq⟩ := hr
    obtain ⟨pa, rfl, hpa⟩ := hp
    obtain ⟨ed, l, e, e1, _, e3, _, e5, _, e7, _⟩ := ent_at S ho h0 hc
    obtain ⟨x1, h1, b1, ys1, rfl, hb1, hq1⟩ := pat hq e1
    obtain ⟨x2, h2, b2, ys2, rfl, hb2, hq2⟩ := pat hq1 e3
    obtain ⟨x3, h3, hx3⟩ := pat hq2 e5
    refine ⟨_, rfl, pa, _, _, _, rfl, rfl, SqT.of hpa, rfl, b, xs, _, _, rfl, rfl, SqT.of hb, h1, ?_⟩
    refine ⟨_, rfl, pa, _, _, _, rfl, rfl, SqT.of hpa, rfl, b1, _, _, _, rfl, rfl, SqT.of hb1, h2, _, rfl, b2, _, _, _, rfl, rfl, SqT.of hb2, h3, k x3 ?_⟩
    rw [e7]
    exact hx3
def spWidth (C : Addr) : Sp := fun vs H Q _ => ∃ (a : Addr) (w : Nat) (sh : Shf), vs = [.ref a] ∧ ShfAt C H a w sh ∧ Q (.int w) H
theorem scWidth : FnScope ["_law_shelf_here"] ["_law_shelf_here"] (defScope s_L_width) := ⟨rfl, rfl, rfl, by decide +kernel, rfl, by decide +kernel, by decide +kernel⟩
theorem ok_width (T : Top P K mg) : FnOk P w K mg base CX0 6 T.d_L_width.f T.d_L_width.fd ["_law_shelf_here"] (spWidth T.cSh) := by
  refine T.d_L_width.F.ok scWidth (fun vs H Q E h => ?_) (fun cdv A outer s H vs Q E hr h => ?_)
  · obtain ⟨a, w, sh, rfl, _⟩ := h
    rfl
  · obtain ⟨a, w, sh, rfl, hs, k⟩ := h
    have hr4 : Room 4 _ := hr.mono (by decide)
    refine ⟨_, pss_one (ps_ret (pe_callB call_len_seq (by rfl) T.b_len bo_len (pa_cons (pe_ix ix_tup (pe_ix ix_tup (p_eds T rfl rfl rfl (pv 0) hr4) pe_int (fun _ _ => rfl)) pe_int (fun _ _ => rfl)) pa_nil))), ?_⟩
    have S := hs.1
    have lo := S.lo
    refine ⟨_, rfl, eds_read hs fun r hr => ?_⟩
    obtain ⟨b, xs, rfl, hb, hq⟩ := hr
    obtain ⟨ed, hed⟩ : ∃ ed, sh[0]? = some ed := ⟨_, List.getElem?_eq_getElem (by omega)⟩
    obtain ⟨x, hx, b1, es, rfl, hb1, hq1⟩ := pget hq hed
    have E1 := S.ed ed (List.mem_of_getElem? hed)
    have lo2 := E1.lo
    obtain ⟨l, hl0⟩ : ∃ l, ed[0]? = some l := ⟨_, List.getElem?_eq_getElem (by omega)⟩
    obtain ⟨y, hy, c, fs, rfl, hc, hf⟩ := pget hq1 hl0
    have hlw := (E1.row l (List.mem_of_getElem? hl0)).1
    have hfl := Paired.length hf
    refine ⟨b, _, _, _, rfl, rfl, SqT.of hb, atI_nat hx, b1, _, _, _, rfl, rfl, SqT.of hb1, atI_nat hy, c, _, rfl, .inr (SqT.of hc), ?_⟩
    rw [show ((fs.length : Nat) : Int) = (w : Int) by omega]
    exact k
/-! ### _law_told -/
theorem scLTold : FnScope ["_law_doubt_here", "_law_pair"] ["_law_doubt_here"] (defScope s_L_told) := ⟨rfl, rfl, rfl, by decide +kernel, rfl, by decide +kernel, by decide +kernel⟩
theorem ok_ltold (T : Top P K mg) : FnOk P w K mg base CX0 3 T.d_L_told.f T.d_L_told.fd ["_law_doubt_here"] spTold := by
  refine T.d_L_told.F.ok scLTold (fun vs H Q E h => ?_) (fun cdv A outer s H vs Q E hr h => ?_)
  · obtain ⟨v, d, rfl, _⟩ := h
    rfl
  · obtain ⟨v, d, rfl, hd, hne, h8, k⟩ := h
    refine ⟨_, pss_one (ps_ret (pe_callB (cr_all rfl) (by rfl) T.b_all bo_all (pa_cons (pe_lc (own := [("_law_pair", 1)]) (g := gName 1) (tt := tYes) rfl scLTold.nd (pi_tup (pv 0)) (blkOk_by (N := ["_law_doubt_here", "_law_pair"]) (sc := defScope s_L_told) (by decide +kernel))
            (fun _ _ _ _ _ => pg_name (i := 1) scLTold.nd rfl (Or.inl rfl)) (fun _ _ _ _ _ => pts_nil)
            (fun _ _ _ _ _ => pe_cmpR op_eq (pe_ix (ix_tupK (K := K) rfl) (pv 1) pe_int (fun _ _ => rfl)) (pe_ix (ix_tupK (K := K) rfl) (pe_ix (ix_tupK (K := K) rfl) (pv 0) pe_int (fun _ _ => rfl)) pe_int (fun _ _ => rfl)) (nomark _))) pa_nil))), ?_⟩
    obtain ⟨b, xs, rfl, hb, hp⟩ := id hd
    have hl := Paired.length hp
    obtain ⟨p0, d', rfl⟩ := List.exists_cons_of_ne_nil hne
    obtain ⟨x0, hx0, a0, rfl, ha0⟩ := pget (i := 0) hp rfl
    refine ⟨_, rfl, b, rfl, ⟨_, SqT.of hb⟩, fun D hD => ?_⟩
    refine lcm_tup (R := BlAt) (ys := (p0 :: d').map fun p => decide (p.1 = p0.1)) (Z := fun H2 => Same H H2) mono_bl hD (Same.new hD) (fun H2 l2 o2 z e => Same.upd' z hD _) (fun H2 z => SqT.of (z b _ hb)) (by rw [List.length_map, hl]) (by omega) (fun x => rfl) ?_ ?_
    · rintro j x y H2 hj hy z Q2 kq
      obtain ⟨p, he1, a, rfl, he2⟩ := pget' hp hj
      have hyt : y = decide (p.1 = p0.1) := by
        rw [List.getElem?_map, he1] at hy
        exact (Option.some.inj hy).symm
      subst hyt
      refine ⟨_, rfl, a, _, _, _, rfl, rfl, SqT.of (z _ _ he2), rfl, _, rfl, b, _, _, _, rfl, rfl, SqT.of (z _ _ hb), atI_nat hx0, a0, _, _, _, rfl, rfl, SqT.of (z _ _ ha0), rfl, rfl, kq _ H2 z (TK.refl _) rfl ?_⟩
      show V.bl (decide (V.int p.1 = V.int p0.1)) = V.bl (decide (p.1 = p0.1))
      by_cases e : p.1 = p0.1
      · rw [e]
        simp
      · rw [decide_eq_false e, decide_eq_false (fun z => e (by injection z))]
    · rintro H2 vs z hv hpv
      rw [bl_map hpv] at hv
      refine ⟨D, _, rfl, SqL.of hv, ?_⟩
      rw [List.all_map]
      exact k H2 z
/-! ### _law_pairs -/
def prsN (sh : Shf) : Nat → List Pr
  | 0 => []
  | i + 1 => prsN sh i ++ (List.range ((sh[i]?).getD []).length).map fun (j : Nat) => ((i : Int), (j : Int))
theorem prsN_lt (sh : Shf) : ∀ (i : Nat) (p : Pr), p ∈ prsN sh i → p.1 < i ∧ 0 ≤ p.1
  | 0, p, h => by cases h
  | i + 1, p, h => by
    rcases List.mem_append.mp h with h | h
    · obtain ⟨a, b⟩ := prsN_lt sh i p h
      exact ⟨by omega, b⟩
    · obtain ⟨j, _, rfl⟩ := List.mem_map.mp h
      exact ⟨by show (i : Int) < (i + 1 : Nat); omega, by show (0 : Int) ≤ i; omega⟩
theorem prsN_ok (sh : Shf) : ∀ (i : Nat), i ≤ sh.length → ∀ p ∈ prsN sh i, PrOk sh p
  | 0, _, p, h => by cases h
  | i + 1, hi, p, h => by
    rcases List.mem_append.mp h with h | h
    · exact prsN_ok sh i (by omega) p h
    · obtain ⟨j, hj, rfl⟩ := List.mem_map.mp h
      have hjl := List.mem_range.mp hj
      obtain ⟨ed, he⟩ : ∃ ed, sh[i]? = some ed := ⟨_, List.getElem?_eq_getElem (by omega)⟩
      rw [he] at hjl
      refine ⟨by show (0 : Int) ≤ i; omega, ed, ?_, by show (0 : Int) ≤ j; omega, by show (j : Int) < ed.length; exact Int.ofNat_lt.mpr hjl⟩
      show sh[((i : Int)).toNat]? = some ed
      rw [Int.toNat_natCast]
      exact he
theorem asc_row (i : Int) : ∀ n : Nat, Asc ((List.range n).map fun (j : Nat) => (i, (j : Int))) := fun n => by
  show List.Pairwise WF.ltP _
  rw [List.pairwise_map]
  refine List.Pairwise.imp ?_ (List.pairwise_lt_range (n := n))
  intro a b h
  exact .inr ⟨rfl, by show (a : Int) < b; omega⟩
theorem prsN_asc (sh : Shf) : ∀ (i : Nat), Asc (prsN sh i)
  | 0 => List.Pairwise.nil
  | i + 1 => by
    refine List.pairwise_append.mpr ⟨prsN_asc sh i, asc_row i _, fun a ha b hb => ?_⟩
    obtain ⟨j, _, rfl⟩ := List.mem_map.mp hb
    exact .inl (prsN_lt sh i a ha).1
theorem prsN_len (sh : Shf) : ∀ (i : Nat), i ≤ sh.length → (prsN sh i).length = ((sh.take i).map List.length).sum
  | 0, _ => rfl
  | i + 1, hi => by
    obtain ⟨ed, he⟩ : ∃ ed, sh[i]? = some ed := ⟨_, List.getElem?_eq_getElem (by omega)⟩
    rw [tot_succ he, ← prsN_len sh i (by omega)]
    show (prsN sh i ++ _).length = _
    rw [List.length_append, List.length_map, List.length_range, he]
    rfl
def spPairs (C : Addr) : Sp := fun vs H Q _ => ∃ (a : Addr) (w : Nat) (sh : Shf), vs = [.ref a] ∧ ShfAt C H a w sh ∧ ∀ H' l, Same H H' → H l = none → LstAt PrAt H' l (prsN sh sh.length) → Q (.ref l) H'
theorem scPairs : FnScope ["_law_shelf_here", "_law_found", "_law_at_here", "_law_edition", "_law_state"] ["_law_shelf_here"] (defScope s_L_pairs) := ⟨rfl, rfl, rfl, by decide +kernel, rfl, by decide +kernel, by decide +kernel⟩
theorem ok_pairs (T : Top P K mg) : FnOk P w K mg base CX0 6 T.d_L_pairs.f T.d_L_pairs.fd ["_law_shelf_here"] (spPairs T.cSh) := by
  refine T.d_L_pairs.F.ok scPairs (fun vs H Q E h => ?_) (fun cdv A outer s H vs Q E hr h => ?_)
  · obtain ⟨a, w, sh, rfl, _⟩ := h
    rfl
  · obtain ⟨a, w, sh, rfl, hs, k⟩ := h
    have hr4 : Room 4 _ := hr.mono (by decide)
    refine ⟨_, pss_cons (ps_set (i := 1) scPairs.nd rfl (Or.inl rfl) (pe_lst pa_nil))
      (pss_cons (ps_for PassesOwn.never rfl (pi_enumT (by rfl) T.b_enumerate (pa_cons (p_eds T rfl rfl rfl (pv 0) hr4) pa_nil)) (pg_tupK (K := K) (n := 2) rfl rfl (pgs_cons (pg_name (i := 2) scPairs.nd rfl (Or.inr rfl)) (pgs_cons (pg_name (i := 3) scPairs.nd rfl (Or.inl rfl)) pgs_nil)))
        (pss_one (ps_set (i := 1) scPairs.nd rfl (Or.inl rfl) (pe_op op_cat (pv 1) (pe_lc (own := [("_law_state", 4)]) (g := gName 4) (tt := tYes) rfl scPairs.nd (pi_range1 (by rfl) T.b_range (pa_cons (pe_callB call_len_seq (by rfl) T.b_len bo_len (pa_cons (pv 3) pa_nil)) pa_nil)) (blkOk_by (N := ["_law_shelf_here", "_law_found", "_law_at_here", "_law_edition", "_law_state"]) (sc := defScope s_L_pairs) (by decide +kernel))
            (fun _ _ _ _ _ => pg_name (i := 4) scPairs.nd rfl (Or.inl rfl)) (fun _ _ _ _ _ => pts_nil)
            (fun _ _ _ _ _ => pe_tup (pa_cons (pv 2) (pa_cons (pv 4) pa_nil))))))))
      (pss_one (ps_ret (pv 1)))), ?_⟩
    refine ⟨(by show 0 ≤ sizeLine; exact Nat.zero_le _), fun f hf => ?_⟩
    have S := hs.1
    have s1 : Same H (upd H f (.lst [])) := Same.new hf
    refine ⟨_, rfl, eds_read (hs.keep (.same s1)) fun r hr => ?_⟩
    obtain ⟨b, xs, rfl, hb, hq⟩ := hr
    have hl := Paired.length hq
    have hbH : H b = some (.tup xs) := by
      obtain ⟨_, dx, r0, q1, q2, _⟩ := id hs
      by_cases z : b = f
      · rw [z, upd_same] at hb
        cases hb
      · rw [upd_ne z] at hb
        exact hb
    refine ⟨b, xs, rfl, SqT.of hb, for_enumT (K := K) (a := b) (xs := xs) (fun i σ H' => ∃ (o2 o3 : Option V) (g : Addr), σ = [some (.ref a), some (.ref g), o2, o3, none] ∧ Same H H' ∧ H g = none ∧ LstAt PrAt H' g (prsN sh i)) ⟨none, none, f, rfl, s1, hf, [], upd_same, .nil⟩ (fun i σ H' _ ⟨_, _, _, _, z, _⟩ => SqT.of (z _ _ hbH)) ?_ ?_⟩
    · rintro i x σ H' T' hx ⟨o2, o3, g, rfl, sm, hg, gs, hgs, hgp⟩ hT'
      obtain ⟨ed, hed, b2, es, rfl, hb2, hq2⟩ := pget' hq hx
      have hil : i < sh.length := (List.getElem?_eq_some_iff.mp hed).1
      have E1 := S.ed ed (List.mem_of_getElem? hed)
      have n3 := E1.hi
      have hes := Paired.length hq2
      have hb2H : H b2 = some (.tup es) := by
        by_cases z : b2 = f
        · rw [z, upd_same] at hb2
          cases hb2
        · rw [upd_ne z] at hb2
          exact hb2
      have sT : Same H (upd H' T' (.tup [.int (i : Nat), .ref b2])) := Same.upd' sm (sm.free hT') _
      have hgT : upd H' T' (.tup [.int (i : Nat), .ref b2]) g = some (.lst gs) := by rw [upd_ne (ne_of_none hgs hT')]; exact hgs
      have hgpT : Paired (PrAt (upd H' T' (.tup [.int (i : Nat), .ref b2]))) gs (prsN sh i) := pmono hgp fun _ _ q => mono_pr _ _ _ _ (TK.new hT') q
      refine g_pair upd_same ?_
      revert sT hgT hgpT
      generalize upd H' T' (.tup [.int (i : Nat), .ref b2]) = H3
      intro sT hgT hgpT
      refine ⟨_, rfl, _, rfl, b2, _, rfl, .inr (SqT.of (sT _ _ hb2H)), (es.length : Nat), rfl, by omega, by omega, fun D hD => ?_⟩
      have hD0 : H D = none := sT.free hD
      have tl := prsN_len sh i (by omega)
      have tl2 := tot_le sh i
      have tt := S.tot
      have hgl := Paired.length hgpT
      refine lcm_rng (R := PrAt) (ys := (List.range ed.length).map fun (j : Nat) => ((i : Int), (j : Int))) (Z := fun H4 => Same H3 H4 ∧ ∃ l, H4 D = some (.lst l)) mono_pr hD ⟨Same.new hD, _, upd_same⟩ (fun H4 l o z hz => ⟨Same.upd' z.1 hD _, _, upd_same⟩) (by rw [List.length_map, List.length_range, ← hes]; omega) (by omega) (fun x => rfl) ?_ ?_
      · rintro j y H4 hj hy ⟨z1, l4, z2⟩ Q2 kq
        have hyj : y = ((i : Int), (j : Int)) := by
          rw [List.getElem?_map, List.getElem?_range (by omega)] at hy
          exact (Option.some.inj hy).symm
        refine ⟨_, rfl, _, rfl, (by show 2 ≤ sizeLine; decide), fun t ht => ?_⟩
        refine kq (.ref t) _ ⟨Same.upd' z1 (z1.free ht) _, l4, (Same.new ht) _ _ z2⟩ (TK.new ht) (upd_ne (ne_of_none z2 ht)) ⟨t, rfl, ?_⟩
        rw [upd_same, hyj]
        show some (HO.tup [.int (i : Int), .int (0 + (j : Int))]) = some (HO.tup [.int (i : Int), .int (j : Int)])
        rw [Int.zero_add]
      · rintro H4 vs ⟨z1, _⟩ hv hpv
        have hvl := Paired.length hpv
        rw [List.length_map, List.length_range] at hvl
        refine ⟨g, D, gs, vs, rfl, rfl, z1 _ _ hgT, hv, ?_, fun p hp => ?_⟩
        · exact Nat.le_of_lt (small1000 (by omega))
        · have hp0 : H p = none := (sT.trans z1).free hp
          refine ⟨_, _, p, rfl, Same.upd' (sT.trans z1) hp0 _, hp0, gs ++ vs, upd_same, ?_⟩
          have e : prsN sh (i + 1) = prsN sh i ++ (List.range ed.length).map fun (j : Nat) => ((i : Int), (j : Int)) := by
            show prsN sh i ++ (List.range ((sh[i]?).getD []).length).map _ = _
            rw [hed]
            rfl
          rw [e]
          exact papp (pmono hgpT fun _ _ q => mono_pr _ _ _ _ ((TK.same z1).trans (TK.new hp)) q) (pmono hpv fun _ _ q => mono_pr _ _ _ _ (TK.new hp) q)
    · rintro σ H' ⟨o2, o3, g, rfl, sm, hg, L⟩
      rw [hl] at L
      exact ⟨_, rfl, k H' g sm hg L⟩
end
end WF
end

section
set_option Elab.async false
set_option linter.all false
set_option maxRecDepth 100000
set_option maxHeartbeats 4000000
/-! Whichfirm: the law's own machine, 2. -/
namespace WF
open PySem PySem.Spec PyProof.Rows L2 SlX RZ
theorem shal_prs (d : List Pr) : Shal 2 (.list (d.map prD)) := shal_lst (shal_map shal_pr d)
section
variable {P : Program} {w : World} {K : PySem.W.Frag} {mg : Str → Option Value} {base : Heap}
/-! ### _law_doubt -/
def spLDoubt (K : PySem.W.Frag) (C : Addr) : Sp := fun vs H Q _ => ∃ (d sc a : Addr) (ns : List Int) (w : Nat) (sh : Shf), vs = [.ref d, .ref a] ∧ DrAt K H d sc ns ∧ ShfAt C H a w sh ∧ ∀ H' v db, Dr K H H' d sc ns → DbAt H' v db → DbOk sh db → db.length ≤ 8 → Q v H'
theorem scLDoubt : FnScope ["_law_draw_here", "_law_shelf_here", "_law_found", "_law_pair"] ["_law_draw_here", "_law_shelf_here"] (defScope s_L_doubt) := ⟨rfl, rfl, rfl, by decide +kernel, rfl, by decide +kernel, by decide +kernel⟩
theorem ok_ldoubt (T : Top P K mg) : FnOk P w K mg base CX0 11 T.d_L_doubt.f T.d_L_doubt.fd ["_law_draw_here", "_law_shelf_here"] (spLDoubt K T.cSh) := by
  refine T.d_L_doubt.F.ok scLDoubt (fun vs H Q E h => ?_) (fun cdv A outer s H vs Q E hr h => ?_)
  · obtain ⟨d, sc, a, ns, w, sh, rfl, _⟩ := h
    rfl
  · obtain ⟨d, sc, a, ns, w, sh, rfl, hd, hs, kk⟩ := h
    have hr6 : Room 6 _ := hr.mono (by decide)
    have hr7 : Room 7 _ := hr.mono (by decide)
    have hr9 : Room 9 _ := hr.mono (by decide)
    have hu : (A.deeper (envOfC "_law_doubt" (defScope s_L_doubt) s.heap.objs.size T.d_L_doubt.f cdv)).units + 64 < cLine := hr.units
    refine ⟨_, pss_cons (ps_setLc (i := 2) (own := [("_law_pair", 3)]) (g := gName 3) rfl scLDoubt.nd rfl rfl (sw_true rfl rfl rfl (by decide +kernel)) (pi_list (pcall T.d_L_pairs (ok_pairs T) hr6 (by rfl) (pa_cons (pv 1) pa_nil))) (blkOk_by (N := ["_law_draw_here", "_law_shelf_here", "_law_found", "_law_pair"]) (sc := defScope s_L_doubt) (by decide +kernel))
          (fun _ _ _ _ _ => pg_name (i := 3) scLDoubt.nd rfl (Or.inl rfl)) (fun _ _ _ _ _ => pts_one (pt_cmpR op_eq (pcall T.d_L_next (ok_next T) hr7 (by rfl) (pa_cons (pv 0) (pa_cons pe_int pa_nil))) pe_int (nomark _))) (fun _ _ _ _ _ => pv 3))
      (pss_one (ps_ret (pe_ifExp (pt_cmpR (op_neD hu) (pv 2) (pe_lst pa_nil) (nomark _)) (pe_callTy call_tuple_of (by rfl) T.b_tuple bo_tuple (pa_cons (pv 2) pa_nil))
        (pe_tup (pa_cons (pcall T.d_L_pick (ok_pick T) hr9 (by rfl) (pa_cons (pv 0) (pa_cons (pcall T.d_L_pairs (ok_pairs T) hr6 (by rfl) (pa_cons (pv 1) pa_nil)) pa_nil))) pa_nil))))), ?_⟩
    have S := hs.1
    have pok := prsN_ok sh sh.length (Nat.le_refl _)
    have pasc := prsN_asc sh sh.length
    have plen := prsN_len sh sh.length (Nat.le_refl _)
    rw [List.take_length] at plen
    have p8 := S.tot
    refine ⟨_, rfl, a, w, sh, rfl, hs, fun H1 l s1 hl L1 => ?_⟩
    obtain ⟨xs, hx, hp⟩ := L1
    have hxl := Paired.length hp
    refine ⟨l, rfl, ⟨_, SqL.of hx⟩, fun D hD => ?_⟩
    have hD0 : H D = none := s1.free hD
    refine lc_list (K := K) (a := l) (xs := xs) (fun k H3 => Dr K H H3 d sc ns ∧ TK H1 H3 ∧ H3 l = some (.lst xs) ∧ ∃ fs vs, H3 D = some (.lst vs) ∧ Paired (PrAt H3) vs fs ∧ fs.Sublist ((prsN sh sh.length).take k))
      ⟨(Dr.of hd s1).same (Same.new hD), TK.new hD, (Same.new hD) _ _ hx, [], [], upd_same, .nil, List.nil_sublist _⟩ (fun k H3 _ q => SqL.of q.2.2.1) ?_ ?_
    · rintro k x H3 hk ⟨D3, tk3, hl3, fs, vs, hv, hpv, hsub⟩
      obtain ⟨p, hp1, hp2⟩ := pget' hp hk
      have et : (prsN sh sh.length).take (k + 1) = (prsN sh sh.length).take k ++ [p] := by rw [List.take_succ, hp1]; rfl
      refine ⟨rfl, _, rfl, d, sc, ns, 2, rfl, D3.at_, by decide, fun H4 r D4 r0 r1 => ⟨rfl, _, rfl, ?_⟩⟩
      have ld : l ≠ d := Ne.symm (hd.ne_none hl)
      have Dd : D ≠ d := Ne.symm (hd.ne_none hD0)
      have tk4 := (D4.chg D3.at_).tk
      have hl4 := D4.dr D3.at_ hl3 ld
      have hv4 := D4.dr D3.at_ hv Dd
      refine ite2 (fun _ => ?_) (fun _ => ?_)
      · have lD : l ≠ D := ne_of_none hx hD
        have tk5 : TK H4 (upd H4 D (.lst (vs ++ [x]))) := TK.putL hv4
        have hlen := hsub.length_le
        rw [List.length_take] at hlen
        have hvl := Paired.length hpv
        refine ⟨_, rfl, vs, hv4, small1000 (by omega), Dr.put hd (D3.trans D4) hD0, tk3.trans (tk4.trans tk5), by rw [upd_ne lD]; exact hl4, fs ++ [p], vs ++ [x], upd_same, papp (pmono hpv fun _ _ q => mono_pr _ _ _ _ (tk4.trans tk5) q) (.cons (mono_pr _ _ _ _ (tk3.trans (tk4.trans tk5)) hp2) .nil), ?_⟩
        rw [et]
        exact hsub.append (List.Sublist.refl _)
      · refine ⟨D3.trans D4, tk3.trans tk4, hl4, fs, vs, hv4, pmono hpv fun _ _ q => mono_pr _ _ _ _ tk4 q, ?_⟩
        rw [et]
        exact hsub.trans (List.sublist_append_left _ _)
    · rintro H3 ⟨D3, tk3, hl3, fs, vs, hv, hpv, hsub⟩
      rw [List.take_of_length_le (by omega)] at hsub
      have hfl := hsub.length_le
      have fok : ∀ p ∈ fs, PrOk sh p := fun p hpm => pok p (hsub.subset hpm)
      have fasc : Asc fs := List.Pairwise.sublist hsub pasc
      refine ⟨_, rfl, (by show 0 ≤ sizeLine; exact Nat.zero_le _), fun e0 he0 => ?_⟩
      have s4 : Same H3 (upd H3 e0 (.lst [])) := Same.new he0
      refine ⟨.list (fs.map prD), .list [], dp_lst rd_pr (H := upd H3 e0 (.lst [])) ⟨vs, s4 _ _ hv, pmono hpv fun _ _ q => mono_pr _ _ _ _ (TK.same s4) q⟩, .lst (SqL.of upd_same) .nil, (shal_prs fs).shaped (by decide), (by decide +kernel), _, rfl, ?_⟩
      rw [eqv_le]
      have D4 := D3.same s4
      by_cases hne : fs = []
      · rw [hne]
        refine iteF ?_
        refine ⟨_, rfl, _, rfl, a, w, sh, rfl, hs.keep (D4.chg hd), fun H5 l2 s5 hl2 L2 => ?_⟩
        obtain ⟨ys, hy, hyp⟩ := L2
        have hyl := Paired.length hyp
        have D5 := D4.same s5
        have ppos : prsN sh sh.length ≠ [] := fun z => by
          rw [z, List.length_nil] at plen
          have lo := S.lo
          obtain ⟨ed, hed⟩ : ∃ ed, sh[0]? = some ed := ⟨_, List.getElem?_eq_getElem (by omega)⟩
          have e1 := tot_le sh (0 + 1)
          have e2 := tot_succ hed
          have e3 := (S.ed ed (List.mem_of_getElem? hed)).lo
          omega
        refine ⟨d, sc, l2, ns, ys, rfl, D5.at_, .inl ⟨hy, Ne.symm (D4.at_.ne_none hl2)⟩, fun z => ppos (by rw [z] at hyl; exact List.length_eq_zero_iff.mp hyl.symm), fun H6 i x D6 hx6 => ?_⟩
        obtain ⟨p, hp1, hp2⟩ := pget' hyp hx6
        refine ⟨(by show 1 ≤ sizeLine; decide), fun t ht => ?_⟩
        have D56 := D5.trans D6
        have tk7 : TK H5 (upd H6 t (.tup [x])) := (D6.chg D5.at_).tk.trans (TK.new ht)
        exact kk _ (.ref t) [p] (D56.same (Same.new ht)) ⟨t, [x], rfl, upd_same, .cons (mono_pr _ _ _ _ tk7 hp2) .nil⟩ ⟨by simp, fun q hq => by rw [List.mem_singleton.mp hq]; exact pok p (List.mem_of_getElem? hp1), List.pairwise_singleton _ _⟩ (by show 1 ≤ 8; decide)
      · rw [decide_eq_false (fun z => hne (List.map_eq_nil_iff.mp z))]
        refine iteT ?_
        refine ⟨_, rfl, D, vs, rfl, .inl ⟨SqL.of (s4 _ _ hv), fun t ht => ?_⟩⟩
        have s5 : Same H3 (upd (upd H3 e0 (.lst [])) t (.tup vs)) := Same.upd' s4 (s4.free ht) _
        exact kk _ (.ref t) fs (D3.same s5) ⟨t, vs, rfl, upd_same, pmono hpv fun _ _ q => mono_pr _ _ _ _ (TK.same s5) q⟩ ⟨hne, fok, fasc⟩ (by omega)
end
end WF
end

section
set_option Elab.async false
set_option linter.all false
set_option maxRecDepth 100000
set_option maxHeartbeats 4000000
/-! Whichfirm: the law's own machine, 3. -/
namespace WF
open PySem PySem.Spec PyProof.Rows L2 SlX RZ
theorem small_of {w : Nat} {sh : Shf} (S : ShOk w sh) {p : Pr} (h : PrOk sh p) : smallP p := by
  obtain ⟨h0, ed, he, h1, h2⟩ := h
  have hi := S.hi
  have := (List.getElem?_eq_some_iff.mp he).1
  have E := S.ed ed (List.mem_of_getElem? he)
  have e3 := E.hi
  exact ⟨h0, by omega, h1, by omega⟩
section
variable {P : Program} {w : World} {K : PySem.W.Frag} {mg : Str → Option Value} {base : Heap}
/-! ### _law_safe -/
def spLSafe (C : Addr) : Sp := fun vs H Q _ => ∃ (a : Addr) (w : Nat) (sh : Shf) (v : V) (d : List Pr), vs = [.ref a, v] ∧ ShfAt C H a w sh ∧ DbAt H v d ∧ (∀ p ∈ d, PrOk sh p) ∧ d.length ≤ 8 ∧ ∀ H' l cs, Same H H' → H l = none → IntsAt H' l cs → cs.length ≤ 3 → (∀ c, c ∈ cs ↔ 0 ≤ c ∧ c < w ∧ safe sh d c = true) → Q (.ref l) H'
theorem scLSafe : FnScope ["_law_shelf_here", "_law_doubt_here", "_law_found", "_law_command", "_law_pair"] ["_law_shelf_here", "_law_doubt_here"] (defScope s_L_safe) := ⟨rfl, rfl, rfl, by decide +kernel, rfl, by decide +kernel, by decide +kernel⟩
theorem ok_lsafe (T : Top P K mg) : FnOk P w K mg base CX0 8 T.d_L_safe.f T.d_L_safe.fd ["_law_shelf_here", "_law_doubt_here"] (spLSafe T.cSh) := by
  refine T.d_L_safe.F.ok scLSafe (fun vs H Q E h => ?_) (fun cdv A outer s H vs Q E hr h => ?_)
  · obtain ⟨a, w, sh, v, d, rfl, _⟩ := h
    rfl
  · obtain ⟨a, w, sh, v, d, rfl, hs, hd, ho, h8, k⟩ := h
    have hr6 : Room 6 _ := hr.mono (by decide)
    refine ⟨_, pss_cons (ps_set (i := 2) scLSafe.nd rfl (Or.inl rfl) (pe_lst pa_nil))
      (pss_cons (ps_for PassesOwn.never rfl (pi_range1 (by rfl) T.b_range (pa_cons (pcall T.d_L_width (ok_width T) hr6 (by rfl) (pa_cons (pv 0) pa_nil)) pa_nil)) (pg_name (i := 3) scLSafe.nd rfl (Or.inr rfl))
        (pss_one (ps_if (pt_val (pe_callB (cr_all rfl) (by rfl) T.b_all bo_all (pa_cons (pe_lc (own := [("_law_pair", 4)]) (g := gName 4) (tt := tYes) rfl scLSafe.nd (pi_tup (pv 1)) (blkOk_by (N := ["_law_shelf_here", "_law_doubt_here", "_law_found", "_law_command", "_law_pair"]) (sc := defScope s_L_safe) (by decide +kernel))
            (fun _ _ _ _ _ => pg_name (i := 4) scLSafe.nd rfl (Or.inl rfl)) (fun _ _ _ _ _ => pts_nil)
            (fun _ _ _ _ _ => pe_cmpR op_notN (pcall T.d_L_at (ok_at T) hr6 (by rfl) (pa_cons (pv 0) (pa_cons (pv 4) (pa_cons (pv 3) pa_nil)))) pe_non (nomark _))) pa_nil)))
          (pss_one (ps_expr (pe_bm PySem.F.plainAttrs_list PySem.F.slot_list_append PySem.F.type_list_append mt_append (pv 2) (pa_cons (pv 3) pa_nil)))) pss_nil)))
      (pss_one (ps_ret (pv 2)))), ?_⟩
    obtain ⟨b, xs, rfl, hb, hp⟩ := id hd
    have hl := Paired.length hp
    have w3 := hs.1.w3
    refine ⟨(by show 0 ≤ sizeLine; exact Nat.zero_le _), fun f hf => ?_⟩
    have s1 : Same H (upd H f (.lst [])) := Same.new hf
    refine ⟨_, rfl, a, w, sh, rfl, hs.keep (.same s1), (w : Int), rfl, by omega, by omega, ?_⟩
    have hw : ((w : Int)).toNat = w := by omega
    refine for_range (fun i σ H' => ∃ (o : Option V) (cs : List Int), σ = [some (.ref a), some (.ref b), some (.ref f), o, none] ∧ Same H H' ∧ IntsAt H' f cs ∧ cs.length ≤ i ∧ ∀ c, c ∈ cs ↔ 0 ≤ c ∧ c < (i : Int) ∧ safe sh d c = true) ⟨none, [], rfl, s1, upd_same, Nat.le_refl _, fun c => ⟨fun z => absurd z (by simp), fun z => by omega⟩⟩ ?_ ?_
    · rintro i σ H' hi ⟨o, cs, rfl, sm, hfi, hcl, hcs⟩
      rw [hw] at hi
      refine ⟨_, rfl, b, rfl, ⟨_, SqT.of (sm _ _ hb)⟩, fun D hD => ?_⟩
      have hD0 : H D = none := sm.free hD
      have fD : f ≠ D := ne_of_none hfi hD
      refine lcm_tup (R := BlAt) (ys := d.map fun p => (ent sh p (i : Int)).isSome) (Z := fun H2 => Same H H2 ∧ H2 f = some (.lst (cs.map V.int))) mono_bl hD ⟨Same.upd' sm hD0 _, by rw [upd_ne fD]; exact hfi⟩ (fun H2 l2 o2 z e => ⟨Same.upd' z.1 hD0 _, by rw [upd_ne fD]; exact z.2⟩) (fun H2 z => SqT.of (z.1 b _ hb)) (by simp [hl]) (by omega) (fun x => rfl) ?_ ?_
      · rintro j x y H2 hj hy z Q2 kq
        obtain ⟨p, he1, he2⟩ := pget' hp hj
        have hyt : y = (ent sh p (i : Int)).isSome := by
          rw [List.getElem?_map, he1] at hy
          exact (Option.some.inj hy).symm
        subst hyt
        refine ⟨_, rfl, _, rfl, _, rfl, a, w, sh, x, p, (i : Int), ?_, hs.keep (Chg.same z.1), mono_pr _ _ _ _ (TK.same z.1) he2, ho p (List.mem_of_getElem? he1), by omega, by omega, fun r hr => ⟨rfl, ?_⟩⟩
        · show [V.ref a, x, V.int (0 + (i : Int))] = [V.ref a, x, V.int (i : Int)]
          rw [Int.zero_add]
        · refine kq _ H2 z (TK.refl _) rfl ?_
          show V.bl (!decide (r = .non)) = V.bl (ent sh p (i : Int)).isSome
          cases e : ent sh p (i : Int) with
          | none =>
            rw [e] at hr
            rw [show r = .non from hr]
            rfl
          | some q =>
            rw [e] at hr
            obtain ⟨aq, rfl, _⟩ := hr
            rfl
      · rintro H2 vs z hv hpv
        rw [bl_map hpv] at hv
        refine ⟨D, _, rfl, SqL.of hv, _, rfl, ?_⟩
        rw [List.all_map]
        show if safe sh d (i : Int) = true then _ else _
        refine ite2 (fun hsf => ?_) (fun hsf => ?_)
        · refine ⟨_, rfl, .inl ⟨rfl, _, SqL.of z.2⟩, _, rfl, f, _, _, rfl, rfl, z.2, small1000 (by rw [List.length_map]; omega), ?_⟩
          refine ⟨_, cs ++ [(i : Int)], rfl, Same.upd' z.1 hf _, ?_, by rw [List.length_append, List.length_singleton]; omega, fun c => ?_⟩
          · show upd H2 f _ f = _
            rw [upd_same, List.map_append]
            show some (HO.lst (cs.map V.int ++ [V.int (0 + (i : Int))])) = some (HO.lst (cs.map V.int ++ [V.int (i : Int)]))
            rw [Int.zero_add]
          · rw [List.mem_append, List.mem_singleton, hcs]
            constructor
            · rintro (⟨q1, q2, q3⟩ | rfl)
              · exact ⟨q1, by omega, q3⟩
              · exact ⟨by omega, by omega, hsf⟩
            · rintro ⟨q1, q2, q3⟩
              by_cases e : c = (i : Int)
              · exact .inr e
              · exact .inl ⟨q1, by omega, q3⟩
        · refine ⟨_, cs, rfl, z.1, z.2, by omega, fun c => ?_⟩
          rw [hcs]
          constructor
          · rintro ⟨q1, q2, q3⟩
            exact ⟨q1, by omega, q3⟩
          · rintro ⟨q1, q2, q3⟩
            have : c ≠ (i : Int) := fun e => hsf (by rw [← e]; exact q3)
            exact ⟨q1, by omega, q3⟩
    · rintro σ H' ⟨o, cs, rfl, sm, hfi, hcl, hcs⟩
      rw [hw] at hcl hcs
      exact ⟨_, rfl, k H' f cs sm hf hfi (by omega) hcs⟩
end
end WF
end

section
set_option Elab.async false
set_option linter.all false
set_option maxRecDepth 100000
set_option maxHeartbeats 4000000
/-! Whichfirm: the law's own machine, 4. -/
namespace WF
open PySem PySem.Spec PyProof.Rows L2 SlX RZ
/-- a reply with the doubt after it -/
def RpAt (sh : Shf) (d : List Pr) (c : Int) : Rl Int := fun H v r => ∃ t x, v = .ref t ∧ H t = some (.tup [.int r, x]) ∧ DbAt H x (aft sh d c r)
theorem mono_rp {sh : Shf} {d : List Pr} {c : Int} : Mono (RpAt sh d c) := fun _ _ _ _ t ⟨a, x, e, h, q⟩ => ⟨a, x, e, t a _ h, mono_db _ _ _ _ t q⟩
section
variable {P : Program} {w : World} {K : PySem.W.Frag} {mg : Str → Option Value} {base : Heap}
def spLParts (C : Addr) : Sp := fun vs H Q _ => ∃ (a : Addr) (w : Nat) (sh : Shf) (v : V) (d : List Pr) (c : Int), vs = [.ref a, v, .int c] ∧ ShfAt C H a w sh ∧ DbAt H v d ∧ (∀ p ∈ d, PrOk sh p) ∧ d.length ≤ 8 ∧ 0 ≤ c ∧ c < w ∧ safe sh d c = true ∧ ∀ H' l rs, Same H H' → H l = none → LstAt (RpAt sh d c) H' l rs → rs.Nodup → rs.length ≤ 8 → (∀ r, r ∈ rs ↔ ∃ p ∈ d, ∃ n, ent sh p c = some (r, n)) → Q (.ref l) H'
theorem scLParts : FnScope ["_law_shelf_here", "_law_doubt_here", "_law_command", "_law_found", "_law_pair", "_law_reply", "_law_state"] ["_law_shelf_here", "_law_doubt_here", "_law_command"] (defScope s_L_parts) := ⟨rfl, rfl, rfl, by decide +kernel, rfl, by decide +kernel, by decide +kernel⟩
theorem ok_lparts (T : Top P K mg) : FnOk P w K mg base CX0 8 T.d_L_parts.f T.d_L_parts.fd ["_law_shelf_here", "_law_doubt_here", "_law_command"] (spLParts T.cSh) := by
  refine T.d_L_parts.F.ok scLParts (fun vs H Q E h => ?_) (fun cdv A outer s H vs Q E hr h => ?_)
  · obtain ⟨a, w, sh, v, p, c, rfl, _⟩ := h
    rfl
  · obtain ⟨a, w, sh, v, d, c, rfl, hs, hd, ho, h8, h0, hc, hsf, k⟩ := h
    have hr6 : Room 6 _ := hr.mono (by decide)
    have hu := hu_of hr
    have hu2 : (A.deeper (envOfC "_law_parts" (defScope s_L_parts) s.heap.objs.size T.d_L_parts.f cdv)).in1.in1.units < cLine := by
      have := hr.un
      show (A.deeper (envOfC "_law_parts" (defScope s_L_parts) s.heap.objs.size T.d_L_parts.f cdv)).units + 1 + 1 < cLine
      omega
    refine ⟨_, pss_cons (ps_set (i := 3) scLParts.nd rfl (Or.inr rfl) pe_dnewK)
      (pss_cons (ps_for PassesOwn.never rfl (pi_tup (pv 1)) (pg_name (i := 4) scLParts.nd rfl (Or.inl rfl))
        (pss_cons (ps_asg (pcall T.d_L_at (ok_at T) hr6 (by rfl) (pa_cons (pv 0) (pa_cons (pv 4) (pa_cons (pv 2) pa_nil)))) (pg_tupK (K := K) rfl rfl (pgs_cons (pg_name (i := 5) scLParts.nd rfl (Or.inl rfl)) (pgs_cons (pg_name (i := 6) scLParts.nd rfl (Or.inl rfl)) pgs_nil))))
        (pss_cons (ps_dput hu (pv 3) (pv 5) (pe_callTy (call_dictDT hu2) (by rfl) T.b_dict bo_dict (pa_cons (pe_dget2 hu (pv 3) (pv 5) pe_dnewT ⟨by rfl, by rfl, by rfl, by rfl⟩) pa_nil)) rfl)
        (pss_one (ps_dput hu (pe_dget hu (pv 3) (pv 5) (fun _ _ => rfl)) (pe_tup (pa_cons (pe_ix ix_tup (pv 4) pe_int (fun _ _ => rfl)) (pa_cons (pv 6) pa_nil))) pe_bl rfl)))))
      (pss_one (ps_ret (pe_lc (own := [("_law_reply", 5)]) (g := gName 5) (tt := tYes) rfl scLParts.nd (pi_list (pe_callB (call_sortedDI rfl) (by rfl) T.b_sorted bo_sorted (pa_cons (pv 3) pa_nil))) (blkOk_by (N := ["_law_shelf_here", "_law_doubt_here", "_law_command", "_law_found", "_law_pair", "_law_reply", "_law_state"]) (sc := defScope s_L_parts) (by decide +kernel))
          (fun _ _ _ _ _ => pg_name (i := 5) scLParts.nd rfl (Or.inl rfl)) (fun _ _ _ _ _ => pts_nil)
          (fun _ _ _ _ _ => pe_tup (pa_cons (pv 5) (pa_cons (pe_callTy (call_tuple_ofK (K := K) rfl) (by rfl) T.b_tuple bo_tuple (pa_cons (pe_callB (call_sortedDT rfl) (by rfl) T.b_sorted bo_sorted (pa_cons (pe_dget hu (pv 3) (pv 5) (fun _ _ => rfl)) pa_nil)) pa_nil)) pa_nil))))))), ?_⟩
    obtain ⟨b, xs, rfl, hb, hp⟩ := id hd
    have hl := Paired.length hp
    have S := hs.1
    intro f hf
    have s1 : Same H (upd H f (.dK [])) := Same.new hf
    refine ⟨_, rfl, b, rfl, ⟨_, SqT.of (s1 _ _ hb)⟩, for_tup (K := K) (a := b) (xs := xs)
      (fun i σ H2 => ∃ (o4 o5 o6 : Option V) (ks : List Int) (ad : Int → Addr), σ = [some (.ref a), some (.ref b), some (.int c), some (.ref f), o4, o5, o6] ∧ Same H H2 ∧ Grp H2 f sh c (d.take i) ks ad)
      ⟨none, none, none, [], fun _ => 0, rfl, s1, by rw [List.take_zero]; exact Grp.nil upd_same⟩ (fun i σ H2 _ ⟨_, _, _, _, _, _, sm, _⟩ => SqT.of (sm _ _ hb)) ?_ ?_⟩
    · rintro i x σ H2 hx ⟨o4, o5, o6, ks, ad, rfl, sm, g⟩
      obtain ⟨p, he1, he2⟩ := pget' hp hx
      have hpm := List.mem_of_getElem? he1
      obtain ⟨r, n, hrn⟩ := safe_some hsf hpm
      have e : d.take (i + 1) = d.take i ++ [p] := by rw [List.take_succ, he1]; rfl
      refine ⟨_, rfl, _, rfl, _, rfl, a, w, sh, x, p, c, rfl, hs.keep (Chg.same sm), mono_pr _ _ _ _ (TK.same sm) he2, ho p hpm, h0, hc, fun y hy => ?_⟩
      rw [hrn] at hy
      obtain ⟨pa, rfl, hpa⟩ := id he2
      obtain ⟨ya, rfl, hya⟩ := hy
      refine g_pair hya ?_
      refine ⟨_, rfl, f, rfl, .inl ⟨_, .inl g.fd⟩, _, rfl, fun e0 he0 => ⟨valV (kvOf ks ad) (Sum.inl r), DGet.k (k := Sum.inl r) (by rw [upd_ne (ne_of_none g.fd he0)]; exact g.fd), ?_⟩⟩
      have sb : ∀ q ∈ bag sh c r [] (d.take i), smallP q := fun q hq => by
        rcases (mem_bag sh c r q (d.take i) []).mp hq with z | ⟨p', hp', n', e', rfl⟩
        · cases z
        · exact small_of S (ent_ok S (ho p' (List.mem_of_mem_take hp')) h0 hc e').2.2
      have hsrc : ∃ z, (valV (kvOf ks ad) (Sum.inl r : Key)).getD (.ref e0) = .ref z ∧ upd H2 e0 (.dT []) z = some (.dT (dtOf (bag sh c r [] (d.take i)))) := by
        rw [valV_kvOf]
        by_cases m : r ∈ ks
        · rw [if_pos m]
          refine ⟨ad r, rfl, ?_⟩
          have := g.at_ r m
          rw [upd_ne (ne_of_none this he0)]
          exact this
        · rw [if_neg m]
          refine ⟨e0, rfl, ?_⟩
          rw [upd_same, bag_none (fun z => m ((g.mem r).mpr z))]
          rfl
      obtain ⟨z, hz1, hz2⟩ := hsrc
      rw [hz1]
      refine ⟨z, _, rfl, .inl hz2, sb, fun q hq => ?_⟩
      have sE : Same H2 (upd H2 e0 (.dT [])) := Same.new he0
      have sQ : Same H2 (upd (upd H2 e0 (.dT [])) q (.dT (dtOf (bag sh c r [] (d.take i))))) := Same.upd' sE (sE.free hq) _
      have qQ : upd (upd H2 e0 (.dT [])) q (.dT (dtOf (bag sh c r [] (d.take i)))) q = some (.dT (dtOf (bag sh c r [] (d.take i)))) := upd_same
      have hq2 : H2 q = none := sE.free hq
      revert sQ qQ
      generalize upd (upd H2 e0 (.dT [])) q (.dT (dtOf (bag sh c r [] (d.take i)))) = H3
      intro sQ qQ
      have g3 := g.same sQ
      have gl := g.len
      rw [List.length_take] at gl
      refine ⟨_, rfl, _, rfl, f, _, rfl, DPut.k (k := Sum.inl r) g3.fd (by rw [kvOf_len]; exact small1000 (by omega)), ?_⟩
      have qf : q ≠ f := fun z => by rw [z, g.fd] at hq2; cases hq2
      have f4 : upd H3 f (.dK (putK (kvOf ks ad) (Sum.inl r) (.ref q))) f = some (.dK (putK (kvOf ks ad) (Sum.inl r) (.ref q))) := upd_same
      have q4 : upd H3 f (.dK (putK (kvOf ks ad) (Sum.inl r) (.ref q))) q = some (.dT (dtOf (bag sh c r [] (d.take i)))) := by rw [upd_ne qf]; exact qQ
      have s4 : Same H (upd H3 f (.dK (putK (kvOf ks ad) (Sum.inl r) (.ref q)))) := Same.upd' (sm.trans sQ) hf _
      have k4 : ∀ r' ∈ ks, upd H3 f (.dK (putK (kvOf ks ad) (Sum.inl r) (.ref q))) (ad r') = H2 (ad r') := fun r' hr' => by
        have z1 := g.at_ r' hr'
        rw [upd_ne (ne_of z1 g.fd (fun z => nomatch z)), sQ _ _ z1, z1]
      revert f4 q4 s4 k4
      generalize upd H3 f (.dK (putK (kvOf ks ad) (Sum.inl r) (.ref q))) = H4
      intro f4 q4 s4 k4
      have hdg : DGet H4 f (.int r) (some (.ref q)) := by
        have := DGet.k (H := H4) (a := f) (k := Sum.inl r) f4
        rw [valV_put, if_pos rfl] at this
        exact this
      have hpa4 := s4 _ _ hpa
      refine ⟨_, rfl, _, rfl, f, .ref q, rfl, hdg, _, rfl, pa, _, _, _, rfl, rfl, SqT.of hpa4, rfl, _, rfl, (by show 2 ≤ sizeLine; decide), fun t ht => ?_⟩
      have nt : ∀ {b o}, H4 b = some o → b ≠ t := fun e => ne_of_none e ht
      have hput : DPut (upd H4 t (.tup [.int p.1, .int n])) q (.ref t) (.bl true) _ :=
        DPut.t (k := [Sum.inl p.1, Sum.inl n]) (kvs := dtOf (bag sh c r [] (d.take i))) (by rw [upd_ne (nt q4)]; exact q4) upd_same (by
          rw [dtOf_len]
          have := len_bag sh c r (d.take i) []
          rw [List.length_take, List.length_nil] at this
          exact small1000 (by omega))
      have hqH : H q = none := sm.free hq2
      refine ⟨q, _, rfl, hput, _, _, _, addR ks r, setA ad r q, rfl, Same.upd' (Same.upd' s4 (s4.free ht) _) hqH _, ?_⟩
      rw [e]
      refine g.put hrn ?_ ?_ ?_
      · rw [upd_ne (Ne.symm qf), upd_ne (nt f4)]
        exact f4
      · rw [upd_same]
        exact congrArg (fun l => some (HO.dT l)) (dtOf_put _ (p.1, n))
      · intro r' hr' hne
        have z1 := g.at_ r' hr'
        have nq : ad r' ≠ q := fun z => by rw [z, hq2] at z1; cases z1
        refine ⟨?_, nq⟩
        rw [upd_ne nq, upd_ne (nt (by rw [k4 r' hr']; exact z1)), k4 r' hr']
    · rintro σ H2 ⟨o4, o5, o6, ks, ad, rfl, sm, g⟩
      rw [List.take_of_length_le (by omega)] at g
      have hkl := g.len
      refine ⟨_, rfl, f, kvOf ks ad, ks, rfl, .inl g.fd, ?_, by omega, fun ys p0 hperm hasc hp0 => ?_⟩
      · unfold kvOf
        rw [List.map_map]
        rfl
      · have s2 : Same H2 (upd H2 p0 (.lst (ys.map V.int))) := Same.new hp0
        have e0 : upd H2 p0 (.lst (ys.map V.int)) p0 = some (.lst (ys.map V.int)) := upd_same
        revert s2 e0
        generalize upd H2 p0 (.lst (ys.map V.int)) = H3
        intro s2 e0
        have hyl : ys.length = ks.length := hperm.length_eq
        refine ⟨p0, rfl, ⟨_, SqL.of e0⟩, fun D hD => ?_⟩
        have hDH : H D = none := (sm.trans s2).free hD
        refine lcm_lst (K := K) (R := RpAt sh d c) (a := p0) (xs := ys.map V.int) (ys := ys) (Z := fun H4 => Same H3 H4 ∧ ∃ l, H4 D = some (.lst l)) mono_rp hD ⟨Same.new hD, _, upd_same⟩ (fun H4 l o z hz => ⟨Same.upd' z.1 hD _, _, upd_same⟩) (fun H4 z => SqL.of (z.1 _ _ e0)) (by rw [List.length_map]) (by rw [List.length_map]; omega) (fun x => rfl) ?_ ?_
        · rintro j x y H4 hx hy ⟨z1, l4, z2⟩ Q2 kq
          obtain ⟨r, hr1, rfl⟩ := int_at hx
          obtain rfl : y = r := Option.some.inj (hy.symm.trans hr1)
          have hrm : y ∈ ks := hperm.subset (List.mem_of_getElem? hr1)
          have s24 := s2.trans z1
          have hdg : DGet H4 f (.int y) (some (.ref (ad y))) := by
            have := DGet.k (H := H4) (a := f) (kvs := kvOf ks ad) (k := Sum.inl y) (s24 _ _ g.fd)
            rw [valV_kvOf, if_pos hrm] at this
            exact this
          refine ⟨_, rfl, _, rfl, _, rfl, f, .ref (ad y), rfl, hdg, ad y, bag sh c y [] d, rfl, .inl (s24 _ _ (g.at_ y hrm)), fun l1 bs hl1 hbs => ?_⟩
          refine ⟨l1, bs, rfl, .inl ⟨SqL.of upd_same, fun l2 hl2 => ⟨(by show 2 ≤ sizeLine; decide), fun t ht => ?_⟩⟩⟩
          have q1 : Same H4 (upd H4 l1 (.lst bs)) := Same.new hl1
          have q2 : Same H4 (upd (upd H4 l1 (.lst bs)) l2 (.tup bs)) := Same.upd' q1 (q1.free hl2) _
          have q3 : Same H4 (upd (upd (upd H4 l1 (.lst bs)) l2 (.tup bs)) t (.tup [.int y, .ref l2])) := Same.upd' q2 (q2.free ht) _
          have l2t : l2 ≠ t := fun z => by rw [← z, upd_same] at ht; cases ht
          refine kq (.ref t) _ ⟨z1.trans q3, l4, q3 _ _ z2⟩ (TK.same q3) ((q3 _ _ z2).trans z2.symm) ⟨t, .ref l2, rfl, upd_same, l2, bs, rfl, by rw [upd_ne l2t, upd_same], pmono hbs fun _ _ q => mono_pr _ _ _ _ (TK.same q3) q⟩
        · rintro H4 vs ⟨z1, _⟩ hv hpv
          exact k H4 D ys ((sm.trans s2).trans z1) hDH ⟨vs, hv, hpv⟩ (hperm.nodup_iff.mpr g.nd) (by omega) fun r => (hperm.mem_iff).trans (g.mem r)
end
end WF
end

section
set_option Elab.async false
set_option linter.all false
set_option maxRecDepth 100000
set_option maxHeartbeats 4000000
/-! Whichfirm: the law's own machine, 5: a step. -/
namespace WF
open PySem PySem.Spec PyProof.Rows L2 SlX RZ
theorem inV_int (c : Int) : ∀ cs : List Int, inV (.int c) (cs.map V.int) = decide (c ∈ cs)
  | [] => rfl
  | x :: cs => by
    unfold inV
    rw [List.map_cons, List.any_cons]
    have ih := inV_int c cs
    unfold inV at ih
    rw [ih]
    have e : eqV (.int x) (.int c) = decide (x = c) := by
      first
        | rfl
        | simp [eqV]
    rw [e]
    by_cases h : x = c
    · subst h
      simp
    · have h' : ¬ c = x := fun z => h z.symm
      simp [h, h']
theorem valV_merge_not {k : Key} : ∀ {more acc : List (Key × V)}, k ∉ more.map (·.1) → valV (mergeK acc more) k = valV acc k
  | [], _, _ => rfl
  | kv :: more, acc, h => by
    rw [List.map_cons, List.mem_cons, not_or] at h
    show valV (mergeK (putK acc kv.1 kv.2) more) k = _
    rw [valV_merge_not h.2, valV_put, if_neg h.1]
theorem valV_merge_nd {k : Key} {x : V} : ∀ {more acc : List (Key × V)}, (more.map (·.1)).Nodup → (k, x) ∈ more → valV (mergeK acc more) k = some x
  | kv :: more, acc, hn, h => by
    rw [List.map_cons, List.nodup_cons] at hn
    show valV (mergeK (putK acc kv.1 kv.2) more) k = _
    rcases List.mem_cons.mp h with h | h
    · subst h
      rw [valV_merge_not hn.1, valV_put, if_pos rfl]
    · exact valV_merge_nd hn.2 h
theorem rp_kvs {K : PySem.W.Frag} {H : Hp} {sh : Shf} {d : List Pr} {c : Int} : ∀ {vs : List V} {rs : List Int}, Paired (RpAt sh d c H) vs rs → ∃ (ps : List Addr) (kvs : List (Key × V)), vs = ps.map V.ref ∧ Paired (fun p kv => SqT K H p [kV kv.1, kv.2]) ps kvs ∧ kvs.map (·.1) = rs.map Sum.inl ∧ ∀ r ∈ rs, ∃ x, ((Sum.inl r : Key), x) ∈ kvs ∧ DbAt H x (aft sh d c r)
  | _, _, .nil => ⟨[], [], rfl, .nil, rfl, fun r hr => absurd hr (by simp)⟩
  | _, _, .cons (a := v) (b := r) h t => by
    obtain ⟨a, x, rfl, ha, hx⟩ := h
    obtain ⟨ps, kvs, rfl, hp, hk, hr⟩ := rp_kvs (K := K) t
    refine ⟨a :: ps, (Sum.inl r, x) :: kvs, rfl, .cons (SqT.of ha) hp, by rw [List.map_cons, List.map_cons, hk], fun r' hr' => ?_⟩
    rcases List.mem_cons.mp hr' with rfl | hr'
    · exact ⟨x, List.mem_cons_self, hx⟩
    · obtain ⟨y, h1, h2⟩ := hr r' hr'
      exact ⟨y, List.mem_cons_of_mem _ h1, h2⟩
/-- a step by any number -/
def stpW (w : Nat) (sh : Shf) (s : Stt) (c : Int) : Option (Int × Stt) := if 0 ≤ c ∧ c < w then stp sh s c else none
def StepAt (H : Hp) (t : Addr) (o : Option (Int × Stt)) : Prop := match o with
  | none => H t = some (.tup [.non, .non, .non])
  | some (r, st) => ∃ x y, H t = some (.tup [.int r, x, y]) ∧ DbAt H x st.1 ∧ PrAt H y st.2
section
variable {P : Program} {w : World} {K : PySem.W.Frag} {mg : Str → Option Value} {base : Heap}
def spStep (C : Addr) : Sp := fun vs H Q _ => ∃ (a : Addr) (w : Nat) (sh : Shf) (v u : V) (s : Stt) (c : Int), vs = [.ref a, v, u, .int c] ∧ ShfAt C H a w sh ∧ DbAt H v s.1 ∧ PrAt H u s.2 ∧ StOk8 sh s ∧ ∀ H' t, Same H H' → H t = none → StepAt H' t (stpW w sh s c) → Q (.ref t) H'
theorem scStep : FnScope ["_law_shelf_here", "_law_doubt_here", "_law_pair", "_law_command", "_law_reply", "_law_state"] ["_law_shelf_here", "_law_doubt_here", "_law_pair", "_law_command"] (defScope s_L_step) := ⟨rfl, rfl, rfl, by decide +kernel, rfl, by decide +kernel, by decide +kernel⟩
theorem ok_step (T : Top P K mg) : FnOk P w K mg base CX0 10 T.d_L_step.f T.d_L_step.fd ["_law_shelf_here", "_law_doubt_here", "_law_pair", "_law_command"] (spStep T.cSh) := by
  refine T.d_L_step.F.ok scStep (fun vs H Q E h => ?_) (fun cdv A outer s0 H vs Q E hr h => ?_)
  · obtain ⟨a, w, sh, v, u, s, c, rfl, _⟩ := h
    rfl
  · obtain ⟨a, w, sh, v, u, s, c, rfl, hs, hd, hp, O, k⟩ := h
    have hr6 : Room 6 _ := hr.mono (by decide)
    have hr8 : Room 8 _ := hr.mono (by decide)
    have hu := hu_of hr
    refine ⟨_, pss_cons (ps_if (pt_cmpR op_notIn_seq (pv 3) (pcall T.d_L_safe (ok_lsafe T) hr8 (by rfl) (pa_cons (pv 0) (pa_cons (pv 1) pa_nil))) rfl) (pss_one (ps_ret (pe_tup (pa_cons pe_non (pa_cons pe_non (pa_cons pe_non pa_nil)))))) pss_nil)
      (pss_cons (ps_asg (pcall T.d_L_at (ok_at T) hr6 (by rfl) (pa_cons (pv 0) (pa_cons (pv 2) (pa_cons (pv 3) pa_nil)))) (pg_tupK (K := K) rfl rfl (pgs_cons (pg_name (i := 4) scStep.nd rfl (Or.inl rfl)) (pgs_cons (pg_name (i := 5) scStep.nd rfl (Or.inl rfl)) pgs_nil))))
      (pss_one (ps_ret (pe_tup (pa_cons (pv 4) (pa_cons (pe_dget hu (pe_callTy (call_dictP rfl) (by rfl) T.b_dict bo_dict (pa_cons (pcall T.d_L_parts (ok_lparts T) hr8 (by rfl) (pa_cons (pv 0) (pa_cons (pv 1) (pa_cons (pv 3) pa_nil)))) pa_nil)) (pv 4) (fun _ _ => rfl)) (pa_cons (pe_tup (pa_cons (pe_ix ix_tup (pv 2) pe_int (fun _ _ => rfl)) (pa_cons (pv 5) pa_nil))) pa_nil))))))), ?_⟩
    have S := hs.1
    refine ⟨_, rfl, _, rfl, _, rfl, a, w, sh, v, s.1, rfl, hs, hd, O.1.1.pr, O.2, fun H1 l cs s1 hl hcs hcl hmem => ?_⟩
    refine ⟨l, _, rfl, .inl (SqL.of hcs), rfl, ?_, _, rfl, ?_⟩
    · rw [List.all_map]
      exact List.all_eq_true.mpr fun x _ => rfl
    · rw [if_pos rfl, inV_int]
      by_cases hc : c ∈ cs
      · obtain ⟨h0, hw, hsf⟩ := (hmem c).mp hc
        rw [decide_eq_true hc]
        refine iteF ?_
        obtain ⟨r, n, e1, e2, e3⟩ := stp8 S O h0 hw hsf
        have ew : stpW w sh s c = some (r, (aft sh s.1 c r, (s.2.1, n))) := by
          unfold stpW
          rw [if_pos ⟨h0, hw⟩, e2]
        have hd1 := mono_db _ _ _ _ (TK.same s1) hd
        have hp1 := mono_pr _ _ _ _ (TK.same s1) hp
        refine ⟨_, rfl, _, rfl, _, rfl, a, w, sh, u, s.2, c, rfl, hs.keep (.same s1), hp1, O.1.1.pr _ O.1.2, h0, hw, fun y hy => ?_⟩
        rw [e1] at hy
        obtain ⟨ya, rfl, hya⟩ := hy
        refine g_pair hya ?_
        refine ⟨_, rfl, _, rfl, _, rfl, _, rfl, a, w, sh, v, s.1, c, rfl, hs.keep (.same s1), hd1, O.1.1.pr, O.2, h0, hw, hsf, fun H2 l2 rs s2 hl2 ⟨vs2, hv2, hpv⟩ hrn hr8 hrm => ?_⟩
        obtain ⟨ps, kvs, rfl, hps, hks, hall⟩ := rp_kvs (K := K) hpv
        refine ⟨l2, ps, kvs, rfl, SqL.of hv2, hps, fun q hq => ?_⟩
        have hrin : r ∈ rs := (hrm r).mpr ⟨s.2, O.1.2, n, e1⟩
        obtain ⟨x, hx1, hx2⟩ := hall r hrin
        have s3 : Same H2 (upd H2 q (.dK (mergeK [] kvs))) := Same.new hq
        have hdg : DGet (upd H2 q (.dK (mergeK [] kvs))) q (.int r) (some x) := by
          have := DGet.k (H := upd H2 q (.dK (mergeK [] kvs))) (a := q) (k := Sum.inl r) upd_same
          rw [valV_merge_nd (x := x) (by
            rw [hks]
            exact List.Pairwise.map _ (fun a b hab z => hab (Sum.inl.inj z)) hrn) hx1] at this
          exact this
        obtain ⟨pa, rfl, hpa⟩ := id hp1
        have hpa3 := s3 _ _ (s2 _ _ hpa)
        refine ⟨_, rfl, q, x, rfl, hdg, _, rfl, pa, _, _, _, rfl, rfl, SqT.of hpa3, rfl, _, rfl, (by show 2 ≤ sizeLine; decide), fun t1 ht1 => ⟨(by show 3 ≤ sizeLine; decide), fun t2 ht2 => ?_⟩⟩
        have s4 : Same H2 (upd (upd H2 q (.dK (mergeK [] kvs))) t1 (.tup [.int s.2.1, .int n])) := Same.upd' s3 (s3.free ht1) _
        have s5 : Same H2 (upd (upd (upd H2 q (.dK (mergeK [] kvs))) t1 (.tup [.int s.2.1, .int n])) t2 (.tup [.int r, x, .ref t1])) := Same.upd' s4 (s4.free ht2) _
        have t12 : t1 ≠ t2 := fun z => by rw [← z, upd_same] at ht2; cases ht2
        refine k _ t2 ((s1.trans s2).trans s5) ((s1.trans s2).free (s4.free ht2)) ?_
        rw [ew]
        exact ⟨x, .ref t1, upd_same, mono_db _ _ _ _ (TK.same s5) hx2, t1, rfl, by rw [upd_ne t12, upd_same]⟩
      · rw [decide_eq_false hc]
        refine iteT ⟨(by show 3 ≤ sizeLine; decide), fun t ht => ?_⟩
        refine k _ t (Same.upd' s1 (s1.free ht) _) (s1.free ht) ?_
        have ew : stpW w sh s c = none := by
          unfold stpW
          by_cases hb : 0 ≤ c ∧ c < (w : Int)
          · rw [if_pos hb]
            refine stp_none (Bool.eq_false_iff.mpr fun z => hc ((hmem c).mpr ⟨hb.1, hb.2, z⟩))
          · rw [if_neg hb]
        rw [ew]
        exact upd_same
end
end WF
end

section
set_option Elab.async false
set_option linter.all false
set_option maxRecDepth 100000
set_option maxHeartbeats 4000000
/-! Whichfirm: the law's own machine, 6: give, empty, is_at. -/
namespace WF
open PySem PySem.Spec PyProof.Rows L2 SlX RZ
/-! ### a method called in a try: what it raises goes on -/
def tMethS (C : Addr) (m : Str) (sp : Sp) (E : L2.St → XK) (ta : TE) (t : TA) : TE := fun σ H Q => ta σ H fun x H1 => ∃ a dx fs, x = .ref a ∧ H1 a = some (.ins C dx fs) ∧ fs.lookup m = none ∧ t σ H1 fun vs H2 => sp (.ref a :: vs) H2 Q (E σ)
section
variable {X : Cx} {W : WX} {k : Nat} {f C : Addr} {fd : FuncData} {ps : List Str} {sp : Sp} {m : Str} {pos apos : Pos} {e o : Expr} {es : List Expr} {ta : TE} {t : TA}
theorem pe_methX {pl : Sem Bool} (he : PE X o ta) (c : Cls X.K C) (hm : Meth X.K C m f) (F : FnOk X.prog X.w X.K X.mg X.base (L2.CX X.prog X.w) k f fd ps sp) (hr : Room k X.A) (hb : Binds X.K fd ps []) (tk : Takes X W) (ha : PA X (e :: es) t)
    (hst : starEach (e :: es) X.env = (false, eval e X.env) :: starEach es X.env := by rfl) (hpl : (backTo pos (starEach es X.env)).any (·.1) = false := by rfl)
    (ht : eval (.Call (.Attribute o m apos) (e :: es) [] pos) X.env = (do
      let ov ← eval o X.env
      standAt apos.atName
      let (f, first) ← holding [ov] (getMethod ov m pl)
      callWith pos f first (backTo pos (starEach (e :: es) X.env)) (backToKw pos (keywordEach [] X.env))) := by rfl) :
    PE X (.Call (.Attribute o m apos) (e :: es) [] pos) (tMethS C m sp (WE W) ta t) := by
  refine ⟨fun pins s σ H Q I h => ?_⟩
  refine PySem.W.methodCall_KW (pl := pl) (thn (he.run pins s σ H _ I h) fun u s1 ⟨x, H1, I1, rx, a, dx, fs, ex, ea, l, q⟩ => ?_) ht
  subst ex
  obtain rfl : u = Value.ref a := rx
  refine getmeth_ok I1 ea c hm l ?_
  refine PySem.W.callWith_K (first := [.ref a]) (h₀ := X.base) I.ok.mod.kin hm.kp (thn (ha.run pos pins s1 σ H1 _ I1 q) fun us s2 ⟨vs, H2, I2, r, q2⟩ => ⟨I2.kIn, ?_⟩) hst hpl
  exact run_fnS (E := WE W) (us := .ref a :: us) (vs := .ref a :: vs) F hr hb (passAt tk σ) I2 (.cons rfl r) q2
theorem pe_methX0 {pl : Sem Bool} (he : PE X o ta) (c : Cls X.K C) (hm : Meth X.K C m f) (F : FnOk X.prog X.w X.K X.mg X.base (L2.CX X.prog X.w) k f fd ps sp) (hr : Room k X.A) (hb : Binds X.K fd ps []) (tk : Takes X W)
    (ht : eval (.Call (.Attribute o m apos) [] [] pos) X.env = (do
      let ov ← eval o X.env
      standAt apos.atName
      let (f, first) ← holding [ov] (getMethod ov m pl)
      callWith pos f first (backTo pos (starEach [] X.env)) (backToKw pos (keywordEach [] X.env))) := by rfl) :
    PE X (.Call (.Attribute o m apos) [] [] pos) (tMethS C m sp (WE W) ta tNil) := by
  refine ⟨fun pins s σ H Q I h => ?_⟩
  refine PySem.W.methodCall_KW (pl := pl) (thn (he.run pins s σ H _ I h) fun u s1 ⟨x, H1, I1, rx, a, dx, fs, ex, ea, l, q⟩ => ?_) ht
  subst ex
  obtain rfl : u = Value.ref a := rx
  refine getmeth_ok I1 ea c hm l ?_
  exact PySem.W.callWith_K0 (first := [.ref a]) I1.kIn hm.kp (run_fnS (E := WE W) (us := [.ref a]) (vs := [.ref a]) F hr hb (passAt tk σ) I1 (.cons rfl .nil) q)
end
theorem op_eqDK {X : Cx} {K : PySem.W.Frag} (h : X.K = K) (hu : X.A.units + 64 < cLine) : OpR X (compareOp .Eq) (rEqD K) := by
  subst h
  exact op_eqD hu
section
variable {P : Program} {w : World} {K : PySem.W.Frag} {mg : Str → Option Value} {base : Heap}
def spLGive (C Cs : Addr) : Sp := fun vs H Q _ => ∃ (a b nl pl : Addr) (w : Nat) (sh : Shf) (now : Stt) (notes : List Pr) (past : List Stt) (mark c : Int), vs = [.ref a, .int c] ∧ SesAt C Cs H a b nl pl w sh now notes past mark ∧ notes.length ≤ 900 ∧ past.length ≤ 900 ∧
  (∀ r st, stpW w sh now c = some (r, st) → ∀ H', But [a, nl, pl] H H' → SesAt C Cs H' a b nl pl w sh st (notes ++ [(c, r)]) (past ++ [now]) mark → Q (.int r) H') ∧
  (stpW w sh now c = none → ∀ H', Same H H' → Q .non H')
theorem scLGive : FnScope ["_law_session", "_law_command"] ["_law_session", "_law_command"] (defScope s_L_give) := ⟨rfl, rfl, rfl, by decide +kernel, rfl, by decide +kernel, by decide +kernel⟩
theorem ok_lgive (T : Top P K mg) : FnOk P w K mg base CX0 10 T.d_L_give.f T.d_L_give.fd ["_law_session", "_law_command"] (spLGive T.cSe T.cSh) := by
  refine T.d_L_give.F.ok scLGive (fun vs H Q E h => ?_) (fun cdv A outer s H vs Q E hr h => ?_)
  · obtain ⟨a, b, nl, pl, w, sh, now, notes, past, mark, c, rfl, _⟩ := h
    rfl
  · obtain ⟨a, b, nl, pl, w, sh, now, notes, past, mark, c, rfl, S, hn9, hp9, kok, kex⟩ := h
    have hr8 : Room 8 _ := hr.mono (by decide)
    refine ⟨_, pss_one (ps_try_only rfl rfl ⟨by rfl, by decide, .inl T.e_BadCommand.g⟩ takes0
      (fun W pn xe tk _ => pss_one (ps_ret (pe_methX (pv 0) T.seC T.se_give.m (ok_give T) hr8 T.se_give.b tk (pa_cons (pv 1) pa_nil))))
      (fun a oe cls d pn _ _ => pss_one (ps_ret pe_non))), ?_⟩
    obtain ⟨dx, v, h1, hv⟩ := id S.ob
    refine ⟨_, rfl, a, dx, _, rfl, h1, sF_no _ _ _ _ _ (by decide +kernel) (by decide +kernel) (by decide +kernel) (by decide +kernel) (by decide +kernel), _, rfl, a, b, nl, pl, w, sh, now, notes, past, mark, c, rfl, S, hn9, hp9, ?_, ?_⟩
    · intro hc r st hst H' bb S'
      refine kok r st ?_ H' bb S'
      unfold stpW
      rw [if_pos ⟨hc.1, hc.2.1⟩]
      exact hst
    · intro hc H' s'
      refine ⟨true, T.e_BadCommand.e, fun _ a ha => ?_, fun q => nomatch q⟩
      refine kex ?_ H' s'
      unfold stpW
      by_cases hb : 0 ≤ c ∧ c < (w : Int)
      · rw [if_pos hb]
        exact stp_none (Bool.eq_false_iff.mpr fun z => hc ⟨hb.1, hb.2, z⟩)
      · rw [if_neg hb]
def spLEmpty (C Cs : Addr) : Sp := fun vs H Q _ => ∃ (a b nl pl : Addr) (w : Nat) (sh : Shf) (now : Stt) (past : List Stt) (mark : Int), vs = [.ref a] ∧ SesAt C Cs H a b nl pl w sh now [] past mark ∧ 0 ≤ mark ∧ ∀ H', Same H H' → Q (.bl true) H'
theorem scLEmpty : FnScope ["_law_session"] ["_law_session"] (defScope s_L_empty) := ⟨rfl, rfl, rfl, by decide +kernel, rfl, by decide +kernel, by decide +kernel⟩
theorem ok_lempty (T : Top P K mg) : FnOk P w K mg base CX0 6 T.d_L_empty.f T.d_L_empty.fd ["_law_session"] (spLEmpty T.cSe T.cSh) := by
  refine T.d_L_empty.F.ok scLEmpty (fun vs H Q E h => ?_) (fun cdv A outer s H vs Q E hr h => ?_)
  · obtain ⟨a, b, nl, pl, w, sh, now, past, mark, rfl, _⟩ := h
    rfl
  · obtain ⟨a, b, nl, pl, w, sh, now, past, mark, rfl, S, hm, k⟩ := h
    have hr3 : Room 3 _ := hr.mono (by decide)
    have hr4 : Room 4 _ := hr.mono (by decide)
    have rh := L2H.roomH_of hr4
    have hu : (A.deeper (envOfC "_law_empty" (defScope s_L_empty) s.heap.objs.size T.d_L_empty.f cdv)).units + 64 < cLine := hr.units
    refine ⟨_, pss_cons (ps_try_only rfl rfl ⟨by rfl, by decide, .inl T.e_NothingDone.g⟩ takes0
      (fun W pn xe tk _ => pss_one (ps_expr (pe_methX0 (pv 0) T.seC T.se_undo.m (ok_undo T) hr3 T.se_undo.b tk)))
      (fun a oe cls d pn _ _ => pss_one (ps_ret (pe_cmpR (op_eqDK (K := K) rfl hu) (pe_propU (pv 0) T.seC T.se_journal.o (ok_journal T) ⟨rh.dp, rh.un⟩) (pe_lst pa_nil) (nomark _)))))
      (pss_one (ps_ret pe_bl)), ?_⟩
    obtain ⟨dx, v, h1, hv⟩ := id S.ob
    refine ⟨_, rfl, a, dx, _, rfl, h1, sF_no _ _ _ _ _ (by decide +kernel) (by decide +kernel) (by decide +kernel) (by decide +kernel) (by decide +kernel), a, b, nl, pl, w, sh, now, [], past, mark, rfl, S, .inl ⟨hm, ?_⟩⟩
    refine ⟨true, T.e_NothingDone.e, fun _ ea hea => ?_, fun q => nomatch q⟩
    refine ⟨_, rfl, a, dx, _, rfl, h1, a, dx, nl, _, [], rfl, h1, sF_notes .., S.nt, fun H' j s' hj L => ?_⟩
    refine ⟨Nat.zero_le _, fun e he => ?_⟩
    have s2 : Same H' (upd H' e (.lst [])) := Same.new he
    refine ⟨.list [], .list [], dp_lst rd_pr (L.keep mono_pr (.same s2) fun o z => s2 _ _ z), .lst (SqL.of upd_same) .nil, by decide, by decide, ?_⟩
    exact k _ (s'.trans s2)
end
end WF
end

section
set_option Elab.async false
set_option linter.all false
set_option maxRecDepth 100000
set_option maxHeartbeats 4000000
/-! Whichfirm: the law's own machine, 7: is_at. -/
namespace WF
open PySem PySem.Spec PyProof.Rows L2 SlX RZ
theorem told_hd {d : List Pr} {p q : Pr} {l : List Pr} (h : told d = true) (e : d = q :: l) (hp : p ∈ d) : p.1 = q.1 := by
  subst e
  unfold told at h
  exact of_decide_eq_true (List.all_eq_true.mp h p hp)
section
variable {P : Program} {w : World} {K : PySem.W.Frag} {mg : Str → Option Value} {base : Heap}
def spIsAt (C Cs : Addr) : Sp := fun vs H Q _ => ∃ (a b nl pl l : Addr) (v : V) (w : Nat) (sh : Shf) (now : Stt) (notes : List Pr) (past : List Stt) (mark : Int), vs = [.ref a, v, .ref l] ∧ SesAt C Cs H a b nl pl w sh now notes past mark ∧ DbAt H v now.1 ∧ LstAt PrAt H l notes ∧ notes.length ≤ 900 ∧ ∀ H', Same H H' → Q (.bl true) H'
theorem scIsAt : FnScope ["_law_session", "_law_doubt_here", "_law_notes", "_law_name"] ["_law_session", "_law_doubt_here", "_law_notes"] (defScope s_L_is_at) := ⟨rfl, rfl, rfl, by decide +kernel, rfl, by decide +kernel, by decide +kernel⟩
theorem ok_is_at (T : Top P K mg) : FnOk P w K mg base CX0 9 T.d_L_is_at.f T.d_L_is_at.fd ["_law_session", "_law_doubt_here", "_law_notes"] (spIsAt T.cSe T.cSh) := by
  refine T.d_L_is_at.F.ok scIsAt (fun vs H Q E h => ?_) (fun cdv A outer s H vs Q E hr h => ?_)
  · obtain ⟨a, b, nl, pl, l, v, w, sh, now, notes, past, mark, rfl, _⟩ := h
    rfl
  · obtain ⟨a, b, nl, pl, l, v, w, sh, now, notes, past, mark, rfl, S, hd, L, h9, k⟩ := h
    have hr3 : Room 3 _ := hr.mono (by decide)
    have hr4 : Room 4 _ := hr.mono (by decide)
    have hr6 : Room 6 _ := hr.mono (by decide)
    have hr7 : Room 7 _ := hr.mono (by decide)
    have rh := L2H.roomH_of hr4
    have hu : (A.deeper (envOfC "_law_is_at" (defScope s_L_is_at) s.heap.objs.size T.d_L_is_at.f cdv)).units + 64 < cLine := hr.units
    refine ⟨_, pss_cons (ps_if (pw_or (pt_cmpR (op_neD hu) (pe_propU (pv 0) T.seC T.se_doubt.o (ok_doubt T) rh) (pv 1) (nomark _))
          (pw_or (pt_cmpR (op_neD hu) (pe_propU (pv 0) T.seC T.se_journal.o (ok_journal T) rh) (pv 2) (nomark _))
          (pw_or1 (pt_cmpR op_ne (pe_callB (call_lenI T.se_len.m.at_ T.se_len.m.fn (rawR (ok_se_len T) T.se_len.b) hr4 pass0) (by rfl) T.b_len bo_len (pa_cons (pv 0) pa_nil)) (pe_callB call_len_seq (by rfl) T.b_len bo_len (pa_cons (pv 2) pa_nil)) (nomark _))))).pt
        (pss_one (ps_ret pe_bl)) pss_nil)
      (pss_cons (ps_set (i := 3) scIsAt.nd rfl (Or.inl rfl) (pe_ifExp (pt_val (pcall T.d_L_told (ok_ltold T) hr3 (by rfl) (pa_cons (pv 1) pa_nil))) (pe_ix ix_tup (pe_ix ix_tup (pv 1) pe_int (fun _ _ => rfl)) pe_int (fun _ _ => rfl)) pe_non))
      (pss_one (ps_ret (pe_and (pe_cmpR (op_eqD hu) (pe_meth0 (pv 0) T.seC T.se_told.m (ok_se_told T) hr6 T.se_told.b .nil pass0) (pv 3) (nomark _))
        (pe_one (pe_cmpR (op_eqD hu) (pe_callTy (call_listS T.se_iter.m.at_ T.se_iter.m.fn T.se_len.m.at_ T.se_len.m.fn (rawR (ok_se_iter T) T.se_iter.b) (rawR (ok_se_len T) T.se_len.b) hr7 pass0) (by rfl) T.b_list bo_list (pa_cons (pv 0) pa_nil)) (pv 2) (nomark _))))))), ?_⟩
    obtain ⟨dx, v0, h1, hv⟩ := id S.ob
    have no : ∀ m0 : Str, (¬ m0 = "base") → (¬ m0 = "now") → (¬ m0 = "notes") → (¬ m0 = "past") → (¬ m0 = "mark") → (sF b v0 nl pl mark).lookup m0 = none := fun _ a1 a2 a3 a4 a5 => sF_no _ _ _ _ _ a1 a2 a3 a4 a5
    obtain ⟨xs, hxs, hxp⟩ := id S.nt
    obtain ⟨ls, hls, hlp⟩ := id L
    have hxl := Paired.length hxp
    have hll := Paired.length hlp
    refine ⟨_, rfl, a, dx, _, rfl, h1, a, dx, _, v0, now, rfl, h1, sF_now .., hv, fun x hx => ⟨_, rfl, _, _, rd_db _ _ _ hx, rd_db _ _ _ hd, (shal_db _).shaped (by decide), (shal_db _).shaped (by decide), ?_⟩⟩
    rw [(shal_db now.1).refl]
    refine ⟨false, rfl, iteF ?_⟩
    refine ⟨_, rfl, a, dx, _, rfl, h1, a, dx, nl, _, notes, rfl, h1, sF_notes .., S.nt, fun H1 j s1 hj Lj => ?_⟩
    have L1 : LstAt PrAt H1 l notes := L.keep mono_pr (.same s1) fun o z => s1 _ _ z
    refine ⟨_, rfl, _, _, dp_lst rd_pr Lj, dp_lst rd_pr L1, (shal_notes _).shaped (by decide), (shal_notes _).shaped (by decide), ?_⟩
    rw [(shal_notes notes).refl]
    refine ⟨false, rfl, iteF ?_⟩
    refine ⟨_, rfl, a, dx, _, rfl, s1 _ _ h1, a, nl, xs, rfl, ⟨dx, _, s1 _ _ h1, sF_notes .., s1 _ _ hxs⟩, _, rfl, by omega, by omega, _, rfl, l, ls, rfl, .inl (SqL.of (s1 _ _ hls)), ⟨rfl, _, rfl, ?_⟩⟩
    rw [show xs.length = ls.length from hxl.trans hll.symm]
    refine ite2 (fun z => ?_) (fun _ => ?_)
    · simp at z
    have hne := S.ok.1.1.ne
    refine ⟨_, rfl, v, now.1, rfl, mono_db _ _ _ _ (.same s1) hd, hne, S.ok.2, fun H2 s2 => ⟨_, rfl, ?_⟩⟩
    have s12 := s1.trans s2
    have S2 := S.same s12
    have fin : ∀ (x : V) (d : PyData), (∀ Hz, Dp K Hz x d) → SeqAt.shaped d = true → PyData.eqv d d = true → (if told now.1 = true then V.int now.2.1 else .non) = x → ∀ σ : L2.St, σ = [some (.ref a), some v, some (.ref l), some x] →
        (tAndV (tOp (rEqD K) (tMeth T.cSe "told" (spSeTold T.cSe T.cSh) [] E0 (tVar 0) tNil) (tVar 3)) (tOp (rEqD K) (tCB (rListS T.cSe "notes") (tCons (tVar 0) tNil)) (tVar 2))) σ H2 Q := by
      rintro x d hx1 hx2 hx3 hx4 σ rfl
      refine ⟨_, rfl, a, dx, _, rfl, s12 _ _ h1, no _ (by decide +kernel) (by decide +kernel) (by decide +kernel) (by decide +kernel) (by decide +kernel), a, b, nl, pl, w, sh, now, notes, past, mark, rfl, S2, fun H3 s3 => ?_⟩
      rw [hx4]
      refine ⟨_, rfl, d, d, hx1 _, hx1 _, hx2, hx2, ?_⟩
      rw [hx3]
      refine ⟨true, rfl, iteT ?_⟩
      have s13 := s12.trans s3
      refine ⟨_, rfl, a, nl, xs, rfl, ⟨dx, _, s13 _ _ h1, sF_notes .., s13 _ _ hxs⟩, small1000 (by omega), by omega, fun q H4 hq s4 hq4 => ?_⟩
      have s14 := s13.trans s4
      refine ⟨_, rfl, _, _, dp_lst rd_pr ⟨xs, hq4, pmono hxp fun _ _ z => mono_pr _ _ _ _ (.same s14) z⟩, dp_lst rd_pr (L.keep mono_pr (.same s14) fun o z => s14 _ _ z), (shal_notes _).shaped (by decide), (shal_notes _).shaped (by decide), ?_⟩
      rw [(shal_notes notes).refl]
      exact k H4 s14
    by_cases c : told now.1 = true
    · rw [c]
      refine iteT ?_
      obtain ⟨ta, ys, rfl, hta, pys⟩ := mono_db _ _ _ _ (TK.same s12) hd
      obtain ⟨q, d', eq⟩ : ∃ q d', now.1 = q :: d' := by
        cases e : now.1 with
        | nil => exact absurd e hne
        | cons q d' => exact ⟨q, d', rfl⟩
      rw [eq] at pys
      cases pys with
      | @cons y _ ys' _ hy hys' =>
      obtain ⟨ya, rfl, hya⟩ := hy
      refine ⟨_, rfl, ta, _, _, _, rfl, rfl, SqT.of hta, atI_eq (by decide) rfl, ya, _, _, _, rfl, rfl, SqT.of hya, rfl, ?_⟩
      refine fin (.int q.1) (.int q.1) (fun _ => .int _) ((shal_int _).shaped (by decide)) (shal_int _).refl ?_ _ rfl
      rw [if_pos c, told_hd c eq S.ok.1.2]
    · rw [Bool.eq_false_iff.mpr c]
      refine iteF ?_
      refine fin .non .none (fun _ => .non) (shal_non.shaped (by decide)) shal_non.refl ?_ _ rfl
      rw [if_neg c]
end
end WF
end

section
set_option Elab.async false
set_option linter.all false
set_option maxRecDepth 100000
set_option maxHeartbeats 4000000
/-! Whichfirm: the law's own machine, 8: draws beside a session. -/
namespace WF
open PySem PySem.Spec PyProof.Rows L2 SlX RZ
/-- the draw list and the script lie apart from a session's lists -/
def Far (K : PySem.W.Frag) (d sc : Addr) (ns : List Int) (nl pl : Addr) : Prop := d ≠ nl ∧ d ≠ pl ∧ ((sc ≠ nl ∧ sc ≠ pl) ∨ ∀ H', SqL K H' sc (ns.map V.int))
theorem Far.new {K : PySem.W.Frag} {H : Hp} {d sc : Addr} {ns : List Int} {nl pl : Addr} (h : DrAt K H d sc ns) (n : H nl = none) (p : H pl = none) : Far K d sc ns nl pl := by
  refine ⟨h.ne_none n, h.ne_none p, ?_⟩
  obtain ⟨_, _, _, _, _, h4⟩ := h
  rcases h4 with ⟨u, g1, g2, g3⟩ | h4
  · exact .inl ⟨ne_of_none g1 n, ne_of_none g1 p⟩
  · exact .inr h4
theorem DrAt.far {K : PySem.W.Frag} {C Cs : Addr} {H H' : Hp} {d sc : Addr} {ns : List Int} {a b nl pl : Addr} {w : Nat} {sh : Shf} {now : Stt} {notes : List Pr} {past : List Stt} {mark : Int} (h : DrAt K H d sc ns) (S : SesAt C Cs H a b nl pl w sh now notes past mark) (F : Far K d sc ns nl pl) (c : But [a, nl, pl] H H') : DrAt K H' d sc ns := by
  obtain ⟨b0, c0, h1, h2, h3, h4⟩ := h
  obtain ⟨dx, v, s1, _⟩ := S.ob
  obtain ⟨f1, f2, f3⟩ := F
  have da : d ≠ a := ne_of h1 s1 (fun z => nomatch z)
  refine ⟨b0, c0, c _ _ h1 (by simp; exact ⟨da, f1, f2⟩), h2, h3, ?_⟩
  rcases h4 with ⟨u, g1, g2, g3⟩ | h4
  · rcases f3 with ⟨f3, f4⟩ | f3
    · have sa : sc ≠ a := by
        rcases g2 with rfl | ⟨o, rfl⟩
        · exact ne_of g1 s1 (fun z => nomatch z)
        · exact ne_of g1 s1 (fun z => nomatch z)
      exact .inl ⟨u, c _ _ g1 (by simp; exact ⟨sa, f3, f4⟩), g2, g3⟩
    · exact .inr f3
  · exact .inr h4
theorem SesAt.dr {K : PySem.W.Frag} {C Cs : Addr} {H H' : Hp} {d sc : Addr} {ns : List Int} {a b nl pl : Addr} {w : Nat} {sh : Shf} {now : Stt} {notes : List Pr} {past : List Stt} {mark : Int} (S : SesAt C Cs H a b nl pl w sh now notes past mark) (h : DrAt K H d sc ns) (D : Dr K H H' d sc ns) (F : Far K d sc ns nl pl) : SesAt C Cs H' a b nl pl w sh now notes past mark := by
  obtain ⟨dx, v, s1, _⟩ := S.ob
  obtain ⟨xs, s2, _⟩ := S.nt
  obtain ⟨ys, s3, _⟩ := S.ps
  obtain ⟨b0, c0, h1, _⟩ := id h
  exact S.keep (D.chg h) ((D.dr h s1 (ne_of s1 h1 (fun z => nomatch z))).trans s1.symm) ((D.dr h s2 (Ne.symm F.1)).trans s2.symm) ((D.dr h s3 (Ne.symm F.2.1)).trans s3.symm)
/-- a, b, c = a tuple -/
abbrev gTri (K : PySem.W.Frag) (i j k : Nat) : TG := gTup K 3 (gCons (gName i) (gCons (gName j) (gCons (gName k) gNil)))
theorem g_tri {K : PySem.W.Frag} {i j k : Nat} {T : Addr} {x y z : V} {σ : L2.St} {H : Hp} {Q : L2.St → Hp → Prop} (h : H T = some (.tup [x, y, z])) (q : Q (((σ.set i (some x)).set j (some y)).set k (some z)) H) : gTri K i j k (.ref T) σ H Q :=
  ⟨T, _, rfl, SqT.of h, rfl, x, _, rfl, y, _, rfl, z, _, rfl, rfl, q⟩
theorem stpW_in {w : Nat} {sh : Shf} {s : Stt} {c : Int} (h0 : 0 ≤ c) (h1 : c < w) : stpW w sh s c = stp sh s c := by
  unfold stpW
  rw [if_pos ⟨h0, h1⟩]
theorem stp_ok8 {w : Nat} {sh : Shf} (S : ShOk w sh) {s : Stt} (O : StOk8 sh s) {c r : Int} {st : Stt} (h : stpW w sh s c = some (r, st)) : StOk8 sh st := by
  unfold stpW at h
  split at h
  · rename_i hc
    cases hs : safe sh s.1 c with
    | false => rw [stp_none hs] at h; cases h
    | true =>
      obtain ⟨r', n, _, e, o⟩ := stp8 S O hc.1 hc.2 hs
      rw [e] at h
      cases h
      exact o
  · cases h
section
variable {P : Program} {w : World} {K : PySem.W.Frag} {mg : Str → Option Value} {base : Heap}
def spTR (K : PySem.W.Frag) (C Cs : Addr) : Sp := fun vs H Q _ => ∃ (d sc b a nl pl : Addr) (ns : List Int) (u : V) (w : Nat) (sh : Shf) (now : Stt) (notes : List Pr) (past : List Stt) (mark : Int), vs = [.ref d, .ref b, .ref a, u] ∧ DrAt K H d sc ns ∧ SesAt C Cs H a b nl pl w sh now notes past mark ∧ PrAt H u now.2 ∧
  notes.length ≤ 100 ∧ past.length ≤ 100 ∧ Far K d sc ns nl pl ∧ ∀ H' n2 p2, But [d, a, nl, pl] H H' → DrAt K H' d sc ns → H n2 = none → H p2 = none → SesAt C Cs H' a b n2 p2 w sh now notes past mark → Q (.bl true) H'
def wrV : Option Nat → V
  | none => .non
  | some k => .int (k : Nat)
theorem scTR : FnScope ["_law_draw_here", "_law_shelf_here", "_law_session", "_law_pair", "_law_doubt_here", "_law_notes", "_law_rows", "_law_want", "_law_wrong", "_law_here", "_law_at_here", "_law_command", "_law_reply", "_law_late", "_law_other", "_law_found", "error", "_law_turn"] ["_law_draw_here", "_law_shelf_here", "_law_session", "_law_pair"] (defScope s_L_tried_right) := ⟨rfl, rfl, rfl, by decide +kernel, rfl, by decide +kernel, by decide +kernel⟩
theorem ok_tr (T : Top P K mg) : FnOk P w K mg base CX0 14 T.d_L_tried_right.f T.d_L_tried_right.fd ["_law_draw_here", "_law_shelf_here", "_law_session", "_law_pair"] (spTR K T.cSe T.cSh) := by
  refine T.d_L_tried_right.F.ok scTR (fun vs H Q E h => ?_) (fun cdv A outer s H vs Q E hr h => ?_)
  · obtain ⟨d, sc, b, a, nl, pl, ns, u, w, sh, now, notes, past, mark, rfl, _⟩ := h
    rfl
  · obtain ⟨d, sc, b, a, nl, pl, ns, u, w, sh, now, notes, past, mark, rfl, hd, S, hu2, hn1, hp1, F, k⟩ := h
    have hr4 : Room 4 _ := hr.mono (by decide)
    have hr6 : Room 6 _ := hr.mono (by decide)
    have hr7 : Room 7 _ := hr.mono (by decide)
    have hr9 : Room 9 _ := hr.mono (by decide)
    have hr10 : Room 10 _ := hr.mono (by decide)
    have hr12 : Room 12 _ := hr.mono (by decide)
    have rh := L2H.roomH_of hr4
    have hu : (A.deeper (envOfC "_law_tried_right" (defScope s_L_tried_right) s.heap.objs.size T.d_L_tried_right.f cdv)).units + 64 < cLine := hr.units
    refine ⟨_, pss_cons (ps_par (i := 4) (j := 5) rfl scTR.nd rfl rfl (by decide) rfl rfl (pa_cons (pe_propU (pv 2) T.seC T.se_doubt.o (ok_doubt T) rh) (pa_cons (pe_propU (pv 2) T.seC T.se_journal.o (ok_journal T) rh) pa_nil)) (by rfl))
      (pss_cons (ps_setLc (i := 6) (own := [("_law_turn", 17)]) (g := gName 17) (tt := tYes) rfl scTR.nd rfl rfl (sw_true rfl rfl rfl (by decide +kernel)) (pi_range1 (by rfl) T.b_range (pa_cons (pcall T.d_L_next (ok_next T) hr7 (by rfl) (pa_cons (pv 0) (pa_cons pe_int pa_nil))) pa_nil)) (blkOk_by (N := ["_law_draw_here", "_law_shelf_here", "_law_session", "_law_pair", "_law_doubt_here", "_law_notes", "_law_rows", "_law_want", "_law_wrong", "_law_here", "_law_at_here", "_law_command", "_law_reply", "_law_late", "_law_other", "_law_found", "error", "_law_turn"]) (sc := defScope s_L_tried_right) (by decide +kernel))
          (fun _ _ _ _ _ => pg_name (i := 17) scTR.nd rfl (Or.inl rfl)) (fun _ _ _ _ _ => pts_nil) (fun _ _ _ _ _ => pcall T.d_L_next (ok_next T) hr7 (by rfl) (pa_cons (pv 0) (pa_cons (pcall T.d_L_width (ok_width T) hr6 (by rfl) (pa_cons (pv 1) pa_nil)) pa_nil))))
      (pss_cons (ps_par3 (i := 7) (j := 8) (l := 9) rfl scTR.nd rfl rfl rfl (by decide) (by decide) (by decide) rfl rfl rfl (pa_cons (pe_lst pa_nil) (pa_cons pe_non (pa_cons (pe_tup (pa_cons (pv 4) (pa_cons (pv 3) pa_nil))) pa_nil))) (by rfl))
      (pss_cons (ps_for PassesOwn.never rfl (pi_enum (by rfl) T.b_enumerate (pa_cons (pv 6) pa_nil)) (pg_tupK (K := K) rfl rfl (pgs_cons (pg_name (i := 10) scTR.nd rfl (Or.inl rfl)) (pgs_cons (pg_name (i := 11) scTR.nd rfl (Or.inl rfl)) pgs_nil)))
        (pss_cons (ps_asg (pcall T.d_L_step (ok_step T) hr10 (by rfl) (pa_cons (pv 1) (pa_cons (pe_ix ix_tup (pv 9) pe_int (fun _ _ => rfl)) (pa_cons (pe_ix ix_tup (pv 9) pe_int (fun _ _ => rfl)) (pa_cons (pv 11) pa_nil))))) (pg_tupK (K := K) rfl rfl (pgs_cons (pg_name (i := 12) scTR.nd rfl (Or.inl rfl)) (pgs_cons (pg_name (i := 13) scTR.nd rfl (Or.inl rfl)) (pgs_cons (pg_name (i := 14) scTR.nd rfl (Or.inl rfl)) pgs_nil)))))
        (pss_cons (ps_if (pw_and (pt_cmpR op_isN (pv 8) pe_non (nomark _)) (pw_and1 (pt_cmpR op_isN (pv 12) pe_non (nomark _)))).pt (pss_one (ps_set (i := 8) scTR.nd rfl (Or.inl rfl) (pv 10))) pss_nil)
        (pss_one (ps_if (pt_cmpR op_isN (pv 8) pe_non (nomark _)) (pss_one (ps_par (i := 7) (j := 9) rfl scTR.nd rfl rfl (by decide) rfl rfl (pa_cons (pe_op op_cat (pv 7) (pe_lst (pa_cons (pv 12) pa_nil))) (pa_cons (pe_tup (pa_cons (pv 13) (pa_cons (pv 14) pa_nil))) pa_nil)) (by rfl))) pss_nil)))))
      (pss_mid (ps_try_as (i := 16) rfl rfl scTR.nd rfl rfl ⟨by rfl, by decide, .inl T.g_br⟩ takes0
        (fun W pn xe tk _ => pss_one (ps_set (i := 15) scTR.nd rfl (Or.inl rfl) (pe_methX (pv 2) T.seC T.se_tried.m (ok_tried T) hr12 T.se_tried.b tk (pa_cons (pe_ifExp (pt_cmpR op_eq (pcall T.d_L_next (ok_next T) hr7 (by rfl) (pa_cons (pv 0) (pa_cons pe_int pa_nil))) pe_int (nomark _)) (pv 6) (pe_callTy (call_tuple_ofK (K := K) rfl) (by rfl) T.b_tuple bo_tuple (pa_cons (pv 6) pa_nil))) pa_nil))))
        (fun a oe cls d pn hz hf => pss_one (ps_set (i := 15) scTR.nd rfl (Or.inl rfl) (pe_xf T.brX T.brN hz hf (pv 16)))))
      (pss_one (ps_ret (pe_and (pe_cmpR (op_eqD hu) (pv 15) (pe_ifExp (pt_cmpR op_isN (pv 8) pe_non (nomark _)) (pv 7) (pv 8)) rfl)
        (pe_one (pcall T.d_L_is_at (ok_is_at T) hr9 (by rfl) (pa_cons (pv 2) (pa_cons (pv 4) (pa_cons (pv 5) pa_nil)))))))))))), ?_⟩
    obtain ⟨dx, v0, h1, hv⟩ := id S.ob
    obtain ⟨xs, hxs, hxp⟩ := id S.nt
    obtain ⟨ys, hys, hyp⟩ := id S.ps
    obtain ⟨b0, c0, hd0, _⟩ := id hd
    have da : d ≠ a := ne_of hd0 h1 (fun z => nomatch z)
    have hS := S.sf.1
    refine ⟨_, rfl, a, dx, _, rfl, h1, a, dx, _, v0, now, rfl, h1, sF_now .., hv, fun x hx => ⟨_, rfl, a, dx, _, rfl, h1, a, dx, nl, _, notes, rfl, h1, sF_notes .., S.nt, fun H1 j s1 hj Lj => ⟨_, _, rfl, ?_⟩⟩⟩
    have hd1 := hd.same s1
    have jd : j ≠ d := Ne.symm (hd.ne_none hj)
    refine ⟨_, rfl, d, sc, ns, 9, rfl, hd1, by decide, fun H2 m D2 m0 m1 => ⟨m, rfl, by omega, by omega, fun D hD => ?_⟩⟩
    have hD1 : H1 D = none := D2.free hd1 hD
    have hDH : H D = none := s1.free hD1
    refine lc_range (fun i H3 => Dr K H1 H3 d sc ns ∧ ∃ cs, IntsAt H3 D cs ∧ cs.length = i ∧ ∀ c ∈ cs, 0 ≤ c ∧ c < (w : Int)) ⟨D2.same (Same.new hD), [], upd_same, rfl, fun c hc => by cases hc⟩ ?_ ?_
    · rintro i H3 hi ⟨D3, cs, hcs, hcl, hok⟩
      have S3 := (S.same s1).dr hd1 D3 F
      refine ⟨rfl, yes_do ?_⟩
      rw [if_pos rfl]
      refine ⟨_, rfl, _, rfl, b, w, sh, rfl, S3.sf, d, sc, ns, (w : Int), rfl, D3.at_, by have := hS.w1; omega, fun H4 r D4 r0 r1 => ?_⟩
      have Dd : D ≠ d := Ne.symm (hd1.ne_none hD1)
      have hcs4 := D4.dr D3.at_ hcs Dd
      refine ⟨_, hcs4, small1000 (by rw [List.length_map]; omega), Dr.put hd1 (D3.trans D4) hD1, cs ++ [r], ?_, by rw [List.length_append, hcl]; rfl, fun c hc => ?_⟩
      · show upd H4 D _ D = some (.lst ((cs ++ [r]).map V.int))
        rw [upd_same, List.map_append]
        rfl
      · rcases List.mem_append.mp hc with hc | hc
        · exact hok c hc
        · rw [List.mem_singleton.mp hc]
          exact ⟨r0, r1⟩
    · rintro H4 ⟨D4, cs, hcs, hcl, hok⟩
      have S4 := (S.same s1).dr hd1 D4 F
      have hcl8 : cs.length ≤ 8 := by omega
      have tk4 := (D4.chg hd1).tk
      have hj4 : LstAt PrAt H4 j notes := Lj.keep mono_pr tk4 fun o z => D4.dr hd1 z jd
      have hx4 := mono_db _ _ _ _ ((TK.same s1).trans tk4) hx
      have hu4 := mono_pr _ _ _ _ ((TK.same s1).trans tk4) hu2
      have hd4 := D4.at_
      refine ⟨Nat.zero_le _, fun wl0 hwl0 => ⟨_, rfl, _, rfl, (by show 2 ≤ sizeLine; decide), fun hr0 hhr0 => ⟨_, _, _, rfl, ?_⟩⟩⟩
      have s5 : Same H4 (upd H4 wl0 (.lst [])) := Same.new hwl0
      have s6 : Same H4 (upd (upd H4 wl0 (.lst [])) hr0 (.tup [x, u])) := Same.upd' s5 (s5.free hhr0) _
      have wr0 : wl0 ≠ hr0 := fun z => by rw [← z, upd_same] at hhr0; cases hhr0
      refine ⟨_, rfl, D, cs.map V.int, rfl, SqL.of (s6 _ _ hcs), for_enumL (K := K) (a := D) (xs := cs.map V.int) (fun i σ H' => ∃ (o10 o11 o12 o13 o14 : Option V) (wl hr : Addr) (rs : List Int) (ow : Option Nat) (st : Stt) (x' y' : V),
          σ = [some (.ref d), some (.ref b), some (.ref a), some u, some x, some (.ref j), some (.ref D), some (.ref wl), some (wrV ow), some (.ref hr), o10, o11, o12, o13, o14, none, none, none] ∧ run sh now (cs.take i) = (rs, ow, st) ∧ Same H4 H' ∧ H4 wl = none ∧ IntsAt H' wl rs ∧ rs.length ≤ i ∧
          H' hr = some (.tup [x', y']) ∧ DbAt H' x' st.1 ∧ PrAt H' y' st.2 ∧ StOk8 sh st)
        ⟨none, none, none, none, none, wl0, hr0, [], none, now, x, u, rfl, by rw [List.take_zero]; rfl, s6, hwl0, by show upd _ hr0 _ wl0 = some (.lst []); rw [upd_ne wr0, upd_same], Nat.le_refl _, upd_same, mono_db _ _ _ _ (TK.same s6) hx4, mono_pr _ _ _ _ (TK.same s6) hu4, S.ok⟩
        (fun i σ H' _ ⟨_, _, _, _, _, _, _, _, _, _, _, _, _, _, z, _⟩ => SqL.of (z _ _ hcs)) ?_ ?_⟩
      · rintro i y0 σ H' T' hy0 ⟨o10, o11, o12, o13, o14, wl, hr1, rs, ow, st, x', y', rfl, hrun, sm, hwl, hrs, hrl, ht, hx', hy', O8⟩ hT'
        obtain ⟨c, hc1, rfl⟩ := int_at hy0
        obtain ⟨hc0, hcw⟩ := hok c (List.mem_of_getElem? hc1)
        have hil : i < cs.length := (List.getElem?_eq_some_iff.mp hc1).1
        refine g_pair upd_same ?_
        have sT' : Same H' (upd H' T' (.tup [.int (i : Nat), .int c])) := Same.new hT'
        have tkx : run sh now (cs.take (i + 1)) = runS sh (rs, ow, st) i c := by rw [run_take sh now hc1, hrun]
        refine ⟨_, rfl, _, rfl, hr1, _, _, x', rfl, rfl, SqT.of (sT' _ _ ht), rfl, _, rfl, hr1, _, _, y', rfl, rfl, SqT.of (sT' _ _ ht), rfl, _, rfl, b, w, sh, x', y', st, c, rfl, (S4.same (sm.trans sT')).sf, mono_db _ _ _ _ (TK.same sT') hx', mono_pr _ _ _ _ (TK.same sT') hy', O8, fun H6 t6 s6 ht6 hst => ?_⟩
        rw [stpW_in hc0 hcw] at hst
        have s46 : Same H4 H6 := sm.trans (sT'.trans s6)
        have s'6 : Same H' H6 := sT'.trans s6
        have ht6' := s'6 _ _ ht
        have hrs6 := s'6 _ _ hrs
        have hx6 := mono_db _ _ _ _ (TK.same s'6) hx'
        have hy6 := mono_pr _ _ _ _ (TK.same s'6) hy'
        cases ow with
        | some q =>
          obtain ⟨y1, y2, y3, hst3⟩ : ∃ y1 y2 y3, H6 t6 = some (.tup [y1, y2, y3]) := by
            cases e : stp sh st c with
            | none => rw [e] at hst; exact ⟨_, _, _, hst⟩
            | some z => rw [e] at hst; obtain ⟨q1, q2, q3, _⟩ := hst; exact ⟨_, _, _, q3⟩
          refine g_tri hst3 ?_
          refine ⟨_, rfl, rfl, _, rfl, iteF ?_⟩
          refine ⟨_, rfl, rfl, _, rfl, iteF ?_⟩
          exact ⟨_, _, _, _, _, wl, hr1, rs, some q, st, x', y', rfl, by rw [tkx]; rfl, s46, hwl, hrs6, by omega, ht6', hx6, hy6, O8⟩
        | none =>
          cases e : stp sh st c with
          | none =>
            rw [e] at hst
            refine g_tri hst ?_
            refine ⟨_, rfl, rfl, _, rfl, iteT ⟨_, rfl, rfl, _, rfl, iteT ⟨_, rfl, ?_⟩⟩⟩
            refine ⟨_, rfl, rfl, _, rfl, iteF ?_⟩
            refine ⟨_, _, _, _, _, wl, hr1, rs, some i, st, x', y', rfl, ?_, s46, hwl, hrs6, by omega, ht6', hx6, hy6, O8⟩
            rw [tkx]
            unfold runS
            rw [e]
          | some z =>
            obtain ⟨r, st'⟩ := z
            rw [e] at hst
            obtain ⟨x2, y2, hst, hx2, hy2⟩ := hst
            have O9 : StOk8 sh st' := stp_ok8 hS O8 (c := c) (r := r) (by rw [stpW_in hc0 hcw]; exact e)
            refine g_tri hst ?_
            refine ⟨_, rfl, rfl, _, rfl, iteT ⟨_, rfl, rfl, _, rfl, iteF ?_⟩⟩
            refine ⟨_, rfl, rfl, _, rfl, iteT ?_⟩
            refine ⟨_, rfl, _, rfl, (by show 1 ≤ sizeLine; decide), fun l1 hl1 => ?_⟩
            have s7 : Same H6 (upd H6 l1 (.lst [.int r])) := Same.new hl1
            refine ⟨wl, l1, _, _, rfl, rfl, s7 _ _ hrs6, upd_same, (by rw [List.length_map]; show rs.length + 1 ≤ sizeLine; exact Nat.le_of_lt (small1000 (by omega))), fun l2 hl2 => ?_⟩
            have s8 : Same H6 (upd (upd H6 l1 (.lst [.int r])) l2 (.lst (rs.map V.int ++ [.int r]))) := Same.upd' s7 (s7.free hl2) _
            refine ⟨_, rfl, _, rfl, (by show 2 ≤ sizeLine; decide), fun t9 ht9 => ?_⟩
            have s9 : Same H6 (upd (upd (upd H6 l1 (.lst [.int r])) l2 (.lst (rs.map V.int ++ [.int r]))) t9 (.tup [x2, y2])) := Same.upd' s8 (s8.free ht9) _
            have l29 : l2 ≠ t9 := fun z => by rw [← z, upd_same] at ht9; cases ht9
            refine ⟨_, _, rfl, _, _, _, _, _, l2, t9, rs ++ [r], none, st', x2, y2, rfl, ?_, s46.trans s9, s46.free (s7.free hl2), ?_, ?_, upd_same, mono_db _ _ _ _ (TK.same s9) hx2, mono_pr _ _ _ _ (TK.same s9) hy2, O9⟩
            · rw [tkx]
              unfold runS
              rw [e]
            · show upd (upd (upd H6 l1 _) l2 _) t9 _ l2 = some (.lst ((rs ++ [r]).map V.int))
              rw [upd_ne l29, upd_same, List.map_append]
              rfl
            · rw [List.length_append, List.length_singleton]
              omega
      · rintro σ H' ⟨o10, o11, o12, o13, o14, wl, hr1, rs, ow, st, x', y', rfl, hrun, sm, hwl, hrs, hrl, ht, hx', hy', O8⟩
        rw [List.length_map, List.take_of_length_le (Nat.le_refl _)] at hrun
        have S' := S4.same sm
        have hd' := hd4.same sm
        have hcsH := sm _ _ hcs
        have hj' : LstAt PrAt H' j notes := hj4.keep mono_pr (TK.same sm) fun o z => sm _ _ z
        have hx9 := mono_db _ _ _ _ (TK.same sm) hx4
        have sD : Dr K H H' d sc ns := ((Dr.of hd s1).trans D4).same sm
        have neH : ∀ {p q : Addr} {o : HO}, H p = none → H q = some o → p ≠ q := fun hp hq z => by
          rw [z, hq] at hp
          cases hp
        have outs : ∀ {p : Addr}, H p = none → p ∉ [d, a, nl, pl] := fun hp => by
          simp
          exact ⟨Ne.symm (hd.ne_none hp), neH hp h1, neH hp hxs, neH hp hys⟩
        have hwlH : H wl = none := s1.free (D4.free hd1 hwl)
        have s14 : Dr K H1 H4 d sc ns := D4
        have hjH : H j = none := hj
        have goQ : ∀ (H7 : Hp), Dr K H' H7 d sc ns → ∀ (l : Addr) (H8 : Hp), Same H7 H8 → (H8 l = some (.lst (cs.map V.int)) ∨ H8 l = some (.tup (cs.map V.int))) → l ≠ nl → l ≠ pl → ∀ (Qx : VK) (Ex : XK),
            (∀ H9 v n2 p2, ((ow = none ∧ ∃ f, v = .ref f ∧ IntsAt H9 f rs)) → But [d, a, nl, pl] H' H9 → DrAt K H9 d sc ns → H n2 = none → H p2 = none → SesAt T.cSe T.cSh H9 a b n2 p2 w sh now notes past mark → Qx v H9) →
            (∀ H9 q e n2 p2, ow = some q → H9 e = some (.xd [("index", .int (q : Nat))]) → But [d, a, nl, pl] H' H9 → DrAt K H9 d sc ns → H n2 = none → H p2 = none → SesAt T.cSe T.cSh H9 a b n2 p2 w sh now notes past mark → Ex (.ref T.cBR) (some e) H9) →
            spTried T.cSe T.cSh T.cBR [.ref a, .ref l] H8 Qx Ex := by
          intro H7 D7 l H8 s8 hl ln lp Qx Ex kq ke
          have S8 := (S'.dr hd' D7 F).same s8
          have D8 := D7.same s8
          have fr8 : ∀ {p : Addr}, H8 p = none → H p = none := fun hp => sD.free hd (D8.free hd' hp)
          have bb : ∀ {H9 : Hp}, But [a, nl, pl] H8 H9 → But [d, a, nl, pl] H' H9 := fun b9 => (D8.but.mono (by simp)).trans (b9.mono (by simp))
          refine ⟨a, b, nl, pl, l, w, sh, now, notes, past, mark, cs, rfl, S8, by omega, by omega, hl, ln, lp, hcl8, hok, ?_, ?_⟩
          · intro hrn H9 f n2 p2 b9 hf hn hp hints S9
            rw [hrun] at hrn hints
            exact kq H9 (.ref f) n2 p2 ⟨hrn, f, rfl, hints⟩ (bb b9) (D8.at_.far S8 F b9) (fr8 hn) (fr8 hp) S9
          · intro q hrq H9 e n2 p2 b9 hn hp he S9
            rw [hrun] at hrq
            exact ke H9 q e n2 p2 hrq he (bb b9) (D8.at_.far S8 F b9) (fr8 hn) (fr8 hp) S9
        refine ⟨fun σ9 H9 => ∃ (o10 o11 o12 o13 o14 : Option V) (v : V) (n2 p2 : Addr), σ9 = [some (.ref d), some (.ref b), some (.ref a), some u, some x, some (.ref j), some (.ref D), some (.ref wl), some (wrV ow), some (.ref hr1), o10, o11, o12, o13, o14, some v, none, none] ∧
          ((ow = none ∧ ∃ f, v = .ref f ∧ IntsAt H9 f rs) ∨ (∃ q : Nat, ow = some q ∧ v = .int q)) ∧ But [d, a, nl, pl] H' H9 ∧ DrAt K H9 d sc ns ∧ H n2 = none ∧ H p2 = none ∧ SesAt T.cSe T.cSh H9 a b n2 p2 w sh now notes past mark, ?_, ?_⟩
        · have h1' : ∃ dx v, H' a = some (.ins T.cSe dx (sF b v nl pl mark)) := by
            obtain ⟨dz, vz, z, _⟩ := S'.ob
            exact ⟨dz, vz, z⟩
          obtain ⟨dz, vz, hz⟩ := h1'
          refine ⟨_, rfl, a, dz, _, rfl, hz, sF_no _ _ _ _ _ (by decide +kernel) (by decide +kernel) (by decide +kernel) (by decide +kernel) (by decide +kernel), ?_⟩
          refine ⟨_, rfl, d, sc, ns, 2, rfl, hd', by decide, fun H7 m7 D7 _ _ => ⟨rfl, _, rfl, ite2 (fun _ => ?_) (fun _ => ?_)⟩⟩
          · have hc7 : H7 D = some (.lst (cs.map V.int)) := D7.dr hd' hcsH (Ne.symm (hd.ne_none hDH))
            refine ⟨_, rfl, ?_⟩
            unfold tNil
            refine goQ H7 D7 D H7 (Same.refl _) (.inl hc7) (neH hDH hxs) (neH hDH hys) _ _ ?_ ?_
            · intro H9 v n2 p2 hv bb hdd hn hp S9
              exact ⟨_, _, _, _, _, v, n2, p2, rfl, .inl hv, bb, hdd, hn, hp, S9⟩
            · intro H9 q e n2 p2 hq he bb hdd hn hp S9
              refine ⟨true, T.brE, fun _ ea hea => ?_, fun q => nomatch q⟩
              exact ⟨_, rfl, rfl, rfl, e, _, _, rfl, he, rfl, _, _, _, _, _, _, n2, p2, rfl, .inr ⟨q, hq, rfl⟩, bb, hdd, hn, hp, S9⟩
          · have hc7 : H7 D = some (.lst (cs.map V.int)) := D7.dr hd' hcsH (Ne.symm (hd.ne_none hDH))
            refine ⟨_, rfl, D, _, rfl, .inl ⟨SqL.of hc7, fun tp htp => ?_⟩⟩
            have htpH : H tp = none := sD.free hd (D7.free hd' htp)
            unfold tNil
            refine goQ H7 D7 tp _ (Same.new htp) (.inr upd_same) (neH htpH hxs) (neH htpH hys) _ _ ?_ ?_
            · intro H9 v n2 p2 hv bb hdd hn hp S9
              exact ⟨_, _, _, _, _, v, n2, p2, rfl, .inl hv, bb, hdd, hn, hp, S9⟩
            · intro H9 q e n2 p2 hq he bb hdd hn hp S9
              refine ⟨true, T.brE, fun _ ea hea => ?_, fun q => nomatch q⟩
              exact ⟨_, rfl, rfl, rfl, e, _, _, rfl, he, rfl, _, _, _, _, _, _, n2, p2, rfl, .inr ⟨q, hq, rfl⟩, bb, hdd, hn, hp, S9⟩
        · rintro σ9 H9 ⟨p10, p11, p12, p13, p14, v, n2, p2, rfl, hv, bb, hdd, hn, hp, S9⟩
          have hwl9 : IntsAt H9 wl rs := bb _ _ hrs (outs hwlH)
          have c9 : Chg H' H9 := bb.chg fun z hz => by
            rcases List.mem_cons.mp hz with rfl | hz
            · exact hd'.mu _ (by simp)
            · exact S'.mu z hz
          have tail : ∀ (Qx : VK), (∀ H10, Same H9 H10 → Qx (.bl true) H10) → spIsAt T.cSe T.cSh [.ref a, x, .ref j] H9 Qx E0 := fun Qx kq =>
            ⟨a, b, n2, p2, j, x, w, sh, now, notes, past, mark, rfl, S9, mono_db _ _ _ _ c9.tk hx9, hj'.keep mono_pr c9.tk fun o z => bb _ _ z (outs hjH), by omega, kq⟩
          have last : ∀ H10, Same H9 H10 → Q (.bl true) H10 := fun H10 s10 => by
            refine k H10 n2 p2 (((sD.but.mono (by simp)).trans bb).trans (But.of s10)) (hdd.same s10) hn hp (S9.same s10)
          rcases hv with ⟨rfl, f, rfl, hf⟩ | ⟨q, rfl, rfl⟩
          · refine ⟨_, rfl, _, rfl, rfl, _, rfl, iteT ⟨_, rfl, _, _, dp_ints hf, dp_ints hwl9, (shal_ints _).shaped (by decide), (shal_ints _).shaped (by decide), ?_⟩⟩
            rw [(shal_ints rs).refl]
            refine ⟨true, rfl, iteT ⟨_, rfl, _, rfl, _, rfl, tail _ last⟩⟩
          · refine ⟨_, rfl, _, rfl, rfl, _, rfl, iteF ⟨_, rfl, _, _, .int (q : Nat), .int (q : Nat), (shal_int _).shaped (by decide), (shal_int _).shaped (by decide), ?_⟩⟩
            rw [(shal_int (q : Nat)).refl]
            refine ⟨true, rfl, iteT ⟨_, rfl, _, rfl, _, rfl, tail _ last⟩⟩
end
end WF
end

section
set_option Elab.async false
set_option linter.all false
set_option maxRecDepth 100000
set_option maxHeartbeats 4000000
/-! Whichfirm: the law's own machine, 9: a whole session. -/
namespace WF
open PySem PySem.Spec PyProof.Rows L2 SlX RZ
theorem atI_last {α : Type} (l : List α) (x : α) : atI (l ++ [x]) (-1) = some x := by
  unfold atI ixN
  rw [if_neg (by decide), List.length_append, List.length_singleton, if_pos (by omega)]
  show (l ++ [x])[((-1 : Int) + ((l.length + 1 : Nat) : Int)).toNat]? = some x
  rw [show ((-1 : Int) + ((l.length + 1 : Nat) : Int)).toNat = l.length by omega, List.getElem?_append_right (Nat.le_refl _), Nat.sub_self]
  rfl
theorem rgV_at {a b : Int} {i : Nat} {x : V} (h : (rgV a b)[i]? = some x) : i < (b - a).toNat ∧ x = .int (a + (i : Nat)) := by
  have hl := (List.getElem?_eq_some_iff.mp h).1
  rw [rgV_length] at hl
  unfold rgV at h
  rw [List.getElem?_map, List.getElem?_range hl] at h
  exact ⟨hl, (Option.some.inj h).symm⟩
theorem rev_at {n k : Nat} {x : V} (h : ((rgV 0 (n : Int)).reverse)[k]? = some x) : k < n ∧ x = .int ((n - 1 - k : Nat) : Int) := by
  have hl := (List.getElem?_eq_some_iff.mp h).1
  rw [List.length_reverse, rgV_length] at hl
  rw [List.getElem?_reverse (by rw [rgV_length]; exact hl), rgV_length] at h
  obtain ⟨h1, h2⟩ := rgV_at h
  refine ⟨by omega, ?_⟩
  rw [h2, show ((n : Int) - 0).toNat = n by omega, Int.zero_add]
theorem cut_take {xs : List V} {i : Nat} (h : i ≤ xs.length) : cutV xs none (some (i : Int)) = xs.take i := by
  unfold cutV
  rw [HT.sIx_none, HT.sIx_nat, Nat.min_eq_left h, List.drop_zero, Nat.sub_zero]
theorem pick_int {w : Nat} {i : Nat} {x : V} (h : ((List.replicate (2 : Int).toNat (rgV 0 (w : Int))).flatten ++ [V.int 3])[i]? = some x) : ∃ c : Int, x = .int c := by
  rcases List.mem_append.mp (List.mem_of_getElem? h) with h | h
  · obtain ⟨l, hl, hx⟩ := List.mem_flatten.mp h
    rw [(List.mem_replicate.mp hl).2] at hx
    obtain ⟨k, hk⟩ := List.mem_iff_getElem?.mp hx
    exact ⟨_, (rgV_at hk).2⟩
  · exact ⟨3, List.mem_singleton.mp h⟩
/-- a game under way -/
structure Play (K : PySem.W.Frag) (C Cs : Addr) (H : Hp) (d sc a b nl pl n2 rl : Addr) (ns : List Int) (w : Nat) (sh : Shf) (now : Stt) (notes : List Pr) (past : List Stt) : Prop where
  dr : DrAt K H d sc ns
  se : SesAt C Cs H a b nl pl w sh now notes past 0
  fa : Far K d sc ns nl pl
  nt : LstAt PrAt H n2 notes
  rw_ : LstAt StAt H rl (past ++ [now])
  ln : past.length = notes.length
  ok : ∀ st ∈ past, StOk8 sh st
  on : n2 ∉ [d, a, nl, pl]
  or_ : rl ∉ [d, a, nl, pl]
section
variable {K : PySem.W.Frag} {C Cs : Addr} {H H' : Hp} {d sc a b nl pl n2 rl : Addr} {ns : List Int} {w : Nat} {sh : Shf} {now : Stt} {notes : List Pr} {past : List Stt}
theorem Play.mu (h : Play K C Cs H d sc a b nl pl n2 rl ns w sh now notes past) : ∀ x ∈ [d, a, nl, pl], ∃ o, H x = some o ∧ isMu o = true := fun x hx => by
  rcases List.mem_cons.mp hx with rfl | hx
  · exact h.dr.mu _ (by simp)
  · exact h.se.mu x hx
theorem Play.out (h : Play K C Cs H d sc a b nl pl n2 rl ns w sh now notes past) {x : Addr} (hx : H x = none) : x ∉ [d, a, nl, pl] := fun z => by
  obtain ⟨o, e, _⟩ := h.mu x z
  rw [hx] at e
  cases e
theorem Play.draw (h : Play K C Cs H d sc a b nl pl n2 rl ns w sh now notes past) (D : Dr K H H' d sc ns) : Play K C Cs H' d sc a b nl pl n2 rl ns w sh now notes past := by
  have c := D.chg h.dr
  have o1 := h.on
  have o2 := h.or_
  simp at o1 o2
  exact ⟨D.at_, h.se.dr h.dr D h.fa, h.fa, h.nt.keep mono_pr c.tk fun o z => D.dr h.dr z o1.1, h.rw_.keep mono_st c.tk fun o z => D.dr h.dr z o2.1, h.ln, h.ok, h.on, h.or_⟩
theorem Play.same (h : Play K C Cs H d sc a b nl pl n2 rl ns w sh now notes past) (s : Same H H') : Play K C Cs H' d sc a b nl pl n2 rl ns w sh now notes past := h.draw (Dr.of h.dr s)
theorem Play.last (h : Play K C Cs H d sc a b nl pl n2 rl ns w sh now notes past) : ∃ vs t x u, H rl = some (.lst vs) ∧ atI vs (-1) = some (.ref t) ∧ H t = some (.tup [x, u]) ∧ DbAt H x now.1 ∧ PrAt H u now.2 := by
  obtain ⟨vs, h1, h2⟩ := h.rw_
  obtain ⟨y, h3, t, x, u, rfl, h4, h5, h6⟩ := pat h2 (atI_last past now)
  exact ⟨vs, t, x, u, h1, h3, h4, h5, h6⟩
end
section
variable {P : Program} {w : World} {K : PySem.W.Frag} {mg : Str → Option Value} {base : Heap}
def spSR (K : PySem.W.Frag) (Cs : Addr) : Sp := fun vs H Q _ => ∃ (d sc b : Addr) (ns : List Int) (v : V) (w : Nat) (sh : Shf) (db : List Pr), vs = [.ref d, .ref b, v] ∧ DrAt K H d sc ns ∧ ShfAt Cs H b w sh ∧ DbAt H v db ∧ DbOk sh db ∧ db.length ≤ 8 ∧ ∀ H', DrAt K H' d sc ns → Q (.bl true) H'
theorem scSR : FnScope ["_law_draw_here", "_law_shelf_here", "_law_doubt_here", "_law_pair", "_law_session", "_law_notes", "_law_rows", "_law_turn", "_law_command", "_law_reply", "_law_late", "_law_other", "_law_branch", "_law_many", "_law_at_here"] ["_law_draw_here", "_law_shelf_here", "_law_doubt_here"] (defScope s_L_session_right) := ⟨rfl, rfl, rfl, by decide +kernel, rfl, by decide +kernel, by decide +kernel⟩
theorem ok_sr (T : Top P K mg) : FnOk P w K mg base CX0 19 T.d_L_session_right.f T.d_L_session_right.fd ["_law_draw_here", "_law_shelf_here", "_law_doubt_here"] (spSR K T.cSh) := by
  refine T.d_L_session_right.F.ok scSR (fun vs H Q E h => ?_) (fun cdv A outer s H vs Q E hr h => ?_)
  · obtain ⟨d, sc, b, ns, v, w, sh, db, rfl, _⟩ := h
    rfl
  · obtain ⟨d, sc, b, ns, v, w, sh, db, rfl, hd, hs, hv, hdb, h8, k⟩ := h
    have hr3 : Room 3 _ := hr.mono (by decide)
    have hr4 : Room 4 _ := hr.mono (by decide)
    have hr6 : Room 6 _ := hr.mono (by decide)
    have hr7 : Room 7 _ := hr.mono (by decide)
    have hr9 : Room 9 _ := hr.mono (by decide)
    have hr10 : Room 10 _ := hr.mono (by decide)
    have hr14 : Room 14 _ := hr.mono (by decide)
    have hr15 : Room 15 _ := hr.mono (by decide)
    have hr17 : Room 17 _ := hr.mono (by decide)
    have hu : (A.deeper (envOfC "_law_session_right" (defScope s_L_session_right) s.heap.objs.size T.d_L_session_right.f cdv)).units + 64 < cLine := hr.units
    refine ⟨_, pss_cons (ps_set (i := 3) scSR.nd rfl (Or.inl rfl) (pcall T.d_L_pick (ok_pick T) hr9 (by rfl) (pa_cons (pv 0) (pa_cons (pv 2) pa_nil))))
      (pss_cons (ps_par3 (i := 4) (j := 5) (l := 6) rfl scSR.nd rfl rfl rfl (by decide) (by decide) (by decide) rfl rfl rfl (pa_cons (pe_make T.seM (ok_se_init T) hr15 (by rfl) T.g_se T.se_init.b .nil pass0 (pa_cons (pv 1) (pa_cons (pv 2) (pa_cons (pv 3) pa_nil)))) (pa_cons (pe_lst pa_nil) (pa_cons (pe_lst (pa_cons (pe_tup (pa_cons (pv 2) (pa_cons (pv 3) pa_nil))) pa_nil)) pa_nil))) (by rfl))
      (pss_cons (ps_for PassesOwn.never rfl (pi_range1 (by rfl) T.b_range (pa_cons (pe_op op_add pe_int (pcall T.d_L_next (ok_next T) hr7 (by rfl) (pa_cons (pv 0) (pa_cons pe_int pa_nil)))) pa_nil)) (pg_name (i := 7) scSR.nd rfl (Or.inl rfl))
        (pss_cons (ps_if (pt_not (pt_val (pcall T.d_L_is_at (ok_is_at T) hr9 (by rfl) (pa_cons (pv 4) (pa_cons (pe_ix ix_tup (pe_ix ix_list (pv 6) (pe_un un_neg pe_int) (fun _ _ => rfl)) pe_int (fun _ _ => rfl)) (pa_cons (pv 5) pa_nil)))))) (pss_one (ps_ret pe_bl)) pss_nil)
        (pss_cons (ps_set (i := 8) scSR.nd rfl (Or.inl rfl) (pcall T.d_L_pick (ok_pick T) hr9 (by rfl) (pa_cons (pv 0) (pa_cons (pe_op op_cat (pe_op op_rep (pe_listRg rfl (by rfl) T.b_list (prg_1 (by rfl) T.b_range (pcall T.d_L_width (ok_width T) hr6 (by rfl) (pa_cons (pv 1) pa_nil)))) pe_int) (pe_lst (pa_cons pe_int pa_nil))) pa_nil))))
        (pss_cons (ps_asg (pcall T.d_L_step (ok_step T) hr10 (by rfl) (pa_cons (pv 1) (pa_cons (pe_ix ix_tup (pe_ix ix_list (pv 6) (pe_un un_neg pe_int) (fun _ _ => rfl)) pe_int (fun _ _ => rfl)) (pa_cons (pe_ix ix_tup (pe_ix ix_list (pv 6) (pe_un un_neg pe_int) (fun _ _ => rfl)) pe_int (fun _ _ => rfl)) (pa_cons (pv 8) pa_nil))))) (pg_tupK (K := K) rfl rfl (pgs_cons (pg_name (i := 9) scSR.nd rfl (Or.inl rfl)) (pgs_cons (pg_name (i := 10) scSR.nd rfl (Or.inl rfl)) (pgs_cons (pg_name (i := 11) scSR.nd rfl (Or.inl rfl)) pgs_nil)))))
        (pss_cons (ps_if (pt_cmpR op_ne (pcall T.d_L_give (ok_lgive T) hr10 (by rfl) (pa_cons (pv 4) (pa_cons (pv 8) pa_nil))) (pv 9) (nomark _)) (pss_one (ps_ret pe_bl)) pss_nil)
        (pss_one (ps_if (pt_cmpR op_notN (pv 9) pe_non (nomark _)) (pss_one (ps_par (i := 5) (j := 6) rfl scSR.nd rfl rfl (by decide) rfl rfl (pa_cons (pe_op op_cat (pv 5) (pe_lst (pa_cons (pe_tup (pa_cons (pv 8) (pa_cons (pv 9) pa_nil))) pa_nil))) (pa_cons (pe_op op_cat (pv 6) (pe_lst (pa_cons (pe_tup (pa_cons (pv 10) (pa_cons (pv 11) pa_nil))) pa_nil))) pa_nil)) (by rfl))) pss_nil)))))))
      (pss_cons (ps_if (pt_not (pt_val (pcall T.d_L_tried_right (ok_tr T) hr14 (by rfl) (pa_cons (pv 0) (pa_cons (pv 1) (pa_cons (pv 4) (pa_cons (pe_ix ix_tup (pe_ix ix_list (pv 6) (pe_un un_neg pe_int) (fun _ _ => rfl)) pe_int (fun _ _ => rfl)) pa_nil))))))) (pss_one (ps_ret pe_bl)) pss_nil)
      (pss_cons (ps_par (i := 12) (j := 13) rfl scSR.nd rfl rfl (by decide) rfl rfl (pa_cons (pe_meth0 (pv 4) T.seC T.se_branch.m (ok_branch T) hr17 T.se_branch.b .nil pass0) (pa_cons (pe_callB call_len_seq (by rfl) T.b_len bo_len (pa_cons (pv 5) pa_nil)) pa_nil)) (by rfl))
      (pss_cons (ps_for PassesOwn.never rfl (pi_list (pe_revL (pe_listRg rfl (by rfl) T.b_list (prg_1 (by rfl) T.b_range (pv 13))))) (pg_name (i := 14) scSR.nd rfl (Or.inl rfl))
        (pss_one (ps_if (pw_or (pt_cmpR (op_neD hu) (pe_meth0 (pv 4) T.seC T.se_undo.m (ok_undo T) hr3 T.se_undo.b .nil passL) (pe_ix ix_list (pv 5) (pv 14) (fun _ _ => rfl)) rfl)
          (pw_or1 (pt_not (pt_val (pcall T.d_L_is_at (ok_is_at T) hr9 (by rfl) (pa_cons (pv 4) (pa_cons (pe_ix ix_tup (pe_ix ix_list (pv 6) (pv 14) (fun _ _ => rfl)) pe_int (fun _ _ => rfl)) (pa_cons (pe_slice sl_list (pv 5) po_none (po_some (pv 14))) pa_nil)))))))).pt (pss_one (ps_ret pe_bl)) pss_nil)))
      (pss_cons (ps_if (pw_or (pt_not (pt_val (pcall T.d_L_empty (ok_lempty T) hr6 (by rfl) (pa_cons (pv 4) pa_nil)))) (pw_or1 (pt_not (pt_val (pcall T.d_L_is_at (ok_is_at T) hr9 (by rfl) (pa_cons (pv 12) (pa_cons (pe_ix ix_tup (pe_ix ix_list (pv 6) (pe_un un_neg pe_int) (fun _ _ => rfl)) pe_int (fun _ _ => rfl)) (pa_cons (pv 5) pa_nil)))))))).pt (pss_one (ps_ret pe_bl)) pss_nil)
      (pss_one (ps_ret (pe_or (pe_cmpR op_eq (pv 13) pe_int (nomark _)) (pe_one (pe_and (pe_cmpR (op_eqD hu) (pe_meth0 (pv 12) T.seC T.se_undo.m (ok_undo T) hr3 T.se_undo.b .nil passL) (pe_ix ix_list (pv 5) (pe_un un_neg pe_int) (fun _ _ => rfl)) rfl)
        (pe_one (pe_cmpR op_eq (pe_callB (call_lenI T.se_len.m.at_ T.se_len.m.fn (rawR (ok_se_len T) T.se_len.b) hr4 pass0) (by rfl) T.b_len bo_len (pa_cons (pv 4) pa_nil)) pe_int (nomark _)))))))))))))), ?_⟩
    obtain ⟨va, xs, rfl, hva, hp⟩ := id hv
    have hxl := Paired.length hp
    refine ⟨_, rfl, _, rfl, d, sc, va, ns, xs, rfl, hd, .inr hva, (fun z => hdb.ne (List.eq_nil_of_length_eq_zero (by rw [← hxl, z]; rfl))), fun H1 i0 x D1 hx => ?_⟩
    obtain ⟨q, hq1, hq2⟩ := pget' hp hx
    have hqd : q ∈ db := List.mem_of_getElem? hq1
    have c1 := D1.chg hd
    refine ⟨_, rfl, _, rfl, _, rfl, fun a dp ha hdp hne => ?_⟩
    have s1 : Same H1 (upd (upd H1 dp (.own a)) a (.ins T.cSe dp [])) := Same.upd' (Same.new hdp) ha _
    have O : StOk8 sh (db, q) := ⟨⟨hdb, hqd⟩, h8⟩
    refine ⟨a, dp, b, .ref va, x, w, sh, db, q, rfl, upd_same, hs.keep (c1.trans (.same s1)), mono_db _ _ _ _ (c1.trans (.same s1)).tk hv, mono_pr _ _ _ _ (c1.trans (.same s1)).tk hq2, O, fun H2 nl pl b2 hnl hpl S2 => ⟨rfl, ?_⟩⟩
    have s2 : Same H1 H2 := fun z o hz => b2 _ _ (s1 _ _ hz) (by simp; exact ne_of_none hz ha)
    have fa2 : Far K d sc ns nl pl := Far.new D1.at_ (s1.free hnl) (s1.free hpl)
    have d2 := D1.at_.same s2
    have mu2 : ∀ z ∈ [d, a, nl, pl], ∃ o, H2 z = some o ∧ isMu o = true := fun z hz => by
      rcases List.mem_cons.mp hz with rfl | hz
      · exact d2.mu _ (by simp)
      · exact S2.mu z hz
    have out2 : ∀ {z : Addr}, H2 z = none → z ∉ [d, a, nl, pl] := fun hz zz => by
      obtain ⟨o, e, _⟩ := mu2 _ zz
      rw [hz] at e
      cases e
    refine ⟨Nat.zero_le _, fun n2 hn2 => ⟨_, rfl, _, rfl, (by show 2 ≤ sizeLine; decide), fun t ht => ⟨(by show 1 ≤ sizeLine; decide), fun rl hrl => ⟨_, _, _, rfl, ?_⟩⟩⟩⟩
    have k1 : Same H2 (upd H2 n2 (.lst [])) := Same.new hn2
    have k2 : Same (upd H2 n2 (.lst [])) (upd (upd H2 n2 (.lst [])) t (.tup [.ref va, x])) := Same.new ht
    have k3 : Same (upd (upd H2 n2 (.lst [])) t (.tup [.ref va, x])) (upd (upd (upd H2 n2 (.lst [])) t (.tup [.ref va, x])) rl (.lst [.ref t])) := Same.new hrl
    have e1 : upd (upd (upd H2 n2 (.lst [])) t (.tup [.ref va, x])) rl (.lst [.ref t]) n2 = some (.lst []) := (k2.trans k3) _ _ upd_same
    have e2 : upd (upd (upd H2 n2 (.lst [])) t (.tup [.ref va, x])) rl (.lst [.ref t]) t = some (.tup [.ref va, x]) := k3 _ _ upd_same
    have e3 : upd (upd (upd H2 n2 (.lst [])) t (.tup [.ref va, x])) rl (.lst [.ref t]) rl = some (.lst [.ref t]) := upd_same
    have k5 := k1.trans (k2.trans k3)
    have hrl2 : H2 rl = none := (k1.trans k2).free hrl
    show tSeq _ _ _ _ (upd (upd (upd H2 n2 (.lst [])) t (.tup [.ref va, x])) rl (.lst [.ref t]))
    revert k5 e1 e2 e3
    generalize upd (upd (upd H2 n2 (.lst [])) t (.tup [.ref va, x])) rl (.lst [.ref t]) = H5
    intro e1 e2 e3 k5
    have c5 : Chg H H5 := c1.trans (.same (s2.trans k5))
    have P5 : Play K T.cSe T.cSh H5 d sc a b nl pl n2 rl ns w sh (db, q) [] [] := ⟨d2.same k5, S2.same k5, fa2, ⟨[], e1, .nil⟩, ⟨[.ref t], e3, .cons ⟨t, .ref va, x, rfl, e2, mono_db _ _ _ _ c5.tk hv, mono_pr _ _ _ _ c5.tk hq2⟩ .nil⟩, rfl, fun st hst => (by cases hst), out2 hn2, out2 hrl2⟩
    refine ⟨_, rfl, d, sc, ns, 8, rfl, P5.dr, by decide, fun H6 m D6 m0 m1 => ⟨_, _, rfl, rfl, (4 + m), rfl, by omega, by omega, ?_⟩⟩
    refine for_range (fun i σ H' => ∃ (o7 o8 o9 o10 o11 : Option V) (n2 rl : Addr) (now : Stt) (notes : List Pr) (past : List Stt),
        σ = [some (.ref d), some (.ref b), some (.ref va), some x, some (.ref a), some (.ref n2), some (.ref rl), o7, o8, o9, o10, o11, none, none, none] ∧ Play K T.cSe T.cSh H' d sc a b nl pl n2 rl ns w sh now notes past ∧ notes.length ≤ i)
      ⟨none, none, none, none, none, n2, rl, (db, q), [], [], rfl, P5.draw D6, Nat.le_refl _⟩ ?_ ?_
    · rintro i σ H' hi ⟨o7, o8, o9, o10, o11, n2, rl, now, notes, past, rfl, P, hni⟩
      have hn15 : notes.length ≤ 15 := by omega
      obtain ⟨vs, t, x1, u1, g1, g2, g3, g4, g5⟩ := P.last
      refine ⟨_, rfl, _, rfl, _, rfl, rl, vs, _, _, rfl, rfl, SqL.of g1, g2, t, _, _, x1, rfl, rfl, SqT.of g3, rfl, _, rfl, a, b, nl, pl, n2, x1, w, sh, now, notes, past, 0, rfl, P.se, g4, P.nt, by omega, fun H7 s7 => ⟨_, rfl, iteF ?_⟩⟩
      have P7 := P.same s7
      have w3 := hs.1.w3
      refine ⟨_, rfl, _, rfl, b, w, sh, rfl, P7.se.sf, (w : Int), rfl, RgOk.of_le (by decide) (by omega) (by decide) (by omega), fun q1 hq1 => ?_⟩
      refine ⟨q1, 2, _, rfl, rfl, upd_same, by decide, by decide, (by rw [rgV_length]; show ((w : Int) - 0).toNat * 2 ≤ sizeLine; exact Nat.le_of_lt (small1000 (by omega))), fun q2 hq2 => ?_⟩
      refine ⟨(by show 1 ≤ sizeLine; decide), fun q3 hq3 => ?_⟩
      have l1 : Same H7 (upd H7 q1 (.lst (rgV 0 (w : Int)))) := Same.new hq1
      have l2 := Same.new (o := .lst (List.replicate (2 : Int).toNat (rgV 0 (w : Int))).flatten) hq2
      have l3 := Same.new (o := .lst [.int 3]) hq3
      refine ⟨q2, q3, _, _, rfl, rfl, l3 _ _ upd_same, upd_same, ?_, fun q4 hq4 => ?_⟩
      · have : ((List.replicate (2 : Int).toNat (rgV 0 (w : Int))).flatten).length = 2 * w := by
          show ((List.replicate 2 (rgV 0 (w : Int))).flatten).length = 2 * w
          rw [show List.replicate 2 (rgV 0 (w : Int)) = [rgV 0 (w : Int), rgV 0 (w : Int)] from rfl]
          simp [rgV_length]
          omega
        rw [this]
        show 2 * w + 1 ≤ sizeLine
        exact Nat.le_of_lt (small1000 (by omega))
      have l4 := Same.new (o := .lst ((List.replicate (2 : Int).toNat (rgV 0 (w : Int))).flatten ++ [.int 3])) hq4
      have P8 := P7.same (l1.trans (l2.trans (l3.trans l4)))
      refine ⟨d, sc, q4, ns, _, rfl, P8.dr, .inl ⟨upd_same, fun z => ?_⟩, by simp, fun H8 i8 c0 D8 hx8 => ?_⟩
      · have := (P7.same (l1.trans (l2.trans l3))).out hq4
        simp at this
        exact this.1 z
      obtain ⟨c, rfl⟩ := pick_int hx8
      have P9 := P8.draw D8
      obtain ⟨vs9, t9, x9, u9, f1, f2, f3, f4, f5⟩ := P9.last
      refine ⟨_, rfl, _, rfl, _, rfl, rl, vs9, _, _, rfl, rfl, SqL.of f1, f2, t9, _, _, x9, rfl, rfl, SqT.of f3, rfl, _, rfl, _, rfl, rl, vs9, _, _, rfl, rfl, SqL.of f1, f2, t9, _, _, u9, rfl, rfl, SqT.of f3, rfl, _, rfl, b, w, sh, x9, u9, now, c, rfl, P9.se.sf, f4, f5, P9.se.ok, fun H10 tt s10 htt hst => ?_⟩
      have P10 := P9.same s10
      have hp15 : past.length ≤ 15 := by rw [P10.ln]; exact hn15
      obtain ⟨da, v0a, ha1, _⟩ := id P10.se.ob
      cases e : stpW w sh now c with
      | none =>
        rw [e] at hst
        refine g_tri hst ?_
        refine ⟨_, rfl, _, rfl, a, b, nl, pl, w, sh, now, notes, past, 0, c, rfl, P10.se, by omega, by omega, ?_, fun _ H11 s11 => ?_⟩
        · intro r st z
          rw [e] at z
          cases z
        · refine ⟨_, rfl, ⟨rfl, _, rfl, ite2 (fun z => absurd z (by simp)) (fun _ => ?_)⟩⟩
          refine ⟨_, rfl, rfl, _, rfl, iteF ?_⟩
          exact ⟨_, _, _, _, _, n2, rl, now, notes, past, rfl, P10.same s11, by omega⟩
      | some z =>
        obtain ⟨r, st⟩ := z
        rw [e] at hst
        obtain ⟨x2, y2, hst, hx2, hy2⟩ := hst
        have O9 : StOk8 sh st := stp_ok8 hs.1 P10.se.ok e
        refine g_tri hst ?_
        refine ⟨_, rfl, _, rfl, a, b, nl, pl, w, sh, now, notes, past, 0, c, rfl, P10.se, by omega, by omega, ?_, ?_⟩
        rotate_left
        · intro z
          rw [e] at z
          cases z
        · rintro r' st' z H11 b11 S11
          rw [e] at z
          cases z
          refine ⟨_, rfl, ⟨rfl, _, rfl, ite2 (fun z => absurd z (by simp)) (fun _ => ?_)⟩⟩
          refine ⟨_, rfl, rfl, _, rfl, iteT ?_⟩
          have c11 := b11.chg P10.se.mu
          have on := P10.on
          have or_ := P10.or_
          simp at on or_
          have N11 := P10.nt.keep (H' := H11) mono_pr c11.tk fun o z => b11 _ _ z (by simp; exact on.2)
          have R11 := P10.rw_.keep (H' := H11) mono_st c11.tk fun o z => b11 _ _ z (by simp; exact or_.2)
          have d11 := P10.dr.far P10.se P10.fa b11
          obtain ⟨xs2, hxs2, hxp2⟩ := id N11
          obtain ⟨rs2, hrs2, hrp2⟩ := id R11
          have hl2 := Paired.length hxp2
          have hl3 := Paired.length hrp2
          rw [List.length_append, List.length_singleton] at hl3
          have mu11 : ∀ z ∈ [d, a, nl, pl], ∃ o, H11 z = some o ∧ isMu o = true := fun z hz => by
            rcases List.mem_cons.mp hz with rfl | hz
            · exact d11.mu _ (by simp)
            · exact S11.mu z hz
          have out11 : ∀ {z : Addr}, H11 z = none → z ∉ [d, a, nl, pl] := fun hz zz => by
            obtain ⟨o, e, _⟩ := mu11 _ zz
            rw [hz] at e
            cases e
          refine ⟨_, rfl, _, rfl, _, rfl, (by show 2 ≤ sizeLine; decide), fun t1 ht1 => ⟨(by show 1 ≤ sizeLine; decide), fun p1 hp1 => ?_⟩⟩
          have j1 : Same H11 (upd H11 t1 (.tup [.int c, .int r])) := Same.new ht1
          have j2 := Same.new (o := .lst [.ref t1]) hp1
          refine ⟨n2, p1, _, _, rfl, rfl, (j1.trans j2) _ _ hxs2, upd_same, (by show _ + 1 ≤ sizeLine; exact Nat.le_of_lt (small1000 (by omega))), fun m2 hm2 => ?_⟩
          have j3 := Same.new (o := .lst (xs2 ++ [.ref t1])) hm2
          refine ⟨_, rfl, _, rfl, _, rfl, (by show 2 ≤ sizeLine; decide), fun t2 ht2 => ⟨(by show 1 ≤ sizeLine; decide), fun p2 hp2 => ?_⟩⟩
          have j4 := Same.new (o := .tup [x2, y2]) ht2
          have j5 := Same.new (o := .lst [.ref t2]) hp2
          refine ⟨rl, p2, _, _, rfl, rfl, (j1.trans (j2.trans (j3.trans (j4.trans j5)))) _ _ hrs2, upd_same, (by show _ + 1 ≤ sizeLine; exact Nat.le_of_lt (small1000 (by omega))), fun r2 hr2 => ⟨_, _, rfl, ?_⟩⟩
          have j6 := Same.new (o := .lst (rs2 ++ [.ref t2])) hr2
          have j26 := j2.trans (j3.trans (j4.trans (j5.trans j6)))
          have j16 := j1.trans j26
          have q1 := j26 _ _ (upd_same (H := H11) (a := t1) (o := .tup [.int c, .int r]))
          have q3 := (j4.trans (j5.trans j6)) _ _ (upd_same (a := m2) (o := .lst (xs2 ++ [.ref t1])))
          have q4 := (j5.trans j6) _ _ (upd_same (a := t2) (o := .tup [x2, y2]))
          have fm2 := (j1.trans j2).free hm2
          have fr2 := (j1.trans (j2.trans (j3.trans (j4.trans j5)))).free hr2
          have c12 : Chg H10 _ := c11.trans (.same j16)
          refine ⟨_, _, _, _, _, m2, r2, st, notes ++ [(c, r)], past ++ [now], rfl, ⟨d11.same j16, S11.same j16, P10.fa, ⟨_, q3, papp (pmono hxp2 fun _ _ z => mono_pr _ _ _ _ (TK.same j16) z) (.cons ⟨t1, rfl, q1⟩ .nil)⟩,
            ⟨_, upd_same, papp (pmono hrp2 fun _ _ z => mono_st _ _ _ _ (TK.same j16) z) (.cons ⟨t2, x2, y2, rfl, q4, mono_db _ _ _ _ c12.tk hx2, mono_pr _ _ _ _ c12.tk hy2⟩ .nil)⟩, by rw [List.length_append, List.length_append, P10.ln]; rfl, ?_, out11 fm2, out11 fr2⟩, by rw [List.length_append, List.length_singleton]; omega⟩
          intro s0 hs0
          rcases List.mem_append.mp hs0 with hs0 | hs0
          · exact P10.ok s0 hs0
          · rw [List.mem_singleton.mp hs0]
            exact P10.se.ok
    · rintro σ H' ⟨o7, o8, o9, o10, o11, n2, rl, now, notes, past, rfl, P, hni⟩
      have hn15 : notes.length ≤ 15 := by omega
      have hp15 : past.length ≤ 15 := by rw [P.ln]; exact hn15
      obtain ⟨vs, t, x1, u1, g1, g2, g3, g4, g5⟩ := P.last
      refine ⟨_, rfl, _, rfl, _, rfl, _, rfl, _, rfl, rl, vs, _, _, rfl, rfl, SqL.of g1, g2, t, _, _, u1, rfl, rfl, SqT.of g3, rfl, d, sc, b, a, nl, pl, ns, u1, w, sh, now, notes, past, 0, rfl, P.dr, P.se, g5, by omega, by omega, P.fa, fun H8 n3 p3 b8 d8 hn3 hp3 S8 => ⟨_, rfl, iteF ?_⟩⟩
      have c8 := b8.chg P.mu
      obtain ⟨xs2, hxs2, hxp2⟩ := P.nt.keep (H' := H8) mono_pr c8.tk fun o z => b8 _ _ z P.on
      obtain ⟨rs2, hrs2, hrp2⟩ := P.rw_.keep (H' := H8) mono_st c8.tk fun o z => b8 _ _ z P.or_
      have hl2 := Paired.length hxp2
      have hl3 := Paired.length hrp2
      rw [List.length_append, List.length_singleton] at hl3
      have fa8 : Far K d sc ns n3 p3 := Far.new P.dr hn3 hp3
      obtain ⟨dx8, vx8, ha8, _⟩ := id S8.ob
      obtain ⟨_, hn28, _⟩ := id P.nt
      obtain ⟨_, hrl8, _⟩ := id P.rw_
      have n2n3 : n2 ≠ n3 := ne_of_none hn28 hn3
      have n2p3 : n2 ≠ p3 := ne_of_none hn28 hp3
      have rln3 : rl ≠ n3 := ne_of_none hrl8 hn3
      have rlp3 : rl ≠ p3 := ne_of_none hrl8 hp3
      have n2a : n2 ≠ a := ne_of hxs2 ha8 (fun z => nomatch z)
      have rla : rl ≠ a := ne_of hrs2 ha8 (fun z => nomatch z)
      -- branch
      refine ⟨_, rfl, a, dx8, _, rfl, ha8, sF_no _ _ _ _ _ (by decide +kernel) (by decide +kernel) (by decide +kernel) (by decide +kernel) (by decide +kernel), a, b, n3, p3, w, sh, now, notes, past, 0, rfl, S8, fun H9 ab nb pb s9 hab hnb hpb S9 => ?_⟩
      refine ⟨_, rfl, n2, xs2, rfl, .inl (SqL.of (s9 _ _ hxs2)), _, _, rfl, ?_⟩
      -- the way back
      refine ⟨_, rfl, (xs2.length : Nat), rfl, RgOk.of_le (by decide) (by omega) (by decide) (by omega), fun q1 hq1 => ?_⟩
      have i1 : Same H9 (upd H9 q1 (.lst (rgV 0 (xs2.length : Nat)))) := Same.new hq1
      refine ⟨q1, _, rfl, SqL.of upd_same, fun q2 hq2 => ?_⟩
      have i2 := Same.new (o := .lst (rgV 0 (xs2.length : Nat)).reverse) hq2
      have i12 := s9.trans (i1.trans i2)
      have eq2 := upd_same (H := upd H9 q1 (.lst (rgV 0 (xs2.length : Nat)))) (a := q2) (o := .lst (rgV 0 (xs2.length : Nat)).reverse)
      have fq2 : H8 q2 = none := (s9.trans i1).free hq2
      have S10 := S8.same i12
      have B10 := S9.same (i1.trans i2)
      have D10 := d8.same i12
      refine ⟨q2, rfl, ⟨_, SqL.of eq2⟩, ?_⟩
      revert i12 eq2 S10 B10 D10
      generalize upd (upd H9 q1 (.lst (rgV 0 (xs2.length : Nat)))) q2 (.lst (rgV 0 (xs2.length : Nat)).reverse) = H10
      intro i12 eq2 S10 B10 D10
      obtain ⟨xn, hxn, _⟩ := id S8.nt
      obtain ⟨xp, hxp, _⟩ := id S8.ps
      have outN : ∀ {z : Addr}, H8 z = none → z ∉ [a, n3, p3] := fun hz zz => by
        obtain ⟨o, e, _⟩ := S8.mu _ zz
        rw [hz] at e
        cases e
      have a1 : n2 ∉ [a, n3, p3] := by
        simp
        exact ⟨n2a, n2n3, n2p3⟩
      have a2 : rl ∉ [a, n3, p3] := by
        simp
        exact ⟨rla, rln3, rlp3⟩
      have keepB : ∀ {Hz : Hp}, But [a, n3, p3] H10 Hz → SesAt T.cSe T.cSh Hz ab b nb pb w sh now notes past 0 := fun {Hz} bb => by
        obtain ⟨z1, z2, e1, _⟩ := id B10.ob
        obtain ⟨z3, e2, _⟩ := id B10.nt
        obtain ⟨z4, e3, _⟩ := id B10.ps
        exact B10.keep (bb.chg S10.mu) ((bb _ _ e1 (outN hab)).trans e1.symm) ((bb _ _ e2 (outN hnb)).trans e2.symm) ((bb _ _ e3 (outN hpb)).trans e3.symm)
      have keepN : ∀ {Hz : Hp}, But [a, n3, p3] H10 Hz → LstAt PrAt Hz n2 notes ∧ Hz n2 = some (.lst xs2) ∧ Paired (PrAt Hz) xs2 notes := fun {Hz} bb => by
        have e := bb _ _ (i12 _ _ hxs2) a1
        have p := pmono hxp2 fun _ _ z => mono_pr _ _ _ _ ((TK.same i12).trans (bb.chg S10.mu).tk) z
        exact ⟨⟨xs2, e, p⟩, e, p⟩
      have keepR : ∀ {Hz : Hp}, But [a, n3, p3] H10 Hz → Hz rl = some (.lst rs2) ∧ Paired (StAt Hz) rs2 (past ++ [now]) := fun {Hz} bb =>
        ⟨bb _ _ (i12 _ _ hrs2) a2, pmono hrp2 fun _ _ z => mono_st _ _ _ _ ((TK.same i12).trans (bb.chg S10.mu).tk) z⟩
      have pln : past.length = notes.length := P.ln
      have okh : ∀ st ∈ past ++ [now], StOk8 sh st := fun st hst => by
        rcases List.mem_append.mp hst with hst | hst
        · exact P.ok st hst
        · rw [List.mem_singleton.mp hst]
          exact P.se.ok
      refine for_list (K := K) (a := q2) (xs := (rgV 0 (xs2.length : Nat)).reverse) (fun k σ Hz => ∃ (o14 : Option V) (st : Stt), σ = [some (.ref d), some (.ref b), some (.ref va), some x, some (.ref a), some (.ref n2), some (.ref rl), o7, o8, o9, o10, o11, some (.ref ab), some (.int (xs2.length : Nat)), o14] ∧
          But [a, n3, p3] H10 Hz ∧ (past ++ [now])[notes.length - k]? = some st ∧ SesAt T.cSe T.cSh Hz a b n3 p3 w sh st (notes.take (notes.length - k)) (past.take (notes.length - k)) 0)
        ⟨none, now, rfl, But.refl _ _, ?_, ?_⟩ (fun k σ Hz _ ⟨_, _, _, bb, _⟩ => SqL.of (bb _ _ eq2 (outN fq2))) ?_ ?_
      · rw [Nat.sub_zero, ← pln, List.getElem?_append_right (Nat.le_refl _), Nat.sub_self]
        rfl
      · rw [Nat.sub_zero, List.take_length, ← pln, List.take_length]
        exact S10
      · rintro kk y0 σ Hz hy ⟨o14, st, rfl, bb, hst, Sz⟩
        obtain ⟨hk, rfl⟩ := rev_at hy
        rw [hl2] at hk
        obtain ⟨i, hi⟩ : ∃ i, i = notes.length - 1 - kk := ⟨_, rfl⟩
        have hi1 : notes.length - kk = i + 1 := by omega
        have hil : i < notes.length := by omega
        rw [hi1] at Sz
        obtain ⟨nx, hnx⟩ : ∃ nx, notes[i]? = some nx := ⟨_, List.getElem?_eq_getElem hil⟩
        obtain ⟨px, hpx⟩ : ∃ px, past[i]? = some px := ⟨_, List.getElem?_eq_getElem (by omega)⟩
        have tn : notes.take (i + 1) = notes.take i ++ [nx] := by rw [List.take_succ, hnx]; rfl
        have tp : past.take (i + 1) = past.take i ++ [px] := by rw [List.take_succ, hpx]; rfl
        have hpx2 : (past ++ [now])[i]? = some px := by rw [List.getElem?_append_left (by omega)]; exact hpx
        obtain ⟨dz, vz, hz1, _⟩ := id Sz.ob
        rw [hl2, ← hi]
        refine ⟨_, rfl, a, dz, _, rfl, hz1, sF_no _ _ _ _ _ (by decide +kernel) (by decide +kernel) (by decide +kernel) (by decide +kernel) (by decide +kernel), a, b, n3, p3, w, sh, st, _, _, 0, rfl, Sz, .inr ⟨(by rw [List.length_take]; omega), notes.take i, nx, past.take i, px, tn, tp, P.ok px (List.mem_of_getElem? hpx), fun H11 v11 b11 S11 hv11 => ?_⟩⟩
        have bb1 := bb.trans b11
        obtain ⟨_, N1, N2⟩ := keepN bb1
        obtain ⟨R1, R2⟩ := keepR bb1
        obtain ⟨yn, hyn1, hyn2⟩ := pget N2 hnx
        refine ⟨_, rfl, _, rfl, n2, xs2, _, yn, rfl, rfl, SqL.of N1, atI_eq (by omega) (by rw [show ((i : Int)).toNat = i by omega]; exact hyn1), _, _, rd_pr _ _ _ hv11, rd_pr _ _ _ hyn2, (shal_pr _).shaped (by decide), (shal_pr _).shaped (by decide), ?_⟩
        rw [(shal_pr nx).refl]
        refine ⟨false, rfl, iteF ?_⟩
        obtain ⟨yr, hyr1, tr, xr, ur, rfl, hr1, hr2, hr3⟩ := pget R2 hpx2
        refine ⟨_, rfl, _, rfl, _, rfl, rl, rs2, _, _, rfl, rfl, SqL.of R1, atI_eq (by omega) (by rw [show ((i : Int)).toNat = i by omega]; exact hyr1), tr, _, _, xr, rfl, rfl, SqT.of hr1, rfl, _, rfl, _, rfl, (i : Nat), rfl, n2, xs2, rfl, SqL.of N1, fun p9 hp9 => ?_⟩
        have s12 : Same H11 (upd H11 p9 (.lst (cutV xs2 none (some (i : Nat))))) := Same.new hp9
        refine ⟨a, b, n3, p3, p9, xr, w, sh, px, notes.take i, past.take i, 0, rfl, S11.same s12, mono_db _ _ _ _ (.same s12) hr2, ⟨xs2.take i, by rw [upd_same, cut_take (by omega)], pmono (ptake i N2) fun _ _ z => mono_pr _ _ _ _ (.same s12) z⟩, by rw [List.length_take]; omega, fun H13 s13 => ⟨_, rfl, iteF ?_⟩⟩
        refine ⟨_, px, rfl, bb1.trans (But.of (s12.trans s13)), ?_, ?_⟩
        · rw [show notes.length - (kk + 1) = i by omega]
          exact hpx2
        · rw [show notes.length - (kk + 1) = i by omega]
          exact S11.same (s12.trans s13)
      · rintro σ Hz ⟨o14, st, rfl, bb, hst, Sz⟩
        rw [List.length_reverse, rgV_length, show ((xs2.length : Nat) : Int) - 0 = (xs2.length : Int) by omega, Int.toNat_natCast, hl2, Nat.sub_self, List.take_zero, List.take_zero] at Sz
        refine ⟨_, rfl, a, b, n3, p3, w, sh, st, [], 0, rfl, Sz, Int.le_refl _, fun H12 s12 => ⟨_, rfl, iteF ?_⟩⟩
        have bb1 := bb.trans (But.of s12)
        obtain ⟨N0, N1, N2⟩ := keepN bb1
        obtain ⟨R1, R2⟩ := keepR bb1
        have B12 := keepB bb1
        obtain ⟨yr, hyr1, tr, xr, ur, rfl, hr1, hr2, hr3⟩ := pat R2 (atI_last past now)
        refine ⟨_, rfl, _, rfl, _, rfl, rl, rs2, _, _, rfl, rfl, SqL.of R1, hyr1, tr, _, _, xr, rfl, rfl, SqT.of hr1, rfl, _, rfl, ab, b, nb, pb, n2, xr, w, sh, now, notes, past, 0, rfl, B12, hr2, N0, by omega, fun H13 s13 => ⟨_, rfl, iteF ?_⟩⟩
        have bb2 := bb1.trans (But.of s13)
        have D13 := D10.far S10 fa8 bb2
        refine ⟨_, rfl, ⟨rfl, _, rfl, ite2 (fun _ => k H13 D13) (fun hne => ?_)⟩⟩
        have hnz : notes.length ≠ 0 := fun z => hne (by rw [hl2, z]; exact decide_eq_true rfl)
        have B13 := keepB bb2
        have S13 := Sz.same (s12.trans s13)
        obtain ⟨_, N3, N4⟩ := keepN bb2
        obtain ⟨ns', x', hns⟩ : ∃ ns' x', notes = ns' ++ [x'] := ⟨notes.dropLast, notes.getLast (fun z => hnz (by rw [z]; rfl)), (List.dropLast_concat_getLast _).symm⟩
        obtain ⟨ps', st', hps⟩ : ∃ ps' st', past = ps' ++ [st'] := ⟨past.dropLast, past.getLast (fun z => hnz (by rw [← pln, z]; rfl)), (List.dropLast_concat_getLast _).symm⟩
        obtain ⟨db1, vb1, hb1, _⟩ := id B13.ob
        refine ⟨_, rfl, ab, db1, _, rfl, hb1, sF_no _ _ _ _ _ (by decide +kernel) (by decide +kernel) (by decide +kernel) (by decide +kernel) (by decide +kernel), ab, b, nb, pb, w, sh, now, notes, past, 0, rfl, B13, .inr ⟨by omega, ns', x', ps', st', hns, hps, P.ok st' (by rw [hps]; simp), fun H14 v14 b14 S14 hv14 => ?_⟩⟩
        have c14 := b14.chg B13.mu
        have n2b : n2 ∉ [ab, nb, pb] := by
          simp
          exact ⟨ne_of_none hxs2 hab, ne_of_none hxs2 hnb, ne_of_none hxs2 hpb⟩
        have N5 := b14 _ _ N3 n2b
        rw [hns] at N4
        obtain ⟨yl, hyl1, hyl2⟩ := pat N4 (atI_last ns' x')
        refine ⟨_, rfl, _, rfl, n2, xs2, _, yl, rfl, rfl, SqL.of N5, hyl1, _, _, rd_pr _ _ _ hv14, rd_pr _ _ _ (mono_pr _ _ _ _ c14.tk hyl2), (shal_pr _).shaped (by decide), (shal_pr _).shaped (by decide), ?_⟩
        rw [(shal_pr x').refl]
        refine ⟨true, rfl, iteT ?_⟩
        have aout : ∀ {z : Addr} {o : HO}, H8 z = some o → z ∉ [ab, nb, pb] := fun hz => by
          simp
          exact ⟨ne_of_none hz hab, ne_of_none hz hnb, ne_of_none hz hpb⟩
        obtain ⟨da, va9, ga1, _⟩ := id S13.ob
        obtain ⟨xe, gn1, gn2⟩ := id S13.nt
        cases gn2
        have ga2 := b14 _ _ ga1 (aout ha8)
        have gn3 := b14 _ _ gn1 (aout hxn)
        refine ⟨_, rfl, a, da, _, rfl, ga2, a, n3, [], rfl, ⟨da, _, ga2, sF_notes .., gn3⟩, _, rfl, by decide, by decide, rfl, ?_⟩
        have D14 : DrAt K H14 d sc ns := D13.far B13 (Far.new d8 hnb hpb) b14
        have := k H14 D14
        exact this
end
end WF
end

section
set_option Elab.async false
set_option linter.all false
set_option maxRecDepth 100000
set_option maxHeartbeats 4000000
/-! Whichfirm: the law. -/
namespace WF
open PySem PySem.Spec PyProof.Rows L2 SlX RZ
theorem rgc4 {j : Int} (h1 : 1 ≤ j) (h2 : j ≤ 16) : ∃ n : Nat, RgC 0 j 4 n := by
  have h : j = 1 ∨ j = 2 ∨ j = 3 ∨ j = 4 ∨ j = 5 ∨ j = 6 ∨ j = 7 ∨ j = 8 ∨ j = 9 ∨ j = 10 ∨ j = 11 ∨ j = 12 ∨ j = 13 ∨ j = 14 ∨ j = 15 ∨ j = 16 := by omega
  rcases h with rfl | rfl | rfl | rfl | rfl | rfl | rfl | rfl | rfl | rfl | rfl | rfl | rfl | rfl | rfl | rfl
  · exact ⟨1, by decide, by decide, by decide, by decide⟩
  · exact ⟨1, by decide, by decide, by decide, by decide⟩
  · exact ⟨1, by decide, by decide, by decide, by decide⟩
  · exact ⟨1, by decide, by decide, by decide, by decide⟩
  · exact ⟨2, by decide, by decide, by decide, by decide⟩
  · exact ⟨2, by decide, by decide, by decide, by decide⟩
  · exact ⟨2, by decide, by decide, by decide, by decide⟩
  · exact ⟨2, by decide, by decide, by decide, by decide⟩
  · exact ⟨3, by decide, by decide, by decide, by decide⟩
  · exact ⟨3, by decide, by decide, by decide, by decide⟩
  · exact ⟨3, by decide, by decide, by decide, by decide⟩
  · exact ⟨3, by decide, by decide, by decide, by decide⟩
  · exact ⟨4, by decide, by decide, by decide, by decide⟩
  · exact ⟨4, by decide, by decide, by decide, by decide⟩
  · exact ⟨4, by decide, by decide, by decide, by decide⟩
  · exact ⟨4, by decide, by decide, by decide, by decide⟩
section
variable {P : Program} {w : World} {K : PySem.W.Frag} {mg : Str → Option Value} {base : Heap}
/-- the law's promise -/
def spLaw (K : PySem.W.Frag) : Sp := fun vs H Q _ => ∃ (sc : Addr) (ns : List Int), vs = [.ref sc] ∧ SqL K H sc (ns.map V.int) ∧ ∀ H', Q (.bl true) H'
theorem scLaw : FnScope ["_law_script", "_law_by", "_law_draw_here", "_law_shelf_here"] ["_law_script"] (defScope s_law) := ⟨rfl, rfl, rfl, by decide +kernel, rfl, by decide +kernel, by decide +kernel⟩
theorem ok_law (T : Top P K mg) : FnOk P w K mg base CX0 21 T.d_law.f T.d_law.fd ["_law_script"] (spLaw K) := by
  refine T.d_law.F.ok scLaw (fun vs H Q E h => ?_) (fun cdv A outer s H vs Q E hr h => ?_)
  · obtain ⟨sc, ns, rfl, _⟩ := h
    rfl
  · obtain ⟨sc, ns, rfl, hsq, k⟩ := h
    have hr11 : Room 11 _ := hr.mono (by decide)
    have hr15 : Room 15 _ := hr.mono (by decide)
    have hr19 : Room 19 _ := hr.mono (by decide)
    refine ⟨_, pss_cons (ps_for PassesOwn.never rfl (pi_range3 (by rfl) T.b_range (pa_cons pe_int (pa_cons (pe_callB (call_max2 rfl) (by rfl) T.b_max bo_max (pa_cons pe_int (pa_cons (pe_callB (call_min2 rfl) (by rfl) T.b_min bo_min (pa_cons pe_int (pa_cons (pe_callB call_len_seq (by rfl) T.b_len bo_len (pa_cons (pv 0) pa_nil)) pa_nil))) pa_nil))) (pa_cons pe_int pa_nil)))) (pg_name (i := 1) scLaw.nd rfl (Or.inl rfl))
        (pss_cons (ps_set (i := 2) scLaw.nd rfl (Or.inl rfl) (pe_lst (pa_cons (pv 0) (pa_cons (pv 1) (pa_cons pe_int pa_nil)))))
        (pss_cons (ps_set (i := 3) scLaw.nd rfl (Or.inl rfl) (pcall T.d_L_shelf (ok_shelf T) hr15 (by rfl) (pa_cons (pv 2) pa_nil)))
        (pss_one (ps_if (pt_not (pt_val (pcall T.d_L_session_right (ok_sr T) hr19 (by rfl) (pa_cons (pv 2) (pa_cons (pv 3) (pa_cons (pcall T.d_L_doubt (ok_ldoubt T) hr11 (by rfl) (pa_cons (pv 2) (pa_cons (pv 3) pa_nil))) pa_nil)))))) (pss_one (ps_ret pe_bl)) pss_nil)))))
      (pss_one (ps_ret pe_bl)), ?_⟩
    refine ⟨_, rfl, sc, _, rfl, .inl hsq, _, _, rfl, _, _, rfl, ?_⟩
    generalize hj : (if (if ((ns.map V.int).length : Int) < 16 then ((ns.map V.int).length : Int) else 16) > 1 then (if ((ns.map V.int).length : Int) < 16 then ((ns.map V.int).length : Int) else 16) else 1) = j
    have hj1 : 1 ≤ j ∧ j ≤ 16 := by
      rw [← hj]
      split <;> split <;> omega
    obtain ⟨n, hn⟩ := rgc4 hj1.1 hj1.2
    refine ⟨0, j, 4, n, rfl, hn, ?_⟩
    refine for_rangeC (fun i σ H' => ∃ (o1 o2 o3 : Option V), σ = [some (.ref sc), o1, o2, o3] ∧ SqL K H' sc (ns.map V.int)) ⟨none, none, none, rfl, hsq⟩ ?_ ?_
    · rintro i σ H' hi ⟨o1, o2, o3, rfl, hs⟩
      refine ⟨_, rfl, _, rfl, (by show 3 ≤ sizeLine; decide), fun d hd => ?_⟩
      have s1 : Same H' (upd H' d (.lst [.ref sc, .int (0 + (i : Nat) * 4), .int 0])) := Same.new hd
      have d1 : DrAt K (upd H' d (.lst [.ref sc, .int (0 + (i : Nat) * 4), .int 0])) d sc ns := ⟨_, _, upd_same, by omega, by decide, (ScAt.of hs hd).keep (But.of s1 : But [] _ _) (fun _ _ _ => by simp)⟩
      refine ⟨_, rfl, d, sc, ns, rfl, d1, fun H2 b w sh D2 hb hs2 => ?_⟩
      refine ⟨_, rfl, _, rfl, _, rfl, _, rfl, d, sc, b, ns, w, sh, rfl, D2.at_, hs2, fun H3 v db D3 hdb hok h8 => ?_⟩
      refine ⟨d, sc, b, ns, v, w, sh, db, rfl, D3.at_, hs2.keep (D3.chg D2.at_), hdb, hok, h8, fun H4 d4 => ⟨_, rfl, iteF ?_⟩⟩
      obtain ⟨_, _, _, _, _, h4⟩ := d4
      exact ⟨_, _, _, rfl, h4.seq⟩
    · rintro σ H' ⟨o1, o2, o3, rfl, hs⟩
      exact k H'
end
end WF
end

section
set_option Elab.async false
set_option linter.all false
set_option maxRecDepth 100000
set_option maxHeartbeats 8000000
/-! Whichfirm: the gathering. Printed by gen_end.py. -/
namespace WF
open PySem PySem.Spec PyProof.Rows L2 SlX RZ
abbrev s_br_init : Stmt := inClass (top 5) 0
def HasDef (K : PySem.W.Frag) (x : Str) (st : Stmt) : Prop := ∃ (f : Addr) (oc : Value) (od : Option Addr) (kV doc pm : Value) (an : Option Addr) (cd ct : Value) (sl : Array (Option Value)), PySem.W.nsIn K mainGlobals x = some (some (.ref f)) ∧
  K.lookup f = some ⟨oc, od, .func (PySem.W.fnOf x x (defArgs st) (defBody st) (defScope st) .none kV doc pm an cd ct), sl⟩ ∧ PySem.W.codeIn K cd x = true ∧ PySem.W.keepIn K (.ref f) = true
def HasMet (K : PySem.W.Frag) (C : Addr) (x qual : Str) (st : Stmt) : Prop := ∃ (f : Addr) (oc : Value) (od : Option Addr) (kV doc pm : Value) (an : Option Addr) (cd ct : Value) (sl : Array (Option Value)), PySem.W.findIn K (.ref C) x = some (some (.ref f)) ∧ PySem.W.isFn K (.ref f) = true ∧
  K.lookup f = some ⟨oc, od, .func (PySem.W.fnOf x qual (defArgs st) (defBody st) (defScope st) .none kV doc pm an cd ct), sl⟩ ∧ PySem.W.codeIn K cd qual = true ∧ PySem.W.keepIn K (.ref f) = true
def HasPro (K : PySem.W.Frag) (C : Addr) (x qual : Str) (st : Stmt) : Prop := ∃ (p f : Addr) (rest : List Value) (oc : Value) (od : Option Addr) (kV doc pm : Value) (an : Option Addr) (cd ct : Value) (sl : Array (Option Value)), PySem.W.findIn K (.ref C) x = some (some (.ref p)) ∧
  PySem.W.specialIn K (.ref p) "__get__" = some (some (.builtin "property.__get__")) ∧ PySem.W.takesIn K (.ref p) = some true ∧ PySem.W.recIn K p "property" = some (.ref f :: rest) ∧
  K.lookup f = some ⟨oc, od, .func (PySem.W.fnOf x qual (defArgs st) (defBody st) (defScope st) .none kV doc pm an cd ct), sl⟩ ∧ PySem.W.codeIn K cd qual = true ∧ PySem.W.keepIn K (.ref f) = true
def HasEx (K : PySem.W.Frag) (x : Str) (C : Addr) : Prop := PySem.W.nsIn K mainGlobals x = some (some (.ref C)) ∧ PySem.W.excIn K C [.type "ValueError", .type "Exception", .type "BaseException", .type "object"] "ValueError.__new__" = true ∧ PySem.W.keepIn K (.ref C) = true ∧
  PySem.W.subIn K (.ref C) (.type "BaseException") = some true ∧ PySem.W.typeIn K (.ref C) = some (.type "type") ∧ PySem.W.isClsIn K C = true ∧ PySem.W.subIn K (.ref C) (.ref C) = some true
def HasCon (K : PySem.W.Frag) (x : Str) (v : Int) : Prop := ∃ t, PySem.W.nsIn K mainGlobals x = some (some (.int v t))
def HasSlot (K : PySem.W.Frag) (C : Addr) (f : Str) (i : Nat) : Prop := ∃ p, PySem.W.findIn K (.ref C) f = some (some (.ref p)) ∧ PySem.W.specialIn K (.ref p) "__get__" = some (some (.builtin "member_descriptor.__get__")) ∧ PySem.W.takesIn K (.ref p) = some true ∧
  PySem.W.typeIn K (.ref p) = some (.type "member_descriptor") ∧ PySem.W.slotIn K p C = some i
def HasShC (K : PySem.W.Frag) (C : Addr) : Prop := PySem.W.nsIn K mainGlobals "Shelf" = some (some (.ref C)) ∧ PySem.W.plainGet K C Str.empty = true ∧ PySem.W.isClsIn K C = true ∧ PySem.W.plainOver K C = true ∧ PySem.W.findIn K (.ref C) "__setattr__" = some (some (.builtin "object.__setattr__")) ∧
  PySem.W.findIn K (.ref C) "__class__" = some (some (.builtin "object.__class__")) ∧ PySem.W.specialIn K (.builtin "object.__class__") "__get__" = some (some (.builtin "getset_descriptor.__get__")) ∧ PySem.W.takesIn K (.builtin "object.__class__") = some true ∧ PySem.W.mroIn K C (.type "object") = some true ∧
  PySem.W.makesIn K C = true ∧ PySem.W.keepIn K (.ref C) = true
def HasCls (K : PySem.W.Frag) (x : Str) (C : Addr) (f1 f2 f3 f4 f5 : Str) : Prop := PySem.W.nsIn K mainGlobals x = some (some (.ref C)) ∧ PySem.W.plainGet K C Str.empty = true ∧ PySem.W.hasDictIn K C = true ∧ PySem.W.plainOver K C = true ∧ PySem.W.findIn K (.ref C) "__setattr__" = some (some (.builtin "object.__setattr__")) ∧
  PySem.W.makesIn K C = true ∧ PySem.W.keepIn K (.ref C) = true ∧ PySem.W.findIn K (.ref C) f1 = some none ∧ PySem.W.findIn K (.ref C) f2 = some none ∧ PySem.W.findIn K (.ref C) f3 = some none ∧ PySem.W.findIn K (.ref C) f4 = some none ∧ PySem.W.findIn K (.ref C) f5 = some none
/-- BadRow -/
def HasBR1 (K : PySem.W.Frag) (C : Addr) : Prop := PySem.W.nsIn K mainGlobals "BadRow" = some (some (.ref C)) ∧ PySem.W.findIn K (.ref C) "__setattr__" = some (some (.builtin "object.__setattr__")) ∧ PySem.W.subIn K (.ref C) (.type "BaseException") = some true ∧ PySem.W.typeIn K (.ref C) = some (.type "type") ∧ PySem.W.keepIn K (.ref C) = true ∧
  PySem.W.findIn K (.ref C) "__getattribute__" = some (some (.builtin "BaseException.__getattribute__")) ∧ PySem.W.findIn K (.ref C) "__getattr__" = some none ∧ PySem.W.hasDictIn K C = true ∧ PySem.W.findIn K (.ref C) "index" = some none ∧ PySem.W.isClsIn K C = true ∧ PySem.W.subIn K (.ref C) (.ref C) = some true ∧
  PySem.W.nsIn K PySem.cStatics "thirdparty.any" = some none ∧ PySem.W.subIn K (.ref C) (.type "ValueError") = some true ∧ PySem.W.mroIn K C (.ref C) = some true ∧ PySem.W.nsIn K mainGlobals "super" = some none
def HasBR2 (K : PySem.W.Frag) (C : Addr) : Prop := ∃ nm q N bs bm sn sub ab col dd k0 k1 k2 k3 k5, K.lookup C = some (excClassObj nm q C N bs bm true sn sub ab col dd k0 k1 k2 k3 k5 "ValueError.__new__") ∧ PySem.HandSPX.refsVE bm = true
def HasBR3 (K : PySem.W.Frag) (C f : Addr) : Prop := ∃ (oc : Value) (od : Option Addr) (kV doc pm ct : Value) (an : Option Addr) (cda cc : Addr) (sl : Array (Option Value)) (ocl : Value) (odd : Option Addr) (vs : Array Value) (sl2 : Array (Option Value)) (file : Str) (tf : Tok) (cl : Value) (cld : Option Addr) (csl : Array (Option Value)),
  PySem.W.findIn K (.ref C) "__init__" = some (some (.ref f)) ∧ PySem.W.typeIn K (.ref f) = some (.type "function") ∧
  K.lookup f = some ⟨oc, od, .func (PySem.W.ksFn "__init__" "BadRow.__init__" (defArgs s_br_init) (defBody s_br_init) (defScope s_br_init) .none kV doc pm an (.ref cda) ct cc), sl⟩ ∧ PySem.W.codeIn K (.ref cda) "BadRow.__init__" = true ∧ K.lookup cda = some ⟨ocl, odd, .fields vs, sl2⟩ ∧ vs[2]? = some (.str file tf) ∧
  ((PySem.Challenge.pw_whichfirm_k35_whole_sessions.main.file : Str) == file) = true ∧ K.lookup cc = some ⟨cl, cld, .cell (some (.ref C)), csl⟩
theorem HasDef.mk' {K : PySem.W.Frag} {x : Str} {st : Stmt} {f : Addr} {oc : Value} {od : Option Addr} {kV doc pm : Value} {an : Option Addr} {cd ct : Value} {sl : Array (Option Value)} (a : PySem.W.nsIn K mainGlobals x = some (some (.ref f)))
    (l : K.lookup f = some ⟨oc, od, .func (PySem.W.fnOf x x (defArgs st) (defBody st) (defScope st) .none kV doc pm an cd ct), sl⟩) (c : PySem.W.codeIn K cd x = true) (k : PySem.W.keepIn K (.ref f) = true) : HasDef K x st := ⟨f, oc, od, kV, doc, pm, an, cd, ct, sl, a, l, c, k⟩
theorem HasMet.mk' {K : PySem.W.Frag} {C : Addr} {x qual : Str} {st : Stmt} {f : Addr} {oc : Value} {od : Option Addr} {kV doc pm : Value} {an : Option Addr} {cd ct : Value} {sl : Array (Option Value)} (a : PySem.W.findIn K (.ref C) x = some (some (.ref f))) (i : PySem.W.isFn K (.ref f) = true)
    (l : K.lookup f = some ⟨oc, od, .func (PySem.W.fnOf x qual (defArgs st) (defBody st) (defScope st) .none kV doc pm an cd ct), sl⟩) (c : PySem.W.codeIn K cd qual = true) (k : PySem.W.keepIn K (.ref f) = true) : HasMet K C x qual st := ⟨f, oc, od, kV, doc, pm, an, cd, ct, sl, a, i, l, c, k⟩
theorem HasPro.mk' {K : PySem.W.Frag} {C : Addr} {x qual : Str} {st : Stmt} {p f : Addr} {rest : List Value} {oc : Value} {od : Option Addr} {kV doc pm : Value} {an : Option Addr} {cd ct : Value} {sl : Array (Option Value)} (a : PySem.W.findIn K (.ref C) x = some (some (.ref p)))
    (g : PySem.W.specialIn K (.ref p) "__get__" = some (some (.builtin "property.__get__"))) (t : PySem.W.takesIn K (.ref p) = some true) (r : PySem.W.recIn K p "property" = some (.ref f :: rest))
    (l : K.lookup f = some ⟨oc, od, .func (PySem.W.fnOf x qual (defArgs st) (defBody st) (defScope st) .none kV doc pm an cd ct), sl⟩) (c : PySem.W.codeIn K cd qual = true) (k : PySem.W.keepIn K (.ref f) = true) : HasPro K C x qual st := ⟨p, f, rest, oc, od, kV, doc, pm, an, cd, ct, sl, a, g, t, r, l, c, k⟩
theorem HasCon.mk' {K : PySem.W.Frag} {x : Str} {v : Int} {t : Tok} (a : PySem.W.nsIn K mainGlobals x = some (some (.int v t))) : HasCon K x v := ⟨t, a⟩
theorem HasSlot.mk' {K : PySem.W.Frag} {C : Addr} {f : Str} {i : Nat} {p : Addr} (a : PySem.W.findIn K (.ref C) f = some (some (.ref p))) (g : PySem.W.specialIn K (.ref p) "__get__" = some (some (.builtin "member_descriptor.__get__"))) (t : PySem.W.takesIn K (.ref p) = some true)
    (y : PySem.W.typeIn K (.ref p) = some (.type "member_descriptor")) (s : PySem.W.slotIn K p C = some i) : HasSlot K C f i := ⟨p, a, g, t, y, s⟩
theorem HasBR2.mk' {K : PySem.W.Frag} {C : Addr} {nm q : Str} {N : Addr} {bs bm : List Value} {sn : List Str} {sub : List Value} {ab : Bool} {col : Option Bool} {dd : Option Addr} {k0 k1 k2 k3 k5 : Option Value} (l : K.lookup C = some (excClassObj nm q C N bs bm true sn sub ab col dd k0 k1 k2 k3 k5 "ValueError.__new__")) (r : PySem.HandSPX.refsVE bm = true) : HasBR2 K C :=
  ⟨nm, q, N, bs, bm, sn, sub, ab, col, dd, k0, k1, k2, k3, k5, l, r⟩
theorem HasBR3.mk' {K : PySem.W.Frag} {C f : Addr} {oc : Value} {od : Option Addr} {kV doc pm ct : Value} {an : Option Addr} {cda cc : Addr} {sl : Array (Option Value)} {ocl : Value} {odd : Option Addr} {vs : Array Value} {sl2 : Array (Option Value)} {file : Str} {tf : Tok} {cl : Value} {cld : Option Addr} {csl : Array (Option Value)}
    (a : PySem.W.findIn K (.ref C) "__init__" = some (some (.ref f))) (t : PySem.W.typeIn K (.ref f) = some (.type "function"))
    (l : K.lookup f = some ⟨oc, od, .func (PySem.W.ksFn "__init__" "BadRow.__init__" (defArgs s_br_init) (defBody s_br_init) (defScope s_br_init) .none kV doc pm an (.ref cda) ct cc), sl⟩) (c : PySem.W.codeIn K (.ref cda) "BadRow.__init__" = true) (lc : K.lookup cda = some ⟨ocl, odd, .fields vs, sl2⟩) (v2 : vs[2]? = some (.str file tf))
    (fl : ((PySem.Challenge.pw_whichfirm_k35_whole_sessions.main.file : Str) == file) = true) (lcc : K.lookup cc = some ⟨cl, cld, .cell (some (.ref C)), csl⟩) : HasBR3 K C f := ⟨oc, od, kV, doc, pm, ct, an, cda, cc, sl, ocl, odd, vs, sl2, file, tf, cl, cld, csl, a, t, l, c, lc, v2, fl, lcc⟩
theorem cls_mk {K : PySem.W.Frag} {C : Addr} {cd : ClassData} (h : PySem.W.clsIn K C = some cd) : ∃ cdD, PySem.W.clsIn K C = some cdD := ⟨cd, h⟩
theorem kit_self (K : PySem.W.Frag) (C : Addr) : PySem.W.kitOne K (.ref C) (.ref C) = some true := by
  unfold PySem.W.kitOne
  rw [if_pos (by simp)]

theorem all_mk {w : World} {K : PySem.W.Frag} {h : Heap} {mg : Str → Option Value} {fa cSh cSe cTr cBC cND cBR iBR : Addr} (X : K.In h) (G : h.Ns mainGlobals mg) (hfa : mg "law" = some (.ref fa))
    (h_Shelf : HasShC K cSh)
    (h_Session : HasCls K "Session" cSe "base" "now" "notes" "past" "mark")
    (h_Trial : HasCls K "Trial" cTr "session" "now" "notes" "past" "mark")
    (h_br1 : HasBR1 K cBR)
    (h_br3 : HasBR3 K cBR iBR)
    (h_BadCommand : HasEx K "BadCommand" cBC)
    (h_NothingDone : HasEx K "NothingDone" cND)
    (h_rows : HasSlot K cSh "rows" 1)
    (h_many : HasSlot K cSh "many" 0)
    (h_br2 : HasBR2 K cBR)
    (h_up : PySem.W.ks_superIn K cBR cBR "__init__" = some (some (.builtin "ValueError.__init__")))
    (h_cls : ∃ cdD, PySem.W.clsIn K cBR = some cdD)
    (h_d_is_integer : HasDef K "is_integer" s_is_integer)
    (h_d_is_entry : HasDef K "is_entry" s_is_entry)
    (h_d_is_edition : HasDef K "is_edition" s_is_edition)
    (h_d_commands_in : HasDef K "commands_in" s_commands_in)
    (h_d_check_shelf : HasDef K "check_shelf" s_check_shelf)
    (h_d_entry_at : HasDef K "entry_at" s_entry_at)
    (h_d_is_doubt : HasDef K "is_doubt" s_is_doubt)
    (h_d_is_pair : HasDef K "is_pair" s_is_pair)
    (h_d_check_doubt : HasDef K "check_doubt" s_check_doubt)
    (h_d_is_safe : HasDef K "is_safe" s_is_safe)
    (h_d_parts_after : HasDef K "parts_after" s_parts_after)
    (h_d_is_told : HasDef K "is_told" s_is_told)
    (h_d_is_command : HasDef K "is_command" s_is_command)
    (h_d_check_row : HasDef K "check_row" s_check_row)
    (h_d_L_cell_at : HasDef K "_law_cell_at" s_L_cell_at)
    (h_d_L_draw : HasDef K "_law_draw" s_L_draw)
    (h_d_L_number : HasDef K "_law_number" s_L_number)
    (h_d_L_next : HasDef K "_law_next" s_L_next)
    (h_d_L_pick : HasDef K "_law_pick" s_L_pick)
    (h_d_L_entry : HasDef K "_law_entry" s_L_entry)
    (h_d_L_line : HasDef K "_law_line" s_L_line)
    (h_d_L_shelf : HasDef K "_law_shelf" s_L_shelf)
    (h_d_L_pairs : HasDef K "_law_pairs" s_L_pairs)
    (h_d_L_doubt : HasDef K "_law_doubt" s_L_doubt)
    (h_d_L_at : HasDef K "_law_at" s_L_at)
    (h_d_L_width : HasDef K "_law_width" s_L_width)
    (h_d_L_safe : HasDef K "_law_safe" s_L_safe)
    (h_d_L_parts : HasDef K "_law_parts" s_L_parts)
    (h_d_L_told : HasDef K "_law_told" s_L_told)
    (h_d_L_step : HasDef K "_law_step" s_L_step)
    (h_d_L_give : HasDef K "_law_give" s_L_give)
    (h_d_L_empty : HasDef K "_law_empty" s_L_empty)
    (h_d_L_is_at : HasDef K "_law_is_at" s_L_is_at)
    (h_d_L_tried_right : HasDef K "_law_tried_right" s_L_tried_right)
    (h_d_L_session_right : HasDef K "_law_session_right" s_L_session_right)
    (h_d_law : HasDef K "law" s_law)
    (h_sh_init : HasMet K cSh "__init__" "Shelf.__init__" s_sh_init)
    (h_sh_len : HasMet K cSh "__len__" "Shelf.__len__" s_sh_len)
    (h_sh_eds : HasPro K cSh "editions" "Shelf.editions" s_sh_eds)
    (h_se_init : HasMet K cSe "__init__" "Session.__init__" s_se_init)
    (h_se_len : HasMet K cSe "__len__" "Session.__len__" s_se_len)
    (h_se_iter : HasMet K cSe "__iter__" "Session.__iter__" s_se_iter)
    (h_se_doubt : HasPro K cSe "doubt" "Session.doubt" s_se_doubt)
    (h_se_journal : HasPro K cSe "journal" "Session.journal" s_se_journal)
    (h_se_give : HasMet K cSe "give" "Session.give" s_se_give)
    (h_se_told : HasMet K cSe "told" "Session.told" s_se_told)
    (h_se_undo : HasMet K cSe "undo" "Session.undo" s_se_undo)
    (h_se_branch : HasMet K cSe "branch" "Session.branch" s_se_branch)
    (h_se_trial : HasMet K cSe "trial" "Session.trial" s_se_trial)
    (h_se_tried : HasMet K cSe "tried" "Session.tried" s_se_tried)
    (h_tr_init : HasMet K cTr "__init__" "Trial.__init__" s_tr_init)
    (h_tr_enter : HasMet K cTr "__enter__" "Trial.__enter__" s_tr_enter)
    (h_tr_exit : HasMet K cTr "__exit__" "Trial.__exit__" s_tr_exit)
    (h_MAX_EDITIONS : HasCon K "MAX_EDITIONS" 4)
    (h_MAX_STATES : HasCon K "MAX_STATES" 3)
    (h_MAX_PAIRS : HasCon K "MAX_PAIRS" 8)
    (h_MAX_COMMANDS : HasCon K "MAX_COMMANDS" 3)
    (h_MAX_REPLY : HasCon K "MAX_REPLY" 2)
    (h_MAX_ROW : HasCon K "MAX_ROW" 8)
    (h_b_isinstance : PySem.W.nsIn K mainGlobals "isinstance" = some none)
    (h_b_len : PySem.W.nsIn K mainGlobals "len" = some none)
    (h_b_int : PySem.W.nsIn K mainGlobals "int" = some none)
    (h_b_bool : PySem.W.nsIn K mainGlobals "bool" = some none)
    (h_b_tuple : PySem.W.nsIn K mainGlobals "tuple" = some none)
    (h_b_list : PySem.W.nsIn K mainGlobals "list" = some none)
    (h_b_min : PySem.W.nsIn K mainGlobals "min" = some none)
    (h_b_max : PySem.W.nsIn K mainGlobals "max" = some none)
    (h_b_range : PySem.W.nsIn K mainGlobals "range" = some none)
    (h_b_all : PySem.W.nsIn K mainGlobals "all" = some none)
    (h_b_dict : PySem.W.nsIn K mainGlobals "dict" = some none)
    (h_b_sorted : PySem.W.nsIn K mainGlobals "sorted" = some none)
    (h_b_enumerate : PySem.W.nsIn K mainGlobals "enumerate" = some none)
    (h_b_iter : PySem.W.nsIn K mainGlobals "iter" = some none)
    (h_b_zip : PySem.W.nsIn K mainGlobals "zip" = some none)
    : ∃ fd : FuncData, (∀ (s : Shared) (u : Value), BindsTo s fd ⟨[u], []⟩ [("_law_script", u)]) ∧ ∀ base : Heap, K.In base → base.Ns mainGlobals mg → FnOk PySem.Challenge.pw_whichfirm_k35_whole_sessions w K mg base CX0 21 fa fd ["_law_script"] (spLaw K) := by
  obtain ⟨f_d_is_integer, oc, od, kV, doc, pm, an, cd, ct, sl, a_d_is_integer, l_d_is_integer, c_d_is_integer, k_d_is_integer⟩ := h_d_is_integer
  have F_d_is_integer := fun_mk (st := s_is_integer) l_d_is_integer c_d_is_integer k_d_is_integer
  have B_d_is_integer := F_d_is_integer.binds (ps := ["value", "low", "high"]) fun _ _ _ _ _ _ us hl => match us, hl with | [_, _, _], _ => rfl
  have D_d_is_integer : DefA K mg "is_integer" s_is_integer ["value", "low", "high"] := ⟨_, _, F_d_is_integer, PySem.W.mg_of X G a_d_is_integer, B_d_is_integer⟩
  clear F_d_is_integer B_d_is_integer a_d_is_integer l_d_is_integer c_d_is_integer k_d_is_integer
  obtain ⟨f_d_is_entry, oc, od, kV, doc, pm, an, cd, ct, sl, a_d_is_entry, l_d_is_entry, c_d_is_entry, k_d_is_entry⟩ := h_d_is_entry
  have F_d_is_entry := fun_mk (st := s_is_entry) l_d_is_entry c_d_is_entry k_d_is_entry
  have B_d_is_entry := F_d_is_entry.binds (ps := ["value", "states"]) fun _ _ _ _ _ _ us hl => match us, hl with | [_, _], _ => rfl
  have D_d_is_entry : DefA K mg "is_entry" s_is_entry ["value", "states"] := ⟨_, _, F_d_is_entry, PySem.W.mg_of X G a_d_is_entry, B_d_is_entry⟩
  clear F_d_is_entry B_d_is_entry a_d_is_entry l_d_is_entry c_d_is_entry k_d_is_entry
  obtain ⟨f_d_is_edition, oc, od, kV, doc, pm, an, cd, ct, sl, a_d_is_edition, l_d_is_edition, c_d_is_edition, k_d_is_edition⟩ := h_d_is_edition
  have F_d_is_edition := fun_mk (st := s_is_edition) l_d_is_edition c_d_is_edition k_d_is_edition
  have B_d_is_edition := F_d_is_edition.binds (ps := ["value", "commands"]) fun _ _ _ _ _ _ us hl => match us, hl with | [_, _], _ => rfl
  have D_d_is_edition : DefA K mg "is_edition" s_is_edition ["value", "commands"] := ⟨_, _, F_d_is_edition, PySem.W.mg_of X G a_d_is_edition, B_d_is_edition⟩
  clear F_d_is_edition B_d_is_edition a_d_is_edition l_d_is_edition c_d_is_edition k_d_is_edition
  obtain ⟨f_d_commands_in, oc, od, kV, doc, pm, an, cd, ct, sl, a_d_commands_in, l_d_commands_in, c_d_commands_in, k_d_commands_in⟩ := h_d_commands_in
  have F_d_commands_in := fun_mk (st := s_commands_in) l_d_commands_in c_d_commands_in k_d_commands_in
  have B_d_commands_in := F_d_commands_in.binds (ps := ["value"]) fun _ _ _ _ _ _ us hl => match us, hl with | [_], _ => rfl
  have D_d_commands_in : DefA K mg "commands_in" s_commands_in ["value"] := ⟨_, _, F_d_commands_in, PySem.W.mg_of X G a_d_commands_in, B_d_commands_in⟩
  clear F_d_commands_in B_d_commands_in a_d_commands_in l_d_commands_in c_d_commands_in k_d_commands_in
  obtain ⟨f_d_check_shelf, oc, od, kV, doc, pm, an, cd, ct, sl, a_d_check_shelf, l_d_check_shelf, c_d_check_shelf, k_d_check_shelf⟩ := h_d_check_shelf
  have F_d_check_shelf := fun_mk (st := s_check_shelf) l_d_check_shelf c_d_check_shelf k_d_check_shelf
  have B_d_check_shelf := F_d_check_shelf.binds (ps := ["shelf"]) fun _ _ _ _ _ _ us hl => match us, hl with | [_], _ => rfl
  have D_d_check_shelf : DefA K mg "check_shelf" s_check_shelf ["shelf"] := ⟨_, _, F_d_check_shelf, PySem.W.mg_of X G a_d_check_shelf, B_d_check_shelf⟩
  clear F_d_check_shelf B_d_check_shelf a_d_check_shelf l_d_check_shelf c_d_check_shelf k_d_check_shelf
  obtain ⟨f_d_entry_at, oc, od, kV, doc, pm, an, cd, ct, sl, a_d_entry_at, l_d_entry_at, c_d_entry_at, k_d_entry_at⟩ := h_d_entry_at
  have F_d_entry_at := fun_mk (st := s_entry_at) l_d_entry_at c_d_entry_at k_d_entry_at
  have B_d_entry_at := F_d_entry_at.binds (ps := ["shelf", "pair", "command"]) fun _ _ _ _ _ _ us hl => match us, hl with | [_, _, _], _ => rfl
  have D_d_entry_at : DefA K mg "entry_at" s_entry_at ["shelf", "pair", "command"] := ⟨_, _, F_d_entry_at, PySem.W.mg_of X G a_d_entry_at, B_d_entry_at⟩
  clear F_d_entry_at B_d_entry_at a_d_entry_at l_d_entry_at c_d_entry_at k_d_entry_at
  obtain ⟨f_d_is_doubt, oc, od, kV, doc, pm, an, cd, ct, sl, a_d_is_doubt, l_d_is_doubt, c_d_is_doubt, k_d_is_doubt⟩ := h_d_is_doubt
  have F_d_is_doubt := fun_mk (st := s_is_doubt) l_d_is_doubt c_d_is_doubt k_d_is_doubt
  have B_d_is_doubt := F_d_is_doubt.binds (ps := ["shelf", "value"]) fun _ _ _ _ _ _ us hl => match us, hl with | [_, _], _ => rfl
  have D_d_is_doubt : DefA K mg "is_doubt" s_is_doubt ["shelf", "value"] := ⟨_, _, F_d_is_doubt, PySem.W.mg_of X G a_d_is_doubt, B_d_is_doubt⟩
  clear F_d_is_doubt B_d_is_doubt a_d_is_doubt l_d_is_doubt c_d_is_doubt k_d_is_doubt
  obtain ⟨f_d_is_pair, oc, od, kV, doc, pm, an, cd, ct, sl, a_d_is_pair, l_d_is_pair, c_d_is_pair, k_d_is_pair⟩ := h_d_is_pair
  have F_d_is_pair := fun_mk (st := s_is_pair) l_d_is_pair c_d_is_pair k_d_is_pair
  have B_d_is_pair := F_d_is_pair.binds (ps := ["shelf", "value"]) fun _ _ _ _ _ _ us hl => match us, hl with | [_, _], _ => rfl
  have D_d_is_pair : DefA K mg "is_pair" s_is_pair ["shelf", "value"] := ⟨_, _, F_d_is_pair, PySem.W.mg_of X G a_d_is_pair, B_d_is_pair⟩
  clear F_d_is_pair B_d_is_pair a_d_is_pair l_d_is_pair c_d_is_pair k_d_is_pair
  obtain ⟨f_d_check_doubt, oc, od, kV, doc, pm, an, cd, ct, sl, a_d_check_doubt, l_d_check_doubt, c_d_check_doubt, k_d_check_doubt⟩ := h_d_check_doubt
  have F_d_check_doubt := fun_mk (st := s_check_doubt) l_d_check_doubt c_d_check_doubt k_d_check_doubt
  have B_d_check_doubt := F_d_check_doubt.binds (ps := ["shelf", "doubt"]) fun _ _ _ _ _ _ us hl => match us, hl with | [_, _], _ => rfl
  have D_d_check_doubt : DefA K mg "check_doubt" s_check_doubt ["shelf", "doubt"] := ⟨_, _, F_d_check_doubt, PySem.W.mg_of X G a_d_check_doubt, B_d_check_doubt⟩
  clear F_d_check_doubt B_d_check_doubt a_d_check_doubt l_d_check_doubt c_d_check_doubt k_d_check_doubt
  obtain ⟨f_d_is_safe, oc, od, kV, doc, pm, an, cd, ct, sl, a_d_is_safe, l_d_is_safe, c_d_is_safe, k_d_is_safe⟩ := h_d_is_safe
  have F_d_is_safe := fun_mk (st := s_is_safe) l_d_is_safe c_d_is_safe k_d_is_safe
  have B_d_is_safe := F_d_is_safe.binds (ps := ["shelf", "doubt", "command"]) fun _ _ _ _ _ _ us hl => match us, hl with | [_, _, _], _ => rfl
  have D_d_is_safe : DefA K mg "is_safe" s_is_safe ["shelf", "doubt", "command"] := ⟨_, _, F_d_is_safe, PySem.W.mg_of X G a_d_is_safe, B_d_is_safe⟩
  clear F_d_is_safe B_d_is_safe a_d_is_safe l_d_is_safe c_d_is_safe k_d_is_safe
  obtain ⟨f_d_parts_after, oc, od, kV, doc, pm, an, cd, ct, sl, a_d_parts_after, l_d_parts_after, c_d_parts_after, k_d_parts_after⟩ := h_d_parts_after
  have F_d_parts_after := fun_mk (st := s_parts_after) l_d_parts_after c_d_parts_after k_d_parts_after
  have B_d_parts_after := F_d_parts_after.binds (ps := ["shelf", "doubt", "command"]) fun _ _ _ _ _ _ us hl => match us, hl with | [_, _, _], _ => rfl
  have D_d_parts_after : DefA K mg "parts_after" s_parts_after ["shelf", "doubt", "command"] := ⟨_, _, F_d_parts_after, PySem.W.mg_of X G a_d_parts_after, B_d_parts_after⟩
  clear F_d_parts_after B_d_parts_after a_d_parts_after l_d_parts_after c_d_parts_after k_d_parts_after
  obtain ⟨f_d_is_told, oc, od, kV, doc, pm, an, cd, ct, sl, a_d_is_told, l_d_is_told, c_d_is_told, k_d_is_told⟩ := h_d_is_told
  have F_d_is_told := fun_mk (st := s_is_told) l_d_is_told c_d_is_told k_d_is_told
  have B_d_is_told := F_d_is_told.binds (ps := ["doubt"]) fun _ _ _ _ _ _ us hl => match us, hl with | [_], _ => rfl
  have D_d_is_told : DefA K mg "is_told" s_is_told ["doubt"] := ⟨_, _, F_d_is_told, PySem.W.mg_of X G a_d_is_told, B_d_is_told⟩
  clear F_d_is_told B_d_is_told a_d_is_told l_d_is_told c_d_is_told k_d_is_told
  obtain ⟨f_d_is_command, oc, od, kV, doc, pm, an, cd, ct, sl, a_d_is_command, l_d_is_command, c_d_is_command, k_d_is_command⟩ := h_d_is_command
  have F_d_is_command := fun_mk (st := s_is_command) l_d_is_command c_d_is_command k_d_is_command
  have B_d_is_command := F_d_is_command.binds (ps := ["shelf", "value"]) fun _ _ _ _ _ _ us hl => match us, hl with | [_, _], _ => rfl
  have D_d_is_command : DefA K mg "is_command" s_is_command ["shelf", "value"] := ⟨_, _, F_d_is_command, PySem.W.mg_of X G a_d_is_command, B_d_is_command⟩
  clear F_d_is_command B_d_is_command a_d_is_command l_d_is_command c_d_is_command k_d_is_command
  obtain ⟨f_d_check_row, oc, od, kV, doc, pm, an, cd, ct, sl, a_d_check_row, l_d_check_row, c_d_check_row, k_d_check_row⟩ := h_d_check_row
  have F_d_check_row := fun_mk (st := s_check_row) l_d_check_row c_d_check_row k_d_check_row
  have B_d_check_row := F_d_check_row.binds (ps := ["shelf", "commands"]) fun _ _ _ _ _ _ us hl => match us, hl with | [_, _], _ => rfl
  have D_d_check_row : DefA K mg "check_row" s_check_row ["shelf", "commands"] := ⟨_, _, F_d_check_row, PySem.W.mg_of X G a_d_check_row, B_d_check_row⟩
  clear F_d_check_row B_d_check_row a_d_check_row l_d_check_row c_d_check_row k_d_check_row
  obtain ⟨f_d_L_cell_at, oc, od, kV, doc, pm, an, cd, ct, sl, a_d_L_cell_at, l_d_L_cell_at, c_d_L_cell_at, k_d_L_cell_at⟩ := h_d_L_cell_at
  have F_d_L_cell_at := fun_mk (st := s_L_cell_at) l_d_L_cell_at c_d_L_cell_at k_d_L_cell_at
  have B_d_L_cell_at := F_d_L_cell_at.binds (ps := ["_law_script", "_law_k"]) fun _ _ _ _ _ _ us hl => match us, hl with | [_, _], _ => rfl
  have D_d_L_cell_at : DefA K mg "_law_cell_at" s_L_cell_at ["_law_script", "_law_k"] := ⟨_, _, F_d_L_cell_at, PySem.W.mg_of X G a_d_L_cell_at, B_d_L_cell_at⟩
  clear F_d_L_cell_at B_d_L_cell_at a_d_L_cell_at l_d_L_cell_at c_d_L_cell_at k_d_L_cell_at
  obtain ⟨f_d_L_draw, oc, od, kV, doc, pm, an, cd, ct, sl, a_d_L_draw, l_d_L_draw, c_d_L_draw, k_d_L_draw⟩ := h_d_L_draw
  have F_d_L_draw := fun_mk (st := s_L_draw) l_d_L_draw c_d_L_draw k_d_L_draw
  have B_d_L_draw := F_d_L_draw.binds (ps := ["_law_cell", "_law_k", "_law_bound"]) fun _ _ _ _ _ _ us hl => match us, hl with | [_, _, _], _ => rfl
  have D_d_L_draw : DefA K mg "_law_draw" s_L_draw ["_law_cell", "_law_k", "_law_bound"] := ⟨_, _, F_d_L_draw, PySem.W.mg_of X G a_d_L_draw, B_d_L_draw⟩
  clear F_d_L_draw B_d_L_draw a_d_L_draw l_d_L_draw c_d_L_draw k_d_L_draw
  obtain ⟨f_d_L_number, oc, od, kV, doc, pm, an, cd, ct, sl, a_d_L_number, l_d_L_number, c_d_L_number, k_d_L_number⟩ := h_d_L_number
  have F_d_L_number := fun_mk (st := s_L_number) l_d_L_number c_d_L_number k_d_L_number
  have B_d_L_number := F_d_L_number.binds (ps := ["_law_cell", "_law_k", "_law_bound"]) fun _ _ _ _ _ _ us hl => match us, hl with | [_, _, _], _ => rfl
  have D_d_L_number : DefA K mg "_law_number" s_L_number ["_law_cell", "_law_k", "_law_bound"] := ⟨_, _, F_d_L_number, PySem.W.mg_of X G a_d_L_number, B_d_L_number⟩
  clear F_d_L_number B_d_L_number a_d_L_number l_d_L_number c_d_L_number k_d_L_number
  obtain ⟨f_d_L_next, oc, od, kV, doc, pm, an, cd, ct, sl, a_d_L_next, l_d_L_next, c_d_L_next, k_d_L_next⟩ := h_d_L_next
  have F_d_L_next := fun_mk (st := s_L_next) l_d_L_next c_d_L_next k_d_L_next
  have B_d_L_next := F_d_L_next.binds (ps := ["_law_draw_here", "_law_bound"]) fun _ _ _ _ _ _ us hl => match us, hl with | [_, _], _ => rfl
  have D_d_L_next : DefA K mg "_law_next" s_L_next ["_law_draw_here", "_law_bound"] := ⟨_, _, F_d_L_next, PySem.W.mg_of X G a_d_L_next, B_d_L_next⟩
  clear F_d_L_next B_d_L_next a_d_L_next l_d_L_next c_d_L_next k_d_L_next
  obtain ⟨f_d_L_pick, oc, od, kV, doc, pm, an, cd, ct, sl, a_d_L_pick, l_d_L_pick, c_d_L_pick, k_d_L_pick⟩ := h_d_L_pick
  have F_d_L_pick := fun_mk (st := s_L_pick) l_d_L_pick c_d_L_pick k_d_L_pick
  have B_d_L_pick := F_d_L_pick.binds (ps := ["_law_draw_here", "_law_things"]) fun _ _ _ _ _ _ us hl => match us, hl with | [_, _], _ => rfl
  have D_d_L_pick : DefA K mg "_law_pick" s_L_pick ["_law_draw_here", "_law_things"] := ⟨_, _, F_d_L_pick, PySem.W.mg_of X G a_d_L_pick, B_d_L_pick⟩
  clear F_d_L_pick B_d_L_pick a_d_L_pick l_d_L_pick c_d_L_pick k_d_L_pick
  obtain ⟨f_d_L_entry, oc, od, kV, doc, pm, an, cd, ct, sl, a_d_L_entry, l_d_L_entry, c_d_L_entry, k_d_L_entry⟩ := h_d_L_entry
  have F_d_L_entry := fun_mk (st := s_L_entry) l_d_L_entry c_d_L_entry k_d_L_entry
  have B_d_L_entry := F_d_L_entry.binds (ps := ["_law_draw_here", "_law_many"]) fun _ _ _ _ _ _ us hl => match us, hl with | [_, _], _ => rfl
  have D_d_L_entry : DefA K mg "_law_entry" s_L_entry ["_law_draw_here", "_law_many"] := ⟨_, _, F_d_L_entry, PySem.W.mg_of X G a_d_L_entry, B_d_L_entry⟩
  clear F_d_L_entry B_d_L_entry a_d_L_entry l_d_L_entry c_d_L_entry k_d_L_entry
  obtain ⟨f_d_L_line, oc, od, kV, doc, pm, an, cd, ct, sl, a_d_L_line, l_d_L_line, c_d_L_line, k_d_L_line⟩ := h_d_L_line
  have F_d_L_line := fun_mk (st := s_L_line) l_d_L_line c_d_L_line k_d_L_line
  have B_d_L_line := F_d_L_line.binds (ps := ["_law_draw_here", "_law_width_here", "_law_many"]) fun _ _ _ _ _ _ us hl => match us, hl with | [_, _, _], _ => rfl
  have D_d_L_line : DefA K mg "_law_line" s_L_line ["_law_draw_here", "_law_width_here", "_law_many"] := ⟨_, _, F_d_L_line, PySem.W.mg_of X G a_d_L_line, B_d_L_line⟩
  clear F_d_L_line B_d_L_line a_d_L_line l_d_L_line c_d_L_line k_d_L_line
  obtain ⟨f_d_L_shelf, oc, od, kV, doc, pm, an, cd, ct, sl, a_d_L_shelf, l_d_L_shelf, c_d_L_shelf, k_d_L_shelf⟩ := h_d_L_shelf
  have F_d_L_shelf := fun_mk (st := s_L_shelf) l_d_L_shelf c_d_L_shelf k_d_L_shelf
  have B_d_L_shelf := F_d_L_shelf.binds (ps := ["_law_draw_here"]) fun _ _ _ _ _ _ us hl => match us, hl with | [_], _ => rfl
  have D_d_L_shelf : DefA K mg "_law_shelf" s_L_shelf ["_law_draw_here"] := ⟨_, _, F_d_L_shelf, PySem.W.mg_of X G a_d_L_shelf, B_d_L_shelf⟩
  clear F_d_L_shelf B_d_L_shelf a_d_L_shelf l_d_L_shelf c_d_L_shelf k_d_L_shelf
  obtain ⟨f_d_L_pairs, oc, od, kV, doc, pm, an, cd, ct, sl, a_d_L_pairs, l_d_L_pairs, c_d_L_pairs, k_d_L_pairs⟩ := h_d_L_pairs
  have F_d_L_pairs := fun_mk (st := s_L_pairs) l_d_L_pairs c_d_L_pairs k_d_L_pairs
  have B_d_L_pairs := F_d_L_pairs.binds (ps := ["_law_shelf_here"]) fun _ _ _ _ _ _ us hl => match us, hl with | [_], _ => rfl
  have D_d_L_pairs : DefA K mg "_law_pairs" s_L_pairs ["_law_shelf_here"] := ⟨_, _, F_d_L_pairs, PySem.W.mg_of X G a_d_L_pairs, B_d_L_pairs⟩
  clear F_d_L_pairs B_d_L_pairs a_d_L_pairs l_d_L_pairs c_d_L_pairs k_d_L_pairs
  obtain ⟨f_d_L_doubt, oc, od, kV, doc, pm, an, cd, ct, sl, a_d_L_doubt, l_d_L_doubt, c_d_L_doubt, k_d_L_doubt⟩ := h_d_L_doubt
  have F_d_L_doubt := fun_mk (st := s_L_doubt) l_d_L_doubt c_d_L_doubt k_d_L_doubt
  have B_d_L_doubt := F_d_L_doubt.binds (ps := ["_law_draw_here", "_law_shelf_here"]) fun _ _ _ _ _ _ us hl => match us, hl with | [_, _], _ => rfl
  have D_d_L_doubt : DefA K mg "_law_doubt" s_L_doubt ["_law_draw_here", "_law_shelf_here"] := ⟨_, _, F_d_L_doubt, PySem.W.mg_of X G a_d_L_doubt, B_d_L_doubt⟩
  clear F_d_L_doubt B_d_L_doubt a_d_L_doubt l_d_L_doubt c_d_L_doubt k_d_L_doubt
  obtain ⟨f_d_L_at, oc, od, kV, doc, pm, an, cd, ct, sl, a_d_L_at, l_d_L_at, c_d_L_at, k_d_L_at⟩ := h_d_L_at
  have F_d_L_at := fun_mk (st := s_L_at) l_d_L_at c_d_L_at k_d_L_at
  have B_d_L_at := F_d_L_at.binds (ps := ["_law_shelf_here", "_law_pair", "_law_command"]) fun _ _ _ _ _ _ us hl => match us, hl with | [_, _, _], _ => rfl
  have D_d_L_at : DefA K mg "_law_at" s_L_at ["_law_shelf_here", "_law_pair", "_law_command"] := ⟨_, _, F_d_L_at, PySem.W.mg_of X G a_d_L_at, B_d_L_at⟩
  clear F_d_L_at B_d_L_at a_d_L_at l_d_L_at c_d_L_at k_d_L_at
  obtain ⟨f_d_L_width, oc, od, kV, doc, pm, an, cd, ct, sl, a_d_L_width, l_d_L_width, c_d_L_width, k_d_L_width⟩ := h_d_L_width
  have F_d_L_width := fun_mk (st := s_L_width) l_d_L_width c_d_L_width k_d_L_width
  have B_d_L_width := F_d_L_width.binds (ps := ["_law_shelf_here"]) fun _ _ _ _ _ _ us hl => match us, hl with | [_], _ => rfl
  have D_d_L_width : DefA K mg "_law_width" s_L_width ["_law_shelf_here"] := ⟨_, _, F_d_L_width, PySem.W.mg_of X G a_d_L_width, B_d_L_width⟩
  clear F_d_L_width B_d_L_width a_d_L_width l_d_L_width c_d_L_width k_d_L_width
  obtain ⟨f_d_L_safe, oc, od, kV, doc, pm, an, cd, ct, sl, a_d_L_safe, l_d_L_safe, c_d_L_safe, k_d_L_safe⟩ := h_d_L_safe
  have F_d_L_safe := fun_mk (st := s_L_safe) l_d_L_safe c_d_L_safe k_d_L_safe
  have B_d_L_safe := F_d_L_safe.binds (ps := ["_law_shelf_here", "_law_doubt_here"]) fun _ _ _ _ _ _ us hl => match us, hl with | [_, _], _ => rfl
  have D_d_L_safe : DefA K mg "_law_safe" s_L_safe ["_law_shelf_here", "_law_doubt_here"] := ⟨_, _, F_d_L_safe, PySem.W.mg_of X G a_d_L_safe, B_d_L_safe⟩
  clear F_d_L_safe B_d_L_safe a_d_L_safe l_d_L_safe c_d_L_safe k_d_L_safe
  obtain ⟨f_d_L_parts, oc, od, kV, doc, pm, an, cd, ct, sl, a_d_L_parts, l_d_L_parts, c_d_L_parts, k_d_L_parts⟩ := h_d_L_parts
  have F_d_L_parts := fun_mk (st := s_L_parts) l_d_L_parts c_d_L_parts k_d_L_parts
  have B_d_L_parts := F_d_L_parts.binds (ps := ["_law_shelf_here", "_law_doubt_here", "_law_command"]) fun _ _ _ _ _ _ us hl => match us, hl with | [_, _, _], _ => rfl
  have D_d_L_parts : DefA K mg "_law_parts" s_L_parts ["_law_shelf_here", "_law_doubt_here", "_law_command"] := ⟨_, _, F_d_L_parts, PySem.W.mg_of X G a_d_L_parts, B_d_L_parts⟩
  clear F_d_L_parts B_d_L_parts a_d_L_parts l_d_L_parts c_d_L_parts k_d_L_parts
  obtain ⟨f_d_L_told, oc, od, kV, doc, pm, an, cd, ct, sl, a_d_L_told, l_d_L_told, c_d_L_told, k_d_L_told⟩ := h_d_L_told
  have F_d_L_told := fun_mk (st := s_L_told) l_d_L_told c_d_L_told k_d_L_told
  have B_d_L_told := F_d_L_told.binds (ps := ["_law_doubt_here"]) fun _ _ _ _ _ _ us hl => match us, hl with | [_], _ => rfl
  have D_d_L_told : DefA K mg "_law_told" s_L_told ["_law_doubt_here"] := ⟨_, _, F_d_L_told, PySem.W.mg_of X G a_d_L_told, B_d_L_told⟩
  clear F_d_L_told B_d_L_told a_d_L_told l_d_L_told c_d_L_told k_d_L_told
  obtain ⟨f_d_L_step, oc, od, kV, doc, pm, an, cd, ct, sl, a_d_L_step, l_d_L_step, c_d_L_step, k_d_L_step⟩ := h_d_L_step
  have F_d_L_step := fun_mk (st := s_L_step) l_d_L_step c_d_L_step k_d_L_step
  have B_d_L_step := F_d_L_step.binds (ps := ["_law_shelf_here", "_law_doubt_here", "_law_pair", "_law_command"]) fun _ _ _ _ _ _ us hl => match us, hl with | [_, _, _, _], _ => rfl
  have D_d_L_step : DefA K mg "_law_step" s_L_step ["_law_shelf_here", "_law_doubt_here", "_law_pair", "_law_command"] := ⟨_, _, F_d_L_step, PySem.W.mg_of X G a_d_L_step, B_d_L_step⟩
  clear F_d_L_step B_d_L_step a_d_L_step l_d_L_step c_d_L_step k_d_L_step
  obtain ⟨f_d_L_give, oc, od, kV, doc, pm, an, cd, ct, sl, a_d_L_give, l_d_L_give, c_d_L_give, k_d_L_give⟩ := h_d_L_give
  have F_d_L_give := fun_mk (st := s_L_give) l_d_L_give c_d_L_give k_d_L_give
  have B_d_L_give := F_d_L_give.binds (ps := ["_law_session", "_law_command"]) fun _ _ _ _ _ _ us hl => match us, hl with | [_, _], _ => rfl
  have D_d_L_give : DefA K mg "_law_give" s_L_give ["_law_session", "_law_command"] := ⟨_, _, F_d_L_give, PySem.W.mg_of X G a_d_L_give, B_d_L_give⟩
  clear F_d_L_give B_d_L_give a_d_L_give l_d_L_give c_d_L_give k_d_L_give
  obtain ⟨f_d_L_empty, oc, od, kV, doc, pm, an, cd, ct, sl, a_d_L_empty, l_d_L_empty, c_d_L_empty, k_d_L_empty⟩ := h_d_L_empty
  have F_d_L_empty := fun_mk (st := s_L_empty) l_d_L_empty c_d_L_empty k_d_L_empty
  have B_d_L_empty := F_d_L_empty.binds (ps := ["_law_session"]) fun _ _ _ _ _ _ us hl => match us, hl with | [_], _ => rfl
  have D_d_L_empty : DefA K mg "_law_empty" s_L_empty ["_law_session"] := ⟨_, _, F_d_L_empty, PySem.W.mg_of X G a_d_L_empty, B_d_L_empty⟩
  clear F_d_L_empty B_d_L_empty a_d_L_empty l_d_L_empty c_d_L_empty k_d_L_empty
  obtain ⟨f_d_L_is_at, oc, od, kV, doc, pm, an, cd, ct, sl, a_d_L_is_at, l_d_L_is_at, c_d_L_is_at, k_d_L_is_at⟩ := h_d_L_is_at
  have F_d_L_is_at := fun_mk (st := s_L_is_at) l_d_L_is_at c_d_L_is_at k_d_L_is_at
  have B_d_L_is_at := F_d_L_is_at.binds (ps := ["_law_session", "_law_doubt_here", "_law_notes"]) fun _ _ _ _ _ _ us hl => match us, hl with | [_, _, _], _ => rfl
  have D_d_L_is_at : DefA K mg "_law_is_at" s_L_is_at ["_law_session", "_law_doubt_here", "_law_notes"] := ⟨_, _, F_d_L_is_at, PySem.W.mg_of X G a_d_L_is_at, B_d_L_is_at⟩
  clear F_d_L_is_at B_d_L_is_at a_d_L_is_at l_d_L_is_at c_d_L_is_at k_d_L_is_at
  obtain ⟨f_d_L_tried_right, oc, od, kV, doc, pm, an, cd, ct, sl, a_d_L_tried_right, l_d_L_tried_right, c_d_L_tried_right, k_d_L_tried_right⟩ := h_d_L_tried_right
  have F_d_L_tried_right := fun_mk (st := s_L_tried_right) l_d_L_tried_right c_d_L_tried_right k_d_L_tried_right
  have B_d_L_tried_right := F_d_L_tried_right.binds (ps := ["_law_draw_here", "_law_shelf_here", "_law_session", "_law_pair"]) fun _ _ _ _ _ _ us hl => match us, hl with | [_, _, _, _], _ => rfl
  have D_d_L_tried_right : DefA K mg "_law_tried_right" s_L_tried_right ["_law_draw_here", "_law_shelf_here", "_law_session", "_law_pair"] := ⟨_, _, F_d_L_tried_right, PySem.W.mg_of X G a_d_L_tried_right, B_d_L_tried_right⟩
  clear F_d_L_tried_right B_d_L_tried_right a_d_L_tried_right l_d_L_tried_right c_d_L_tried_right k_d_L_tried_right
  obtain ⟨f_d_L_session_right, oc, od, kV, doc, pm, an, cd, ct, sl, a_d_L_session_right, l_d_L_session_right, c_d_L_session_right, k_d_L_session_right⟩ := h_d_L_session_right
  have F_d_L_session_right := fun_mk (st := s_L_session_right) l_d_L_session_right c_d_L_session_right k_d_L_session_right
  have B_d_L_session_right := F_d_L_session_right.binds (ps := ["_law_draw_here", "_law_shelf_here", "_law_doubt_here"]) fun _ _ _ _ _ _ us hl => match us, hl with | [_, _, _], _ => rfl
  have D_d_L_session_right : DefA K mg "_law_session_right" s_L_session_right ["_law_draw_here", "_law_shelf_here", "_law_doubt_here"] := ⟨_, _, F_d_L_session_right, PySem.W.mg_of X G a_d_L_session_right, B_d_L_session_right⟩
  clear F_d_L_session_right B_d_L_session_right a_d_L_session_right l_d_L_session_right c_d_L_session_right k_d_L_session_right
  obtain ⟨f_d_law, oc, od, kV, doc, pm, an, cd, ct, sl, a_d_law, l_d_law, c_d_law, k_d_law⟩ := h_d_law
  have F_d_law := fun_mk (st := s_law) l_d_law c_d_law k_d_law
  have B_d_law := F_d_law.binds (ps := ["_law_script"]) fun _ _ _ _ _ _ us hl => match us, hl with | [_], _ => rfl
  have D_d_law : ∃ D : DefA K mg "law" s_law ["_law_script"], D.f = f_d_law ∧ (∀ (s : Shared) (u : Value), BindsTo s D.fd ⟨[u], []⟩ [("_law_script", u)]) := ⟨⟨_, _, F_d_law, PySem.W.mg_of X G a_d_law, B_d_law⟩, rfl, fun s v => .of_eq rfl⟩
  obtain ⟨f_sh_init, oc, od, kV, doc, pm, an, cd, ct, sl, a_sh_init, i_sh_init, l_sh_init, c_sh_init, k_sh_init⟩ := h_sh_init
  have F_sh_init := fun_mk (st := s_sh_init) l_sh_init c_sh_init k_sh_init
  have B_sh_init := F_sh_init.binds (ps := ["self", "editions"]) fun _ _ _ _ _ _ us hl => match us, hl with | [_, _], _ => rfl
  obtain ⟨M_sh_init, e_sh_init⟩ : ∃ M : MetA K cSh "__init__" "Shelf.__init__" s_sh_init ["self", "editions"], M.f = f_sh_init := ⟨⟨_, _, F_sh_init, ⟨a_sh_init, i_sh_init, k_sh_init⟩, B_sh_init⟩, rfl⟩
  obtain ⟨f_sh_len, oc, od, kV, doc, pm, an, cd, ct, sl, a_sh_len, i_sh_len, l_sh_len, c_sh_len, k_sh_len⟩ := h_sh_len
  have F_sh_len := fun_mk (st := s_sh_len) l_sh_len c_sh_len k_sh_len
  have B_sh_len := F_sh_len.binds (ps := ["self"]) fun _ _ _ _ _ _ us hl => match us, hl with | [_], _ => rfl
  have M_sh_len : MetA K cSh "__len__" "Shelf.__len__" s_sh_len ["self"] := ⟨_, _, F_sh_len, ⟨a_sh_len, i_sh_len, k_sh_len⟩, B_sh_len⟩
  obtain ⟨p_sh_eds, f_sh_eds, rest, oc, od, kV, doc, pm, an, cd, ct, sl, a_sh_eds, g_sh_eds, t_sh_eds, r_sh_eds, l_sh_eds, c_sh_eds, k_sh_eds⟩ := h_sh_eds
  have F_sh_eds := fun_mk (st := s_sh_eds) l_sh_eds c_sh_eds k_sh_eds
  have B_sh_eds := F_sh_eds.binds (ps := ["self"]) fun _ _ _ _ _ _ us hl => match us, hl with | [_], _ => rfl
  have M_sh_eds : ProA K cSh "editions" "Shelf.editions" s_sh_eds ["self"] := ⟨_, _, _, F_sh_eds, ⟨a_sh_eds, g_sh_eds, t_sh_eds, _, r_sh_eds⟩, B_sh_eds⟩
  obtain ⟨f_se_init, oc, od, kV, doc, pm, an, cd, ct, sl, a_se_init, i_se_init, l_se_init, c_se_init, k_se_init⟩ := h_se_init
  have F_se_init := fun_mk (st := s_se_init) l_se_init c_se_init k_se_init
  have B_se_init := F_se_init.binds (ps := ["self", "shelf", "doubt", "pair"]) fun _ _ _ _ _ _ us hl => match us, hl with | [_, _, _, _], _ => rfl
  obtain ⟨M_se_init, e_se_init⟩ : ∃ M : MetA K cSe "__init__" "Session.__init__" s_se_init ["self", "shelf", "doubt", "pair"], M.f = f_se_init := ⟨⟨_, _, F_se_init, ⟨a_se_init, i_se_init, k_se_init⟩, B_se_init⟩, rfl⟩
  obtain ⟨f_se_len, oc, od, kV, doc, pm, an, cd, ct, sl, a_se_len, i_se_len, l_se_len, c_se_len, k_se_len⟩ := h_se_len
  have F_se_len := fun_mk (st := s_se_len) l_se_len c_se_len k_se_len
  have B_se_len := F_se_len.binds (ps := ["self"]) fun _ _ _ _ _ _ us hl => match us, hl with | [_], _ => rfl
  have M_se_len : MetA K cSe "__len__" "Session.__len__" s_se_len ["self"] := ⟨_, _, F_se_len, ⟨a_se_len, i_se_len, k_se_len⟩, B_se_len⟩
  obtain ⟨f_se_iter, oc, od, kV, doc, pm, an, cd, ct, sl, a_se_iter, i_se_iter, l_se_iter, c_se_iter, k_se_iter⟩ := h_se_iter
  have F_se_iter := fun_mk (st := s_se_iter) l_se_iter c_se_iter k_se_iter
  have B_se_iter := F_se_iter.binds (ps := ["self"]) fun _ _ _ _ _ _ us hl => match us, hl with | [_], _ => rfl
  have M_se_iter : MetA K cSe "__iter__" "Session.__iter__" s_se_iter ["self"] := ⟨_, _, F_se_iter, ⟨a_se_iter, i_se_iter, k_se_iter⟩, B_se_iter⟩
  obtain ⟨p_se_doubt, f_se_doubt, rest, oc, od, kV, doc, pm, an, cd, ct, sl, a_se_doubt, g_se_doubt, t_se_doubt, r_se_doubt, l_se_doubt, c_se_doubt, k_se_doubt⟩ := h_se_doubt
  have F_se_doubt := fun_mk (st := s_se_doubt) l_se_doubt c_se_doubt k_se_doubt
  have B_se_doubt := F_se_doubt.binds (ps := ["self"]) fun _ _ _ _ _ _ us hl => match us, hl with | [_], _ => rfl
  have M_se_doubt : ProA K cSe "doubt" "Session.doubt" s_se_doubt ["self"] := ⟨_, _, _, F_se_doubt, ⟨a_se_doubt, g_se_doubt, t_se_doubt, _, r_se_doubt⟩, B_se_doubt⟩
  obtain ⟨p_se_journal, f_se_journal, rest, oc, od, kV, doc, pm, an, cd, ct, sl, a_se_journal, g_se_journal, t_se_journal, r_se_journal, l_se_journal, c_se_journal, k_se_journal⟩ := h_se_journal
  have F_se_journal := fun_mk (st := s_se_journal) l_se_journal c_se_journal k_se_journal
  have B_se_journal := F_se_journal.binds (ps := ["self"]) fun _ _ _ _ _ _ us hl => match us, hl with | [_], _ => rfl
  have M_se_journal : ProA K cSe "journal" "Session.journal" s_se_journal ["self"] := ⟨_, _, _, F_se_journal, ⟨a_se_journal, g_se_journal, t_se_journal, _, r_se_journal⟩, B_se_journal⟩
  obtain ⟨f_se_give, oc, od, kV, doc, pm, an, cd, ct, sl, a_se_give, i_se_give, l_se_give, c_se_give, k_se_give⟩ := h_se_give
  have F_se_give := fun_mk (st := s_se_give) l_se_give c_se_give k_se_give
  have B_se_give := F_se_give.binds (ps := ["self", "command"]) fun _ _ _ _ _ _ us hl => match us, hl with | [_, _], _ => rfl
  have M_se_give : MetA K cSe "give" "Session.give" s_se_give ["self", "command"] := ⟨_, _, F_se_give, ⟨a_se_give, i_se_give, k_se_give⟩, B_se_give⟩
  obtain ⟨f_se_told, oc, od, kV, doc, pm, an, cd, ct, sl, a_se_told, i_se_told, l_se_told, c_se_told, k_se_told⟩ := h_se_told
  have F_se_told := fun_mk (st := s_se_told) l_se_told c_se_told k_se_told
  have B_se_told := F_se_told.binds (ps := ["self"]) fun _ _ _ _ _ _ us hl => match us, hl with | [_], _ => rfl
  have M_se_told : MetA K cSe "told" "Session.told" s_se_told ["self"] := ⟨_, _, F_se_told, ⟨a_se_told, i_se_told, k_se_told⟩, B_se_told⟩
  obtain ⟨f_se_undo, oc, od, kV, doc, pm, an, cd, ct, sl, a_se_undo, i_se_undo, l_se_undo, c_se_undo, k_se_undo⟩ := h_se_undo
  have F_se_undo := fun_mk (st := s_se_undo) l_se_undo c_se_undo k_se_undo
  have B_se_undo := F_se_undo.binds (ps := ["self"]) fun _ _ _ _ _ _ us hl => match us, hl with | [_], _ => rfl
  have M_se_undo : MetA K cSe "undo" "Session.undo" s_se_undo ["self"] := ⟨_, _, F_se_undo, ⟨a_se_undo, i_se_undo, k_se_undo⟩, B_se_undo⟩
  obtain ⟨f_se_branch, oc, od, kV, doc, pm, an, cd, ct, sl, a_se_branch, i_se_branch, l_se_branch, c_se_branch, k_se_branch⟩ := h_se_branch
  have F_se_branch := fun_mk (st := s_se_branch) l_se_branch c_se_branch k_se_branch
  have B_se_branch := F_se_branch.binds (ps := ["self"]) fun _ _ _ _ _ _ us hl => match us, hl with | [_], _ => rfl
  have M_se_branch : MetA K cSe "branch" "Session.branch" s_se_branch ["self"] := ⟨_, _, F_se_branch, ⟨a_se_branch, i_se_branch, k_se_branch⟩, B_se_branch⟩
  obtain ⟨f_se_trial, oc, od, kV, doc, pm, an, cd, ct, sl, a_se_trial, i_se_trial, l_se_trial, c_se_trial, k_se_trial⟩ := h_se_trial
  have F_se_trial := fun_mk (st := s_se_trial) l_se_trial c_se_trial k_se_trial
  have B_se_trial := F_se_trial.binds (ps := ["self"]) fun _ _ _ _ _ _ us hl => match us, hl with | [_], _ => rfl
  have M_se_trial : MetA K cSe "trial" "Session.trial" s_se_trial ["self"] := ⟨_, _, F_se_trial, ⟨a_se_trial, i_se_trial, k_se_trial⟩, B_se_trial⟩
  obtain ⟨f_se_tried, oc, od, kV, doc, pm, an, cd, ct, sl, a_se_tried, i_se_tried, l_se_tried, c_se_tried, k_se_tried⟩ := h_se_tried
  have F_se_tried := fun_mk (st := s_se_tried) l_se_tried c_se_tried k_se_tried
  have B_se_tried := F_se_tried.binds (ps := ["self", "commands"]) fun _ _ _ _ _ _ us hl => match us, hl with | [_, _], _ => rfl
  have M_se_tried : MetA K cSe "tried" "Session.tried" s_se_tried ["self", "commands"] := ⟨_, _, F_se_tried, ⟨a_se_tried, i_se_tried, k_se_tried⟩, B_se_tried⟩
  obtain ⟨f_tr_init, oc, od, kV, doc, pm, an, cd, ct, sl, a_tr_init, i_tr_init, l_tr_init, c_tr_init, k_tr_init⟩ := h_tr_init
  have F_tr_init := fun_mk (st := s_tr_init) l_tr_init c_tr_init k_tr_init
  have B_tr_init := F_tr_init.binds (ps := ["self", "session"]) fun _ _ _ _ _ _ us hl => match us, hl with | [_, _], _ => rfl
  obtain ⟨M_tr_init, e_tr_init⟩ : ∃ M : MetA K cTr "__init__" "Trial.__init__" s_tr_init ["self", "session"], M.f = f_tr_init := ⟨⟨_, _, F_tr_init, ⟨a_tr_init, i_tr_init, k_tr_init⟩, B_tr_init⟩, rfl⟩
  obtain ⟨f_tr_enter, oc, od, kV, doc, pm, an, cd, ct, sl, a_tr_enter, i_tr_enter, l_tr_enter, c_tr_enter, k_tr_enter⟩ := h_tr_enter
  have F_tr_enter := fun_mk (st := s_tr_enter) l_tr_enter c_tr_enter k_tr_enter
  have B_tr_enter := F_tr_enter.binds (ps := ["self"]) fun _ _ _ _ _ _ us hl => match us, hl with | [_], _ => rfl
  have M_tr_enter : MetA K cTr "__enter__" "Trial.__enter__" s_tr_enter ["self"] := ⟨_, _, F_tr_enter, ⟨a_tr_enter, i_tr_enter, k_tr_enter⟩, B_tr_enter⟩
  obtain ⟨f_tr_exit, oc, od, kV, doc, pm, an, cd, ct, sl, a_tr_exit, i_tr_exit, l_tr_exit, c_tr_exit, k_tr_exit⟩ := h_tr_exit
  have F_tr_exit := fun_mk (st := s_tr_exit) l_tr_exit c_tr_exit k_tr_exit
  have B_tr_exit := F_tr_exit.binds (ps := ["self", "kind", "value", "trace"]) fun _ _ _ _ _ _ us hl => match us, hl with | [_, _, _, _], _ => rfl
  have M_tr_exit : MetA K cTr "__exit__" "Trial.__exit__" s_tr_exit ["self", "kind", "value", "trace"] := ⟨_, _, F_tr_exit, ⟨a_tr_exit, i_tr_exit, k_tr_exit⟩, B_tr_exit⟩
  have C_MAX_EDITIONS : ConA mg "MAX_EDITIONS" 4 := h_MAX_EDITIONS.elim fun t e => ⟨t, PySem.W.mg_of X G e⟩
  have C_MAX_STATES : ConA mg "MAX_STATES" 3 := h_MAX_STATES.elim fun t e => ⟨t, PySem.W.mg_of X G e⟩
  have C_MAX_PAIRS : ConA mg "MAX_PAIRS" 8 := h_MAX_PAIRS.elim fun t e => ⟨t, PySem.W.mg_of X G e⟩
  have C_MAX_COMMANDS : ConA mg "MAX_COMMANDS" 3 := h_MAX_COMMANDS.elim fun t e => ⟨t, PySem.W.mg_of X G e⟩
  have C_MAX_REPLY : ConA mg "MAX_REPLY" 2 := h_MAX_REPLY.elim fun t e => ⟨t, PySem.W.mg_of X G e⟩
  have C_MAX_ROW : ConA mg "MAX_ROW" 8 := h_MAX_ROW.elim fun t e => ⟨t, PySem.W.mg_of X G e⟩
  have E_BadCommand : ExA K mg "BadCommand" cBC := h_BadCommand.elim fun a z => ⟨PySem.W.mg_of X G a, z.1, z.2.1, z.2.2.1, z.2.2.2.1, exm_self z.2.2.1 z.2.2.2.2.1 z.2.2.2.1 z.2.2.2.2.2⟩
  have E_NothingDone : ExA K mg "NothingDone" cND := h_NothingDone.elim fun a z => ⟨PySem.W.mg_of X G a, z.1, z.2.1, z.2.2.1, z.2.2.2.1, exm_self z.2.2.1 z.2.2.2.2.1 z.2.2.2.1 z.2.2.2.2.2⟩
  obtain ⟨s0, s1, s2, s3, s4, s5, s6, s7, s8, s9, s10⟩ := h_Shelf
  obtain ⟨u0, u1, u2, u3, u4, u5, u6, u7, u8, u9, u10, u11⟩ := h_Session
  obtain ⟨t0, t1, t2, t3, t4, t5, t6, t7, t8, t9, t10, t11⟩ := h_Trial
  obtain ⟨r0, r1, r2, r3, r4, r5, r6, r7, r8, r9, r10, r11, r12, r13, r14⟩ := h_br1
  obtain ⟨oc, od, kV, doc, pm, ct, an, cda, cc, sl, ocl, odd, vs, sl2, file, tf, cl, cld, csl, v0, v1, v2, v3, v4, v5, v6, v7⟩ := h_br3
  obtain ⟨pR, w0, w1, w2, w3, w4⟩ := h_rows
  obtain ⟨pM, x0, x1, x2, x3, x4⟩ := h_many
  have SUP : SupI PySem.Challenge.pw_whichfirm_k35_whole_sessions K mg cBR iBR "index" "not a row of commands" (PySem.W.ksFn "__init__" "BadRow.__init__" (defArgs s_br_init) (defBody s_br_init) (defScope s_br_init) .none kV doc pm an (.ref cda) ct cc) :=
    { ex := ⟨"BadRow.__init__", defArgs s_br_init, defScope s_br_init, .none, kV, doc, pm, ct, oc, ocl, cl, an, od, odd, cld, sl, sl2, csl, cc, cda, vs, file, tf, ⟨16, 8, 16, 13⟩, ⟨16, 8, 16, 15⟩, ⟨16, 8, 16, 24⟩, ⟨16, 25, 16, 48⟩, ⟨16, 8, 16, 49⟩, ⟨16, 8, 16, 49⟩, ⟨17, 8, 17, 12⟩, ⟨17, 8, 17, 18⟩, ⟨17, 21, 17, 26⟩, ⟨17, 8, 17, 26⟩, _, _, rfl, v2, v3, v4, v5, v6, v7, rfl, rfl, rfl, rfl, rfl, rfl, fun env => ⟨_, rfl⟩, fun env => rfl, fun env => rfl⟩
      top := by rfl
      mg := PySem.W.mg_none_of X G r14
      boot := by decide +kernel
      cs := r11
      up := h_up
      sub := r12
      mro := r13
      cls := h_cls }
  have SB : Binds K (PySem.W.ksFn "__init__" "BadRow.__init__" (defArgs s_br_init) (defBody s_br_init) (defScope s_br_init) .none kV doc pm an (.ref cda) ct cc) ["self", "index"] [] := Binds.all fun us hl => match us, hl with | [_, _], _ => rfl
  obtain ⟨D_law, el1, el2⟩ := D_d_law
  have T : ∃ T : Top PySem.Challenge.pw_whichfirm_k35_whole_sessions K mg, T.d_law = D_law := ⟨{
    cSh := cSh, cSe := cSe, cTr := cTr, cBC := cBC, cND := cND, cBR := cBR, iBR := iBR, dBR := _, pRw := pR, pMn := pM
    d_is_integer := D_d_is_integer
    d_is_entry := D_d_is_entry
    d_is_edition := D_d_is_edition
    d_commands_in := D_d_commands_in
    d_check_shelf := D_d_check_shelf
    d_entry_at := D_d_entry_at
    d_is_doubt := D_d_is_doubt
    d_is_pair := D_d_is_pair
    d_check_doubt := D_d_check_doubt
    d_is_safe := D_d_is_safe
    d_parts_after := D_d_parts_after
    d_is_told := D_d_is_told
    d_is_command := D_d_is_command
    d_check_row := D_d_check_row
    d_L_cell_at := D_d_L_cell_at
    d_L_draw := D_d_L_draw
    d_L_number := D_d_L_number
    d_L_next := D_d_L_next
    d_L_pick := D_d_L_pick
    d_L_entry := D_d_L_entry
    d_L_line := D_d_L_line
    d_L_shelf := D_d_L_shelf
    d_L_pairs := D_d_L_pairs
    d_L_doubt := D_d_L_doubt
    d_L_at := D_d_L_at
    d_L_width := D_d_L_width
    d_L_safe := D_d_L_safe
    d_L_parts := D_d_L_parts
    d_L_told := D_d_L_told
    d_L_step := D_d_L_step
    d_L_give := D_d_L_give
    d_L_empty := D_d_L_empty
    d_L_is_at := D_d_L_is_at
    d_L_tried_right := D_d_L_tried_right
    d_L_session_right := D_d_L_session_right
    d_law := D_law
    sh_init := M_sh_init
    sh_len := M_sh_len
    sh_eds := M_sh_eds
    se_init := M_se_init
    se_len := M_se_len
    se_iter := M_se_iter
    se_doubt := M_se_doubt
    se_journal := M_se_journal
    se_give := M_se_give
    se_told := M_se_told
    se_undo := M_se_undo
    se_branch := M_se_branch
    se_trial := M_se_trial
    se_tried := M_se_tried
    tr_init := M_tr_init
    tr_enter := M_tr_enter
    tr_exit := M_tr_exit
    MAX_EDITIONS := C_MAX_EDITIONS
    MAX_STATES := C_MAX_STATES
    MAX_PAIRS := C_MAX_PAIRS
    MAX_COMMANDS := C_MAX_COMMANDS
    MAX_REPLY := C_MAX_REPLY
    MAX_ROW := C_MAX_ROW
    b_isinstance := PySem.W.mg_none_of X G h_b_isinstance
    b_len := PySem.W.mg_none_of X G h_b_len
    b_int := PySem.W.mg_none_of X G h_b_int
    b_bool := PySem.W.mg_none_of X G h_b_bool
    b_tuple := PySem.W.mg_none_of X G h_b_tuple
    b_list := PySem.W.mg_none_of X G h_b_list
    b_min := PySem.W.mg_none_of X G h_b_min
    b_max := PySem.W.mg_none_of X G h_b_max
    b_range := PySem.W.mg_none_of X G h_b_range
    b_all := PySem.W.mg_none_of X G h_b_all
    b_dict := PySem.W.mg_none_of X G h_b_dict
    b_sorted := PySem.W.mg_none_of X G h_b_sorted
    b_enumerate := PySem.W.mg_none_of X G h_b_enumerate
    b_iter := PySem.W.mg_none_of X G h_b_iter
    b_zip := PySem.W.mg_none_of X G h_b_zip
    e_BadCommand := E_BadCommand
    e_NothingDone := E_NothingDone
    g_sh := PySem.W.mg_of X G s0
    g_se := PySem.W.mg_of X G u0
    g_tr := PySem.W.mg_of X G t0
    g_br := PySem.W.mg_of X G r0
    shC := ⟨s1, s2, s3, s4⟩
    shI := ⟨s5, s6, s7, s8⟩
    shM := e_sh_init ▸ ⟨s9, a_sh_init, i_sh_init, s10⟩
    shR := ⟨w0, w1, w2, w3, w4, by decide⟩
    shN := ⟨x0, x1, x2, x3, x4, by decide⟩
    shK := kit_self K cSh
    seC := ⟨u1, u2, u3, u4⟩
    seM := e_se_init ▸ ⟨u5, a_se_init, i_se_init, u6⟩
    seA := fun f hf => by
      simp only [List.mem_cons, List.not_mem_nil, or_false] at hf
      rcases hf with rfl | rfl | rfl | rfl | rfl
      · exact u7
      · exact u8
      · exact u9
      · exact u10
      · exact u11
    trC := ⟨t1, t2, t3, t4⟩
    trM := e_tr_init ▸ ⟨t5, a_tr_init, i_tr_init, t6⟩
    trA := fun f hf => by
      simp only [List.mem_cons, List.not_mem_nil, or_false] at hf
      rcases hf with rfl | rfl | rfl | rfl | rfl
      · exact t7
      · exact t8
      · exact t9
      · exact t10
      · exact t11
    brO := ⟨h_br2, r1, r2, r3, r4⟩
    brX := ⟨r5, r6, r2, r7⟩
    brN := r8
    brI := v0
    brT := v1
    brS := SUP
    brB := SB
    brE := exm_self r2 r9 r3 r10 }, rfl⟩
  obtain ⟨T, eT⟩ := T
  have e := hfa.symm.trans (PySem.W.mg_of X G a_d_law)
  cases e
  refine ⟨T.d_law.fd, ?_, fun base _ _ => ?_⟩
  · rw [eT]
    exact el2
  · have := ok_law (w := w) (base := base) T
    rw [eT, el1] at this
    rw [eT]
    exact this
theorem walk {l : PySem.W.OpenLaw} {q : Program} {loose : List Str} {XP : (Str → Option Value) → Heap → Prop} {YP : World → Heap → Prop} {d : DefRec} {K : Params → PySem.W.Frag} (hn : l.most = some 63) (hdf : d.params.defaults = [])
    (hY : ∀ (w : World) (h : Heap), YP w h → (K w.params).In h)
    (F : ∀ (w : World) (mg : Str → Option Value) (fa : Addr) (h : Heap), (K w.params).In h → h.Ns mainGlobals mg → mg d.name = some (.ref fa) →
      ∃ fd : FuncData, (∀ (s : Shared) (u : Value), BindsTo s fd ⟨[u], []⟩ [("_law_script", u)]) ∧ ∀ base : Heap, (K w.params).In base → base.Ns mainGlobals mg → FnOk l.prog w (K w.params) mg base CX0 21 fa fd ["_law_script"] (spLaw (K w.params))) :
    PySem.W.WalkO q loose XP YP l.row.toRowW d [] (fun f vs => PySem.call f vs) :=
  L2.walk_of (n := 63) (k := 21) (x := "_law_script") (CX := fun _ => CX0) (sp := fun w => spLaw (K w.params)) hn (by decide) hdf ⟨rfl, by decide, by decide⟩ hY F (fun _ _ a ns _ _ hS => ⟨a, ns, rfl, hS, fun _ => rfl⟩) fun _ _ _ _ _ z => z
end WF
end

set_option Elab.async false
set_option maxRecDepth 100000
set_option maxHeartbeats 0
open PySem PySem.W PyProof.Rows
open_top whead for PySem.Challenge.rw_whichfirm_k35_whole_sessions

set_option Elab.async false
set_option linter.all false
set_option maxRecDepth 100000 in
set_option maxHeartbeats 0 in
theorem PySem.Challenge.cw_whichfirm_k35_whole_sessions_holds : PySem.Challenge.rw_whichfirm_k35_whole_sessions.Holds :=
  whead (by
    k_fill
    refine WF.walk (l := PySem.Challenge.rw_whichfirm_k35_whole_sessions) rfl rfl (fun w h Y => PySem.W.kIn_of Y) ?F
    case F =>
      intro w mg fa h KX G hmg
      refine' WF.all_mk KX G hmg ?h_Shelf ?h_Session ?h_Trial ?h_br1 ?h_br3 ?h_BadCommand ?h_NothingDone ?h_rows ?h_many ?h_br2 ?h_up ?h_cls ?h_d_is_integer ?h_d_is_entry ?h_d_is_edition ?h_d_commands_in ?h_d_check_shelf ?h_d_entry_at ?h_d_is_doubt ?h_d_is_pair ?h_d_check_doubt ?h_d_is_safe ?h_d_parts_after ?h_d_is_told ?h_d_is_command ?h_d_check_row ?h_d_L_cell_at ?h_d_L_draw ?h_d_L_number ?h_d_L_next ?h_d_L_pick ?h_d_L_entry ?h_d_L_line ?h_d_L_shelf ?h_d_L_pairs ?h_d_L_doubt ?h_d_L_at ?h_d_L_width ?h_d_L_safe ?h_d_L_parts ?h_d_L_told ?h_d_L_step ?h_d_L_give ?h_d_L_empty ?h_d_L_is_at ?h_d_L_tried_right ?h_d_L_session_right ?h_d_law ?h_sh_init ?h_sh_len ?h_sh_eds ?h_se_init ?h_se_len ?h_se_iter ?h_se_doubt ?h_se_journal ?h_se_give ?h_se_told ?h_se_undo ?h_se_branch ?h_se_trial ?h_se_tried ?h_tr_init ?h_tr_enter ?h_tr_exit ?h_MAX_EDITIONS ?h_MAX_STATES ?h_MAX_PAIRS ?h_MAX_COMMANDS ?h_MAX_REPLY ?h_MAX_ROW ?h_b_isinstance ?h_b_len ?h_b_int ?h_b_bool ?h_b_tuple ?h_b_list ?h_b_min ?h_b_max ?h_b_range ?h_b_all ?h_b_dict ?h_b_sorted ?h_b_enumerate ?h_b_iter ?h_b_zip
      (case h_Shelf => refine' ⟨?c0, ?c1, ?c2, ?c3, ?c4, ?c5, ?c6, ?c7, ?c8, ?c9, ?c10⟩; (case c0 => k_is); (case c1 => k_is); (case c2 => k_is); (case c3 => k_is); (case c4 => k_is); (case c5 => k_is); (case c6 => k_is); (case c7 => k_is); (case c8 => k_is); (case c9 => k_is); (case c10 => k_is))
      (case h_Session => refine' ⟨?c0, ?c1, ?c2, ?c3, ?c4, ?c5, ?c6, ?c7, ?c8, ?c9, ?c10, ?c11⟩; (case c0 => k_is); (case c1 => k_is); (case c2 => k_is); (case c3 => k_is); (case c4 => k_is); (case c5 => k_is); (case c6 => k_is); (case c7 => k_is); (case c8 => k_is); (case c9 => k_is); (case c10 => k_is); (case c11 => k_is))
      (case h_Trial => refine' ⟨?c0, ?c1, ?c2, ?c3, ?c4, ?c5, ?c6, ?c7, ?c8, ?c9, ?c10, ?c11⟩; (case c0 => k_is); (case c1 => k_is); (case c2 => k_is); (case c3 => k_is); (case c4 => k_is); (case c5 => k_is); (case c6 => k_is); (case c7 => k_is); (case c8 => k_is); (case c9 => k_is); (case c10 => k_is); (case c11 => k_is))
      (case h_br1 => refine' ⟨?c0, ?c1, ?c2, ?c3, ?c4, ?c5, ?c6, ?c7, ?c8, ?c9, ?c10, ?c11, ?c12, ?c13, ?c14⟩; (case c0 => k_is); (case c1 => k_is); (case c2 => k_is); (case c3 => k_is); (case c4 => k_is); (case c5 => k_is); (case c6 => k_is); (case c7 => k_is); (case c8 => k_is); (case c9 => k_is); (case c10 => k_is); (case c11 => k_is); (case c12 => k_is); (case c13 => k_is); (case c14 => k_is))
      (case h_br3 => refine' WF.HasBR3.mk' ?c0 ?c1 ?c2 ?c3 ?c4 ?c5 ?c6 ?c7; (case c0 => k_is); (case c1 => k_is); (case c2 => k_is); (case c3 => k_is); (case c4 => k_is); (case c5 => exact rfl); (case c6 => decide +kernel); (case c7 => k_is))
      (case h_BadCommand => refine' ⟨?c0, ?c1, ?c2, ?c3, ?c4, ?c5, ?c6⟩; (case c0 => k_is); (case c1 => k_exc); (case c2 => k_is); (case c3 => k_is); (case c4 => k_is); (case c5 => k_is); (case c6 => k_is))
      (case h_NothingDone => refine' ⟨?c0, ?c1, ?c2, ?c3, ?c4, ?c5, ?c6⟩; (case c0 => k_is); (case c1 => k_exc); (case c2 => k_is); (case c3 => k_is); (case c4 => k_is); (case c5 => k_is); (case c6 => k_is))
      (case h_rows => refine' WF.HasSlot.mk' ?c0 ?c1 ?c2 ?c3 ?c4; (case c0 => k_is); (case c1 => k_is); (case c2 => k_is); (case c3 => k_is); (case c4 => k_is))
      (case h_many => refine' WF.HasSlot.mk' ?c0 ?c1 ?c2 ?c3 ?c4; (case c0 => k_is); (case c1 => k_is); (case c2 => k_is); (case c3 => k_is); (case c4 => k_is))
      (case h_br2 => refine' WF.HasBR2.mk' ?c0 ?c1; (case c0 => k_is); (case c1 => decide +kernel))
      (case h_up => exact rfl)
      (case h_cls => refine' WF.cls_mk ?c0; (case c0 => k_is))
      (case h_d_is_integer => refine' WF.HasDef.mk' ?c0 ?c1 ?c2 ?c3; (case c0 => k_is); (case c1 => k_is); (case c2 => k_is); (case c3 => k_is))
      (case h_d_is_entry => refine' WF.HasDef.mk' ?c0 ?c1 ?c2 ?c3; (case c0 => k_is); (case c1 => k_is); (case c2 => k_is); (case c3 => k_is))
      (case h_d_is_edition => refine' WF.HasDef.mk' ?c0 ?c1 ?c2 ?c3; (case c0 => k_is); (case c1 => k_is); (case c2 => k_is); (case c3 => k_is))
      (case h_d_commands_in => refine' WF.HasDef.mk' ?c0 ?c1 ?c2 ?c3; (case c0 => k_is); (case c1 => k_is); (case c2 => k_is); (case c3 => k_is))
      (case h_d_check_shelf => refine' WF.HasDef.mk' ?c0 ?c1 ?c2 ?c3; (case c0 => k_is); (case c1 => k_is); (case c2 => k_is); (case c3 => k_is))
      (case h_d_entry_at => refine' WF.HasDef.mk' ?c0 ?c1 ?c2 ?c3; (case c0 => k_is); (case c1 => k_is); (case c2 => k_is); (case c3 => k_is))
      (case h_d_is_doubt => refine' WF.HasDef.mk' ?c0 ?c1 ?c2 ?c3; (case c0 => k_is); (case c1 => k_is); (case c2 => k_is); (case c3 => k_is))
      (case h_d_is_pair => refine' WF.HasDef.mk' ?c0 ?c1 ?c2 ?c3; (case c0 => k_is); (case c1 => k_is); (case c2 => k_is); (case c3 => k_is))
      (case h_d_check_doubt => refine' WF.HasDef.mk' ?c0 ?c1 ?c2 ?c3; (case c0 => k_is); (case c1 => k_is); (case c2 => k_is); (case c3 => k_is))
      (case h_d_is_safe => refine' WF.HasDef.mk' ?c0 ?c1 ?c2 ?c3; (case c0 => k_is); (case c1 => k_is); (case c2 => k_is); (case c3 => k_is))
      (case h_d_parts_after => refine' WF.HasDef.mk' ?c0 ?c1 ?c2 ?c3; (case c0 => k_is); (case c1 => k_is); (case c2 => k_is); (case c3 => k_is))
      (case h_d_is_told => refine' WF.HasDef.mk' ?c0 ?c1 ?c2 ?c3; (case c0 => k_is); (case c1 => k_is); (case c2 => k_is); (case c3 => k_is))
      (case h_d_is_command => refine' WF.HasDef.mk' ?c0 ?c1 ?c2 ?c3; (case c0 => k_is); (case c1 => k_is); (case c2 => k_is); (case c3 => k_is))
      (case h_d_check_row => refine' WF.HasDef.mk' ?c0 ?c1 ?c2 ?c3; (case c0 => k_is); (case c1 => k_is); (case c2 => k_is); (case c3 => k_is))
      (case h_d_L_cell_at => refine' WF.HasDef.mk' ?c0 ?c1 ?c2 ?c3; (case c0 => k_is); (case c1 => k_is); (case c2 => k_is); (case c3 => k_is))
      (case h_d_L_draw => refine' WF.HasDef.mk' ?c0 ?c1 ?c2 ?c3; (case c0 => k_is); (case c1 => k_is); (case c2 => k_is); (case c3 => k_is))
      (case h_d_L_number => refine' WF.HasDef.mk' ?c0 ?c1 ?c2 ?c3; (case c0 => k_is); (case c1 => k_is); (case c2 => k_is); (case c3 => k_is))
      (case h_d_L_next => refine' WF.HasDef.mk' ?c0 ?c1 ?c2 ?c3; (case c0 => k_is); (case c1 => k_is); (case c2 => k_is); (case c3 => k_is))
      (case h_d_L_pick => refine' WF.HasDef.mk' ?c0 ?c1 ?c2 ?c3; (case c0 => k_is); (case c1 => k_is); (case c2 => k_is); (case c3 => k_is))
      (case h_d_L_entry => refine' WF.HasDef.mk' ?c0 ?c1 ?c2 ?c3; (case c0 => k_is); (case c1 => k_is); (case c2 => k_is); (case c3 => k_is))
      (case h_d_L_line => refine' WF.HasDef.mk' ?c0 ?c1 ?c2 ?c3; (case c0 => k_is); (case c1 => k_is); (case c2 => k_is); (case c3 => k_is))
      (case h_d_L_shelf => refine' WF.HasDef.mk' ?c0 ?c1 ?c2 ?c3; (case c0 => k_is); (case c1 => k_is); (case c2 => k_is); (case c3 => k_is))
      (case h_d_L_pairs => refine' WF.HasDef.mk' ?c0 ?c1 ?c2 ?c3; (case c0 => k_is); (case c1 => k_is); (case c2 => k_is); (case c3 => k_is))
      (case h_d_L_doubt => refine' WF.HasDef.mk' ?c0 ?c1 ?c2 ?c3; (case c0 => k_is); (case c1 => k_is); (case c2 => k_is); (case c3 => k_is))
      (case h_d_L_at => refine' WF.HasDef.mk' ?c0 ?c1 ?c2 ?c3; (case c0 => k_is); (case c1 => k_is); (case c2 => k_is); (case c3 => k_is))
      (case h_d_L_width => refine' WF.HasDef.mk' ?c0 ?c1 ?c2 ?c3; (case c0 => k_is); (case c1 => k_is); (case c2 => k_is); (case c3 => k_is))
      (case h_d_L_safe => refine' WF.HasDef.mk' ?c0 ?c1 ?c2 ?c3; (case c0 => k_is); (case c1 => k_is); (case c2 => k_is); (case c3 => k_is))
      (case h_d_L_parts => refine' WF.HasDef.mk' ?c0 ?c1 ?c2 ?c3; (case c0 => k_is); (case c1 => k_is); (case c2 => k_is); (case c3 => k_is))
      (case h_d_L_told => refine' WF.HasDef.mk' ?c0 ?c1 ?c2 ?c3; (case c0 => k_is); (case c1 => k_is); (case c2 => k_is); (case c3 => k_is))
      (case h_d_L_step => refine' WF.HasDef.mk' ?c0 ?c1 ?c2 ?c3; (case c0 => k_is); (case c1 => k_is); (case c2 => k_is); (case c3 => k_is))
      (case h_d_L_give => refine' WF.HasDef.mk' ?c0 ?c1 ?c2 ?c3; (case c0 => k_is); (case c1 => k_is); (case c2 => k_is); (case c3 => k_is))
      (case h_d_L_empty => refine' WF.HasDef.mk' ?c0 ?c1 ?c2 ?c3; (case c0 => k_is); (case c1 => k_is); (case c2 => k_is); (case c3 => k_is))
      (case h_d_L_is_at => refine' WF.HasDef.mk' ?c0 ?c1 ?c2 ?c3; (case c0 => k_is); (case c1 => k_is); (case c2 => k_is); (case c3 => k_is))
      (case h_d_L_tried_right => refine' WF.HasDef.mk' ?c0 ?c1 ?c2 ?c3; (case c0 => k_is); (case c1 => k_is); (case c2 => k_is); (case c3 => k_is))
      (case h_d_L_session_right => refine' WF.HasDef.mk' ?c0 ?c1 ?c2 ?c3; (case c0 => k_is); (case c1 => k_is); (case c2 => k_is); (case c3 => k_is))
      (case h_d_law => refine' WF.HasDef.mk' ?c0 ?c1 ?c2 ?c3; (case c0 => k_is); (case c1 => k_is); (case c2 => k_is); (case c3 => k_is))
      (case h_sh_init => refine' WF.HasMet.mk' ?c0 ?c1 ?c2 ?c3 ?c4; (case c0 => k_is); (case c1 => k_is); (case c2 => k_is); (case c3 => k_is); (case c4 => k_is))
      (case h_sh_len => refine' WF.HasMet.mk' ?c0 ?c1 ?c2 ?c3 ?c4; (case c0 => k_is); (case c1 => k_is); (case c2 => k_is); (case c3 => k_is); (case c4 => k_is))
      (case h_sh_eds => refine' WF.HasPro.mk' ?c0 ?c1 ?c2 ?c3 ?c4 ?c5 ?c6; (case c0 => k_is); (case c1 => k_is); (case c2 => k_is); (case c3 => k_is); (case c4 => k_is); (case c5 => k_is); (case c6 => k_is))
      (case h_se_init => refine' WF.HasMet.mk' ?c0 ?c1 ?c2 ?c3 ?c4; (case c0 => k_is); (case c1 => k_is); (case c2 => k_is); (case c3 => k_is); (case c4 => k_is))
      (case h_se_len => refine' WF.HasMet.mk' ?c0 ?c1 ?c2 ?c3 ?c4; (case c0 => k_is); (case c1 => k_is); (case c2 => k_is); (case c3 => k_is); (case c4 => k_is))
      (case h_se_iter => refine' WF.HasMet.mk' ?c0 ?c1 ?c2 ?c3 ?c4; (case c0 => k_is); (case c1 => k_is); (case c2 => k_is); (case c3 => k_is); (case c4 => k_is))
      (case h_se_doubt => refine' WF.HasPro.mk' ?c0 ?c1 ?c2 ?c3 ?c4 ?c5 ?c6; (case c0 => k_is); (case c1 => k_is); (case c2 => k_is); (case c3 => k_is); (case c4 => k_is); (case c5 => k_is); (case c6 => k_is))
      (case h_se_journal => refine' WF.HasPro.mk' ?c0 ?c1 ?c2 ?c3 ?c4 ?c5 ?c6; (case c0 => k_is); (case c1 => k_is); (case c2 => k_is); (case c3 => k_is); (case c4 => k_is); (case c5 => k_is); (case c6 => k_is))
      (case h_se_give => refine' WF.HasMet.mk' ?c0 ?c1 ?c2 ?c3 ?c4; (case c0 => k_is); (case c1 => k_is); (case c2 => k_is); (case c3 => k_is); (case c4 => k_is))
      (case h_se_told => refine' WF.HasMet.mk' ?c0 ?c1 ?c2 ?c3 ?c4; (case c0 => k_is); (case c1 => k_is); (case c2 => k_is); (case c3 => k_is); (case c4 => k_is))
      (case h_se_undo => refine' WF.HasMet.mk' ?c0 ?c1 ?c2 ?c3 ?c4; (case c0 => k_is); (case c1 => k_is); (case c2 => k_is); (case c3 => k_is); (case c4 => k_is))
      (case h_se_branch => refine' WF.HasMet.mk' ?c0 ?c1 ?c2 ?c3 ?c4; (case c0 => k_is); (case c1 => k_is); (case c2 => k_is); (case c3 => k_is); (case c4 => k_is))
      (case h_se_trial => refine' WF.HasMet.mk' ?c0 ?c1 ?c2 ?c3 ?c4; (case c0 => k_is); (case c1 => k_is); (case c2 => k_is); (case c3 => k_is); (case c4 => k_is))
      (case h_se_tried => refine' WF.HasMet.mk' ?c0 ?c1 ?c2 ?c3 ?c4; (case c0 => k_is); (case c1 => k_is); (case c2 => k_is); (case c3 => k_is); (case c4 => k_is))
      (case h_tr_init => refine' WF.HasMet.mk' ?c0 ?c1 ?c2 ?c3 ?c4; (case c0 => k_is); (case c1 => k_is); (case c2 => k_is); (case c3 => k_is); (case c4 => k_is))
      (case h_tr_enter => refine' WF.HasMet.mk' ?c0 ?c1 ?c2 ?c3 ?c4; (case c0 => k_is); (case c1 => k_is); (case c2 => k_is); (case c3 => k_is); (case c4 => k_is))
      (case h_tr_exit => refine' WF.HasMet.mk' ?c0 ?c1 ?c2 ?c3 ?c4; (case c0 => k_is); (case c1 => k_is); (case c2 => k_is); (case c3 => k_is); (case c4 => k_is))
      (case h_MAX_EDITIONS => refine' WF.HasCon.mk' ?c0; (case c0 => k_is))
      (case h_MAX_STATES => refine' WF.HasCon.mk' ?c0; (case c0 => k_is))
      (case h_MAX_PAIRS => refine' WF.HasCon.mk' ?c0; (case c0 => k_is))
      (case h_MAX_COMMANDS => refine' WF.HasCon.mk' ?c0; (case c0 => k_is))
      (case h_MAX_REPLY => refine' WF.HasCon.mk' ?c0; (case c0 => k_is))
      (case h_MAX_ROW => refine' WF.HasCon.mk' ?c0; (case c0 => k_is))
      (case h_b_isinstance => k_is)
      (case h_b_len => k_is)
      (case h_b_int => k_is)
      (case h_b_bool => k_is)
      (case h_b_tuple => k_is)
      (case h_b_list => k_is)
      (case h_b_min => k_is)
      (case h_b_max => k_is)
      (case h_b_range => k_is)
      (case h_b_all => k_is)
      (case h_b_dict => k_is)
      (case h_b_sorted => k_is)
      (case h_b_enumerate => k_is)
      (case h_b_iter => k_is)
      (case h_b_zip => k_is))
