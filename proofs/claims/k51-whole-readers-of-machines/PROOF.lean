import PyProof.Rows.All
import Wide.All
import OpenK.AllK
import Wide.FinOn
import KE.KStateDown
import Lean
import HandS.ForMost
import HandS.Exc
import HandS.Defaults
import HandS.WordsExc
import HandS.Head0
import HandS.Head1
import HandS.Head2
import HandS.HeadEnd
import HandS.HeadHook1
import HandS.HeadHook2
import HandS.HeadHook3
import HandS.HeadHook4
import HandS.HeadWalk
import PySem.Challenge.RW_archway_k51_whole_readers_of_machines
import HandS.AnyAll
import HandS.GenOver
import HandS.GenBody
import HandS.SetBool
import HandS.Strs
import HandS.SetFor
import HandS.TupSets
import KE.KeyNested
import KE.SortData
import HandS.Deep
import HandS.TupLen
import KE.KDictDisplayH
import HandS.Conv
import HandS.TupAny
import HandS.Walk
import HandS.ExcOwn
import HandS.TryOnly
import KE.GoesEnum
import HandS.HeadNt
section
/-! The plain law: tables of machines, rounds, readers; no program in sight. -/
set_option linter.all false
namespace K51

/-! ### strictly ascending lists with given members -/
def ins (x : Int) : List Int → List Int
  | [] => [x]
  | y :: r => if x < y then x :: y :: r else if x = y then y :: r else y :: ins x r
def ssort (l : List Int) : List Int := l.foldr ins []
theorem mem_ins {x z : Int} : ∀ {l : List Int}, z ∈ ins x l ↔ z = x ∨ z ∈ l
  | [] => by simp [ins]
  | y :: r => by
    unfold ins
    split
    · simp
    · split
      · rename_i h; subst h; simp
      · simp only [List.mem_cons, mem_ins (l := r)]
        constructor
        · rintro (h | h | h)
          · exact .inr (.inl h)
          · exact .inl h
          · exact .inr (.inr h)
        · rintro (h | h | h)
          · exact .inr (.inl h)
          · exact .inl h
          · exact .inr (.inr h)
theorem ins_up {x : Int} : ∀ {l : List Int}, l.Pairwise (· < ·) → (ins x l).Pairwise (· < ·)
  | [], _ => by simp [ins]
  | y :: r, h => by
    obtain ⟨h1, h2⟩ := List.pairwise_cons.mp h
    unfold ins
    split
    · rename_i hl
      refine List.pairwise_cons.mpr ⟨fun z hz => ?_, h⟩
      rcases List.mem_cons.mp hz with rfl | hz
      · exact hl
      · exact Int.lt_trans hl (h1 z hz)
    · split
      · exact h
      · refine List.pairwise_cons.mpr ⟨fun z hz => ?_, ins_up h2⟩
        rcases mem_ins.mp hz with rfl | hz
        · omega
        · exact h1 z hz
theorem mem_ssort {x : Int} : ∀ {l : List Int}, x ∈ ssort l ↔ x ∈ l
  | [] => by simp [ssort]
  | y :: r => by
    show x ∈ ins y (ssort r) ↔ _
    rw [mem_ins, mem_ssort, List.mem_cons]
theorem ssort_up : ∀ (l : List Int), (ssort l).Pairwise (· < ·)
  | [] => List.Pairwise.nil
  | y :: r => ins_up (ssort_up r)
/-- a strictly ascending list is known by its members -/
theorem up_ext : ∀ {l l' : List Int}, l.Pairwise (· < ·) → l'.Pairwise (· < ·) → (∀ x, x ∈ l ↔ x ∈ l') → l = l'
  | [], [], _, _, _ => rfl
  | [], y :: r, _, _, h => absurd ((h y).mpr List.mem_cons_self) (by simp)
  | y :: r, [], _, _, h => absurd ((h y).mp List.mem_cons_self) (by simp)
  | x :: r, y :: r', h1, h2, h => by
    obtain ⟨a1, a2⟩ := List.pairwise_cons.mp h1
    obtain ⟨b1, b2⟩ := List.pairwise_cons.mp h2
    have e : x = y := by
      have hx : x ∈ y :: r' := (h x).mp List.mem_cons_self
      have hy : y ∈ x :: r := (h y).mpr List.mem_cons_self
      rcases List.mem_cons.mp hx with e | hx
      · exact e
      · rcases List.mem_cons.mp hy with e | hy
        · exact e.symm
        · have := b1 x hx; have := a1 y hy; omega
    subst e
    rw [up_ext a2 b2 fun z => ?_]
    constructor
    · intro hz
      rcases List.mem_cons.mp ((h z).mp (List.mem_cons_of_mem _ hz)) with e | hz'
      · subst e; exact absurd (a1 z hz) (Int.lt_irrefl _)
      · exact hz'
    · intro hz
      rcases List.mem_cons.mp ((h z).mpr (List.mem_cons_of_mem _ hz)) with e | hz'
      · subst e; exact absurd (b1 z hz) (Int.lt_irrefl _)
      · exact hz'
theorem ssort_eq {l l' : List Int} (h1 : l'.Pairwise (· < ·)) (h2 : ∀ x, x ∈ l' ↔ x ∈ l) : l' = ssort l :=
  up_ext h1 (ssort_up l) fun x => (h2 x).trans mem_ssort.symm
theorem ssort_congr {l l' : List Int} (h : ∀ x, x ∈ l ↔ x ∈ l') : ssort l = ssort l' :=
  ssort_eq (ssort_up l) fun x => mem_ssort.trans (h x)

/-! ### tables -/
abbrev Row := List Int
abbrev Tab := List Row
def getR (t : Tab) (i : Int) : Row := t.getD i.toNat []
structure Mach where
  m : Nat
  sg : Nat
  firsts : List Int
  lets : List (Int × Int × Int)
  calls : List (Int × Int × Int × Int)
  rets : List (Int × Int × Int × Int)
  lasts : List Int
def InS (m : Nat) (p : Int) : Prop := 0 ≤ p ∧ p < m
structure Mach.Ok (M : Mach) (L : Nat × Nat × Nat) : Prop where
  m1 : 1 ≤ M.m
  m3 : M.m ≤ 3
  s1 : 1 ≤ M.sg
  s3 : M.sg ≤ 3
  fst : ∀ p ∈ M.firsts, InS M.m p
  fnd : M.firsts.Pairwise (· < ·)
  lst : ∀ p ∈ M.lasts, InS M.m p
  lnd : M.lasts.Pairwise (· < ·)
  lets : ∀ t ∈ M.lets, InS M.m t.1 ∧ InS L.1 t.2.1 ∧ InS M.m t.2.2
  calls : ∀ t ∈ M.calls, InS M.m t.1 ∧ InS L.2.1 t.2.1 ∧ InS M.m t.2.2.1 ∧ InS M.sg t.2.2.2
  rets : ∀ t ∈ M.rets, InS M.m t.1 ∧ InS M.sg t.2.1 ∧ InS L.2.2 t.2.2.1 ∧ InS M.m t.2.2.2
  nlets : M.lets.length ≤ 7
  ncalls : M.calls.length ≤ 7
  nrets : M.rets.length ≤ 7

def tEmpty (m : Nat) : Tab := (List.range m).map fun (s : Nat) => [(s : Int)]
def pairsAt (ps : List (Int × Int)) (s : Int) : List Int := (ps.filter fun p => decide (p.1 = s)).map (·.2)
def tPairs (m : Nat) (ps : List (Int × Int)) : Tab := (List.range m).map fun (s : Nat) => ssort (pairsAt ps (s : Int))
def letPairs (M : Mach) (a : Int) : List (Int × Int) := (M.lets.filter fun t => decide (t.2.1 = a)).map fun t => (t.1, t.2.2)
def tLetter (M : Mach) (a : Int) : Tab := tPairs M.m (letPairs M a)
def joinRow (y : Tab) (row : Row) : Row := ssort (row.flatMap fun r => getR y r)
def tJoin (x y : Tab) : Tab := x.map (joinRow y)
/-- a call's step and a return's fit around a stretch with the table x -/
def fits (a b : Int) (x : Tab) (c r : Int × Int × Int × Int) : Bool :=
  decide (c.2.1 = a) && decide (r.2.2.1 = b) && decide (r.2.1 = c.2.2.2) && decide (r.1 ∈ getR x c.2.2.1)
def aroundPairs (M : Mach) (a b : Int) (x : Tab) : List (Int × Int) :=
  M.calls.flatMap fun c => (M.rets.filter (fits a b x c)).map fun r => (c.1, r.2.2.2)
def tAround (M : Mach) (a b : Int) (x : Tab) : Tab := tPairs M.m (aroundPairs M a b x)
def tAcc (M : Mach) (x : Tab) : Bool := M.firsts.any fun p => (getR x p).any fun q => decide (q ∈ M.lasts)

structure Good (m : Nat) (t : Tab) : Prop where
  len : t.length = m
  up : ∀ row ∈ t, row.Pairwise (· < ·)
  bd : ∀ row ∈ t, ∀ q ∈ row, InS m q
theorem getR_nat {t : Tab} {i : Nat} (h : i < t.length) : getR t (i : Int) = t[i] := by
  unfold getR
  rw [Int.toNat_natCast, List.getD_eq_getElem?_getD, List.getElem?_eq_getElem h]; rfl
theorem getR_mem {t : Tab} {p : Int} (h : InS t.length p) : getR t p ∈ t := by
  obtain ⟨n, rfl⟩ := Int.eq_ofNat_of_zero_le h.1
  have hn : n < t.length := by have := h.2; omega
  rw [getR_nat hn]; exact List.getElem_mem hn
theorem getR_at {t : Tab} {p : Int} (h0 : 0 ≤ p) {row : Row} (h : t[p.toNat]? = some row) : getR t p = row := by
  unfold getR; rw [List.getD_eq_getElem?_getD, h]; rfl
theorem getR_some {t : Tab} {p : Int} (h : InS t.length p) : t[p.toNat]? = some (getR t p) := by
  have hp : p.toNat < t.length := by have := h.1; have := h.2; omega
  unfold getR; rw [List.getD_eq_getElem?_getD, List.getElem?_eq_getElem hp]; rfl
theorem Good.inS {m : Nat} {t : Tab} (g : Good m t) {p q : Int} (hp : InS m p) (hq : q ∈ getR t p) : InS m q :=
  g.bd _ (getR_mem (by rw [g.len]; exact hp)) q hq
theorem good_ext {m : Nat} {t t' : Tab} (g : Good m t) (g' : Good m t') (h : ∀ p q, InS m p → (q ∈ getR t p ↔ q ∈ getR t' p)) : t = t' := by
  refine List.ext_getElem (g.len.trans g'.len.symm) fun i h1 h2 => ?_
  have hp : InS m (i : Int) := ⟨Int.natCast_nonneg _, by have := g.len; omega⟩
  refine up_ext (g.up _ (List.getElem_mem h1)) (g'.up _ (List.getElem_mem h2)) fun x => ?_
  have z := h (i : Int) x hp
  rw [getR_nat h1, getR_nat h2] at z
  exact z
theorem good_empty (m : Nat) : Good m (tEmpty m) := by
  refine ⟨by simp [tEmpty], fun row h => ?_, fun row h q hq => ?_⟩
  · obtain ⟨s, _, rfl⟩ := List.mem_map.mp h; simp
  · obtain ⟨s, hs, rfl⟩ := List.mem_map.mp h
    have := List.mem_range.mp hs
    have : q = s := by simpa using hq
    exact ⟨by omega, by omega⟩
theorem mem_empty {m : Nat} {p q : Int} (h : InS m p) : q ∈ getR (tEmpty m) p ↔ q = p := by
  obtain ⟨n, rfl⟩ := Int.eq_ofNat_of_zero_le h.1
  have hn : n < (tEmpty m).length := by have := h.2; simp [tEmpty]; omega
  rw [show ((n : Int)) = Int.ofNat n from rfl] at *
  rw [show Int.ofNat n = ((n : Nat) : Int) from rfl, getR_nat hn]
  simp [tEmpty]
theorem mem_pairsAt {ps : List (Int × Int)} {s q : Int} : q ∈ pairsAt ps s ↔ (s, q) ∈ ps := by
  unfold pairsAt
  simp only [List.mem_map, List.mem_filter, decide_eq_true_eq]
  constructor
  · rintro ⟨⟨a, b⟩, ⟨h, e⟩, e2⟩
    simp only at e e2; subst e; subst e2; exact h
  · intro h; exact ⟨(s, q), ⟨h, rfl⟩, rfl⟩
theorem good_pairs {m : Nat} {ps : List (Int × Int)} (h : ∀ p ∈ ps, InS m p.2) : Good m (tPairs m ps) := by
  refine ⟨by simp [tPairs], fun row hr => ?_, fun row hr q hq => ?_⟩
  · obtain ⟨s, _, rfl⟩ := List.mem_map.mp hr; exact ssort_up _
  · obtain ⟨s, hs, rfl⟩ := List.mem_map.mp hr
    exact h _ (mem_pairsAt.mp (mem_ssort.mp hq))
theorem getR_pairs {m : Nat} {ps : List (Int × Int)} {p : Int} (h : InS m p) : getR (tPairs m ps) p = ssort (pairsAt ps p) := by
  obtain ⟨n, rfl⟩ := Int.eq_ofNat_of_zero_le h.1
  have hn : n < (tPairs m ps).length := by have := h.2; simp [tPairs]; omega
  rw [show ((n : Int)) = Int.ofNat n from rfl] at *
  rw [show Int.ofNat n = ((n : Nat) : Int) from rfl, getR_nat hn]
  simp [tPairs]
theorem mem_pairs {m : Nat} {ps : List (Int × Int)} {p q : Int} (h : InS m p) : q ∈ getR (tPairs m ps) p ↔ (p, q) ∈ ps := by
  rw [getR_pairs h, mem_ssort, mem_pairsAt]
section
variable {M : Mach} {L : Nat × Nat × Nat}
theorem mem_letPairs {a p q : Int} : (p, q) ∈ letPairs M a ↔ (p, a, q) ∈ M.lets := by
  unfold letPairs
  simp only [List.mem_map, List.mem_filter, decide_eq_true_eq, Prod.mk.injEq]
  constructor
  · rintro ⟨⟨x, y, z⟩, ⟨h, e⟩, e2, e3⟩
    simp only at e e2 e3; subst e e2 e3; exact h
  · intro h; exact ⟨(p, a, q), ⟨h, rfl⟩, rfl, rfl⟩
theorem mem_aroundPairs {a b p q : Int} {x : Tab} : (p, q) ∈ aroundPairs M a b x ↔ ∃ r s g, (p, a, r, g) ∈ M.calls ∧ (s, g, b, q) ∈ M.rets ∧ s ∈ getR x r := by
  unfold aroundPairs fits
  simp only [List.mem_flatMap, List.mem_map, List.mem_filter, Bool.and_eq_true, decide_eq_true_eq, Prod.mk.injEq]
  constructor
  · rintro ⟨⟨c1, c2, c3, c4⟩, hc, ⟨r1, r2, r3, r4⟩, ⟨hr, ⟨⟨e1, e2⟩, e3⟩, e4⟩, e5, e6⟩
    simp only at e1 e2 e3 e4 e5 e6
    subst e1 e2 e3 e5 e6
    exact ⟨_, _, _, hc, hr, e4⟩
  · rintro ⟨r, s, g, h1, h2, h3⟩
    exact ⟨(p, a, r, g), h1, (s, g, b, q), ⟨h2, ⟨⟨rfl, rfl⟩, rfl⟩, h3⟩, rfl, rfl⟩
theorem good_letter (ok : M.Ok L) (a : Int) : Good M.m (tLetter M a) :=
  good_pairs fun ⟨p, q⟩ h => (ok.lets _ (mem_letPairs.mp h)).2.2
theorem good_around (ok : M.Ok L) (a b : Int) (x : Tab) : Good M.m (tAround M a b x) :=
  good_pairs fun ⟨p, q⟩ h => by
    obtain ⟨r, s, g, h1, h2, h3⟩ := mem_aroundPairs.mp h
    exact (ok.rets _ h2).2.2.2
theorem good_join {m : Nat} {x y : Tab} (gx : Good m x) (gy : Good m y) : Good m (tJoin x y) := by
  refine ⟨by simp [tJoin, gx.len], fun row hr => ?_, fun row hr q hq => ?_⟩
  · obtain ⟨s, _, rfl⟩ := List.mem_map.mp hr; exact ssort_up _
  · obtain ⟨s, hs, rfl⟩ := List.mem_map.mp hr
    obtain ⟨r, hr', hq'⟩ := List.mem_flatMap.mp (mem_ssort.mp hq)
    exact gy.inS (gx.bd s hs r hr') hq'
theorem getR_join {m : Nat} {x y : Tab} (gx : Good m x) {p : Int} (hp : InS m p) : getR (tJoin x y) p = joinRow y (getR x p) := by
  obtain ⟨n, rfl⟩ := Int.eq_ofNat_of_zero_le hp.1
  have hn : n < x.length := by have := hp.2; have := gx.len; omega
  have hn' : n < (tJoin x y).length := by simpa [tJoin] using hn
  rw [getR_nat hn', getR_nat hn]
  simp [tJoin]
theorem mem_join {m : Nat} {x y : Tab} (gx : Good m x) {p q : Int} (hp : InS m p) : q ∈ getR (tJoin x y) p ↔ ∃ r, r ∈ getR x p ∧ q ∈ getR y r := by
  rw [getR_join gx hp]; unfold joinRow
  rw [mem_ssort, List.mem_flatMap]
theorem mem_letter {a p q : Int} (hp : InS M.m p) : q ∈ getR (tLetter M a) p ↔ (p, a, q) ∈ M.lets := (mem_pairs hp).trans mem_letPairs
theorem mem_around {a b p q : Int} {x : Tab} (hp : InS M.m p) : q ∈ getR (tAround M a b x) p ↔ ∃ r s g, (p, a, r, g) ∈ M.calls ∧ (s, g, b, q) ∈ M.rets ∧ s ∈ getR x r :=
  (mem_pairs hp).trans mem_aroundPairs
theorem join_assoc {m : Nat} {x y z : Tab} (gx : Good m x) (gy : Good m y) (gz : Good m z) : tJoin (tJoin x y) z = tJoin x (tJoin y z) := by
  refine good_ext (good_join (good_join gx gy) gz) (good_join gx (good_join gy gz)) fun p q hp => ?_
  rw [mem_join (good_join gx gy) hp, mem_join gx hp]
  constructor
  · rintro ⟨r, hr, hq⟩
    obtain ⟨s, hs, hr⟩ := (mem_join gx hp).mp hr
    exact ⟨s, hs, (mem_join gy (gx.inS hp hs)).mpr ⟨r, hr, hq⟩⟩
  · rintro ⟨s, hs, hq⟩
    obtain ⟨r, hr, hq⟩ := (mem_join gy (gx.inS hp hs)).mp hq
    exact ⟨r, (mem_join gx hp).mpr ⟨s, hs, hr⟩, hq⟩
theorem join_empty {m : Nat} {x : Tab} (gx : Good m x) : tJoin x (tEmpty m) = x := by
  refine good_ext (good_join gx (good_empty m)) gx fun p q hp => ?_
  rw [mem_join gx hp]
  constructor
  · rintro ⟨r, hr, hq⟩
    rw [(mem_empty (gx.inS hp hr)).mp hq]; exact hr
  · intro h; exact ⟨q, h, (mem_empty (gx.inS hp h)).mpr rfl⟩
theorem empty_join {m : Nat} {x : Tab} (gx : Good m x) : tJoin (tEmpty m) x = x := by
  refine good_ext (good_join (good_empty m) gx) gx fun p q hp => ?_
  rw [mem_join (good_empty m) hp]
  constructor
  · rintro ⟨r, hr, hq⟩
    rw [(mem_empty hp).mp hr] at hq; exact hq
  · intro h; exact ⟨p, (mem_empty hp).mpr rfl, h⟩
end
end K51
end

section
/-! The plain law, second part: the rounds, the reader, texts and configurations. -/
set_option linter.all false
namespace K51
/-! ### the rounds -/
def add1 (f : List Tab) (x : Tab) : List Tab := if x ∈ f then f else f ++ [x]
def addAll (f made : List Tab) : List Tab := made.foldl add1 f
theorem addAll_cons (f : List Tab) (x : Tab) (r : List Tab) : addAll f (x :: r) = addAll (add1 f x) r := rfl
theorem addAll_snoc (f made : List Tab) (x : Tab) : addAll f (made ++ [x]) = add1 (addAll f made) x := by
  unfold addAll; rw [List.foldl_append]; rfl
theorem mem_add1 {f : List Tab} {x y : Tab} : y ∈ add1 f x ↔ y ∈ f ∨ y = x := by
  unfold add1; split
  · rename_i h
    exact ⟨.inl, fun z => z.elim id fun e => e ▸ h⟩
  · simp
theorem mem_addAll {y : Tab} : ∀ {made f : List Tab}, y ∈ addAll f made ↔ y ∈ f ∨ y ∈ made
  | [], f => by simp [addAll]
  | x :: r, f => by
    rw [addAll_cons, mem_addAll, mem_add1, List.mem_cons]
    exact ⟨fun z => z.elim (fun z => z.elim .inl fun e => .inr (.inl e)) fun z => .inr (.inr z), fun z => z.elim (fun z => .inl (.inl z)) fun z => z.elim (fun e => .inl (.inr e)) .inr⟩
theorem nodup_add1 {f : List Tab} {x : Tab} (h : f.Nodup) : (add1 f x).Nodup := by
  unfold add1; split
  · exact h
  · rename_i hx
    refine List.nodup_append.mpr ⟨h, by simp, fun a ha b hb => ?_⟩
    have : b = x := by simpa using hb
    subst this
    intro e; subst e; exact hx ha
theorem nodup_addAll : ∀ {made f : List Tab}, f.Nodup → (addAll f made).Nodup
  | [], f, h => h
  | x :: r, f, h => nodup_addAll (made := r) (nodup_add1 h)
theorem len_add1 (f : List Tab) (x : Tab) : f.length ≤ (add1 f x).length := by
  unfold add1; split
  · exact Nat.le_refl _
  · rw [List.length_append]; exact Nat.le_add_right _ _
theorem len_addAll : ∀ (made f : List Tab), f.length ≤ (addAll f made).length
  | [], f => Nat.le_refl _
  | x :: r, f => Nat.le_trans (len_add1 f x) (len_addAll r _)
theorem addAll_same : ∀ {made f : List Tab}, (∀ x ∈ made, x ∈ f) → addAll f made = f
  | [], f, _ => rfl
  | x :: r, f, h => by
    rw [addAll_cons, show add1 f x = f from if_pos (h x List.mem_cons_self)]
    exact addAll_same fun y hy => h y (List.mem_cons_of_mem _ hy)
theorem addAll_len : ∀ {made f : List Tab}, (addAll f made).length = f.length → ∀ x ∈ made, x ∈ f
  | [], f, _, x, hx => by simp at hx
  | y :: r, f, h, x, hx => by
    rw [addAll_cons] at h
    have h1 := len_addAll r (add1 f y)
    have h2 := len_add1 f y
    have hy : y ∈ f := by
      by_cases c : y ∈ f
      · exact c
      · have : (add1 f y).length = f.length + 1 := by unfold add1; rw [if_neg c]; simp
        omega
    have e : add1 f y = f := if_pos hy
    rw [e] at h
    rcases List.mem_cons.mp hx with rfl | hx
    · exact hy
    · exact addAll_len h x hx
theorem addAll_head : ∀ {made f : List Tab} {e : Tab}, f[0]? = some e → (addAll f made)[0]? = some e
  | [], f, e, h => h
  | y :: r, f, e, h => by
    rw [addAll_cons]
    refine addAll_head ?_
    unfold add1; split
    · exact h
    · rw [List.getElem?_append_left (List.getElem?_eq_some_iff.mp h).1]; exact h
def next (M : Mach) (L : Nat × Nat × Nat) (f : List Tab) : List Tab :=
  (f.flatMap fun x => f.map fun y => tJoin x y) ++ (List.range L.2.1).flatMap fun (a : Nat) => (List.range L.2.2).flatMap fun (b : Nat) => f.map fun x => tAround M (a : Int) (b : Int) x
def letters (M : Mach) (L : Nat × Nat × Nat) : List Tab := (List.range L.1).map fun (a : Nat) => tLetter M (a : Int)
def rounds (M : Mach) (L : Nat × Nat × Nat) : Nat → List Tab → List Tab → Bool → Option (List Tab)
  | 0, f, _, _ => some f
  | n + 1, f, made, first =>
    if 60 < (addAll f made).length then none
    else if (!first && (addAll f made).length == f.length) = true then some (addAll f made)
    else rounds M L n (addAll f made) (next M L (addAll f made)) false
def tables (M : Mach) (L : Nat × Nat × Nat) : Option (List Tab) := rounds M L 70 [tEmpty M.m] (letters M L) true
structure Clos (M : Mach) (L : Nat × Nat × Nat) (f : List Tab) : Prop where
  hd : f[0]? = some (tEmpty M.m)
  nd : f.Nodup
  len : f.length ≤ 60
  good : ∀ t ∈ f, Good M.m t
  lets : ∀ t ∈ letters M L, t ∈ f
  next : ∀ t ∈ next M L f, t ∈ f
section
variable {M : Mach} {L : Nat × Nat × Nat}
theorem mem_next {f : List Tab} {t : Tab} : t ∈ next M L f ↔ (∃ x ∈ f, ∃ y ∈ f, t = tJoin x y) ∨ ∃ a b : Nat, a < L.2.1 ∧ b < L.2.2 ∧ ∃ x ∈ f, t = tAround M (a : Int) (b : Int) x := by
  unfold next
  simp only [List.mem_append, List.mem_flatMap, List.mem_map, List.mem_range]
  constructor
  · rintro (⟨x, hx, y, hy, rfl⟩ | ⟨a, ha, b, hb, x, hx, rfl⟩)
    · exact .inl ⟨x, hx, y, hy, rfl⟩
    · exact .inr ⟨a, b, ha, hb, x, hx, rfl⟩
  · rintro (⟨x, hx, y, hy, rfl⟩ | ⟨a, b, ha, hb, x, hx, rfl⟩)
    · exact .inl ⟨x, hx, y, hy, rfl⟩
    · exact .inr ⟨a, ha, b, hb, x, hx, rfl⟩
theorem good_next (ok : M.Ok L) {f : List Tab} (g : ∀ t ∈ f, Good M.m t) : ∀ t ∈ next M L f, Good M.m t := fun t ht => by
  rcases mem_next.mp ht with ⟨x, hx, y, hy, rfl⟩ | ⟨a, b, _, _, x, hx, rfl⟩
  · exact good_join (g x hx) (g y hy)
  · exact good_around ok _ _ _
theorem good_letters (ok : M.Ok L) : ∀ t ∈ letters M L, Good M.m t := fun t ht => by
  obtain ⟨a, _, rfl⟩ := List.mem_map.mp ht
  exact good_letter ok _
theorem rounds_clos (ok : M.Ok L) : ∀ (n : Nat) (f made : List Tab) (first : Bool) (r : List Tab), f.length ≤ 60 → 62 - f.length + (if first = true then 1 else 0) ≤ n → f[0]? = some (tEmpty M.m) → f.Nodup → (∀ t ∈ f, Good M.m t) →
    (made = if first = true then letters M L else next M L f) → (first = false → ∀ t ∈ letters M L, t ∈ f) → rounds M L n f made first = some r → Clos M L r
  | 0, f, made, first, r, hl, hn, _, _, _, _, _, _ => by omega
  | n + 1, f, made, first, r, hl, hn, hh, hnd, hg, hm, hlt, h => by
    unfold rounds at h
    have gm : ∀ t ∈ made, Good M.m t := by
      rw [hm]; split
      · exact good_letters ok
      · exact good_next ok hg
    have ga : ∀ t ∈ addAll f made, Good M.m t := fun t ht => (mem_addAll.mp ht).elim (hg t) (gm t)
    have la : ∀ t ∈ letters M L, t ∈ addAll f made := fun t ht => by
      cases first with
      | true => exact mem_addAll.mpr (.inr (by rw [hm]; exact ht))
      | false => exact mem_addAll.mpr (.inl (hlt rfl t ht))
    split at h
    · cases h
    · rename_i h60
      split at h
      · rename_i hs
        cases h
        rw [Bool.and_eq_true, beq_iff_eq] at hs
        obtain ⟨hf, he⟩ := hs
        have hf' : first = false := by cases first <;> simp_all
        subst hf'
        have hm' : made = next M L f := hm
        have sub := addAll_len he
        have e : addAll f made = f := addAll_same sub
        rw [e]
        exact ⟨hh, hnd, hl, hg, hlt rfl, fun t ht => sub t (by rw [hm']; exact ht)⟩
      · rename_i hs
        refine rounds_clos ok n (addAll f made) _ false r (by omega) ?_ (addAll_head hh) (nodup_addAll hnd) ga rfl (fun _ => la) h
        have h1 := len_addAll made f
        cases first with
        | true => simp at hn ⊢; omega
        | false =>
          have : (addAll f made).length ≠ f.length := fun e => hs (by rw [e]; simp)
          simp at hn ⊢; omega
theorem tables_clos (ok : M.Ok L) {r : List Tab} (h : tables M L = some r) : Clos M L r := by
  refine rounds_clos ok 70 _ _ true r (by simp) (by simp) rfl (by simp) (fun t ht => ?_) rfl (fun e => nomatch e) h
  have : t = tEmpty M.m := by simpa using ht
  rw [this]; exact good_empty _

/-! ### places in the list, the reader -/
def ixN (f : List Tab) (t : Tab) : Nat := f.idxOf t
def at_ (f : List Tab) (v : Int) : Tab := f.getD v.toNat []
theorem ix_lt {f : List Tab} {t : Tab} (h : t ∈ f) : ixN f t < f.length := List.idxOf_lt_length_of_mem h
theorem at_ix {f : List Tab} {t : Tab} (h : t ∈ f) : at_ f (ixN f t : Int) = t := by
  unfold at_
  rw [Int.toNat_natCast, List.getD_eq_getElem?_getD, List.getElem?_eq_getElem (ix_lt h)]
  exact List.getElem_idxOf (ix_lt h)
theorem ix_at {f : List Tab} (hn : f.Nodup) {i : Nat} (h : i < f.length) : ixN f (f[i]) = i := List.Nodup.idxOf_getElem hn i h
theorem at_mem {f : List Tab} {v : Int} (h : InS f.length v) : at_ f v ∈ f := by
  unfold at_
  have hv : v.toNat < f.length := by have := h.1; have := h.2; omega
  rw [List.getD_eq_getElem?_getD, List.getElem?_eq_getElem hv]
  exact List.getElem_mem hv
theorem at_nat {f : List Tab} {i : Nat} (h : i < f.length) : at_ f (i : Int) = f[i] := by
  unfold at_
  rw [Int.toNat_natCast, List.getD_eq_getElem?_getD, List.getElem?_eq_getElem h]; rfl
def rLet (M : Mach) (L : Nat × Nat × Nat) (f : List Tab) : List Int := (List.range L.1).map fun (a : Nat) => (ixN f (tLetter M (a : Int)) : Int)
def rMul (f : List Tab) : List (List Int) := f.map fun x => f.map fun y => (ixN f (tJoin x y) : Int)
def rWrap (M : Mach) (L : Nat × Nat × Nat) (f : List Tab) : List (List (List Int)) := (List.range L.2.1).map fun (a : Nat) => (List.range L.2.2).map fun (b : Nat) => f.map fun x => (ixN f (tAround M (a : Int) (b : Int) x) : Int)
def rAcc (M : Mach) (f : List Tab) : List Int := ((List.range f.length).filter fun (i : Nat) => tAcc M (at_ f (i : Int))).map fun (i : Nat) => (i : Int)
def get2 (t : List (List Int)) (x y : Int) : Int := (t.getD x.toNat []).getD y.toNat 0
section
variable {f : List Tab}
theorem join_in (c : Clos M L f) {x y : Tab} (hx : x ∈ f) (hy : y ∈ f) : tJoin x y ∈ f := c.next _ (mem_next.mpr (.inl ⟨x, hx, y, hy, rfl⟩))
theorem around_in (c : Clos M L f) {a b : Int} {x : Tab} (ha : InS L.2.1 a) (hb : InS L.2.2 b) (hx : x ∈ f) : tAround M a b x ∈ f := by
  obtain ⟨i, rfl⟩ := Int.eq_ofNat_of_zero_le ha.1
  obtain ⟨j, rfl⟩ := Int.eq_ofNat_of_zero_le hb.1
  exact c.next _ (mem_next.mpr (.inr ⟨i, j, by have := ha.2; omega, by have := hb.2; omega, x, hx, rfl⟩))
theorem letter_in (c : Clos M L f) {a : Int} (ha : InS L.1 a) : tLetter M a ∈ f := by
  obtain ⟨i, rfl⟩ := Int.eq_ofNat_of_zero_le ha.1
  exact c.lets _ (List.mem_map.mpr ⟨i, List.mem_range.mpr (by have := ha.2; omega), rfl⟩)
theorem empty_in (c : Clos M L f) : tEmpty M.m ∈ f := List.mem_of_getElem? c.hd
theorem ix_empty (c : Clos M L f) : ixN f (tEmpty M.m) = 0 := by
  have h0 := (List.getElem?_eq_some_iff.mp c.hd).1
  have e : f[0] = tEmpty M.m := (List.getElem?_eq_some_iff.mp c.hd).2
  rw [← e]; exact ix_at c.nd h0
theorem mul_get {x y : Int} (hx : InS f.length x) (hy : InS f.length y) : get2 (rMul f) x y = (ixN f (tJoin (at_ f x) (at_ f y)) : Int) := by
  obtain ⟨i, rfl⟩ := Int.eq_ofNat_of_zero_le hx.1
  obtain ⟨j, rfl⟩ := Int.eq_ofNat_of_zero_le hy.1
  have hi : i < f.length := by have := hx.2; omega
  have hj : j < f.length := by have := hy.2; omega
  have e1 : at_ f (Int.ofNat i) = f[i] := at_nat hi
  have e2 : at_ f (Int.ofNat j) = f[j] := at_nat hj
  rw [show ((i : Int)) = Int.ofNat i from rfl, show ((j : Int)) = Int.ofNat j from rfl, e1, e2]
  unfold get2 rMul
  simp [List.getD_eq_getElem?_getD, hi, hj]
theorem mul_in (c : Clos M L f) {x y : Int} (hx : InS f.length x) (hy : InS f.length y) : InS f.length (get2 (rMul f) x y) := by
  rw [mul_get hx hy]
  have := ix_lt (join_in c (at_mem hx) (at_mem hy))
  exact ⟨by omega, by omega⟩
theorem at_mul (c : Clos M L f) {x y : Int} (hx : InS f.length x) (hy : InS f.length y) : at_ f (get2 (rMul f) x y) = tJoin (at_ f x) (at_ f y) := by
  rw [mul_get hx hy]; exact at_ix (join_in c (at_mem hx) (at_mem hy))
theorem ix_of_at (c : Clos M L f) {x : Int} (hx : InS f.length x) : (ixN f (at_ f x) : Int) = x := by
  obtain ⟨i, rfl⟩ := Int.eq_ofNat_of_zero_le hx.1
  have hi : i < f.length := by have := hx.2; omega
  have e : at_ f (i : Int) = f[i] := at_nat hi
  rw [e, ix_at c.nd hi]
theorem zero_in (c : Clos M L f) : InS f.length 0 := ⟨by omega, by have := (List.getElem?_eq_some_iff.mp c.hd).1; omega⟩
theorem at_zero (c : Clos M L f) : at_ f 0 = tEmpty M.m := by
  have h0 := (List.getElem?_eq_some_iff.mp c.hd).1
  have e : f[0] = tEmpty M.m := (List.getElem?_eq_some_iff.mp c.hd).2
  rw [← e]; exact at_nat h0
theorem unit_l (c : Clos M L f) {x : Int} (hx : InS f.length x) : get2 (rMul f) 0 x = x := by
  rw [mul_get (zero_in c) hx, at_zero c, empty_join (c.good _ (at_mem hx)), ix_of_at c hx]
theorem unit_r (c : Clos M L f) {x : Int} (hx : InS f.length x) : get2 (rMul f) x 0 = x := by
  rw [mul_get hx (zero_in c), at_zero c, join_empty (c.good _ (at_mem hx)), ix_of_at c hx]
theorem mul_assoc (c : Clos M L f) {x y z : Int} (hx : InS f.length x) (hy : InS f.length y) (hz : InS f.length z) :
    get2 (rMul f) (get2 (rMul f) x y) z = get2 (rMul f) x (get2 (rMul f) y z) := by
  rw [mul_get (mul_in c hx hy) hz, mul_get hx (mul_in c hy hz), at_mul c hx hy, at_mul c hy hz, join_assoc (c.good _ (at_mem hx)) (c.good _ (at_mem hy)) (c.good _ (at_mem hz))]
def get3 (t : List (List (List Int))) (a b x : Int) : Int := get2 (t.getD a.toNat []) b x
theorem let_get {a : Int} (ha : InS L.1 a) : (rLet M L f).getD a.toNat 0 = (ixN f (tLetter M a) : Int) := by
  obtain ⟨i, rfl⟩ := Int.eq_ofNat_of_zero_le ha.1
  have hi : i < L.1 := by have := ha.2; omega
  unfold rLet
  simp [List.getD_eq_getElem?_getD, hi]
theorem wrap_get {a b x : Int} (ha : InS L.2.1 a) (hb : InS L.2.2 b) (hx : InS f.length x) : get3 (rWrap M L f) a b x = (ixN f (tAround M a b (at_ f x)) : Int) := by
  obtain ⟨i, rfl⟩ := Int.eq_ofNat_of_zero_le ha.1
  obtain ⟨j, rfl⟩ := Int.eq_ofNat_of_zero_le hb.1
  obtain ⟨k, rfl⟩ := Int.eq_ofNat_of_zero_le hx.1
  have hi : i < L.2.1 := by have := ha.2; omega
  have hj : j < L.2.2 := by have := hb.2; omega
  have hk : k < f.length := by have := hx.2; omega
  have e1 : at_ f (Int.ofNat k) = f[k] := at_nat hk
  rw [show ((k : Int)) = Int.ofNat k from rfl, e1]
  unfold get3 get2 rWrap
  simp [List.getD_eq_getElem?_getD, hi, hj, hk]
theorem let_in (c : Clos M L f) {a : Int} (ha : InS L.1 a) : InS f.length ((rLet M L f).getD a.toNat 0) := by
  rw [let_get ha]
  have := ix_lt (letter_in c ha)
  exact ⟨by omega, by omega⟩
theorem wrap_in (c : Clos M L f) {a b x : Int} (ha : InS L.2.1 a) (hb : InS L.2.2 b) (hx : InS f.length x) : InS f.length (get3 (rWrap M L f) a b x) := by
  rw [wrap_get ha hb hx]
  have := ix_lt (around_in c ha hb (at_mem hx))
  exact ⟨by omega, by omega⟩
theorem mem_acc {v : Int} : v ∈ rAcc M f ↔ InS f.length v ∧ tAcc M (at_ f v) = true := by
  unfold rAcc
  simp only [List.mem_map, List.mem_filter, List.mem_range]
  constructor
  · rintro ⟨i, ⟨h1, h2⟩, rfl⟩
    exact ⟨⟨by omega, by omega⟩, h2⟩
  · rintro ⟨h1, h2⟩
    obtain ⟨i, rfl⟩ := Int.eq_ofNat_of_zero_le h1.1
    exact ⟨i, ⟨by have := h1.2; omega, h2⟩, rfl⟩
theorem acc_up : (rAcc M f).Pairwise (· < ·) := by
  unfold rAcc
  rw [List.pairwise_map]
  refine List.Pairwise.imp (R := fun a b : Nat => a < b) (fun h => by omega) ?_
  exact (List.pairwise_lt_range).filter _
end
end

/-! ### texts, runs -/
inductive Kind where
  | letter | call | ret
  deriving DecidableEq
abbrev Place := Kind × Int
abbrev Cfg := Int × List Int
def okT (L : Nat × Nat × Nat) : Nat → List Place → Prop
  | d, [] => d = 0
  | d, (.letter, a) :: r => InS L.1 a ∧ okT L d r
  | d, (.call, a) :: r => InS L.2.1 a ∧ okT L (d + 1) r
  | 0, (.ret, _) :: _ => False
  | d + 1, (.ret, b) :: r => InS L.2.2 b ∧ okT L d r
/-- the value so far, what is open (the last opened first) -/
def vstep (M : Mach) (L : Nat × Nat × Nat) (f : List Tab) (s : Int × List (Int × Int)) : Place → Int × List (Int × Int)
  | (.letter, a) => (get2 (rMul f) s.1 ((rLet M L f).getD a.toNat 0), s.2)
  | (.call, a) => (0, (s.1, a) :: s.2)
  | (.ret, b) => match s.2 with
    | [] => s
    | (v, a) :: r => (get2 (rMul f) v (get3 (rWrap M L f) a b s.1), r)
def vrun (M : Mach) (L : Nat × Nat × Nat) (f : List Tab) (s : Int × List (Int × Int)) (row : List Place) : Int × List (Int × Int) := row.foldl (vstep M L f) s
def Mv (M : Mach) (pl : Place) (c c' : Cfg) : Prop := match pl with
  | (.letter, a) => (c.1, a, c'.1) ∈ M.lets ∧ c'.2 = c.2
  | (.call, a) => ∃ g, (c.1, a, c'.1, g) ∈ M.calls ∧ c'.2 = c.2 ++ [g]
  | (.ret, b) => ∃ g, (c.1, g, b, c'.1) ∈ M.rets ∧ c.2 = c'.2 ++ [g]
def cstep (M : Mach) (S : Cfg → Prop) (pl : Place) : Cfg → Prop := fun c' => ∃ c, S c ∧ Mv M pl c c'
def crun (M : Mach) (S : Cfg → Prop) (row : List Place) : Cfg → Prop := row.foldl (cstep M) S
def cfirst (M : Mach) : Cfg → Prop := fun c => c.1 ∈ M.firsts ∧ c.2 = []
/-- reached: what is open, the value since -/
def Rch (M : Mach) (f : List Tab) : List (Int × Int) → Int → Cfg → Prop
  | [], v, c => c.2 = [] ∧ ∃ p ∈ M.firsts, c.1 ∈ getR (at_ f v) p
  | (v0, l) :: op, v, c => ∃ st g p r, c.2 = st ++ [g] ∧ Rch M f op v0 (p, st) ∧ (p, l, r, g) ∈ M.calls ∧ c.1 ∈ getR (at_ f v) r
structure VOk (L : Nat × Nat × Nat) (f : List Tab) (s : Int × List (Int × Int)) : Prop where
  v : InS f.length s.1
  op : ∀ p ∈ s.2, InS f.length p.1 ∧ InS L.2.1 p.2
section
variable {M : Mach} {L : Nat × Nat × Nat} {f : List Tab}
theorem Rch.inS (ok : M.Ok L) (c : Clos M L f) {v : Int} (hv : InS f.length v) : ∀ {op : List (Int × Int)} {x : Cfg}, Rch M f op v x → InS M.m x.1
  | [], x, h => by
    obtain ⟨_, p, hp, hq⟩ := h
    exact (c.good _ (at_mem hv)).inS (ok.fst p hp) hq
  | (v0, l) :: op, x, h => by
    obtain ⟨st, g, p, r, _, _, hc, hq⟩ := h
    exact (c.good _ (at_mem hv)).inS (ok.calls _ hc).2.2.1 hq
/-- a stretch behind -/
theorem rch_join (ok : M.Ok L) (c : Clos M L f) {v w : Int} {t : Tab} (hv : InS f.length v) (hw : at_ f w = tJoin (at_ f v) t) : ∀ {op : List (Int × Int)} {x : Cfg},
    Rch M f op w x ↔ ∃ q, Rch M f op v (q, x.2) ∧ x.1 ∈ getR t q
  | [], x => by
    have g := c.good _ (at_mem hv)
    constructor
    · rintro ⟨h1, p, hp, hq⟩
      rw [hw] at hq
      obtain ⟨r, hr, hq⟩ := (mem_join g (ok.fst p hp)).mp hq
      exact ⟨r, ⟨h1, p, hp, hr⟩, hq⟩
    · rintro ⟨r, ⟨h1, p, hp, hr⟩, hq⟩
      refine ⟨h1, p, hp, ?_⟩
      rw [hw]; exact (mem_join g (ok.fst p hp)).mpr ⟨r, hr, hq⟩
  | (v0, l) :: op, x => by
    have g := c.good _ (at_mem hv)
    constructor
    · rintro ⟨st, s, p, r, h1, h2, h3, hq⟩
      rw [hw] at hq
      obtain ⟨q, hr, hq⟩ := (mem_join g (ok.calls _ h3).2.2.1).mp hq
      exact ⟨q, ⟨st, s, p, r, h1, h2, h3, hr⟩, hq⟩
    · rintro ⟨q, ⟨st, s, p, r, h1, h2, h3, hr⟩, hq⟩
      refine ⟨st, s, p, r, h1, h2, h3, ?_⟩
      rw [hw]; exact (mem_join g (ok.calls _ h3).2.2.1).mpr ⟨q, hr, hq⟩
theorem step_ok (ok : M.Ok L) (c : Clos M L f) {d : Nat} {s : Int × List (Int × Int)} {pl : Place} {r : List Place} (hs : VOk L f s) (hd : s.2.length = d) (ht : okT L d (pl :: r)) :
    ∃ d', VOk L f (vstep M L f s pl) ∧ (vstep M L f s pl).2.length = d' ∧ okT L d' r ∧ d' ≤ d + 1 := by
  obtain ⟨v, op⟩ := s
  obtain ⟨k, a⟩ := pl
  cases k with
  | letter => exact ⟨d, ⟨mul_in c hs.v (let_in c ht.1), hs.op⟩, hd, ht.2, Nat.le_succ _⟩
  | call =>
    refine ⟨d + 1, ⟨zero_in c, fun p hp => ?_⟩, by rw [← hd]; rfl, ht.2, Nat.le_refl _⟩
    rcases List.mem_cons.mp hp with rfl | hp
    · exact ⟨hs.v, ht.1⟩
    · exact hs.op p hp
  | ret =>
    cases op with
    | nil =>
      have hd' : (0 : Nat) = d := hd
      subst hd'; exact ht.elim
    | cons q op =>
      have hd' : op.length + 1 = d := hd
      subst hd'
      obtain ⟨v0, l⟩ := q
      have h0 := hs.op (v0, l) List.mem_cons_self
      exact ⟨op.length, ⟨mul_in c h0.1 (wrap_in c h0.2 ht.1 hs.v), fun p hp => hs.op p (List.mem_cons_of_mem _ hp)⟩, rfl, ht.2, by omega⟩
theorem step_sim (ok : M.Ok L) (c : Clos M L f) {d : Nat} {s : Int × List (Int × Int)} {pl : Place} {r : List Place} {S : Cfg → Prop} (hs : VOk L f s) (hd : s.2.length = d) (ht : okT L d (pl :: r))
    (h : ∀ x, S x ↔ Rch M f s.2 s.1 x) : ∀ x, cstep M S pl x ↔ Rch M f (vstep M L f s pl).2 (vstep M L f s pl).1 x := by
  obtain ⟨v, op⟩ := s
  obtain ⟨k, a⟩ := pl
  intro x
  cases k with
  | letter =>
    have hl := let_in c ht.1
    have e : at_ f (get2 (rMul f) v ((rLet M L f).getD a.toNat 0)) = tJoin (at_ f v) (tLetter M a) := by
      rw [at_mul c hs.v hl, let_get ht.1, at_ix (letter_in c ht.1)]
    refine Iff.trans ?_ (rch_join ok c hs.v e).symm
    constructor
    · rintro ⟨⟨q, st⟩, hS, h1, h2⟩
      have h2' : x.2 = st := h2
      subst h2'
      have hR := (h _).mp hS
      exact ⟨q, hR, (mem_letter (hR.inS ok c hs.v)).mpr h1⟩
    · rintro ⟨q, hR, hq⟩
      exact ⟨(q, x.2), (h _).mpr hR, (mem_letter (hR.inS ok c hs.v)).mp hq, rfl⟩
  | call =>
    show _ ↔ Rch M f ((v, a) :: op) 0 x
    constructor
    · rintro ⟨⟨q, st⟩, hS, g, h1, h2⟩
      refine ⟨st, g, q, x.1, h2, (h _).mp hS, h1, ?_⟩
      rw [at_zero c]; exact (mem_empty (ok.calls _ h1).2.2.1).mpr rfl
    · rintro ⟨st, g, p, r', h1, h2, h3, h4⟩
      rw [at_zero c, mem_empty (ok.calls _ h3).2.2.1] at h4
      subst h4
      exact ⟨(p, st), (h _).mpr h2, g, h3, h1⟩
  | ret =>
    cases op with
    | nil =>
      have hd' : (0 : Nat) = d := hd
      subst hd'; exact ht.elim
    | cons q op =>
      have hd' : op.length + 1 = d := hd
      subst hd'
      obtain ⟨v0, l⟩ := q
      have h0 := hs.op (v0, l) List.mem_cons_self
      have hw := wrap_in (M := M) c h0.2 ht.1 hs.v
      have e : at_ f (get2 (rMul f) v0 (get3 (rWrap M L f) l a v)) = tJoin (at_ f v0) (tAround M l a (at_ f v)) := by
        rw [at_mul c h0.1 hw, wrap_get h0.2 ht.1 hs.v, at_ix (around_in c h0.2 ht.1 (at_mem hs.v))]
      refine Iff.trans ?_ (rch_join ok c h0.1 e).symm
      constructor
      · rintro ⟨⟨q, st⟩, hS, g, h1, h2⟩
        obtain ⟨st', g', p, r', e1, e2, e3, e4⟩ := (h _).mp hS
        have h2' : st = x.2 ++ [g] := h2
        have e1' : st = st' ++ [g'] := e1
        rw [h2'] at e1'
        obtain ⟨a1, a2⟩ := List.append_inj' e1' rfl
        have a2' : g = g' := by simpa using a2
        subst a1; subst a2'
        have hp := Rch.inS ok c h0.1 e2
        exact ⟨p, e2, (mem_around hp).mpr ⟨r', q, g, e3, h1, e4⟩⟩
      · rintro ⟨p, hR, hq⟩
        have hp := Rch.inS ok c h0.1 hR
        obtain ⟨r', q, g, e3, h1, e4⟩ := (mem_around hp).mp hq
        exact ⟨(q, x.2 ++ [g]), (h _).mpr ⟨x.2, g, p, r', rfl, hR, e3, e4⟩, g, h1, rfl⟩
theorem run_sim (ok : M.Ok L) (c : Clos M L f) : ∀ {row : List Place} {d : Nat} {s : Int × List (Int × Int)} {S : Cfg → Prop}, VOk L f s → s.2.length = d → okT L d row → (∀ x, S x ↔ Rch M f s.2 s.1 x) →
    VOk L f (vrun M L f s row) ∧ (vrun M L f s row).2 = [] ∧ ∀ x, crun M S row x ↔ Rch M f [] (vrun M L f s row).1 x
  | [], d, s, S, hs, hd, ht, h => by
    have ht' : d = 0 := ht
    subst ht'
    have e : s.2 = [] := List.eq_nil_of_length_eq_zero hd
    refine ⟨hs, e, fun x => ?_⟩
    have := h x
    rw [e] at this
    exact this
  | pl :: r, d, s, S, hs, hd, ht, h => by
    obtain ⟨d', h1, h2, h3, _⟩ := step_ok ok c hs hd ht
    exact run_sim ok c (row := r) h1 h2 h3 (step_sim ok c hs hd ht h)
/-- the reader accepts what the machine takes -/
theorem accepts_takes (ok : M.Ok L) (c : Clos M L f) {row : List Place} (ht : okT L 0 row) :
    (vrun M L f (0, []) row).1 ∈ rAcc M f ↔ ∃ x, crun M (cfirst M) row x ∧ x.2 = [] ∧ x.1 ∈ M.lasts := by
  have h0 : ∀ x, cfirst M x ↔ Rch M f [] 0 x := fun x => by
    constructor
    · rintro ⟨h1, h2⟩
      refine ⟨h2, x.1, h1, ?_⟩
      rw [at_zero c]; exact (mem_empty (ok.fst _ h1)).mpr rfl
    · rintro ⟨h2, p, hp, h3⟩
      rw [at_zero c, mem_empty (ok.fst _ hp)] at h3
      exact ⟨by rw [h3]; exact hp, h2⟩
  obtain ⟨h1, h2, h3⟩ := run_sim ok c (s := (0, [])) ⟨zero_in c, fun p hp => by simp at hp⟩ rfl ht h0
  rw [mem_acc]
  constructor
  · rintro ⟨_, h⟩
    obtain ⟨p, hp, h⟩ := List.any_eq_true.mp h
    obtain ⟨q, hq, h⟩ := List.any_eq_true.mp h
    exact ⟨(q, []), (h3 _).mpr ⟨rfl, p, hp, hq⟩, rfl, of_decide_eq_true h⟩
  · rintro ⟨x, hx, e, hl⟩
    obtain ⟨_, p, hp, hq⟩ := (h3 _).mp hx
    exact ⟨h1.v, List.any_eq_true.mpr ⟨p, hp, List.any_eq_true.mpr ⟨x.1, hq, decide_eq_true hl⟩⟩⟩

/-! ### how many configurations -/
structure CfOk (M : Mach) (d : Nat) (c : Cfg) : Prop where
  q : InS M.m c.1
  len : c.2.length = d
  sg : ∀ g ∈ c.2, InS M.sg g
theorem cfok_first (ok : M.Ok L) : ∀ c, cfirst M c → CfOk M 0 c := fun c h => ⟨ok.fst _ h.1, by rw [h.2]; rfl, by rw [h.2]; intro g hg; simp at hg⟩
theorem cfok_step (ok : M.Ok L) {d : Nat} {pl : Place} {r : List Place} (ht : okT L d (pl :: r)) : ∃ d', okT L d' r ∧ (d' = d ∨ (d' = d + 1 ∧ pl.1 = .call) ∨ d' + 1 = d) ∧ ∀ c c', CfOk M d c → Mv M pl c c' → CfOk M d' c' := by
  obtain ⟨k, a⟩ := pl
  cases k with
  | letter =>
    refine ⟨d, ht.2, .inl rfl, fun c c' h m => ?_⟩
    obtain ⟨m1, m2⟩ := m
    exact ⟨(ok.lets _ m1).2.2, by rw [m2]; exact h.len, by rw [m2]; exact h.sg⟩
  | call =>
    refine ⟨d + 1, ht.2, .inr (.inl ⟨rfl, rfl⟩), fun c c' h m => ?_⟩
    obtain ⟨g, m1, m2⟩ := m
    refine ⟨(ok.calls _ m1).2.2.1, by rw [m2, List.length_append, h.len]; rfl, fun z hz => ?_⟩
    rw [m2] at hz
    rcases List.mem_append.mp hz with hz | hz
    · exact h.sg z hz
    · have : z = g := by simpa using hz
      rw [this]; exact (ok.calls _ m1).2.2.2
  | ret =>
    cases d with
    | zero => exact ht.elim
    | succ d =>
      refine ⟨d, ht.2, .inr (.inr rfl), fun c c' h m => ?_⟩
      obtain ⟨g, m1, m2⟩ := m
      refine ⟨(ok.rets _ m1).2.2.2, ?_, fun z hz => h.sg z (by rw [m2]; exact List.mem_append_left _ hz)⟩
      have := h.len
      rw [m2, List.length_append] at this
      simpa using this
def code : List Int → Nat
  | [] => 0
  | g :: r => g.toNat + 3 * code r
theorem code_lt : ∀ {st : List Int}, (∀ g ∈ st, InS 3 g) → code st < 3 ^ st.length
  | [], _ => by simp [code]
  | g :: r, h => by
    have h1 := h g List.mem_cons_self
    have h2 := code_lt (st := r) fun z hz => h z (List.mem_cons_of_mem _ hz)
    have h3 : g.toNat < 3 := by have := h1.1; have := h1.2; omega
    rw [List.length_cons, Nat.pow_succ]
    unfold code; omega
theorem code_inj : ∀ {st st' : List Int}, st.length = st'.length → (∀ g ∈ st, InS 3 g) → (∀ g ∈ st', InS 3 g) → code st = code st' → st = st'
  | [], [], _, _, _, _ => rfl
  | g :: r, g' :: r', hl, h, h', e => by
    have h1 := h g List.mem_cons_self
    have h1' := h' g' List.mem_cons_self
    have a1 : g.toNat < 3 := by have := h1.1; have := h1.2; omega
    have a2 : g'.toNat < 3 := by have := h1'.1; have := h1'.2; omega
    unfold code at e
    have e1 : g.toNat = g'.toNat := by omega
    have e2 : code r = code r' := by omega
    have e3 : g = g' := by have := h1.1; have := h1'.1; omega
    rw [e3, code_inj (by simpa using hl) (fun z hz => h z (List.mem_cons_of_mem _ hz)) (fun z hz => h' z (List.mem_cons_of_mem _ hz)) e2]
theorem nat_few : ∀ (N : Nat) (l : List Nat), l.Nodup → (∀ x ∈ l, x < N) → l.length ≤ N
  | 0, l, _, h => by
    cases l with
    | nil => exact Nat.le_refl _
    | cons x r => exact absurd (h x List.mem_cons_self) (Nat.not_lt_zero _)
  | N + 1, l, hn, h => by
    have h1 := nat_few N (l.erase N) (hn.erase N) fun x hx => by
      have hx' := List.mem_of_mem_erase hx
      have hne : x ≠ N := fun e => by subst e; exact (List.Nodup.not_mem_erase hn) hx
      have := h x hx'; omega
    by_cases c : N ∈ l
    · rw [List.length_erase_of_mem c] at h1; omega
    · rw [List.erase_of_not_mem c] at h1; omega
theorem cfgs_few (ok : M.Ok L) {d : Nat} {l : List Cfg} (hn : l.Nodup) (h : ∀ c ∈ l, CfOk M d c) : l.length ≤ 3 ^ (d + 1) := by
  have hm := ok.m3
  have hs := ok.s3
  have s3 : ∀ c ∈ l, ∀ g ∈ c.2, InS 3 g := fun c hc g hg => ⟨((h c hc).sg g hg).1, by have := ((h c hc).sg g hg).2; omega⟩
  have q3 : ∀ c ∈ l, InS 3 c.1 := fun c hc => ⟨(h c hc).q.1, by have := (h c hc).q.2; omega⟩
  have inj : ∀ c ∈ l, ∀ c' ∈ l, code (c.1 :: c.2) = code (c'.1 :: c'.2) → c = c' := fun c hc c' hc' e => by
    have z := code_inj (st := c.1 :: c.2) (st' := c'.1 :: c'.2) (by simp [(h c hc).len, (h c' hc').len]) (fun g hg => ?_) (fun g hg => ?_) e
    · injection z with z1 z2; exact Prod.ext z1 z2
    · rcases List.mem_cons.mp hg with rfl | hg
      · exact q3 c hc
      · exact s3 c hc g hg
    · rcases List.mem_cons.mp hg with rfl | hg
      · exact q3 c' hc'
      · exact s3 c' hc' g hg
  have nd : (l.map fun c => code (c.1 :: c.2)).Nodup := by
    unfold List.Nodup
    rw [List.pairwise_map]
    exact List.Pairwise.imp_of_mem (fun {a b} ha hb hne e => hne (inj a ha b hb e)) hn
  have z := nat_few (3 ^ (d + 1)) _ nd fun x hx => by
    obtain ⟨c, hc, rfl⟩ := List.mem_map.mp hx
    have := code_lt (st := c.1 :: c.2) fun g hg => by
      rcases List.mem_cons.mp hg with rfl | hg
      · exact q3 c hc
      · exact s3 c hc g hg
    rwa [List.length_cons, (h c hc).len] at this
  rwa [List.length_map] at z
/-- how many calls a row has -/
def ncalls : List Place → Nat
  | [] => 0
  | (.call, _) :: r => ncalls r + 1
  | (_, _) :: r => ncalls r
end
end K51
end

section
set_option Elab.async false
set_option linter.all false
set_option maxRecDepth 100000
set_option maxHeartbeats 0
/-! the text by places, the head's facts -/
namespace K51
open PySem PySem.Spec PyProof.Rows L2
def top (i : Nat) : Stmt := PySem.Challenge.pw_archway_k51_whole_readers_of_machines.main.body.getD i (.Pass ⟨0, 0, 0, 0⟩)
abbrev s_next_values : Stmt := top 7
abbrev s_collect : Stmt := top 8
abbrev s_tabled : Stmt := top 9
abbrev s_made_reader : Stmt := top 10
abbrev s_Tables_init : Stmt := inClass (top 12) 0
abbrev s_Tables_from_pairs : Stmt := inClass (top 12) 1
abbrev s_Tables_empty : Stmt := inClass (top 12) 2
abbrev s_Tables_letter : Stmt := inClass (top 12) 3
abbrev s_Tables_join : Stmt := inClass (top 12) 4
abbrev s_Tables_around : Stmt := inClass (top 12) 5
abbrev s_Tables_is_accepted : Stmt := inClass (top 12) 6
abbrev s_machine_reader : Stmt := top 13
abbrev s_is_value : Stmt := top 18
abbrev s_wrong_wrap : Stmt := top 19
abbrev s_is_row : Stmt := top 20
abbrev s_shape_fault : Stmt := top 21
abbrev s_is_ascending : Stmt := top 22
abbrev s_fault : Stmt := top 23
abbrev s_check_labels : Stmt := top 24
abbrev s_value_behind : Stmt := top 25
abbrev s_value : Stmt := top 26
abbrev s_accepts : Stmt := top 27
abbrev s_L_draw : Stmt := top 29
abbrev s_L_labels : Stmt := top 30
abbrev s_L_text : Stmt := top 31
abbrev s_L_steps_of : Stmt := top 32
abbrev s_L_machine : Stmt := top 33
abbrev s_L_moves : Stmt := top 34
abbrev s_L_runs : Stmt := top 35
abbrev s_L_took : Stmt := top 36
abbrev s_L_told : Stmt := top 37
abbrev s_L_behind : Stmt := top 38
abbrev s_L_over : Stmt := top 39
abbrev s_L_letter : Stmt := top 40
abbrev s_L_tables : Stmt := top 41
abbrev s_law : Stmt := top 42
def d_next_values : He.DefD := ⟨("next_values", none), "next_values", "next_values", defArgs s_next_values, defBody s_next_values, defScope s_next_values, [], []⟩
def d_collect : He.DefD := ⟨("collect", none), "collect", "collect", defArgs s_collect, defBody s_collect, defScope s_collect, [], []⟩
def d_tabled : He.DefD := ⟨("tabled", none), "tabled", "tabled", defArgs s_tabled, defBody s_tabled, defScope s_tabled, [], []⟩
def d_made_reader : He.DefD := ⟨("made_reader", none), "made_reader", "made_reader", defArgs s_made_reader, defBody s_made_reader, defScope s_made_reader, [], []⟩
def d_Tables_init : He.DefD := ⟨("Tables", some "__init__"), "__init__", "Tables.__init__", defArgs s_Tables_init, defBody s_Tables_init, defScope s_Tables_init, [], []⟩
def d_Tables_from_pairs : He.DefD := ⟨("Tables", some "from_pairs"), "from_pairs", "Tables.from_pairs", defArgs s_Tables_from_pairs, defBody s_Tables_from_pairs, defScope s_Tables_from_pairs, [], []⟩
def d_Tables_empty : He.DefD := ⟨("Tables", some "empty"), "empty", "Tables.empty", defArgs s_Tables_empty, defBody s_Tables_empty, defScope s_Tables_empty, [], []⟩
def d_Tables_letter : He.DefD := ⟨("Tables", some "letter"), "letter", "Tables.letter", defArgs s_Tables_letter, defBody s_Tables_letter, defScope s_Tables_letter, [], []⟩
def d_Tables_join : He.DefD := ⟨("Tables", some "join"), "join", "Tables.join", defArgs s_Tables_join, defBody s_Tables_join, defScope s_Tables_join, [], []⟩
def d_Tables_around : He.DefD := ⟨("Tables", some "around"), "around", "Tables.around", defArgs s_Tables_around, defBody s_Tables_around, defScope s_Tables_around, [], []⟩
def d_Tables_is_accepted : He.DefD := ⟨("Tables", some "is_accepted"), "is_accepted", "Tables.is_accepted", defArgs s_Tables_is_accepted, defBody s_Tables_is_accepted, defScope s_Tables_is_accepted, [], []⟩
def d_machine_reader : He.DefD := ⟨("machine_reader", none), "machine_reader", "machine_reader", defArgs s_machine_reader, defBody s_machine_reader, defScope s_machine_reader, [], []⟩
def d_is_value : He.DefD := ⟨("is_value", none), "is_value", "is_value", defArgs s_is_value, defBody s_is_value, defScope s_is_value, [], []⟩
def d_wrong_wrap : He.DefD := ⟨("wrong_wrap", none), "wrong_wrap", "wrong_wrap", defArgs s_wrong_wrap, defBody s_wrong_wrap, defScope s_wrong_wrap, [], []⟩
def d_is_row : He.DefD := ⟨("is_row", none), "is_row", "is_row", defArgs s_is_row, defBody s_is_row, defScope s_is_row, [], []⟩
def d_shape_fault : He.DefD := ⟨("shape_fault", none), "shape_fault", "shape_fault", defArgs s_shape_fault, defBody s_shape_fault, defScope s_shape_fault, [], []⟩
def d_is_ascending : He.DefD := ⟨("is_ascending", none), "is_ascending", "is_ascending", defArgs s_is_ascending, defBody s_is_ascending, defScope s_is_ascending, [], []⟩
def d_fault : He.DefD := ⟨("fault", none), "fault", "fault", defArgs s_fault, defBody s_fault, defScope s_fault, [], []⟩
def d_check_labels : He.DefD := ⟨("check_labels", none), "check_labels", "check_labels", defArgs s_check_labels, defBody s_check_labels, defScope s_check_labels, [], []⟩
def d_value_behind : He.DefD := ⟨("value_behind", none), "value_behind", "value_behind", defArgs s_value_behind, defBody s_value_behind, defScope s_value_behind, [], []⟩
def d_value : He.DefD := ⟨("value", none), "value", "value", defArgs s_value, defBody s_value, defScope s_value, [], []⟩
def d_accepts : He.DefD := ⟨("accepts", none), "accepts", "accepts", defArgs s_accepts, defBody s_accepts, defScope s_accepts, [], []⟩
def d_L_draw : He.DefD := ⟨("_law_draw", none), "_law_draw", "_law_draw", defArgs s_L_draw, defBody s_L_draw, defScope s_L_draw, [], []⟩
def d_L_labels : He.DefD := ⟨("_law_labels", none), "_law_labels", "_law_labels", defArgs s_L_labels, defBody s_L_labels, defScope s_L_labels, [], []⟩
def d_L_text : He.DefD := ⟨("_law_text", none), "_law_text", "_law_text", defArgs s_L_text, defBody s_L_text, defScope s_L_text, [], []⟩
def d_L_steps_of : He.DefD := ⟨("_law_steps_of", none), "_law_steps_of", "_law_steps_of", defArgs s_L_steps_of, defBody s_L_steps_of, defScope s_L_steps_of, [], []⟩
def d_L_machine : He.DefD := ⟨("_law_machine", none), "_law_machine", "_law_machine", defArgs s_L_machine, defBody s_L_machine, defScope s_L_machine, [], []⟩
def d_L_moves : He.DefD := ⟨("_law_moves", none), "_law_moves", "_law_moves", defArgs s_L_moves, defBody s_L_moves, defScope s_L_moves, [], []⟩
def d_L_runs : He.DefD := ⟨("_law_runs", none), "_law_runs", "_law_runs", defArgs s_L_runs, defBody s_L_runs, defScope s_L_runs, [], []⟩
def d_L_took : He.DefD := ⟨("_law_took", none), "_law_took", "_law_took", defArgs s_L_took, defBody s_L_took, defScope s_L_took, [], []⟩
def d_L_told : He.DefD := ⟨("_law_told", none), "_law_told", "_law_told", defArgs s_L_told, defBody s_L_told, defScope s_L_told, [], []⟩
def d_L_behind : He.DefD := ⟨("_law_behind", none), "_law_behind", "_law_behind", defArgs s_L_behind, defBody s_L_behind, defScope s_L_behind, [], []⟩
def d_L_over : He.DefD := ⟨("_law_over", none), "_law_over", "_law_over", defArgs s_L_over, defBody s_L_over, defScope s_L_over, [], []⟩
def d_L_letter : He.DefD := ⟨("_law_letter", none), "_law_letter", "_law_letter", defArgs s_L_letter, defBody s_L_letter, defScope s_L_letter, [], []⟩
def d_L_tables : He.DefD := ⟨("_law_tables", none), "_law_tables", "_law_tables", defArgs s_L_tables, defBody s_L_tables, defScope s_L_tables, [], []⟩
def d_law : He.DefD := ⟨("law", none), "law", "law", defArgs s_law, defBody s_law, defScope s_law, [], []⟩
def fn0 : List He.DefD := [d_next_values, d_collect, d_tabled, d_made_reader, d_Tables_init, d_Tables_from_pairs, d_Tables_empty, d_Tables_letter, d_Tables_join, d_Tables_around, d_Tables_is_accepted, d_machine_reader, d_is_value, d_wrong_wrap, d_is_row]
def fn1 : List He.DefD := [d_shape_fault, d_is_ascending, d_fault, d_check_labels, d_value_behind, d_value, d_accepts, d_L_draw, d_L_labels, d_L_text, d_L_steps_of, d_L_machine, d_L_moves, d_L_runs, d_L_took]
def fn2 : List He.DefD := [d_L_told, d_L_behind, d_L_over, d_L_letter, d_L_tables, d_law]
def fn : List He.DefD := fn0 ++ fn1 ++ fn2
def fa0 : List He.Fa := [.glo "next_values", .glo "collect", .glo "tabled", .glo "made_reader", .glo "machine_reader", .glo "is_value", .glo "wrong_wrap", .glo "is_row", .glo "shape_fault", .glo "is_ascending", .glo "fault", .glo "check_labels", .glo "value_behind", .glo "value", .glo "accepts"]
def fa1 : List He.Fa := [.glo "_law_draw", .glo "_law_labels", .glo "_law_text", .glo "_law_steps_of", .glo "_law_machine", .glo "_law_moves", .glo "_law_runs", .glo "_law_took", .glo "_law_told", .glo "_law_behind", .glo "_law_over", .glo "_law_letter", .glo "_law_tables", .glo "law", .glo "Tables"]
def fa2 : List He.Fa := [.glo "TooManyValues", .glo "KINDS", .free "range", .free "len", .free "list", .free "tuple", .free "sorted", .free "set", .free "any", .free "all", .free "enumerate", .free "int", .int "MOST_VALUES_values" 60, .int "MOST_LABELS" 24, .int "MOST_VALUES_readers" 60]
def fa3 : List He.Fa := [.cls "Tables", .noat "Tables" "machine", .mkr "Tables", .meth "Tables" "from_pairs", .meth "Tables" "empty", .meth "Tables" "letter", .meth "Tables" "join", .meth "Tables" "around", .meth "Tables" "is_accepted", .exm "TooManyValues" "TooManyValues" true, .keep "TooManyValues"]
def fa : List He.Fa := fa0 ++ fa1 ++ fa2 ++ fa3
def tf : List He.Defn := [("collect", none), ("is_row", none), ("shape_fault", none), ("is_ascending", none), ("Tables", some "is_accepted")]
def names1 : List PySem.Str := ["ArchwayError", "InvalidText", "InvalidPlace", "TooManyValues", "MOST_VALUES_values", "next_values", "collect", "tabled", "made_reader", "Tables", "machine_reader", "MOST_LABELS"]
def names2 : List PySem.Str := ["MOST_VALUES_readers", "KINDS", "is_value", "wrong_wrap", "is_row", "shape_fault", "is_ascending", "fault", "check_labels", "value_behind", "value", "accepts"]
def names3 : List PySem.Str := ["_law_draw", "_law_labels", "_law_text", "_law_steps_of", "_law_machine", "_law_moves", "_law_runs", "_law_took", "_law_told", "_law_behind", "_law_over", "_law_letter", "_law_tables"]
def names : List PySem.Str := names1 ++ (names2 ++ names3)
/-- a tuple without a dict of its own -/
def tupPlain (K : PySem.W.Frag) (x : PySem.Str) : Bool := match K.lookup (He.ga K x) with
  | some ⟨.type c, none, _, _⟩ => decide (c = "tuple")
  | _ => false
/-- what is told besides -/
def ex (K : PySem.W.Frag) : Bool :=
  PySem.W.excIn K (He.ga K "TooManyValues") He.veBase "ValueError.__new__" &&
  decide (PySem.W.subIn K (.ref (He.ga K "TooManyValues")) (.type "BaseException") = some true) && decide (PySem.W.typeIn K (.ref (He.ga K "TooManyValues")) = some (.type "type")) &&
  He.tupB K "KINDS" [.str "letter", .str "call", .str "return"] && tupPlain K "KINDS"
abbrev R : PySem.W.OpenRow := PySem.W.OpenLaw.row PySem.Challenge.rw_archway_k51_whole_readers_of_machines
abbrev hk : PySem.W.Hook := He.hookX 6 fa fn [] tf ex
def ob (s : PySem.W.SharedT) : He.AlX := He.obsX 6 fa fn [] tf ex (HandSHeadRun.getT s)
theorem ob_eq (s : PySem.W.SharedT) : ob s = hk.obs s.abs := He.obsX_eq (HandSHeadRun.getT_eq s)
end K51
end

section
set_option Elab.async false
set_option linter.all false
set_option maxRecDepth 100000
set_option maxHeartbeats 0
namespace K51
open PySem PySem.Spec PyProof.Rows L2
theorem run (w : World) : HandSHeadRun.RunEq R (PySem.W.view R.prog [42]) hk ob 4000 names w := by
  intro os
  kernel_rfl
end K51
end

section
set_option Elab.async false
set_option linter.all false
set_option maxRecDepth 100000
set_option maxHeartbeats 2000000
/-! any, all of a generator expression with one or two clauses, by the layer's judgements -/
namespace K51
open PySem PySem.Spec PyProof.Rows L2

abbrev gExp (elt tg iter : Expr) (scope : Scope) (gpos : Pos) : Expr := .GeneratorExp elt [⟨tg, iter, [], 0⟩] scope gpos
theorem over_gen {A : Around} {elt : Expr} {gs : List Comprehension} {scope : Scope} {gpos : Pos} {it acc : Value} {cenv : Env} :
    A.over (.compLoop (.GeneratorExp elt gs scope gpos) 0 it acc cenv) [] = A.deeper cenv := by
  first
    | rfl
    | (obtain ⟨hd, d, fr, gd, u⟩ := A; simp [Around.over, Around.deeper, marksOver, frameCount, unitsOf, envsOf, guardsOf, pushEnvs, pushGuards, Code.envs, Code.env?, Code.isFrame, Code.guards, Code.isGuard, Code.weight, Code.frames, Code.isCreation, Code.isCaller, Code.cUnits])
theorem over_genS {A : Around} {elt : Expr} {gs : List Comprehension} {scope : Scope} {gpos : Pos} {it acc : Value} {cenv : Env} :
    A.over (.compStart (.GeneratorExp elt gs scope gpos) 0 it acc cenv) [] = A.deeper cenv := by
  first
    | rfl
    | (obtain ⟨hd, d, fr, gd, u⟩ := A; simp [Around.over, Around.deeper, marksOver, frameCount, unitsOf, envsOf, guardsOf, pushEnvs, pushGuards, Code.envs, Code.env?, Code.isFrame, Code.guards, Code.isGuard, Code.weight, Code.frames, Code.isCreation, Code.isCaller, Code.cUnits])

/-- the context of a generator expression's frame: begun at s; fp: its first iterator's objects; pn: the generator's own object -/
abbrev gblk (X : Cx) (s : Shared) (H : Hp) (cenv : Env) (fp : List Addr) (pn : List (Addr × Obj)) : Cx :=
  { X with A := X.A.in1.in1.deeper cenv, s_0 := s, H_0 := H, env := cenv, outer := X.stack, stack := cenv :: X.stack, ex := fp, fn := fun _ => false, pn := pn, xe := fun _ _ => False }

section
variable {X : Cx} {pins : List (Addr × Obj)} {σ : L2.St} {H : Hp} {s : Shared}
theorem gen_begin {scope : Scope} {own : List (PySem.Str × Nat)} {fp : List Addr} {pn : List (Addr × Obj)} {code : Value} {h' : Heap} {g' : Array GenState} {t' : Nat} {m : PySem.Str → Option Value} (I : Inv X pins σ H s) (ok : BlkOk X.N X.env.scope scope own) (hN : X.N.Nodup) (hcell : ∀ y ∈ scope.names, y.2 ≠ .cell)
    (hfp : ∀ b ∈ fp, FpOk X pins H b ∧ b < s.heap.objs.size) (hns : h'.Ns s.heap.objs.size m) (kp : ∀ b o, s.heap.get? b = some o → h'.get? b = some o) (hg : AllBare g')
    (hpn : ∀ p ∈ pn, h'.get? p.1 = some p.2 ∧ s.heap.objs.size < p.1 ∧ ∀ v, p.2.data ≠ .cell v) :
    Inv (gblk X s H (genEnv scope (cloFrom X.env.cells scope.names []) s.heap.objs.size code builtinsNs X.env) fp pn) [] (wipe σ (own.map (·.2))) H { s with heap := h', gens := g', toks := t' } := by
  have hfree : ∀ y ∈ scope.names, y.2 = .free → ∃ c, X.env.cells.lookup y.1 = some c := fun y hy e => by
    rcases ok.free y hy e with k | k
    · exact I.ok.has _ (.inl k)
    · exact I.ok.has _ (.inr k)
  have cm : ∀ {y c}, (cloFrom X.env.cells scope.names []).lookup y = some c → X.env.cells.lookup y = some c ∧ scope.names.lookup y = some .free := fun {y c} e => by
    rcases cloFrom_mem (PySem.mem_of_lookup e) with z | ⟨h1, rfl⟩
    · cases z
    · obtain ⟨c, hc⟩ := hfree _ h1 rfl
      rw [hc]
      exact ⟨rfl, ok.uniq _ h1⟩
  have clt : ∀ {y c}, (cloFrom X.env.cells scope.names []).lookup y = some c → c < s.heap.objs.size := fun {y c} e => by
    obtain ⟨w, z⟩ := I.cell _ _ (cm e).1
    exact z.lt
  have look : ∀ {y}, scope.names.lookup y = some .free → ∃ c, (cloFrom X.env.cells scope.names []).lookup y = some c ∧ X.env.cells.lookup y = some c := fun {y} e => by
    obtain ⟨c, hc⟩ := mem_lookup (cloFrom_has (cells := X.env.cells) (acc := []) (PySem.mem_of_lookup e))
    exact ⟨c, hc, (cm hc).1⟩
  have hst := I.stack
  refine ⟨⟨I.ok.mod, ok.kind, I.ok.glob, rfl, Nat.le_refl _, fun y z c h1 h2 => ?_, fun y hy => ?_, fun y c hf _ => ?_, I.ok.hd, Around.frames_deeper (show X.A.frames = some X.stack from I.ok.frames), .inr ⟨rfl, rfl⟩, fun b hb => ⟨?_, fun y c e z => ?_⟩, I.bs, Nat.le_trans I.ok.bsz I.sz, fun b o e hb => ?_, fun b hb z => ?_, hst, I.stkFree⟩,
    rfl, hg, Un.kept kp, ⟨m, hns, fun i y v e1 e2 e3 => ?_⟩, fun y c e => ?_, I.hok.fresh (Nat.le_refl _), fun y c e => ?_, fun p hp => ?_, I.hok.kept kp, by rw [wipe_length]; exact I.len⟩
  · exact I.ok.inj _ _ _ (cm h1).1 (cm h2).1
  · have hy' : scope.names.lookup y = some .cell ∨ scope.names.lookup y = some .free := hy
    rcases hy' with e | e
    · exact absurd rfl (hcell _ (PySem.mem_of_lookup e))
    · obtain ⟨c, h1, _⟩ := look e
      exact ⟨c, h1⟩
  · cases hf
  · exact Nat.ne_of_lt (hfp b hb).2
  · exact (hfp b hb).1.2.2.2.2.1 y c (cm e).1 z
  · rcases (hfp b hb).1.2.2.2.1 with z | z
    · exact I.ok.noex b o e z
    · exact absurd (Nat.lt_of_lt_of_le (Heap.lt_size e) (Nat.le_trans I.ok.bsz z)) (Nat.lt_irrefl _)
  · rcases List.mem_cons.mp (I.stkSub b z) with z | z
    · exact (hfp b hb).1.2.1 z
    · exact (hfp b hb).1.2.2.1 z
  · obtain ⟨e2, hne⟩ := wipe_some e2
    have hsc : scope.names.lookup y = some .local ∨ scope.names.lookup y = some .cell ∨ scope.names.lookup y = some .free := e3
    have no : ∀ k : NameKind, k = .local ∨ k = .cell → scope.names.lookup y = some k → False := fun k hk e => by
      rcases ok.own _ (PySem.mem_of_lookup e) hk with e' | e'
      · obtain ⟨p, hp, hpy⟩ := List.mem_map.mp e'
        have e3 := ok.ix p hp
        have : p.1 = y := hpy
        rw [this] at e3
        exact hne (List.mem_map.mpr ⟨p, hp, nodup_ix hN e3 e1⟩)
      · exact e' (List.mem_of_getElem? e1)
    rcases hsc with e | e | e
    · exact (no _ (.inl rfl) e).elim
    · exact (no _ (.inr rfl) e).elim
    · obtain ⟨c, h1, h2⟩ := look e
      obtain ⟨m0, _, hl⟩ := I.loc
      have hvis : Vis X.env.scope y := (ok.free _ (PySem.mem_of_lookup e) rfl).elim (fun k => .inr (.inl k)) fun k => .inr (.inr k)
      obtain ⟨u, r, q⟩ := hl i y v e1 e2 hvis
      refine ⟨u, r, .inr ⟨.inr e, c, h1, ?_⟩⟩
      rcases q with ⟨k, _⟩ | ⟨_, c', e', z⟩
      · have k : X.env.scope.names.lookup y = some .local := k
        rcases ok.free _ (PySem.mem_of_lookup e) rfl with k' | k' <;> rw [show X.env.scope.names.lookup y = _ from k'] at k <;> cases k
      · rw [h2] at e'; cases e'
        exact z.keeps kp
  · obtain ⟨v, z⟩ := I.cell y c (cm e).1
    exact ⟨v, z.keeps kp⟩
  · exact I.freeC y c (cm e).1
  · rcases List.mem_append.mp hp with hp | hp
    · obtain ⟨p1, p2, p3⟩ := hpn p hp
      refine ⟨p1, I.hok.fresh (Nat.le_of_lt p2), Nat.ne_of_gt p2, fun z => ?_, p3⟩
      rcases List.mem_cons.mp (I.stkSub p.1 z) with z | z
      · exact absurd (Nat.lt_trans I.lt p2) (by rw [z]; exact Nat.lt_irrefl _)
      · exact I.nofs (Nat.le_of_lt p2) z
    · cases hp
/-- the same heap, other generators -/
theorem gen_same {s' : Shared} (I : Inv X pins σ H s) (hh : s'.heap = s.heap) (ho : s'.os = s.os) (hg : AllBare s'.gens) : Inv X pins σ H s' :=
  I.call' (ch := []) ho (by rw [hh]; exact Un.refl) (by rw [hh]; exact I.hok) hg fun _ z => nomatch z
end
/-- how a generator's run ends: all is handed out -/
def GEnd (X : Cx) (vs : List Nat) (σ : L2.St) (Qn : Hp → Prop) : GenEnd := fun _ _ r s => r = .ok .next ∧ ∃ H', Inv X [] (wipe σ vs) H' s ∧ Qn H'
/-- a truth value is handed out: z ends it all, the other one is followed by more -/
def GYld (X : Cx) (vs : List Nat) (σ : L2.St) (z : Bool) (Qz : Hp → Prop) : Protocol := fun _ _ v s kap =>
  ∃ b H', v = .bool b ∧ Inv X [] (wipe σ vs) H' s ∧ (b = z → Qz H') ∧ (b ≠ z → ∀ s' : Shared, s'.heap = s.heap → s'.os = s.os → AllBare s'.gens → kap (.send .none) s')
theorem thnX {α : Type} {t : Sem α} {Q Q' : α → Shared → Prop} {M : Model} {A : Around} {E : Value → Shared → Prop} {s : Shared} (h : wpAny M A t Q (fun _ _ => False) s) (hQ : ∀ a s, Q a s → Q' a s) : wpAny M A t Q' E s := wpAny_mono h hQ fun _ _ z => False.elim z
section
variable {X : Cx} {elt tg iter : Expr} {scope : Scope} {gpos : Pos}
/-- the loop of one clause -/
theorem seg_gen1 {g : TG} {te : TE} {vs : List Nat} {σ : L2.St} {it : Addr} {tn : Nat → Heap → Prop} {J : It} {Qz Qn : Hp → Prop} {z : Bool} {A : Around} {W : Nat → Nat → Hp → Prop}
    (hA : A.deeper X.env = X.A) (hc : X.calm = true) (hco : X.env.scope.isCoroutine = false) (hpe : ∀ p ∈ X.pn, ∀ b ∈ X.ex, p.1 ≠ b) (hxe : X.xe = fun _ _ => False) (T : Turn X.prog X.w X.K tg J X.ex it tn) (hg : PG X tg g) (he : PE X elt te)
    (hw : ∀ i n H, W i n H → (J.stop i H ∧ Qn H) ∨ (0 < n ∧ J.go i H ∧ ∀ x H', J.yld i H x H' → g x (wipe σ vs) H' fun σ2 H3 => wipe σ2 vs = wipe σ vs ∧ te σ2 H3 fun y H4 => ∃ b, y = .bl b ∧ (b = z → Qz H4) ∧ (b ≠ z → ∃ n', n' < n ∧ W (i + 1) n' H4))) :
    ∀ (n N i : Nat) (s₀ s : Shared) (H : Hp), n ≤ N → W i n H → Inv X [] (wipe σ vs) H s → tn i s.heap → (∀ b ∈ X.ex, H b = none) →
      Seg (model X.prog X.w) A (GEnd X vs σ Qn) (GYld X vs σ z Qz) N s₀ (.compLoop (gExp elt tg iter scope gpos) 0 (.ref it) .none X.env) ((model X.prog X.w).den (.compLoop (gExp elt tg iter scope gpos) 0 (.ref it) .none X.env)) [] s := by
  have stat : ∀ {σ' : L2.St} {H' : Hp} {s' : Shared}, Inv X [] σ' H' s' → (∀ b ∈ X.ex, H' b = none) → ∀ b ∈ X.ex, FpOk X [] H' b := fun {σ' H' s'} I' hn b hb =>
    ⟨hn b hb, (I'.ok.exf b hb).1, I'.ok.exfs b hb, .inl hb, fun x c e => (I'.ok.exf b hb).2 x c e, fun p hp => by
      rw [List.append_nil] at hp
      exact hpe p hp b hb⟩
  have hnx : ∀ {α : Type} {t : Sem α} {Q Q' : α → Shared → Prop} {E : Value → Shared → Prop} {s : Shared}, wpAny (model X.prog X.w) X.A t Q X.xe s → (∀ a s, Q a s → Q' a s) → wpAny (model X.prog X.w) X.A t Q' E s := fun h hQ =>
    wpAny_mono h hQ fun _ _ q => by rw [hxe] at q; exact q.elim
  intro n
  induction n using Nat.strongRecOn with
  | ind n ih =>
    intro N i s₀ s H hN w I st fr
    show Seg _ A _ _ N s₀ _ ((compTurn (gExp elt tg iter scope gpos) 0 (.ref it) .none X.env).onRaise (leaving X.env)) [] s
    rw [compTurn_gen, Sem.onRaise_eq_wrap]
    refine seg_bind_wrap (wpAny_standAt ?_)
    refine seg_bind_wrap ?_
    rw [over_gen, hA]
    rcases hw i n H w with ⟨stop, qn⟩ | ⟨npos, go, step⟩
    · refine thnX (T.done X rfl rfl rfl hc i [] s _ H (fun _ _ => False) I (stat I fr) st stop) fun r s6 hr => ?_
      obtain ⟨rfl, I6⟩ := hr
      exact seg_end (.ok .next) ⟨rfl, H, I6, qn⟩
    · refine thnX (T.item X rfl rfl rfl hc i [] s _ H (fun _ _ => False) I (stat I fr) st go) fun r s6 hr => ?_
      obtain ⟨u, rfl, h6⟩ := hr
      refine seg_bind_wrap ?_
      rw [over_gen, hA]
      refine thnX h6 fun _ s7 h7 => ?_
      obtain ⟨x, H7, I7, r7, y7, st7, n7⟩ := h7
      have I7' := I7.pinned (stat I7 n7) (T.obj _ _ st7)
      refine seg_bind_wrap ?_
      rw [over_gen, hA]
      refine hnx (hg.run _ s7 _ H7 x u _ I7' r7 (step x H7 y7)) fun _ s8 h8 => ?_
      obtain ⟨σ8, H8, I8, hw8, q8⟩ := h8
      refine seg_bind_wrap ?_
      simp only [List.forIn_nil]
      refine wpAny_pure ?_
      simp only [if_true]
      have hy : ∀ v, yieldOut X.env v = yieldValue v := fun v => by simp only [yieldOut, hco, Bool.false_eq_true, if_false]
      simp only [hy]
      rw [Sem.bind_eq_wrap', Sem.bind_eq_wrap', Sem.wrap_wrap, Sem.wrap_wrap]
      refine seg_wrap ?_
      rw [over_gen, hA]
      refine hnx (he.run _ s8 σ8 H8 _ I8 q8) fun v s9 h9 => ?_
      obtain ⟨y, H9, I9, r9, b, rfl, qz, qn⟩ := h9
      obtain rfl : v = Value.bool b := r9
      obtain ⟨N', rfl⟩ : ∃ N', N = N' + 1 := ⟨N - 1, by omega⟩
      -- the state as it stands, for what follows
      have pin' : ∀ b ∈ X.ex, ∀ o, s7.heap.get? b = some o → s9.heap.get? b = some o ∧ H9 b = none := fun b hb o e =>
        let q := I9.pin (b, o) (List.mem_append_right _ (List.mem_append_right _ (mem_pinsAt hb e)))
        ⟨q.1, q.2.1⟩
      have hl : (wipe σ vs).length = σ8.length := by rw [← hw8, wipe_length]
      have J9 : Inv X [] (wipe σ vs) H9 s9 := (I9.unpinned (pins := [])).weak hl fun j v e => by
        rw [← hw8] at e
        exact (wipe_some e).1
      have st9 : tn (i + 1) s9.heap := T.keep _ _ _ st7 fun b hb o e => (pin' b hb o e).1
      have fr9 : ∀ b ∈ X.ex, H9 b = none := fun b hb => by
        obtain ⟨o, e, _⟩ := T.obj _ _ st7 b hb
        exact (pin' b hb o e).2
      refine seg_at (seg_yield rfl rfl rfl ⟨b, H9, rfl, J9, qz, fun hb s' e1 e2 e3 => ?_⟩)
      obtain ⟨n', hn', w'⟩ := qn hb
      refine seg_again rfl (ih n' hn' N' (i + 1) s' s' H9 (by omega) w' (gen_same J9 e1 e2 e3) ?_ fr9)
      rw [e1]
      exact st9

abbrev gExp2 (elt tg iter tg1 iter1 : Expr) (scope : Scope) (gpos : Pos) : Expr := .GeneratorExp elt [⟨tg, iter, [], 0⟩, ⟨tg1, iter1, [], 0⟩] scope gpos
theorem turn2_out (elt tg iter tg1 iter1 : Expr) (scope : Scope) (gpos : Pos) (it acc : Value) (env : Env) :
    compTurn (gExp2 elt tg iter tg1 iter1 scope gpos) 0 it acc env = (do
      standAt iter.pos
      match ← pyNext it with
      | none => pure (.done .next)
      | some v =>
        letOwnedTupleGo tg it v
        assign tg env v
        let mut ok := true
        for c in ([] : List Expr) do
          if ok then ok ← isTrue c env (eval c env)
        if ok then
          let x ← eval iter1 env
          standAt iter1.pos
          let x ← foldedSetIterable iter1 env x
          let _ ← runOwn (.compStart (gExp2 elt tg iter tg1 iter1 scope gpos) 1 (← holding [x] (pyIter x)) acc env) env
        again (.compLoop (gExp2 elt tg iter tg1 iter1 scope gpos) 0 it acc env)) := by rfl
theorem turn2_in (elt tg iter tg1 iter1 : Expr) (scope : Scope) (gpos : Pos) (it acc : Value) (env : Env) :
    compTurn (gExp2 elt tg iter tg1 iter1 scope gpos) 1 it acc env = (do
      standAt iter1.pos
      match ← pyNext it with
      | none => pure (.done .next)
      | some v =>
        letOwnedTupleGo tg1 it v
        assign tg1 env v
        let mut ok := true
        for c in ([] : List Expr) do
          if ok then ok ← isTrue c env (eval c env)
        if ok then
          (do let v ← eval elt env; standAt elt.pos; let _ ← yieldOut env v)
        again (.compLoop (gExp2 elt tg iter tg1 iter1 scope gpos) 1 it acc env)) := by rfl
/-- the loop of two clauses: W by the turn, a measure of turns, a bound of what is still handed out; W1 the inner one -/
theorem seg_gen2 {tg1 iter1 : Expr} {g g1 : TG} {wi1 : TI} {te : TE} {vs vs1 : List Nat} {σ : L2.St} {it : Addr} {tn : Nat → Heap → Prop} {J : It} {Qz Qn : Hp → Prop} {z : Bool} {A : Around} {W : Nat → Nat → Nat → Hp → Prop}
    (hA : A.deeper X.env = X.A) (hc : X.calm = true) (hco : X.env.scope.isCoroutine = false) (hpe : ∀ p ∈ X.pn, ∀ b ∈ X.ex, p.1 ≠ b) (hxe : X.xe = fun _ _ => False) (T : Turn X.prog X.w X.K tg J X.ex it tn) (hg : PG X tg g) (hi1 : PI X tg1 iter1 wi1) (hg1 : PG X tg1 g1) (he : PE X elt te)
    (hs1 : ∀ x, foldedSetIterable iter1 X.env x = pure x) (hv : ∀ i ∈ vs1, i ∈ vs)
    (hw : ∀ i m n H, W i m n H → (J.stop i H ∧ Qn H) ∨ (J.go i H ∧ ∀ x H', J.yld i H x H' → g x (wipe σ vs) H' fun σ2 H3 => wipe σ2 vs = wipe σ vs ∧ wi1 σ2 H3 fun J1 H4 => ∃ W1 : Nat → Nat → Nat → Hp → Prop, (∃ k, W1 0 k n H4) ∧ ∀ j k n H, W1 j k n H →
      (J1.stop j H ∧ ∃ m', m' < m ∧ W (i + 1) m' n H) ∨ (0 < n ∧ J1.go j H ∧ ∀ x H', J1.yld j H x H' → g1 x (wipe σ2 vs1) H' fun σ3 H5 => wipe σ3 vs1 = wipe σ2 vs1 ∧ te σ3 H5 fun y H6 => ∃ b, y = .bl b ∧ (b = z → Qz H6) ∧ (b ≠ z → ∃ k' n', k' < k ∧ n' < n ∧ W1 (j + 1) k' n' H6)))) :
    ∀ (m n N i : Nat) (s₀ s : Shared) (H : Hp), n ≤ N → W i m n H → Inv X [] (wipe σ vs) H s → tn i s.heap → (∀ b ∈ X.ex, H b = none) →
      Seg (model X.prog X.w) A (GEnd X vs σ Qn) (GYld X vs σ z Qz) N s₀ (.compLoop (gExp2 elt tg iter tg1 iter1 scope gpos) 0 (.ref it) .none X.env) ((model X.prog X.w).den (.compLoop (gExp2 elt tg iter tg1 iter1 scope gpos) 0 (.ref it) .none X.env)) [] s := by
  have stat : ∀ {σ' : L2.St} {H' : Hp} {s' : Shared}, Inv X [] σ' H' s' → (∀ b ∈ X.ex, H' b = none) → ∀ b ∈ X.ex, FpOk X [] H' b := fun {σ' H' s'} I' hn b hb =>
    ⟨hn b hb, (I'.ok.exf b hb).1, I'.ok.exfs b hb, .inl hb, fun x c e => (I'.ok.exf b hb).2 x c e, fun p hp => by
      rw [List.append_nil] at hp
      exact hpe p hp b hb⟩
  have hnx : ∀ {α : Type} {t : Sem α} {Q Q' : α → Shared → Prop} {E : Value → Shared → Prop} {s : Shared}, wpAny (model X.prog X.w) X.A t Q X.xe s → (∀ a s, Q a s → Q' a s) → wpAny (model X.prog X.w) X.A t Q' E s := fun h hQ =>
    wpAny_mono h hQ fun _ _ q => by rw [hxe] at q; exact q.elim
  intro m
  induction m using Nat.strongRecOn with
  | ind m ih =>
    intro n N i s₀ s H hN w I st fr
    show Seg _ A _ _ N s₀ _ ((compTurn (gExp2 elt tg iter tg1 iter1 scope gpos) 0 (.ref it) .none X.env).onRaise (leaving X.env)) [] s
    rw [turn2_out, Sem.onRaise_eq_wrap]
    refine seg_bind_wrap (wpAny_standAt ?_)
    refine seg_bind_wrap ?_
    rw [over_gen, hA]
    rcases hw i m n H w with ⟨stop, qn⟩ | ⟨go, step⟩
    · refine thnX (T.done X rfl rfl rfl hc i [] s _ H (fun _ _ => False) I (stat I fr) st stop) fun r s6 hr => ?_
      obtain ⟨rfl, I6⟩ := hr
      exact seg_end (.ok .next) ⟨rfl, H, I6, qn⟩
    · refine thnX (T.item X rfl rfl rfl hc i [] s _ H (fun _ _ => False) I (stat I fr) st go) fun r s6 hr => ?_
      obtain ⟨u, rfl, h6⟩ := hr
      refine seg_bind_wrap ?_
      rw [over_gen, hA]
      refine thnX h6 fun _ s7 h7 => ?_
      obtain ⟨x, H7, I7, r7, y7, st7, n7⟩ := h7
      have I7' := I7.pinned (stat I7 n7) (T.obj _ _ st7)
      refine seg_bind_wrap ?_
      rw [over_gen, hA]
      refine hnx (hg.run _ s7 _ H7 x u _ I7' r7 (step x H7 y7)) fun _ s8 h8 => ?_
      obtain ⟨σ8, H8, I8, hw8, q8⟩ := h8
      refine seg_bind_wrap ?_
      simp only [List.forIn_nil]
      refine wpAny_pure ?_
      simp only [if_true]
      refine seg_bind_wrap ?_
      rw [over_gen, hA]
      refine hnx (hi1.run _ s8 σ8 H8 _ I8 q8) fun xv s9 h9 => ?_
      refine seg_bind_wrap (wpAny_standAt ?_)
      refine seg_bind_wrap (wpAny_of_eq (hs1 xv) ?_)
      refine seg_bind_wrap (wpAny_holding ?_)
      rw [over_gen, hA]
      refine hnx h9 fun itv s11 h11 => ?_
      obtain ⟨it1, fp1, tn1, J1, H11, rfl, I11, T1, st11, f11, W1, ⟨k1, w1⟩, turn1⟩ := h11
      -- what is pinned of the first iterator, and back to the outer loop's state
      have hl8 : (wipe σ vs).length = σ8.length := by rw [← hw8, wipe_length]
      have hk9 : ∀ (j : Nat) v, (wipe σ vs)[j]? = some (some v) → (wipe σ8 vs1)[j]? = some (some v) := fun j v e => by
        rw [← hw8] at e
        obtain ⟨e1, e2⟩ := wipe_some e
        rw [wipe_out fun q => e2 (hv j q)]
        exact e1
      have back : ∀ {s' : Shared} {H' : Hp} {ps : List (Addr × Obj)}, Inv X (([] ++ pinsAt X.ex s7.heap) ++ ps) (wipe σ8 vs1) H' s' → Inv X [] (wipe σ vs) H' s' ∧ tn (i + 1) s'.heap ∧ ∀ b ∈ X.ex, H' b = none := fun {s' H' ps} I' => by
        have pin' : ∀ b ∈ X.ex, ∀ o, s7.heap.get? b = some o → s'.heap.get? b = some o ∧ H' b = none := fun b hb o e =>
          let q := I'.pin (b, o) (List.mem_append_right _ (List.mem_append_left _ (List.mem_append_right _ (mem_pinsAt hb e))))
          ⟨q.1, q.2.1⟩
        refine ⟨(I'.unpinned (pins := [] ++ pinsAt X.ex s7.heap)).unpinned.weak (hl8.trans (wipe_length _ _).symm) hk9, T.keep _ _ _ st7 fun b hb o e => (pin' b hb o e).1, fun b hb => ?_⟩
        obtain ⟨o, e, _⟩ := T.obj _ _ st7 b hb
        exact (pin' b hb o e).2
      -- the inner loop, over any frames that lead back
      have key : ∀ fs : List Frame, (∀ it : Value, A.over (.compLoop (gExp2 elt tg iter tg1 iter1 scope gpos) 1 it .none X.env) fs = X.A) → (∀ it : Value, A.over (.compStart (gExp2 elt tg iter tg1 iter1 scope gpos) 1 it .none X.env) fs = X.A) → splitAtGen fs = none → fs.any Frame.guarded = false →
          (∀ (N : Nat) (s₀ s' : Shared) (H' : Hp) (m' n' : Nat), m' < m → n' ≤ N → W (i + 1) m' n' H' → Inv X [] (wipe σ vs) H' s' → tn (i + 1) s'.heap → (∀ b ∈ X.ex, H' b = none) → Seg (model X.prog X.w) A (GEnd X vs σ Qn) (GYld X vs σ z Qz) N s₀ (.compLoop (gExp2 elt tg iter tg1 iter1 scope gpos) 1 (.ref it1) .none X.env) (leafOf (.ok .next)) fs s') →
          Seg (model X.prog X.w) A (GEnd X vs σ Qn) (GYld X vs σ z Qz) N s₀ (.compStart (gExp2 elt tg iter tg1 iter1 scope gpos) 1 (.ref it1) .none X.env) ((model X.prog X.w).den (.compStart (gExp2 elt tg iter tg1 iter1 scope gpos) 1 (.ref it1) .none X.env)) fs s11 := by
        intro fs hov hovS hsp hgd hend
        have inner : ∀ (k n N j : Nat) (s₀ s' : Shared) (H' : Hp), n ≤ N → W1 j k n H' → Inv X ([] ++ pinsAt X.ex s7.heap) (wipe σ8 vs1) H' s' → tn1 j s'.heap → (∀ b ∈ fp1, FpOk X ([] ++ pinsAt X.ex s7.heap) H' b) →
            Seg (model X.prog X.w) A (GEnd X vs σ Qn) (GYld X vs σ z Qz) N s₀ (.compLoop (gExp2 elt tg iter tg1 iter1 scope gpos) 1 (.ref it1) .none X.env) ((model X.prog X.w).den (.compLoop (gExp2 elt tg iter tg1 iter1 scope gpos) 1 (.ref it1) .none X.env)) fs s' := by
          intro k
          induction k using Nat.strongRecOn with
          | ind k ih1 =>
            intro n N j s₀ s5 H5 hN5 w5 I5 st5 f5
            show Seg _ A _ _ N s₀ _ ((compTurn (gExp2 elt tg iter tg1 iter1 scope gpos) 1 (.ref it1) .none X.env).onRaise (fun x => do noteFrame x X.env; theTreesLotGoes x)) fs s5
            rw [turn2_in, Sem.onRaise_eq_wrap]
            refine seg_bind_wrap (wpAny_standAt ?_)
            refine seg_bind_wrap ?_
            rw [hov]
            rcases turn1 j k n H5 w5 with ⟨stop, m', hm', w'⟩ | ⟨npos, go, step1⟩
            · refine thnX (T1.done X rfl rfl rfl hc j _ s5 _ H5 (fun _ _ => False) I5 f5 st5 stop) fun r s6 hr => ?_
              obtain ⟨rfl, I6⟩ := hr
              obtain ⟨a1, a2, a3⟩ := back (ps := []) (by rw [List.append_nil]; exact I6)
              exact hend N s₀ s6 H5 m' n hm' hN5 w' a1 a2 a3
            · refine thnX (T1.item X rfl rfl rfl hc j _ s5 _ H5 (fun _ _ => False) I5 f5 st5 go) fun r s6 hr => ?_
              obtain ⟨u, rfl, h6⟩ := hr
              refine seg_bind_wrap ?_
              rw [hov]
              refine thnX h6 fun _ s7b h7 => ?_
              obtain ⟨x, H7, I7, r7, y7, st7b, n7⟩ := h7
              have f7 : ∀ b ∈ fp1, FpOk X ([] ++ pinsAt X.ex s7.heap) H7 b := fun b hb => ⟨n7 b hb, (f5 b hb).2⟩
              have I7' := I7.pinned f7 (T1.obj _ _ st7b)
              refine seg_bind_wrap ?_
              rw [hov]
              refine hnx (hg1.run _ s7b _ H7 x u _ I7' r7 (step1 x H7 y7)) fun _ s8b h8 => ?_
              obtain ⟨σ8b, H8, I8, hw8b, q8⟩ := h8
              refine seg_bind_wrap ?_
              simp only [List.forIn_nil]
              refine wpAny_pure ?_
              simp only [if_true]
              have hy : ∀ v, yieldOut X.env v = yieldValue v := fun v => by simp only [yieldOut, hco, Bool.false_eq_true, if_false]
              simp only [hy]
              rw [Sem.bind_eq_wrap', Sem.bind_eq_wrap', Sem.wrap_wrap, Sem.wrap_wrap]
              refine seg_wrap ?_
              rw [hov]
              refine hnx (he.run _ s8b σ8b H8 _ I8 q8) fun v s9b h9 => ?_
              obtain ⟨y, H9, I9, r9, b, rfl, qz, qn⟩ := h9
              obtain rfl : v = Value.bool b := r9
              obtain ⟨N', rfl⟩ : ∃ N', N = N' + 1 := ⟨N - 1, by omega⟩
              have hl : (wipe σ8 vs1).length = σ8b.length := by rw [← hw8b, wipe_length]
              have J9 : Inv X (([] ++ pinsAt X.ex s7.heap) ++ pinsAt fp1 s7b.heap) (wipe σ8 vs1) H9 s9b := I9.weak hl fun j v e => by
                rw [← hw8b] at e
                exact (wipe_some e).1
              have pin1 : ∀ b ∈ fp1, ∀ o, s7b.heap.get? b = some o → s9b.heap.get? b = some o ∧ H9 b = none := fun b hb o e =>
                let q := J9.pin (b, o) (List.mem_append_right _ (List.mem_append_right _ (mem_pinsAt hb e)))
                ⟨q.1, q.2.1⟩
              have st9 : tn1 (j + 1) s9b.heap := T1.keep _ _ _ st7b fun b hb o e => (pin1 b hb o e).1
              have f9 : ∀ b ∈ fp1, FpOk X ([] ++ pinsAt X.ex s7.heap) H9 b := fun b hb => by
                obtain ⟨o, e, _⟩ := T1.obj _ _ st7b b hb
                exact ⟨(pin1 b hb o e).2, (f5 b hb).2⟩
              obtain ⟨a1, _, _⟩ := back J9
              refine seg_at (seg_yield hsp rfl hgd ⟨b, H9, rfl, a1, qz, fun hb s' e1 e2 e3 => ?_⟩)
              obtain ⟨k', n', hk', hn', w'⟩ := qn hb
              refine seg_again rfl (ih1 k' hk' n' N' (j + 1) s' s' H9 (by omega) w' (gen_same J9.unpinned e1 e2 e3) ?_ f9)
              rw [e1]
              exact st9
        have I11' : Inv X ([] ++ pinsAt X.ex s7.heap) (wipe σ8 vs1) H11 s11 := I11.weak (wipe_length _ _) fun j v e => (wipe_some e).1
        have loop := inner k1 n N 0 s₀ s11 H11 hN w1 I11' st11 f11
        show Seg _ A _ _ N s₀ _ ((compStart (gExp2 elt tg iter tg1 iter1 scope gpos) 1 (.ref it1) .none X.env).onRaise (fun x => do noteFrame x X.env; standAt theWindowsPlace)) fs s11
        unfold compStart
        rw [Sem.onRaise_eq_wrap]
        show Seg _ A _ _ N s₀ _ ((ask >>= _).wrap _ _ _ _) fs s11
        refine seg_bind_wrap (wpAny_askSetting ?_)
        split
        · exact seg_again rfl loop
        · first
            | exact seg_bind_wrap (wpAny_rule (seg_bind_wrap (wpAny_standAt (seg_bind_wrap (T1.self _ 0 s11 _ _ st11 (seg_again rfl loop))))))
            | (refine seg_bind_wrap (wpAny_rule ?_); show Seg _ A _ _ N s₀ _ ((standAt iter1.pos >>= _).wrap _ _ _ _) fs s11; exact seg_bind_wrap (wpAny_standAt (seg_bind_wrap (T1.self _ 0 s11 _ _ st11 (seg_again rfl loop)))))
      refine seg_call fun p => ?_
      refine key _ (fun it => ?_) (fun it => ?_) rfl rfl fun N s₀ s' H' m' n' hm' hn' w' I' st' fr' => ?_
      · exact (GenW.over_loop rfl rfl).trans (over_gen.trans hA)
      · exact (GenW.over_loop rfl rfl).trans (over_gen.trans hA)
      · refine seg_leaf (.ok .next) ?_
        exact seg_again rfl (ih m' hm' n' N (i + 1) s₀ s' H' hn' w' I' st' fr')

/-- the start of any generator expression, from its first loop -/
theorem seg_genS {rest : List Comprehension} {A : Around} {R : GenEnd} {Y : Protocol} {N : Nat} {s₀ s : Shared} {it : Addr} {tn : Nat → Heap → Prop} {J : It} {fp : List Addr}
    (hA : A.deeper X.env = X.A) (T : Turn X.prog X.w X.K tg J fp it tn) (st : tn 0 s.heap)
    (loop : Seg (model X.prog X.w) A R Y N s₀ (.compLoop (.GeneratorExp elt (⟨tg, iter, [], 0⟩ :: rest) scope gpos) 0 (.ref it) .none X.env) ((model X.prog X.w).den (.compLoop (.GeneratorExp elt (⟨tg, iter, [], 0⟩ :: rest) scope gpos) 0 (.ref it) .none X.env)) [] s) :
    Seg (model X.prog X.w) A R Y N s₀ (.compStart (.GeneratorExp elt (⟨tg, iter, [], 0⟩ :: rest) scope gpos) 0 (.ref it) .none X.env) ((model X.prog X.w).den (.compStart (.GeneratorExp elt (⟨tg, iter, [], 0⟩ :: rest) scope gpos) 0 (.ref it) .none X.env)) [] s := by
  show Seg _ A _ _ N s₀ _ ((compStart (.GeneratorExp elt (⟨tg, iter, [], 0⟩ :: rest) scope gpos) 0 (.ref it) .none X.env).onRaise (leaving X.env)) [] s
  unfold compStart
  rw [Sem.onRaise_eq_wrap]
  show Seg _ A _ _ N s₀ _ ((ask >>= _).wrap _ _ _ _) [] s
  refine seg_bind_wrap (wpAny_askSetting ?_)
  split
  · exact seg_again rfl loop
  · first
      | exact seg_bind_wrap (wpAny_rule (seg_bind_wrap (wpAny_standAt (seg_bind_wrap (T.self _ 0 s _ _ st (seg_again rfl loop))))))
      | (refine seg_bind_wrap (wpAny_rule ?_); show Seg _ A _ _ N s₀ _ ((standAt iter.pos >>= _).wrap _ _ _ _) [] s; exact seg_bind_wrap (wpAny_standAt (seg_bind_wrap (T.self _ 0 s _ _ st (seg_again rfl loop)))))
theorem eval_gen (rest : List Comprehension) (env : Env) (hco : scope.isCoroutine = false) :
    eval (.GeneratorExp elt (⟨tg, iter, [], 0⟩ :: rest) scope gpos) env = (do
      let x ← eval iter env
      standAt iter.pos
      let x ← genFold iter env x
      let it ← holding [x] (pyIter x)
      enterFrame
      let cl ← closureFor scope env
      let code ← genexprCode env gpos (env.qual ++ "<genexpr>") scope
      let bi ← builtinsFor env.globals env.builtins
      let cenv ← newFunctionEnv scope env.globals cl [(".0", it)] (env.qual ++ "<genexpr>.") none code none bi
      newGenerator (.compStart (.GeneratorExp elt (⟨tg, iter, [], 0⟩ :: rest) scope gpos) 0 it .none cenv) "<genexpr>" (env.qual ++ "<genexpr>")) := by
  rw [arm_eval_GeneratorExp]
  simp only [hco, Bool.false_eq_true, if_false]
  cases iter <;> rfl
/-- a generator expression's object at a, as it was made -/
structure GMadeX (X : Cx) (pins : List (Addr × Obj)) (σ : L2.St) (own : List (PySem.Str × Nat)) (elt tg iter : Expr) (rest : List Comprehension) (scope : Scope) (gpos : Pos) (R : It → Hp → Prop) (s4 : Shared) (H : Hp) (C : Addr) (code : Value) (fp : List Addr) (go : Obj) (it : Addr) (tn : Nat → Heap → Prop) (J : It) (a : Addr) (gn : Nat) (s5 : Shared) : Prop where
  inv : Inv X pins σ H s4
  fpk : ∀ b ∈ fp, FpOk X pins H b ∧ b < s4.heap.objs.size
  rd : R J H
  turn : Turn X.prog X.w X.K tg J fp it tn
  st : tn 0 s5.heap
  blk : Inv (gblk X s4 H (genEnv scope (cloFrom X.env.cells scope.names []) C code builtinsNs X.env) fp [(a, go)]) [] (wipe σ (own.map (·.2))) H s5
  old : s4.heap.objs.size < a
  isg : ∀ h : Heap, h.get? a = some go → h.IsGen a gn
  gen : s5.gens[gn]? = some (.fresh (.compStart (.GeneratorExp elt (⟨tg, iter, [], 0⟩ :: rest) scope gpos) 0 (.ref it) .none (genEnv scope (cloFrom X.env.cells scope.names []) C code builtinsNs X.env)))
structure GScp (scope : Scope) : Prop where
  co : scope.isCoroutine = false
  kind : scope.kind = .function
  cell : ∀ y ∈ scope.names, y.2 ≠ .cell
  dot : scope.names.lookup (".0" : PySem.Str) = some NameKind.local
theorem gen_eval {own : List (PySem.Str × Nat)} {rest : List Comprehension} {c P : Addr} {wi : TI} {pins : List (Addr × Obj)} {σ : L2.St} {H : Hp} {s : Shared} {Q' : Value → Shared → Prop} {R : It → Hp → Prop} {k : Nat}
    (hr : Room k X.A) (TB : GxR.TabB X.base X.mg c P) (hcode : X.env.code = .ref c) (S : GScp scope) (hN : X.N.Nodup) (ok : BlkOk X.N X.env.scope scope own) (hi : PI X tg iter wi) (hs : ∀ v, genFold iter X.env v = pure v)
    (I : Inv X pins σ H s) (h : wi σ H fun J H1 => GxR.TabG H1 P ∧ ∀ H2, GxR.Tabbed P H1 H2 → R J H2)
    (hQ : ∀ s4 H C code fp go it tn J a gn s5, GMadeX X pins σ own elt tg iter rest scope gpos R s4 H C code fp go it tn J a gn s5 → Q' (.ref a) s5) :
    wpAny (model X.prog X.w) X.A (eval (.GeneratorExp elt (⟨tg, iter, [], 0⟩ :: rest) scope gpos) X.env) Q' X.xe s := by
  have hfree : ∀ y ∈ scope.names, y.2 = .free → ∃ c, X.env.cells.lookup y.1 = some c := fun y hy e => by
    rcases ok.free y hy e with k | k
    · exact I.ok.has _ (.inl k)
    · exact I.ok.has _ (.inr k)
  rw [eval_gen rest X.env S.co, closure_ok hfree]
  refine wpAny_bind (thn (hi.run pins s σ H _ I h) fun xv s1 h1 => ?_)
  refine wpAny_bind (wpAny_standAt ?_)
  refine wpAny_bind (wpAny_of_eq (hs xv) ?_)
  refine wpAny_bind (wpAny_holding (thn h1 fun itv s2 h2 => ?_))
  obtain ⟨it, fp, tn, J, H2, rfl, I2, T, st2, f2, ⟨ps, hP, ht⟩, q2⟩ := h2
  refine wpAny_bind (wpAny_enterFrame I2.nolimit (by have := hr.dp; omega) ?_)
  refine wpAny_bind (wpAny_pure ?_)
  have hPs : s2.heap.get? P = some { cls := .none, data := .fields ps } := I2.hok P _ hP
  have cd : PySem.W.CodeHd s2.heap c P := TB.code.keeps fun b u e => I2.bk b u e
  -- behind the code object: the rest
  have cont : ∀ (code : Value) (h3 : Heap) (tk : Nat) (more : Array Value), Heap.ExtBut P s2.heap h3 → h3.get? P = some { cls := .none, data := .fields (ps ++ more) } → TriplesOk (ps ++ more).toList →
      wpAny (model X.prog X.w) X.A (do
        let bi ← builtinsFor X.env.globals X.env.builtins
        let cenv ← newFunctionEnv scope X.env.globals (cloFrom X.env.cells scope.names []) [(".0", .ref it)] (X.env.qual ++ "<genexpr>.") none code none bi
        newGenerator (.compStart (.GeneratorExp elt (⟨tg, iter, [], 0⟩ :: rest) scope gpos) 0 (.ref it) .none cenv) "<genexpr>" (X.env.qual ++ "<genexpr>")) Q' X.xe { s2 with heap := h3, toks := tk } := by
    intro code h3 tk more hx hP3 ht3
    obtain ⟨bm, ob, e1, e2, e3, e4, e5, e6, e7, e8⟩ := TB.bm
    have keep3 : ∀ b u, b ≠ P → s2.heap.get? b = some u → h3.get? b = some u := fun b u hb e => hx b u hb e
    have I3 : Inv X pins σ (upd H2 P (.tbl (ps ++ more))) { s2 with heap := h3, gens := s2.gens, drawn := s2.drawn, toks := tk } := GxR.inv_tab I2 hP keep3 hP3 I2.bare
    have hH3 : GxR.Tabbed P H2 (upd H2 P (.tbl (ps ++ more))) := ⟨⟨ps ++ more, upd_same, ht3⟩, fun b hb => upd_ne hb⟩
    have r3 := q2 _ hH3
    generalize hH3e : upd H2 P (.tbl (ps ++ more)) = H3 at I3 hH3 r3
    generalize hs3 : ({ s2 with heap := h3, gens := s2.gens, drawn := s2.drawn, toks := tk } : Shared) = s3 at I3
    have h3e : s3.heap = h3 := by rw [← hs3]
    have fpP : ∀ b ∈ fp, b ≠ P := fun b hb z => by
      have := (f2 b hb).1
      rw [z, hP] at this
      cases this
    have f3 : ∀ b ∈ fp, FpOk X pins H3 b ∧ b < s3.heap.objs.size := fun b hb => by
      obtain ⟨o, e, _⟩ := T.obj _ _ st2 b hb
      refine ⟨⟨?_, (f2 b hb).2⟩, ?_⟩
      · rw [← hH3e, upd_ne (fpP b hb)]
        exact (f2 b hb).1
      · rw [h3e]
        exact Heap.lt_size (keep3 b o (fpP b hb) e)
    have st3 : tn 0 s3.heap := T.keep _ _ _ st2 fun b hb o e => by rw [h3e]; exact keep3 b o (fpP b hb) e
    refine wpAny_bind (wpAny_builtinsFor (m := X.mg) (by rw [I3.ok.glob]; exact I3.mod.glob.keeps I3.bk) e1 e2 (I3.bk _ _ e5) e6 e7 e8 ?_)
    have hbinds : ∀ y ∈ ([((".0" : PySem.Str), Value.ref it)] : List (PySem.Str × Value)), scope.names.lookup y.1 = some NameKind.local := by
      intro y hy
      rcases List.mem_cons.mp hy with rfl | hy
      · exact S.dot
      · cases hy
    refine wpAny_bind (wpAny_newFunctionEnv S.cell hbinds (fun h' hn' hs' => ?_) S.kind)
    have hsz : h'.objs.size = s3.heap.objs.size + 1 := by rw [hs'.1, Heap.size_push]
    have keep' : ∀ b o, s3.heap.get? b = some o → h'.get? b = some o := fun b o e => hs'.extBut b o (Nat.ne_of_lt (Heap.lt_size e)) (Heap.get?_push_of_some _ e)
    simp only [newGenerator, newFields]
    refine wpAny_bind (wpAny_newGen (wpAny_bind (wpAny_mkText (wpAny_bind (wpAny_mkText (wpAny_newObj_type ?_ (by size_fits)))))))
    have keep5 : ∀ (go : Obj) b o, s3.heap.get? b = some o → (h'.push go).get? b = some o := fun go b o e => Heap.get?_push_of_some _ (keep' b o e)
    have main : ∀ (nm qn : Value) (tk5 : Nat), Q' (.ref h'.objs.size) { s3 with gens := s3.gens.push (.fresh (.compStart (.GeneratorExp elt (⟨tg, iter, [], 0⟩ :: rest) scope gpos) 0 (.ref it) .none (genEnv scope (cloFrom X.env.cells scope.names []) s3.heap.objs.size code builtinsNs X.env))), toks := tk5, heap := h'.push { cls := .type "generator", data := .fields #[.int s3.gens.size 0, nm, qn] } } := by
      intro nm qn tk5
      refine hQ s3 H3 s3.heap.objs.size code fp { cls := .type "generator", data := .fields #[.int s3.gens.size 0, nm, qn] } it tn J h'.objs.size s3.gens.size _
        ⟨I3, f3, r3, T, T.keep _ _ _ st3 fun b hb o e => keep5 _ b o e, gen_begin I3 ok hN S.cell f3 (hn'.push _) (keep5 _) (AllBare.push I3.bare rfl) ?_, by rw [hsz]; exact Nat.lt_succ_self _, fun h e => ⟨_, nm, qn, e, rfl, rfl, rfl⟩, Array.getElem?_push_size ..⟩
      intro p hp
      rw [List.mem_singleton.mp hp]
      exact ⟨Heap.get?_push_size _ rfl, by rw [hsz]; exact Nat.lt_succ_self _, fun v q => by cases q⟩
    exact main _ _ _
  cases hf : codeAmong gpos ps.toList with
  | none =>
    refine wpAny_bind (wpAny_genexprCodeX hcode (cd.code hPs ht) (cd.tab hPs) hf fun c' h' tk hx hge hlt hco' _ htab' _ => ?_)
    obtain ⟨o1, vs, f1, tf, fl, tg', inF, tx, tt, op, _, _, _, _, _, _, _, _, _, htr, _⟩ := hco'
    exact cont _ h' tk _ hx htab'.2 htr
  | some cv =>
    refine wpAny_bind (wpAny_genexprCode_hit hcode (cd.code hPs ht) hf ?_)
    exact cont cv s2.heap s2.toks #[] (Heap.ExtBut.refl _ _) (by rw [Array.append_empty]; exact hPs) (by rw [Array.append_empty]; exact ht)

theorem bare_set {s : Shared} {g : Nat} {gs : GenState} (h : AllBare s.gens) (hb : gs.bare = true) : AllBare (s.setGen g gs).gens := fun y hy => by
  have hy' : y ∈ s.gens.setIfInBounds g gs := hy
  obtain ⟨i, hi, e⟩ := Array.mem_iff_getElem.mp hy'
  have hi2 : i < s.gens.size := by simpa using hi
  rw [Array.getElem_setIfInBounds hi2] at e
  split at e
  · rw [← e]; exact hb
  · rw [← e]; exact h _ (Array.getElem_mem hi2)
/-- the generator at a may be woken; at most N truth values to come -/
def GAt (Y : Cx) (A : Around) (vs : List Nat) (σ : L2.St) (z : Bool) (Qz Qn : Hp → Prop) (gn N : Nat) (s : Shared) : Prop :=
  ∃ gs H', Inv Y [] (wipe σ vs) H' s ∧ s.gens[gn]? = some gs ∧ ∀ s' : Shared, s'.heap = s.heap → s'.os = s.os → AllBare s'.gens → gs.Goes (model Y.prog Y.w) A (GEnd Y vs σ Qn) (GYld Y vs σ z Qz) N (.send .none) s'
theorem gen_next {Y : Cx} {A : Around} {vs : List Nat} {σ : L2.St} {z : Bool} {Qz Qn : Hp → Prop} {a : Addr} {gn N : Nat} {go : Obj} {s : Shared} {Q : Option Value → Shared → Prop} {E : Value → Shared → Prop} (hh : A.handled = none) (hroom : A.depth < recursionLimit)
    (hpn : (a, go) ∈ Y.pn) (isg : ∀ h : Heap, h.get? a = some go → h.IsGen a gn) (G : GAt Y A.in1 vs σ z Qz Qn gn N s)
    (hn : ∀ s' H', Inv Y [] (wipe σ vs) H' s' → Qn H' → Q none s')
    (hy : ∀ b s' H', Inv Y [] (wipe σ vs) H' s' → (b = z → Qz H') → (b ≠ z → ∃ N', N' < N ∧ GAt Y A.in1 vs σ z Qz Qn gn N' s') → Q (some (.bool b)) s') :
    wpAny (model Y.prog Y.w) A (pyNext (.ref a)) Q E s := by
  obtain ⟨gs, H0, I0, hgs, hgo⟩ := G
  have hlt : gn + 1 ≤ s.gens.size := (Array.getElem?_eq_some_iff.mp hgs).1
  have hat : ∀ {s' : Shared} {H' : Hp}, Inv Y [] (wipe σ vs) H' s' → s'.heap.IsGen a gn := fun I' => isg _ (I'.pin (a, go) (List.mem_append_left _ hpn)).1
  refine GenW.wpAny_gsz hlt ?_
  refine wpAny_pyNext_genexpQ (n := N) (P := fun _ _ s₁ => ∃ H', Inv Y [] (wipe σ vs) H' s₁ ∧ Qn H') (Y := GYld Y vs σ z Qz) hh I0.nolimit hroom (hat I0) hgs (hgo _ rfl rfl (bare_set I0.bare rfl)) (fun v s₁ gs' hb hv => ?_) (fun s₁ hp h' hk => ?_)
  · obtain ⟨b, H', rfl, I', q1, q2⟩ := hv
    intro hsz
    have hsz1 : gn < s₁.gens.size := by
      have : gn + 1 ≤ (s₁.setGen gn gs').gens.size := hsz
      rw [GenW.setGen_size] at this
      exact this
    have J : Inv Y [] (wipe σ vs) H' (s₁.setGen gn gs') := gen_same I' rfl rfl (bare_set I'.bare hb)
    refine hy b _ H' J q1 fun hbz => ?_
    have k := q2 hbz
    cases N with
    | zero => exact (k s₁ rfl rfl I'.bare).elim
    | succ m =>
      refine ⟨m, Nat.lt_succ_self _, gs', H', J, ?_, fun s' e1 e2 e3 => k s' e1 e2 e3⟩
      show (s₁.gens.setIfInBounds gn gs')[gn]? = some gs'
      simp [hsz1]
  · obtain ⟨H', I', q⟩ := hp
    intro _
    have J : Inv Y [] (wipe σ vs) H' (s₁.setGen gn .finished) := gen_same I' rfl rfl (bare_set I'.bare rfl)
    exact hn _ H' (J.kept (t' := _) hk) q
theorem any_loopG {Y : Cx} {A : Around} {vs : List Nat} {σ : L2.St} {Qz Qn : Hp → Prop} {a : Addr} {gn : Nat} {go : Obj} {R : Result → Shared → Prop} (hh : A.handled = none) (hroom : A.depth < recursionLimit)
    (hpn : (a, go) ∈ Y.pn) (isg : ∀ h : Heap, h.get? a = some go → h.IsGen a gn)
    (hR : ∀ b s' H', Inv Y [] (wipe σ vs) H' s' → (b = true → Qz H') → (b = false → Qn H') → R (.ok (.ret (.bool b))) s') :
    ∀ (N : Nat) (s : Shared), GAt Y A.in1.in1 vs σ true Qz Qn gn N s → codeAny (model Y.prog Y.w) A (.builtin "any.loop" ⟨[.ref a], []⟩) R s := by
  intro N
  induction N using Nat.strongRecOn with
  | ind N ih =>
    intro s G
    refine codeAny_builtin F.entry_any_loop ?_
    rw [Around.under_plainId F.plain_any_loop _]
    show wpAny _ A.in1 (pyNext (.ref a) >>= _) _ _ s
    refine wpAny_bind (gen_next (A := A.in1) hh hroom hpn isg G (fun s' H' I' q => ?_) fun b s' H' I' q1 q2 => ?_)
    · exact wpAny_bind (wpAny_rule (wpAny_pure (hR false s' H' I' (fun e => nomatch e) fun _ => q)))
    · refine wpAny_bind (wpAny_holding (wpAny_truthy_bool ?_))
      refine wpAny_bind (wpAny_letGo ?_)
      cases b with
      | false =>
        simp only [Bool.false_eq_true, if_false]
        obtain ⟨N', hN', G'⟩ := q2 (by decide)
        exact wpAny_pure ⟨plainId_quiet F.plain_any_loop _, ih N' hN' s' G'⟩
      | true =>
        simp only [if_true]
        exact wpAny_bind (wpAny_rule (wpAny_pure (hR true s' H' I' (fun _ => q1 rfl) fun e => nomatch e)))
theorem all_loopG {Y : Cx} {A : Around} {vs : List Nat} {σ : L2.St} {Qz Qn : Hp → Prop} {a : Addr} {gn : Nat} {go : Obj} {R : Result → Shared → Prop} (hh : A.handled = none) (hroom : A.depth < recursionLimit)
    (hpn : (a, go) ∈ Y.pn) (isg : ∀ h : Heap, h.get? a = some go → h.IsGen a gn)
    (hR : ∀ b s' H', Inv Y [] (wipe σ vs) H' s' → (b = false → Qz H') → (b = true → Qn H') → R (.ok (.ret (.bool b))) s') :
    ∀ (N : Nat) (s : Shared), GAt Y A.in1.in1 vs σ false Qz Qn gn N s → codeAny (model Y.prog Y.w) A (.builtin "all.loop" ⟨[.ref a], []⟩) R s := by
  intro N
  induction N using Nat.strongRecOn with
  | ind N ih =>
    intro s G
    refine codeAny_builtin F.entry_all_loop ?_
    rw [Around.under_plainId F.plain_all_loop _]
    show wpAny _ A.in1 (pyNext (.ref a) >>= _) _ _ s
    refine wpAny_bind (gen_next (A := A.in1) hh hroom hpn isg G (fun s' H' I' q => ?_) fun b s' H' I' q1 q2 => ?_)
    · exact wpAny_bind (wpAny_rule (wpAny_pure (hR true s' H' I' (fun e => nomatch e) fun _ => q)))
    · refine wpAny_bind (wpAny_holding (wpAny_truthy_bool ?_))
      refine wpAny_bind (wpAny_letGo ?_)
      cases b with
      | true =>
        simp only [if_true]
        obtain ⟨N', hN', G'⟩ := q2 (by decide)
        exact wpAny_pure ⟨plainId_quiet F.plain_all_loop _, ih N' hN' s' G'⟩
      | false =>
        simp only [Bool.false_eq_true, if_false]
        exact wpAny_bind (wpAny_rule (wpAny_pure (hR false s' H' I' (fun _ => q1 rfl) fun e => nomatch e)))
/-- the reading's loop, one clause: W by the turn and a measure -/
def LoopG (J : It) (g : TG) (te : TE) (vs : List Nat) (σ : L2.St) (z : Bool) (Qz Qn : Hp → Prop) (H0 : Hp) : Prop := ∃ W : Nat → Nat → Hp → Prop, (∃ n, W 0 n H0) ∧ ∀ i n H, W i n H →
  (J.stop i H ∧ Qn H) ∨ (0 < n ∧ J.go i H ∧ ∀ x H', J.yld i H x H' → g x (wipe σ vs) H' fun σ2 H3 => wipe σ2 vs = wipe σ vs ∧ te σ2 H3 fun y H4 => ∃ b, y = .bl b ∧ (b = z → Qz H4) ∧ (b ≠ z → ∃ n', n' < n ∧ W (i + 1) n' H4))
/-- .. two clauses -/
def LoopG2 (J : It) (g : TG) (wi1 : TI) (g1 : TG) (te : TE) (vs vs1 : List Nat) (σ : L2.St) (z : Bool) (Qz Qn : Hp → Prop) (H0 : Hp) : Prop := ∃ W : Nat → Nat → Nat → Hp → Prop, (∃ m n, W 0 m n H0) ∧ ∀ i m n H, W i m n H →
  (J.stop i H ∧ Qn H) ∨ (J.go i H ∧ ∀ x H', J.yld i H x H' → g x (wipe σ vs) H' fun σ2 H3 => wipe σ2 vs = wipe σ vs ∧ wi1 σ2 H3 fun J1 H4 => ∃ W1 : Nat → Nat → Nat → Hp → Prop, (∃ k, W1 0 k n H4) ∧ ∀ j k n H, W1 j k n H →
    (J1.stop j H ∧ ∃ m', m' < m ∧ W (i + 1) m' n H) ∨ (0 < n ∧ J1.go j H ∧ ∀ x H', J1.yld j H x H' → g1 x (wipe σ2 vs1) H' fun σ3 H5 => wipe σ3 vs1 = wipe σ2 vs1 ∧ te σ3 H5 fun y H6 => ∃ b, y = .bl b ∧ (b = z → Qz H6) ∧ (b ≠ z → ∃ k' n', k' < k ∧ n' < n ∧ W1 (j + 1) k' n' H6)))
/-- any (z true), all (z false) of a generator expression: P the def's table, which may grow -/
def tAA (z : Bool) (P : Addr) (wi : TI) (L : It → L2.St → Bool → (Hp → Prop) → (Hp → Prop) → Hp → Prop) : TE := fun σ H Q => wi σ H fun J H1 => GxR.TabG H1 P ∧ ∀ H2, GxR.Tabbed P H1 H2 → L J σ z (Q (.bl z)) (Q (.bl (!z))) H2
abbrev GCx (X : Cx) (scope : Scope) (s : Shared) (H : Hp) (C : Addr) (code : Value) (fp : List Addr) (pn : List (Addr × Obj)) : Cx := gblk X s H (genEnv scope (cloFrom X.env.cells scope.names []) C code builtinsNs X.env) fp pn
/-- what the loops say of a made generator -/
theorem made_at {own : List (PySem.Str × Nat)} {rest : List Comprehension} {pins : List (Addr × Obj)} {σ : L2.St} {R : It → Hp → Prop} {s4 : Shared} {H : Hp} {C : Addr} {code : Value} {fp : List Addr} {go : Obj} {it : Addr} {tn : Nat → Heap → Prop} {J : It} {a : Addr} {gn : Nat} {s5 : Shared} {z : Bool} {Qz Qn : Hp → Prop} {N : Nat}
    (G : GMadeX X pins σ own elt tg iter rest scope gpos R s4 H C code fp go it tn J a gn s5)
    (hl : ∀ s' : Shared, Inv (GCx X scope s4 H C code fp [(a, go)]) [] (wipe σ (own.map (·.2))) H s' → tn 0 s'.heap → Seg (model X.prog X.w) X.A.in1.in1 (GEnd (GCx X scope s4 H C code fp [(a, go)]) (own.map (·.2)) σ Qn) (GYld (GCx X scope s4 H C code fp [(a, go)]) (own.map (·.2)) σ z Qz) N s' (.compLoop (.GeneratorExp elt (⟨tg, iter, [], 0⟩ :: rest) scope gpos) 0 (.ref it) .none (genEnv scope (cloFrom X.env.cells scope.names []) C code builtinsNs X.env))
      ((model X.prog X.w).den (.compLoop (.GeneratorExp elt (⟨tg, iter, [], 0⟩ :: rest) scope gpos) 0 (.ref it) .none (genEnv scope (cloFrom X.env.cells scope.names []) C code builtinsNs X.env))) [] s') :
    GAt (GCx X scope s4 H C code fp [(a, go)]) X.A.in1.in1 (own.map (·.2)) σ z Qz Qn gn N s5 := by
  refine ⟨_, H, G.blk, G.gen, fun s' e1 e2 e3 => ⟨rfl, ?_⟩⟩
  have st' : tn 0 s'.heap := by rw [e1]; exact G.st
  exact seg_genS (X := GCx X scope s4 H C code fp [(a, go)]) (fp := fp) rfl G.turn st' (hl s' (gen_same G.blk e1 e2 e3) st')
/-- back from the generator's frame -/
theorem made_back {own : List (PySem.Str × Nat)} {rest : List Comprehension} {pins : List (Addr × Obj)} {σ : L2.St} {R : It → Hp → Prop} {s4 : Shared} {H H' : Hp} {C : Addr} {code : Value} {fp : List Addr} {go : Obj} {it : Addr} {tn : Nat → Heap → Prop} {J : It} {a : Addr} {gn : Nat} {s5 s' : Shared} {σ' : L2.St}
    (G : GMadeX X pins σ own elt tg iter rest scope gpos R s4 H C code fp go it tn J a gn s5) (I : Inv (GCx X scope s4 H C code fp [(a, go)]) [] σ' H' s') : Inv X pins σ H' s' :=
  G.inv.call' (ch := fp) I.os I.base I.hok I.bare fun b hb => ⟨(G.fpk b hb).1.2.2.2.1, (G.fpk b hb).1.2.1, (G.fpk b hb).1.2.2.2.2.1, (G.fpk b hb).1.2.2.2.2.2⟩
section
variable {own : List (PySem.Str × Nat)} {c P : Addr} {wi : TI} {g : TG} {te : TE} {k : Nat} {p pos : Pos}
/-- any(elt for tg in iter) -/
theorem pe_any1 (hr : Room k X.A) (hc : X.calm = true) (hg : Gl X "any") (hm : X.mg "any" = none) (TB : GxR.TabB X.base X.mg c P) (hcode : X.env.code = .ref c) (S : GScp scope) (hN : X.N.Nodup) (ok : BlkOk X.N X.env.scope scope own) (hi : PI X tg iter wi)
    (hgt : ∀ s H C code fp pn, PG (GCx X scope s H C code fp pn) tg g) (he : ∀ s H C code fp pn, PE (GCx X scope s H C code fp pn) elt te) (hs : ∀ v, genFold iter X.env v = pure v := by intro _; rfl)
    (hst : starEach [gExp elt tg iter scope gpos] X.env = (false, eval (gExp elt tg iter scope gpos) X.env) :: starEach [] X.env := by rfl) :
    PE X (.Call (.Name "any" p) [gExp elt tg iter scope gpos] [] pos) (tAA true P wi fun J σ z Qz Qn H2 => LoopG J g te (own.map (·.2)) σ z Qz Qn H2) := by
  refine ⟨fun pins s σ H Q I h => ?_⟩
  refine wpAny_Call_Name_kw (ld_blt I hg hm boot_any ?_)
  refine PyProof.Rows.callWith_builtin1 ?_ hst (by rfl)
  rw [hst]
  show wpAny _ _ (spliced ((false, eval (gExp elt tg iter scope gpos) X.env) :: backTo pos (starEach [] X.env))) _ _ s
  refine Calls.spliced_cons (gen_eval hr TB hcode S hN ok hi hs I h fun s4 H4 C code fp go it tn J a gn s5 G => ?_)
  refine Calls.spliced_nil ?_
  obtain ⟨W, ⟨n0, w0⟩, hw⟩ := G.rd
  have at5 := made_at (rest := []) (z := true) (Qz := Q (.bl true)) (Qn := Q (.bl (!true))) (N := n0) G fun s' I' st' =>
    seg_gen1 (X := GCx X scope s4 H4 C code fp [(a, go)]) rfl hc S.co (fun q hq b hb e => by
      rw [List.mem_singleton.mp hq] at e
      have h1 := (G.fpk b hb).2
      have h2 := G.old
      have e' : a = b := e
      rw [e'] at h2
      exact absurd (Nat.lt_trans h1 h2) (Nat.lt_irrefl _)) rfl G.turn (hgt s4 H4 C code fp [(a, go)]) (he s4 H4 C code fp [(a, go)]) hw n0 n0 0 s' s' H4 (Nat.le_refl _) w0 I' st' (fun b hb => (G.fpk b hb).1.1)
  refine call_function_tree F.kind_any F.plain_any F.entry_any (F.args_any1 _) ?_
  unfold Builtin.«any»
  refine wpAny_bind (m := oneArg "any" _) (wpAny_pure ?_)
  refine wpAny_bind (wpAny_pyIter_gen (G.isg _ (G.blk.pin (a, go) (List.mem_append_left _ (List.mem_singleton.mpr rfl))).1) ?_)
  refine wpAny_pure ⟨plainId_quiet F.plain_any_loop _, ?_⟩
  exact any_loopG (Y := GCx X scope s4 H4 C code fp [(a, go)]) (go := go) hr.hd (by have := hr.dp; show X.A.depth < _; omega) (List.mem_singleton.mpr rfl) G.isg (fun b s' H' I' q1 q2 => by
    refine ⟨.bl b, H', made_back G I', rfl, ?_⟩
    cases b with
    | true => exact q1 rfl
    | false => exact q2 rfl) n0 s5 at5
/-- all(elt for tg in iter) -/
theorem pe_all1 (hr : Room k X.A) (hc : X.calm = true) (hg : Gl X "all") (hm : X.mg "all" = none) (TB : GxR.TabB X.base X.mg c P) (hcode : X.env.code = .ref c) (S : GScp scope) (hN : X.N.Nodup) (ok : BlkOk X.N X.env.scope scope own) (hi : PI X tg iter wi)
    (hgt : ∀ s H C code fp pn, PG (GCx X scope s H C code fp pn) tg g) (he : ∀ s H C code fp pn, PE (GCx X scope s H C code fp pn) elt te) (hs : ∀ v, genFold iter X.env v = pure v := by intro _; rfl)
    (hst : starEach [gExp elt tg iter scope gpos] X.env = (false, eval (gExp elt tg iter scope gpos) X.env) :: starEach [] X.env := by rfl) :
    PE X (.Call (.Name "all" p) [gExp elt tg iter scope gpos] [] pos) (tAA false P wi fun J σ z Qz Qn H2 => LoopG J g te (own.map (·.2)) σ z Qz Qn H2) := by
  refine ⟨fun pins s σ H Q I h => ?_⟩
  refine wpAny_Call_Name_kw (ld_blt I hg hm (show bootBuiltins "all" = some (.builtin "all") by decide +kernel) ?_)
  refine PyProof.Rows.callWith_builtin1 ?_ hst (by rfl)
  rw [hst]
  show wpAny _ _ (spliced ((false, eval (gExp elt tg iter scope gpos) X.env) :: backTo pos (starEach [] X.env))) _ _ s
  refine Calls.spliced_cons (gen_eval hr TB hcode S hN ok hi hs I h fun s4 H4 C code fp go it tn J a gn s5 G => ?_)
  refine Calls.spliced_nil ?_
  obtain ⟨W, ⟨n0, w0⟩, hw⟩ := G.rd
  have at5 := made_at (rest := []) (z := false) (Qz := Q (.bl false)) (Qn := Q (.bl (!false))) (N := n0) G fun s' I' st' =>
    seg_gen1 (X := GCx X scope s4 H4 C code fp [(a, go)]) rfl hc S.co (fun q hq b hb e => by
      rw [List.mem_singleton.mp hq] at e
      have h1 := (G.fpk b hb).2
      have h2 := G.old
      have e' : a = b := e
      rw [e'] at h2
      exact absurd (Nat.lt_trans h1 h2) (Nat.lt_irrefl _)) rfl G.turn (hgt s4 H4 C code fp [(a, go)]) (he s4 H4 C code fp [(a, go)]) hw n0 n0 0 s' s' H4 (Nat.le_refl _) w0 I' st' (fun b hb => (G.fpk b hb).1.1)
  refine call_function_tree F.kind_all F.plain_all F.entry_all (F.args_all1 _) ?_
  unfold Builtin.«all»
  refine wpAny_bind (m := oneArg "all" _) (wpAny_pure ?_)
  refine wpAny_bind (wpAny_pyIter_gen (G.isg _ (G.blk.pin (a, go) (List.mem_append_left _ (List.mem_singleton.mpr rfl))).1) ?_)
  refine wpAny_pure ⟨plainId_quiet F.plain_all_loop _, ?_⟩
  exact all_loopG (Y := GCx X scope s4 H4 C code fp [(a, go)]) (go := go) hr.hd (by have := hr.dp; show X.A.depth < _; omega) (List.mem_singleton.mpr rfl) G.isg (fun b s' H' I' q1 q2 => by
    refine ⟨.bl b, H', made_back G I', rfl, ?_⟩
    cases b with
    | false => exact q1 rfl
    | true => exact q2 rfl) n0 s5 at5
/-- any(elt for tg in iter for tg1 in iter1) -/
theorem pe_any2 {tg1 iter1 : Expr} {g1 : TG} {wi1 : TI} {vs1 : List Nat} (hr : Room k X.A) (hc : X.calm = true) (hg : Gl X "any") (hm : X.mg "any" = none) (TB : GxR.TabB X.base X.mg c P) (hcode : X.env.code = .ref c) (S : GScp scope) (hN : X.N.Nodup) (ok : BlkOk X.N X.env.scope scope own) (hi : PI X tg iter wi)
    (hgt : ∀ s H C code fp pn, PG (GCx X scope s H C code fp pn) tg g) (hi1 : ∀ s H C code fp pn, PI (GCx X scope s H C code fp pn) tg1 iter1 wi1) (hg1 : ∀ s H C code fp pn, PG (GCx X scope s H C code fp pn) tg1 g1) (hv : ∀ i ∈ vs1, i ∈ own.map (·.2)) (hs1 : ∀ env x, foldedSetIterable iter1 env x = pure x) (he : ∀ s H C code fp pn, PE (GCx X scope s H C code fp pn) elt te) (hs : ∀ v, genFold iter X.env v = pure v := by intro _; rfl)
    (hst : starEach [gExp2 elt tg iter tg1 iter1 scope gpos] X.env = (false, eval (gExp2 elt tg iter tg1 iter1 scope gpos) X.env) :: starEach [] X.env := by rfl) :
    PE X (.Call (.Name "any" p) [gExp2 elt tg iter tg1 iter1 scope gpos] [] pos) (tAA true P wi fun J σ z Qz Qn H2 => LoopG2 J g wi1 g1 te (own.map (·.2)) vs1 σ z Qz Qn H2) := by
  refine ⟨fun pins s σ H Q I h => ?_⟩
  refine wpAny_Call_Name_kw (ld_blt I hg hm boot_any ?_)
  refine PyProof.Rows.callWith_builtin1 ?_ hst (by rfl)
  rw [hst]
  show wpAny _ _ (spliced ((false, eval (gExp2 elt tg iter tg1 iter1 scope gpos) X.env) :: backTo pos (starEach [] X.env))) _ _ s
  refine Calls.spliced_cons (gen_eval hr TB hcode S hN ok hi hs I h fun s4 H4 C code fp go it tn J a gn s5 G => ?_)
  refine Calls.spliced_nil ?_
  obtain ⟨W, ⟨m0, n0, w0⟩, hw⟩ := G.rd
  have at5 := made_at (rest := [⟨tg1, iter1, [], 0⟩]) (z := true) (Qz := Q (.bl true)) (Qn := Q (.bl (!true))) (N := n0) G fun s' I' st' =>
    seg_gen2 (X := GCx X scope s4 H4 C code fp [(a, go)]) rfl hc S.co (fun q hq b hb e => by
      rw [List.mem_singleton.mp hq] at e
      have h1 := (G.fpk b hb).2
      have h2 := G.old
      have e' : a = b := e
      rw [e'] at h2
      exact absurd (Nat.lt_trans h1 h2) (Nat.lt_irrefl _)) rfl G.turn (hgt s4 H4 C code fp [(a, go)]) (hi1 s4 H4 C code fp [(a, go)]) (hg1 s4 H4 C code fp [(a, go)]) (he s4 H4 C code fp [(a, go)]) (hs1 _) hv hw m0 n0 n0 0 s' s' H4 (Nat.le_refl _) w0 I' st' (fun b hb => (G.fpk b hb).1.1)
  refine call_function_tree F.kind_any F.plain_any F.entry_any (F.args_any1 _) ?_
  unfold Builtin.«any»
  refine wpAny_bind (m := oneArg "any" _) (wpAny_pure ?_)
  refine wpAny_bind (wpAny_pyIter_gen (G.isg _ (G.blk.pin (a, go) (List.mem_append_left _ (List.mem_singleton.mpr rfl))).1) ?_)
  refine wpAny_pure ⟨plainId_quiet F.plain_any_loop _, ?_⟩
  exact any_loopG (Y := GCx X scope s4 H4 C code fp [(a, go)]) (go := go) hr.hd (by have := hr.dp; show X.A.depth < _; omega) (List.mem_singleton.mpr rfl) G.isg (fun b s' H' I' q1 q2 => by
    refine ⟨.bl b, H', made_back G I', rfl, ?_⟩
    cases b with
    | true => exact q1 rfl
    | false => exact q2 rfl) n0 s5 at5
end
end
end K51
end

section
set_option Elab.async false
set_option linter.all false
set_option maxRecDepth 100000
set_option maxHeartbeats 2000000
/-! set comprehensions of whole numbers, one and two clauses; sorted of them -/
namespace K51
open PySem PySem.Spec PyProof.Rows L2
section
variable {X : Cx}
/-- one more member -/
abbrev more (S : Int → Bool) (c : Int) : Int → Bool := fun j => S j || decide (j = c)
theorem addI_ok {pins : List (Addr × Obj)} {σ : L2.St} {H : Hp} {s : Shared} {E : Value → Shared → Prop} {D : Addr} {S : Int → Bool} {n : Nat} {y : Int} {t : Tok} {Q : Value → Shared → Prop} (I : Inv X pins σ H s) (hD : H D = some (SetO X.w D S n)) (room : n + 1 < scanBound)
    (h : ∀ s', Inv X pins σ (upd H D (SetO X.w D (more S y) (if S y = true then n else n + 1))) s' → Q .none s') : wpAny (model X.prog X.w) X.A (call (.builtin "set.add") [.ref D, .int y t]) Q E s := by
  refine setR_add (setO_get I hD) room fun h' sb new => ?_
  have he : ∃ u, h'.get? D = some u := let ⟨o, _, _, _, ho, _⟩ := new; ⟨o, ho⟩
  exact h _ (I.write (e := D) (t' := s.toks + 1) (by rw [hD]; trivial) (.inl rfl) (fun b u hb hu => (sb.2 b hb).trans hu) he (setO_new new))
/-- what a turn adds -/
def Adds (w : World) (D : Addr) (Nx : Hp → Prop) (y : V) (H : Hp) : Prop := ∃ (c : Int) (S : Int → Bool) (n : Nat), y = .int c ∧ H D = some (SetO w D S n) ∧ n + 1 < scanBound ∧ Nx (upd H D (SetO w D (more S c) (if S c = true then n else n + 1)))
/-- {elt for tg in iter if ..} -/
def tSI (w : World) (wi : TI) (g : TG) (tt : TT) (te : TE) (vs : List Nat) : TE := fun σ H Q => wi σ H fun J H1 => ∀ D, H1 D = none → ∃ W : Nat → Nat → Hp → Prop, (∃ m, W 0 m (upd H1 D (SetO w D (fun _ => false) 0))) ∧ ∀ i m H, W i m H →
  (J.stop i H ∧ Q (.ref D) H) ∨ (J.go i H ∧ ∃ Nx : Hp → Prop, (∀ H', Nx H' → ∃ m', m' < m ∧ W (i + 1) m' H') ∧ ∀ x H', J.yld i H x H' → g x (wipe σ vs) H' fun σ2 H2 => wipe σ2 vs = wipe σ vs ∧ tt σ2 H2 fun b H3 =>
    if b = true then te σ2 H3 fun y H4 => Adds w D Nx y H4 else Nx H3)
/-- {elt for tg in iter for tg1 in iter1} -/
def tSI2 (w : World) (wi : TI) (g : TG) (wi1 : TI) (g1 : TG) (te : TE) (vs vs1 : List Nat) : TE := fun σ H Q => wi σ H fun J H1 => ∀ D, H1 D = none → ∃ W : Nat → Nat → Hp → Prop, (∃ m, W 0 m (upd H1 D (SetO w D (fun _ => false) 0))) ∧ ∀ i m H, W i m H →
  (J.stop i H ∧ Q (.ref D) H) ∨ (J.go i H ∧ ∃ Nx : Hp → Prop, (∀ H', Nx H' → ∃ m', m' < m ∧ W (i + 1) m' H') ∧ ∀ x H', J.yld i H x H' → g x (wipe σ vs) H' fun σ2 H2 => wipe σ2 vs = wipe σ vs ∧ wi1 σ2 H2 fun J1 H4 => ∃ W1 : Nat → Nat → Hp → Prop, (∃ m, W1 0 m H4) ∧ ∀ j k H, W1 j k H →
    (J1.stop j H ∧ Nx H) ∨ (J1.go j H ∧ ∃ Nx1 : Hp → Prop, (∀ H', Nx1 H' → ∃ k', k' < k ∧ W1 (j + 1) k' H') ∧ ∀ x H', J1.yld j H x H' → g1 x (wipe σ2 vs1) H' fun σ3 H5 => wipe σ3 vs1 = wipe σ2 vs1 ∧ te σ3 H5 fun y H6 => Adds w D Nx1 y H6))
/-- the block of any set comprehension: from its first loop's code to its value -/
theorem si_begin {pins : List (Addr × Obj)} {s : Shared} {σ : L2.St} {H : Hp} {elt tg iter : Expr} {ifs : List Expr} {rest : List Comprehension} {scope : Scope} {own : List (PySem.Str × Nat)} {pos : Pos} {wi : TI} {Q : VK} {RJ : It → Hp → Prop}
    (hN : X.N.Nodup) (I : Inv X pins σ H s) (hi : PI X tg iter wi) (ok : BlkOk X.N X.env.scope scope own) (hs : ∀ x, foldedSetIterable iter X.env x = pure x) (h : wi σ H RJ)
    (hloop : ∀ (J : It) (H1 : Hp) (D : Addr) (fp : List Addr) (it : Addr) (tn : Nat → Heap → Prop) (s3 s4 : Shared) (C : Addr) (cl : List (PySem.Str × Addr)) (R : Result → Shared → Prop), RJ J H1 → H1 D = none → Turn X.prog X.w X.K tg J fp it tn →
      Inv (X.blk s3 (upd H1 D (SetO X.w D (fun _ => false) 0)) scope (compEnvC scope cl C X.env) fp) [] (wipe σ (own.map (·.2))) (upd H1 D (SetO X.w D (fun _ => false) 0)) s4 → tn 0 s4.heap → (∀ b ∈ fp, (upd H1 D (SetO X.w D (fun _ => false) 0)) b = none) →
      (∀ s' H', Inv (X.blk s3 (upd H1 D (SetO X.w D (fun _ => false) 0)) scope (compEnvC scope cl C X.env) fp) [] (wipe σ (own.map (·.2))) H' s' → Q (.ref D) H' → R (.ok .next) s') →
      codeAny (model X.prog X.w) X.A (.compLoop (.SetComp elt (⟨tg, iter, ifs, 0⟩ :: rest) scope pos) 0 (.ref it) (.ref D) (compEnvC scope cl C X.env)) R s4) :
    wpAny (model X.prog X.w) X.A (eval (.SetComp elt (⟨tg, iter, ifs, 0⟩ :: rest) scope pos) X.env) (EP X pins σ Q) X.xe s := by
  have hfree : ∀ y ∈ scope.names, y.2 = .free → ∃ c, X.env.cells.lookup y.1 = some c := fun y hy e => (ok.free y hy e).elim (fun k => I.ok.has _ (.inl k)) fun k => I.ok.has _ (.inr k)
  rw [PpSet.eval_SetComp]
  refine wpAny_comprehension_free (use := none) rfl hs (closure_ok hfree) ok.kind (fun y hy e => by rw [ok.uniq y hy, e]) (thn (hi.run pins s σ H _ I h) fun xv s1 hx => thn hx fun itv s2 h2 => ?_)
  obtain ⟨it, fp, tn, J, H2, rfl, I2, T, st2, f2, q⟩ := h2
  refine PpSet.newSet_ok (newEnv_comp ?_)
  generalize hD : s2.heap.objs.size = D
  have hDn : H2 D = none := I2.hok.fresh (Nat.le_of_eq hD)
  generalize hs3 : ({ s2 with heap := s2.heap.push { cls := .type "set", dict := none, data := .set #[] 0 (.fresh 0 0 (!X.w.params.followText "set-order")) } } : Shared) = s3
  have h3 : s3.heap = s2.heap.push { cls := .type "set", dict := none, data := .set #[] 0 (.fresh 0 0 (!X.w.params.followText "set-order")) } := by rw [← hs3]
  have I3 : Inv X pins σ (upd H2 D (SetO X.w D (fun _ => false) 0)) s3 := by
    rw [← hs3]
    refine I2.laid (t' := s2.toks) (fun b o e => Heap.get?_push_of_some _ e) (Nat.le_of_eq hD) ?_
    rw [← hD]
    exact setO_new (setR_fresh X.w)
  have f3 : ∀ b ∈ fp, FpOk X pins (upd H2 D (SetO X.w D (fun _ => false) 0)) b ∧ b < s3.heap.objs.size := fun b hb => by
    obtain ⟨o, e, _⟩ := T.obj _ _ st2 b hb
    have hlt := Heap.lt_size e
    refine ⟨⟨?_, (f2 b hb).2⟩, by rw [h3, Heap.size_push]; exact Nat.lt_succ_of_lt hlt⟩
    rw [upd_ne (by rw [← hD]; exact Nat.ne_of_lt hlt)]
    exact (f2 b hb).1
  have st3 : tn 0 s3.heap := T.keep _ _ _ st2 fun b _ o e => by rw [h3]; exact Heap.get?_push_of_some _ e
  have I4 := block_start I3 ok hN f3
  generalize hs4 : ({ s3 with heap := pushCells (s3.heap.push { cls := .type "dict", data := .dict #[] }) scope.names } : Shared) = s4 at I4
  have st4 : tn 0 s4.heap := T.keep _ _ _ st3 fun b _ o e => by rw [← hs4]; exact pushCells_keeps _ _ _ _ (Heap.get?_push_of_some _ e)
  show codeAny _ _ (.compStart (.SetComp elt (⟨tg, iter, ifs, 0⟩ :: rest) scope pos) 0 (.ref it) (.ref D) (compEnvC scope (cellsFrom (s3.heap.objs.size + 1) scope.names (cloFrom X.env.cells scope.names [])) s3.heap.objs.size X.env)) (compPost (model X.prog X.w) X.A X.xe none (EP X pins σ Q) (.ref D) s3.heap.objs.size) s4
  have loop := hloop J H2 D fp it tn s3 s4 s3.heap.objs.size (cellsFrom (s3.heap.objs.size + 1) scope.names (cloFrom X.env.cells scope.names [])) (compPost (model X.prog X.w) X.A X.xe none (EP X pins σ Q) (.ref D) s3.heap.objs.size) q hDn T I4 st4 (fun b hb => (f3 b hb).1.1) fun s' H' I' qq => by
    have I7 : Inv X pins σ H' s' := I3.call' (ch := fp) I'.os I'.base I'.hok I'.bare fun b hb => ⟨(f3 b hb).1.2.2.2.1, (f3 b hb).1.2.1, (f3 b hb).1.2.2.2.2.1, (f3 b hb).1.2.2.2.2.2⟩
    have nC : H' s3.heap.objs.size = none := I'.free
    obtain ⟨m, hn, _⟩ := I'.loc
    have hn : s'.heap.Ns s3.heap.objs.size m := hn
    obtain ⟨g0, g1, g2, g3, g4, g5⟩ := I3.fpOk (Nat.le_refl _) nC
    exact ⟨m, hn, fun h'' sb => ⟨.ref D, H', I7.turned (t' := s'.toks) (fun b o hb e => (sb.2 b hb).trans e) g0 g1 g3 g4 g5, rfl, qq⟩⟩
  exact PpSet.codeAny_compStart_set loop (T.self X.A 0 _ _ _ st4 loop)
abbrev ForBlk (X : Cx) (scope : Scope) (F : Cx → Prop) : Prop := ∀ (s : Shared) (H : Hp) (C : Addr) (cl : List (PySem.Str × Addr)) (fp : List Addr), F (X.blk s H scope (compEnvC scope cl C X.env) fp)
theorem pe_si {elt tg iter : Expr} {ifs : List Expr} {scope : Scope} {own : List (PySem.Str × Nat)} {pos : Pos} {wi : TI} {g : TG} {tt : TT} {te : TE} (hc : X.calm = true) (hN : X.N.Nodup) (hi : PI X tg iter wi) (ok : BlkOk X.N X.env.scope scope own)
    (hg : ForBlk X scope fun Y => PG Y tg g) (ht : ForBlk X scope fun Y => PTs Y ifs tt) (he : ForBlk X scope fun Y => PE Y elt te) (hs : ∀ x, foldedSetIterable iter X.env x = pure x := by intro _; rfl) :
    PE X (.SetComp elt [⟨tg, iter, ifs, 0⟩] scope pos) (tSI X.w wi g tt te (own.map (·.2))) := by
  refine ⟨fun pins s σ H Q I h => si_begin hN I hi ok hs h fun J H1 D fp it tn s3 s4 C cl R q hDn T I4 st4 n4 hR => ?_⟩
  obtain ⟨W, ⟨m0, w0⟩, turn⟩ := q D hDn
  have pg := hg s3 (upd H1 D (SetO X.w D (fun _ => false) 0)) C cl fp
  have pt := ht s3 (upd H1 D (SetO X.w D (fun _ => false) 0)) C cl fp
  have pe := he s3 (upd H1 D (SetO X.w D (fun _ => false) 0)) C cl fp
  generalize upd H1 D (SetO X.w D (fun _ => false) 0) = H3 at *
  have stat : ∀ {σ' : L2.St} {H' : Hp} {s' : Shared}, Inv (X.blk s3 H3 scope (compEnvC scope cl C X.env) fp) [] σ' H' s' → (∀ b ∈ fp, H' b = none) → ∀ b ∈ fp, FpOk (X.blk s3 H3 scope (compEnvC scope cl C X.env) fp) [] H' b := fun {σ' H' s'} I' hn b hb =>
    ⟨hn b hb, (I'.ok.exf b hb).1, I'.ok.exfs b hb, .inl hb, fun x c e => (I'.ok.exf b hb).2 x c e, fun p hp => absurd (show p ∈ ([] : List (Addr × Obj)) ++ [] from hp) (by simp)⟩
  refine PpSet.compLoopS_any (fun n s' => ∃ i H', Inv (X.blk s3 H3 scope (compEnvC scope cl C X.env) fp) [] (wipe σ (own.map (·.2))) H' s' ∧ tn i s'.heap ∧ (∀ b ∈ fp, H' b = none) ∧ W i n H') ?_ m0 ⟨0, H3, I4, st4, n4, w0⟩
  rintro n s5 ⟨i, H5, I5, st5, n5, w5⟩
  rcases turn i n H5 w5 with ⟨stop, qq⟩ | ⟨go, Nx, hNx, step⟩
  · refine thnF (T.done (X.blk s3 H3 scope (compEnvC scope cl C X.env) fp) rfl rfl rfl hc i [] s5 _ H5 (fun _ _ => False) I5 (stat I5 n5) st5 stop) fun r s6 hr => ?_
    obtain ⟨rfl, I6⟩ := hr
    exact hR s6 H5 I6 qq
  · refine thnF (T.item (X.blk s3 H3 scope (compEnvC scope cl C X.env) fp) rfl rfl rfl hc i [] s5 _ H5 (fun _ _ => False) I5 (stat I5 n5) st5 go) fun r s6 hr => ?_
    obtain ⟨u, rfl, h6⟩ := hr
    refine thnF h6 fun _ s7 h7 => ?_
    obtain ⟨x, H7, I7, r7, y7, st7, n7⟩ := h7
    have I7' := I7.pinned (stat I7 n7) (T.obj _ _ st7)
    refine thnF (pg.run _ s7 _ H7 x u _ I7' r7 (step x H7 y7)) fun _ s8 h8 => ?_
    obtain ⟨σ8, H8, I8, hw8, q8⟩ := h8
    refine thnF (pt.run _ s8 σ8 H8 _ I8 q8) fun b s9 h9 => ?_
    obtain ⟨H9, I9, q9⟩ := h9
    have fin : ∀ {s' : Shared} {H' : Hp}, Inv (X.blk s3 H3 scope (compEnvC scope cl C X.env) fp) ([] ++ pinsAt fp s7.heap) σ8 H' s' → Nx H' → ∃ m, m < n ∧ ∃ i H', Inv (X.blk s3 H3 scope (compEnvC scope cl C X.env) fp) [] (wipe σ (own.map (·.2))) H' s' ∧ tn i s'.heap ∧ (∀ b ∈ fp, H' b = none) ∧ W i m H' := fun {s' H'} I' nx => by
      obtain ⟨m', hm, w'⟩ := hNx H' nx
      have pin' : ∀ b ∈ fp, ∀ o, s7.heap.get? b = some o → s'.heap.get? b = some o ∧ H' b = none := fun b hb o e =>
        let z := I'.pin (b, o) (List.mem_append_right _ (List.mem_append_right _ (mem_pinsAt hb e)))
        ⟨z.1, z.2.1⟩
      refine ⟨m', hm, i + 1, H', (I'.unpinned (pins := [])).weak (by rw [← hw8, wipe_length]) (fun j v e => ?_), T.keep _ _ _ st7 fun b hb o e => (pin' b hb o e).1, fun b hb => ?_, w'⟩
      · rw [← hw8] at e
        exact (wipe_some e).1
      · obtain ⟨o, e, _⟩ := T.obj _ _ st7 b hb
        exact (pin' b hb o e).2
    cases b with
    | false =>
      simp only [Bool.false_eq_true, if_false] at q9 ⊢
      exact fin I9 q9
    | true =>
      simp only [if_true] at q9 ⊢
      refine thnF (pe.run _ s9 σ8 H9 _ I9 q9) fun z s10 h10 => ?_
      obtain ⟨yv, H10, I10, r10, cb, S0, n0, rfl, hD10, hz10, nx⟩ := h10
      obtain ⟨t10, rfl⟩ := r10
      exact addI_ok (X := X.blk s3 H3 scope (compEnvC scope cl C X.env) fp) I10 hD10 hz10 fun s11 I11 => fin I11 nx
/-! ### two clauses -/
abbrev sExp2 (elt tg iter tg1 iter1 : Expr) (scope : Scope) (pos : Pos) : Expr := .SetComp elt [⟨tg, iter, [], 0⟩, ⟨tg1, iter1, [], 0⟩] scope pos
theorem sturn2_out (elt tg iter tg1 iter1 : Expr) (scope : Scope) (pos : Pos) (it acc : Value) (env : Env) :
    compTurn (sExp2 elt tg iter tg1 iter1 scope pos) 0 it acc env = (do
      standAt iter.pos
      match ← pyNext it with
      | none => pure (.done .next)
      | some v =>
        letOwnedTupleGo tg it v
        assign tg env v
        let mut ok := true
        for c in ([] : List Expr) do
          if ok then ok ← isTrue c env (eval c env)
        if ok then
          let x ← eval iter1 env
          standAt iter1.pos
          let x ← foldedSetIterable iter1 env x
          let _ ← runOwn (.compStart (sExp2 elt tg iter tg1 iter1 scope pos) 1 (← holding [x] (pyIter x)) acc env) env
        again (.compLoop (sExp2 elt tg iter tg1 iter1 scope pos) 0 it acc env)) := by rfl
theorem sturn2_in (elt tg iter tg1 iter1 : Expr) (scope : Scope) (pos : Pos) (it acc : Value) (env : Env) :
    compTurn (sExp2 elt tg iter tg1 iter1 scope pos) 1 it acc env = (do
      standAt iter1.pos
      match ← pyNext it with
      | none => pure (.done .next)
      | some v =>
        letOwnedTupleGo tg1 it v
        assign tg1 env v
        let mut ok := true
        for c in ([] : List Expr) do
          if ok then ok ← isTrue c env (eval c env)
        if ok then
          (do let v ← eval elt env; standAt elt.pos; let _ ← call (.builtin "set.add") [acc, v])
        again (.compLoop (sExp2 elt tg iter tg1 iter1 scope pos) 1 it acc env)) := by rfl
abbrev noE : Value → Shared → Prop := fun _ _ => False
theorem noted_no {M : Model} {A : Around} {env : Env} {Q : Unit → Shared → Prop} {α : Type} {t : Sem α} {Qa : α → Shared → Prop} {E : Value → Shared → Prop} {s : Shared} (h : wpAny M A t Qa noE s) : wpAny M A t Qa E s := wpAny_mono h (fun _ _ q => q) fun _ _ z => False.elim z
theorem pe_si2 {elt tg iter tg1 iter1 : Expr} {scope : Scope} {own : List (PySem.Str × Nat)} {vs1 : List Nat} {pos : Pos} {wi wi1 : TI} {g g1 : TG} {te : TE} (hc : X.calm = true) (hN : X.N.Nodup) (hi : PI X tg iter wi) (ok : BlkOk X.N X.env.scope scope own) (hv : ∀ i ∈ vs1, i ∈ own.map (·.2))
    (hg : ForBlk X scope fun Y => PG Y tg g) (hi1 : ForBlk X scope fun Y => PI Y tg1 iter1 wi1) (hg1 : ForBlk X scope fun Y => PG Y tg1 g1) (he : ForBlk X scope fun Y => PE Y elt te) (hs : ∀ x, foldedSetIterable iter X.env x = pure x := by intro _; rfl) (hs1 : ∀ env x, foldedSetIterable iter1 env x = pure x := by intro _ _; rfl) :
    PE X (sExp2 elt tg iter tg1 iter1 scope pos) (tSI2 X.w wi g wi1 g1 te (own.map (·.2)) vs1) := by
  refine ⟨fun pins s σ H Q I h => si_begin hN I hi ok hs h fun J H1 D fp it tn s3 s4 C cl R q hDn T I4 st4 n4 hR => ?_⟩
  obtain ⟨W, ⟨m0, w0⟩, turn⟩ := q D hDn
  have pg := hg s3 (upd H1 D (SetO X.w D (fun _ => false) 0)) C cl fp
  have pi1 := hi1 s3 (upd H1 D (SetO X.w D (fun _ => false) 0)) C cl fp
  have pg1 := hg1 s3 (upd H1 D (SetO X.w D (fun _ => false) 0)) C cl fp
  have pe := he s3 (upd H1 D (SetO X.w D (fun _ => false) 0)) C cl fp
  generalize upd H1 D (SetO X.w D (fun _ => false) 0) = H3 at *
  generalize hce : compEnvC scope cl C X.env = ce at *
  have stat : ∀ {σ' : L2.St} {H' : Hp} {s' : Shared}, Inv (X.blk s3 H3 scope ce fp) [] σ' H' s' → (∀ b ∈ fp, H' b = none) → ∀ b ∈ fp, FpOk (X.blk s3 H3 scope ce fp) [] H' b := fun {σ' H' s'} I' hn b hb =>
    ⟨hn b hb, (I'.ok.exf b hb).1, I'.ok.exfs b hb, .inl hb, fun x c e => (I'.ok.exf b hb).2 x c e, fun p hp => absurd (show p ∈ ([] : List (Addr × Obj)) ++ [] from hp) (by simp)⟩
  refine codeAny_loop rfl (fun n s' => ∃ i H', Inv (X.blk s3 H3 scope ce fp) [] (wipe σ (own.map (·.2))) H' s' ∧ tn i s'.heap ∧ (∀ b ∈ fp, H' b = none) ∧ W i n H') (fun n s5 hI => ?_) m0 ⟨0, H3, I4, st4, n4, w0⟩
  obtain ⟨i, H5, I5, st5, n5, w5⟩ := hI
  show wpAny _ X.A ((compTurn (sExp2 elt tg iter tg1 iter1 scope pos) 0 (.ref it) (.ref D) ce).onRaise (fun x => do noteFrame x ce; theTreesLotGoes x)) _ _ s5
  refine wpAny_noted ?_
  rw [sturn2_out]
  refine wpAny_bind (wpAny_standAt (wpAny_bind ?_))
  rcases turn i n H5 w5 with ⟨stop, qq⟩ | ⟨go, Nx, hNx, step⟩
  · refine thnF (T.done (X.blk s3 H3 scope ce fp) rfl rfl rfl hc i [] s5 _ H5 (fun _ _ => False) I5 (stat I5 n5) st5 stop) fun r s6 hr => ?_
    obtain ⟨rfl, I6⟩ := hr
    exact wpAny_pure (hR s6 H5 I6 qq)
  · refine thnF (T.item (X.blk s3 H3 scope ce fp) rfl rfl rfl hc i [] s5 _ H5 (fun _ _ => False) I5 (stat I5 n5) st5 go) fun r s6 hr => ?_
    obtain ⟨u, rfl, h6⟩ := hr
    refine wpAny_bind (thnF h6 fun _ s7 h7 => ?_)
    obtain ⟨x, H7, I7, r7, y7, st7, n7⟩ := h7
    have I7' := I7.pinned (stat I7 n7) (T.obj _ _ st7)
    refine wpAny_bind (thnF (pg.run _ s7 _ H7 x u _ I7' r7 (step x H7 y7)) fun _ s8 h8 => ?_)
    obtain ⟨σ8, H8, I8, hw8, q8⟩ := h8
    refine wpAny_bind ?_
    simp only [List.forIn_nil]
    refine wpAny_pure ?_
    simp only [if_true]
    refine wpAny_bind (thnF (pi1.run _ s8 σ8 H8 _ I8 q8) fun xv s9 h9 => ?_)
    refine wpAny_bind (wpAny_standAt (wpAny_bind (wpAny_of_eq (hs1 ce xv) (wpAny_bind (wpAny_holding (thnF h9 fun itv s11 h11 => ?_))))))
    obtain ⟨it1, fp1, tn1, J1, H11, rfl, I11, T1, st11, f11, W1, ⟨m1, w1⟩, turn1⟩ := h11
    have hl8 : (wipe σ (own.map (·.2))).length = σ8.length := by rw [← hw8, wipe_length]
    have hk9 : ∀ (j : Nat) v, (wipe σ (own.map (·.2)))[j]? = some (some v) → (wipe σ8 vs1)[j]? = some (some v) := fun j v e => by
      rw [← hw8] at e
      obtain ⟨e1, e2⟩ := wipe_some e
      rw [wipe_out fun z => e2 (hv j z)]
      exact e1
    have fin : ∀ {s' : Shared} {H' : Hp}, Inv (X.blk s3 H3 scope ce fp) ([] ++ pinsAt fp s7.heap) (wipe σ8 vs1) H' s' → Nx H' → ∃ m, m < n ∧ ∃ i H', Inv (X.blk s3 H3 scope ce fp) [] (wipe σ (own.map (·.2))) H' s' ∧ tn i s'.heap ∧ (∀ b ∈ fp, H' b = none) ∧ W i m H' := fun {s' H'} I' nx => by
      obtain ⟨m', hm, w'⟩ := hNx H' nx
      have pin' : ∀ b ∈ fp, ∀ o, s7.heap.get? b = some o → s'.heap.get? b = some o ∧ H' b = none := fun b hb o e =>
        let z := I'.pin (b, o) (List.mem_append_right _ (List.mem_append_right _ (mem_pinsAt hb e)))
        ⟨z.1, z.2.1⟩
      refine ⟨m', hm, i + 1, H', (I'.unpinned (pins := [])).weak (hl8.trans (wipe_length _ _).symm) hk9, T.keep _ _ _ st7 fun b hb o e => (pin' b hb o e).1, fun b hb => ?_, w'⟩
      obtain ⟨o, e, _⟩ := T.obj _ _ st7 b hb
      exact (pin' b hb o e).2
    refine wpAny_bind (wpAny_runOwn ?_)
    rw [Around.mark_none]
    have stat1 : ∀ {H' : Hp}, (∀ b ∈ fp1, H' b = none) → ∀ b ∈ fp1, FpOk (X.blk s3 H3 scope ce fp) ([] ++ pinsAt fp s7.heap) H' b := fun hn b hb => ⟨hn b hb, (f11 b hb).2⟩
    have loop1 : codeAny (model X.prog X.w) X.A (.compLoop (sExp2 elt tg iter tg1 iter1 scope pos) 1 (.ref it1) (.ref D) ce)
        (fun r s' => match r with
          | .ok _ => ∃ m, m < n ∧ ∃ i H', Inv (X.blk s3 H3 scope ce fp) [] (wipe σ (own.map (·.2))) H' s' ∧ tn i s'.heap ∧ (∀ b ∈ fp, H' b = none) ∧ W i m H'
          | .error _ => False) s11 := by
      refine codeAny_loop rfl (fun k s' => ∃ j H', Inv (X.blk s3 H3 scope ce fp) ([] ++ pinsAt fp s7.heap) (wipe σ8 vs1) H' s' ∧ tn1 j s'.heap ∧ (∀ b ∈ fp1, H' b = none) ∧ W1 j k H') (fun k s12 hI1 => ?_) m1 ⟨0, H11, I11.weak (wipe_length _ _) (fun j v e => (wipe_some e).1), st11, fun b hb => (f11 b hb).1, w1⟩
      obtain ⟨j, H12, I12, st12, n12, w12⟩ := hI1
      show wpAny _ X.A ((compTurn (sExp2 elt tg iter tg1 iter1 scope pos) 1 (.ref it1) (.ref D) ce).onRaise (fun x => do noteFrame x ce; theTreesLotGoes x)) _ _ s12
      refine wpAny_noted ?_
      rw [sturn2_in]
      refine wpAny_bind (wpAny_standAt (wpAny_bind ?_))
      rcases turn1 j k H12 w12 with ⟨stop1, nx1⟩ | ⟨go1, Nx1, hNx1, step1⟩
      · refine thnF (T1.done (X.blk s3 H3 scope ce fp) rfl rfl rfl hc j _ s12 (wipe σ8 vs1) H12 (fun _ _ => False) I12 (stat1 n12) st12 stop1) fun r s13 hr => ?_
        obtain ⟨rfl, I13⟩ := hr
        exact wpAny_pure (fin I13 nx1)
      · refine thnF (T1.item (X.blk s3 H3 scope ce fp) rfl rfl rfl hc j _ s12 (wipe σ8 vs1) H12 (fun _ _ => False) I12 (stat1 n12) st12 go1) fun r s13 hr => ?_
        obtain ⟨u1, rfl, h13⟩ := hr
        refine wpAny_bind (thnF h13 fun _ s14 h14 => ?_)
        obtain ⟨x1, H14, I14, r14, y14, st14, n14⟩ := h14
        have I14' := I14.pinned (stat1 n14) (T1.obj _ _ st14)
        refine wpAny_bind (thnF (pg1.run _ s14 (wipe σ8 vs1) H14 x1 u1 _ I14' r14 (step1 x1 H14 y14)) fun _ s15 h15 => ?_)
        obtain ⟨σ15, H15, I15, hw15, q15⟩ := h15
        refine wpAny_bind ?_
        simp only [List.forIn_nil]
        refine wpAny_pure ?_
        simp only [if_true]
        refine wpAny_bind (wpAny_bind (thnF (pe.run _ s15 σ15 H15 _ I15 q15) fun z s17 h17 => ?_))
        obtain ⟨yv, H17, I17, r17, cb, S0, n0, rfl, hD17, hz17, nx⟩ := h17
        obtain ⟨t17, rfl⟩ := r17
        refine wpAny_bind (wpAny_standAt (wpAny_bind (addI_ok (X := X.blk s3 H3 scope ce fp) I17 hD17 hz17 fun s18 I18 => ?_)))
        obtain ⟨k', hk', w'⟩ := hNx1 _ nx
        have pin' : ∀ b ∈ fp1, ∀ o, s14.heap.get? b = some o → s18.heap.get? b = some o ∧ (upd H17 D (SetO X.w D (more S0 cb) (if S0 cb = true then n0 else n0 + 1))) b = none := fun b hb o e =>
          let z := I18.pin (b, o) (List.mem_append_right _ (List.mem_append_right _ (mem_pinsAt hb e)))
          ⟨z.1, z.2.1⟩
        refine wpAny_pure (wpAny_pure ⟨rfl, k', hk', j + 1, _, I18.unpinned.weak (by rw [← hw15, wipe_length]) (fun j v e => by rw [← hw15] at e; exact (wipe_some e).1), T1.keep _ _ _ st14 fun b hb o e => (pin' b hb o e).1, fun b hb => ?_, w'⟩)
        obtain ⟨o, e, _⟩ := T1.obj _ _ st14 b hb
        exact (pin' b hb o e).2
    have start1 : codeAny (model X.prog X.w) X.A (.compStart (sExp2 elt tg iter tg1 iter1 scope pos) 1 (.ref it1) (.ref D) ce)
        (fun r s' => match r with
          | .ok _ => ∃ m, m < n ∧ ∃ i H', Inv (X.blk s3 H3 scope ce fp) [] (wipe σ (own.map (·.2))) H' s' ∧ tn i s'.heap ∧ (∀ b ∈ fp, H' b = none) ∧ W i m H'
          | .error _ => False) s11 := by
      refine codeAny_of_tree ?_
      show wpAny _ _ ((compStart (sExp2 elt tg iter tg1 iter1 scope pos) 1 (.ref it1) (.ref D) ce).onRaise (fun x => do noteFrame x ce; standAt theWindowsPlace)) _ _ s11
      refine wpAny_notedAt ?_
      unfold compStart
      show wpAny _ _ (ask >>= _) _ _ s11
      refine wpAny_bind (wpAny_askSetting (wpAny_ite ?_))
      have h1 := T1.self X.A 0 s11 (fun it' s' => codeAny (model X.prog X.w) X.A (.compLoop (sExp2 elt tg iter tg1 iter1 scope pos) 1 it' (.ref D) ce) _ s') (fun _ _ => False) st11 loop1
      split
      · first
          | exact wpAny_bind (wpAny_pure (wpAny_pure (And.intro rfl loop1)))
          | exact wpAny_pure (And.intro rfl loop1)
      · first
          | exact wpAny_bind (wpAny_rule (wpAny_bind (wpAny_standAt (wpAny_bind (thnF h1 (fun it' s' h' => wpAny_pure (And.intro rfl h')))))))
          | (refine wpAny_bind (wpAny_rule ?_); show wpAny _ _ (standAt iter1.pos >>= _) _ _ s11; exact wpAny_bind (wpAny_standAt (wpAny_bind (thnF h1 (fun it' s' h' => wpAny_pure (And.intro rfl h'))))))
    refine codeAny_mono start1 fun r s' hr => ?_
    cases r with
    | ok f =>
      first
        | exact wpAny_pure ⟨rfl, hr⟩
        | exact wpAny_bind (wpAny_pure (wpAny_pure ⟨rfl, hr⟩))
    | error e => exact hr.elim
end
end K51
end

section
set_option Elab.async false
set_option linter.all false
set_option maxRecDepth 100000
set_option maxHeartbeats 2000000
/-! tables of sets of any size: every mask 2^k - 1; the round i -> 5 i + 1 meets every slot -/
namespace K51
open PySem PySem.Spec PyProof.Rows L2

/-! ### the full round -/
def gs5 : Nat → Nat
  | 0 => 0
  | n + 1 => 5 * gs5 n + 1
theorem gs5_add (a : Nat) : ∀ d, gs5 (a + d) = gs5 a + 5 ^ a * gs5 d
  | 0 => by simp [gs5]
  | d + 1 => by
    rw [show a + (d + 1) = (a + d) + 1 from rfl]
    simp only [gs5]
    rw [gs5_add a d, Nat.mul_add, Nat.mul_add]
    have h1 : gs5 (a + 0) = gs5 a := rfl
    have hp : 5 * gs5 a + 1 = gs5 a + 5 ^ a := by
      clear h1
      induction a with
      | zero => rfl
      | succ a ih => simp only [gs5]; rw [Nat.pow_succ]; omega
    have e : 5 * (5 ^ a * gs5 d) = 5 ^ a * (5 * gs5 d) := by rw [Nat.mul_left_comm]
    omega
theorem pow5 (d : Nat) : 5 ^ d = 4 * gs5 d + 1 := by
  induction d with
  | zero => rfl
  | succ d ih => simp only [gs5]; rw [Nat.pow_succ]; omega
theorem gs5_par (d : Nat) : gs5 d % 2 = d % 2 := by
  induction d with
  | zero => rfl
  | succ d ih => simp only [gs5]; omega
theorem odd_cancel : ∀ (K u x : Nat), u % 2 = 1 → 2 ^ K ∣ u * x → 2 ^ K ∣ x
  | 0, _, x, _, _ => by simp
  | K + 1, u, x, hu, h => by
    have h2 : 2 ∣ u * x := Nat.dvd_trans ⟨2 ^ K, by rw [Nat.pow_succ, Nat.mul_comm]⟩ h
    have hx : x % 2 = 0 := by
      have e := Nat.mul_mod u x 2
      have z : u * x % 2 = 0 := Nat.mod_eq_zero_of_dvd h2
      rw [hu] at e
      rcases Nat.mod_two_eq_zero_or_one x with q | q
      · exact q
      · rw [q] at e; omega
    obtain ⟨y, rfl⟩ : ∃ y, x = 2 * y := ⟨x / 2, by omega⟩
    have h3 : 2 ^ K ∣ u * y := by
      have e : u * (2 * y) = 2 * (u * y) := by rw [Nat.mul_left_comm]
      rw [e, Nat.pow_succ, Nat.mul_comm (2 ^ K) 2] at h
      exact Nat.dvd_of_mul_dvd_mul_left (by decide) h
    rw [Nat.pow_succ, Nat.mul_comm]
    exact Nat.mul_dvd_mul_left 2 (odd_cancel K u y hu h3)
theorem gs5_dvd : ∀ (K d : Nat), 2 ^ K ∣ gs5 d → 2 ^ K ∣ d
  | 0, d, _ => by simp
  | K + 1, d, h => by
    have h2 : 2 ∣ gs5 d := Nat.dvd_trans ⟨2 ^ K, by rw [Nat.pow_succ, Nat.mul_comm]⟩ h
    have hd : d % 2 = 0 := by
      have := gs5_par d
      have := Nat.mod_eq_zero_of_dvd h2
      omega
    obtain ⟨e, rfl⟩ : ∃ e, d = e + e := ⟨d / 2, by omega⟩
    have p5 := pow5 e
    have eq : gs5 (e + e) = 2 * ((2 * gs5 e + 1) * gs5 e) := by
      rw [gs5_add, p5, Nat.add_mul, Nat.add_mul, Nat.mul_add]
      have a1 : 4 * gs5 e * gs5 e = 2 * (2 * gs5 e * gs5 e) := by rw [← Nat.mul_assoc, ← Nat.mul_assoc]
      omega
    rw [eq, Nat.pow_succ, Nat.mul_comm (2 ^ K) 2] at h
    have h3 := Nat.dvd_of_mul_dvd_mul_left (by decide : 0 < 2) h
    have h4 := odd_cancel K _ _ (by omega) h3
    obtain ⟨q, hq⟩ := gs5_dvd K e h4
    exact ⟨q, by rw [Nat.pow_succ, Nat.mul_comm (2 ^ K) 2, Nat.mul_assoc, ← hq]; omega⟩
theorem lcgI_eq (m i : Nat) : ∀ k, lcgI m i k % (m + 1) = (5 ^ k * i + gs5 k) % (m + 1)
  | 0 => by simp [lcgI, gs5]
  | k + 1 => by
    show (lcgI m i k * 5 + 1) % (m + 1) % (m + 1) = _
    rw [Nat.mod_mod, Nat.add_mod, Nat.mul_mod, lcgI_eq m i k, ← Nat.mul_mod, ← Nat.add_mod]
    simp only [gs5]
    rw [Nat.pow_succ, Nat.add_mul]
    congr 1
    have e : 5 ^ k * i * 5 = 5 ^ k * 5 * i := by rw [Nat.mul_right_comm]
    omega
theorem lcgI_le {m i : Nat} (hi : i ≤ m) : ∀ k, lcgI m i k ≤ m
  | 0 => hi
  | k + 1 => Nat.le_of_lt_succ (Nat.mod_lt _ (Nat.succ_pos _))
/-- a mask: a power of two less one, eight or more slots -/
def Msk (m : Nat) : Prop := ∃ k, 3 ≤ k ∧ m + 1 = 2 ^ k
theorem lcgI_inj {m i : Nat} (hm : Msk m) (hi : i ≤ m) {a d : Nat} (hd : 0 < d) (hb : a + d ≤ m) : lcgI m i a ≠ lcgI m i (a + d) := by
  obtain ⟨K, _, hK⟩ := hm
  intro e
  have e1 := lcgI_eq m i a
  have e2 := lcgI_eq m i (a + d)
  rw [← e, e1] at e2
  have ex : 5 ^ (a + d) * i + gs5 (a + d) = (5 ^ a * i + gs5 a) + 5 ^ a * ((4 * i + 1) * gs5 d) := by
    rw [gs5_add, Nat.pow_add, pow5 d, Nat.mul_add, Nat.add_mul, Nat.mul_one]
    have a1 : 5 ^ a * (4 * gs5 d) * i = 5 ^ a * (4 * i * gs5 d) := by
      rw [Nat.mul_assoc]; congr 1
      rw [Nat.mul_assoc, Nat.mul_assoc, Nat.mul_comm (gs5 d) i]
    have a2 : 5 ^ a * ((4 * i + 1) * gs5 d) = 5 ^ a * (4 * i * gs5 d) + 5 ^ a * gs5 d := by
      rw [Nat.add_mul, Nat.one_mul, Nat.mul_add]
    omega
  rw [ex] at e2
  have hdv : (m + 1) ∣ 5 ^ a * ((4 * i + 1) * gs5 d) := by
    have z := Nat.sub_mod_eq_zero_of_mod_eq e2.symm
    rw [Nat.add_sub_cancel_left] at z
    exact Nat.dvd_of_mod_eq_zero z
  rw [hK] at hdv
  have h1 := odd_cancel K _ _ (by have := pow5 a; omega) hdv
  have h2 := odd_cancel K _ _ (by omega) h1
  obtain ⟨q, hq⟩ := gs5_dvd K d h2
  have hq0 : 0 < q := by
    rcases Nat.eq_zero_or_pos q with z | z
    · rw [z] at hq; omega
    · exact z
  have : 2 ^ K ≤ d := by rw [hq]; exact Nat.le_mul_of_pos_right _ hq0
  omega
theorem lcgI_meets {m i j : Nat} (hm : Msk m) (hi : i ≤ m) (hj : j ≤ m) : ∃ k, k ≤ m ∧ lcgI m i k = j := by
  rcases Classical.em (∃ k, k ≤ m ∧ lcgI m i k = j) with c | c
  · exact c
  · exfalso
    have nd : ((List.range (m + 1)).map (lcgI m i)).Nodup := by
      unfold List.Nodup
      rw [List.pairwise_map]
      refine List.Pairwise.imp_of_mem (R := fun a b : Nat => a < b) (fun {a b} ha hb hab => ?_) List.pairwise_lt_range
      have hb' := List.mem_range.mp hb
      obtain ⟨d, rfl⟩ : ∃ d, b = a + d := ⟨b - a, by omega⟩
      exact lcgI_inj hm hi (by omega) (by omega)
    have sub := nat_nodup_len ((List.range (m + 1)).map (lcgI m i)) ((List.range (m + 1)).erase j) nd fun x hx => by
      obtain ⟨k, hk, rfl⟩ := List.mem_map.mp hx
      have hk' := List.mem_range.mp hk
      refine (List.mem_erase_of_ne fun e => c ⟨k, by omega, e⟩).mpr (List.mem_range.mpr ?_)
      have := lcgI_le hi k
      omega
    rw [List.length_map, List.length_range, List.length_erase_of_mem (List.mem_range.mpr (by omega)), List.length_range] at sub
    omega
theorem meets_run {m : Nat} (hm : Msk m) (h : Int) {j : Nat} (hj : j ≤ m) : ∃ n, n ≤ m + 12 ∧ runI m (SetTable.bits h) n = j := by
  obtain ⟨k, hk, e⟩ := lcgI_meets hm (runI_le m (SetTable.bits h) 12) hj
  exact ⟨12 + k, by omega, (runI_tail (bits_lt h) k).trans e⟩
theorem meets_way {m : Nat} (hm : Msk m) (h : Int) {j : Nat} (hj : j ≤ m) : ∃ k, k < 10 * SetTable.turns m ∧ way m h k = j := by
  obtain ⟨n, hn, e⟩ := meets_run hm h hj
  obtain ⟨k, hk, e2⟩ := run_nth m (SetTable.bits h) n
  refine ⟨k, by unfold SetTable.turns; omega, ?_⟩
  show (nth m (runAt m (SetTable.bits h % (m + 1)) (SetTable.bits h)) k).j = j
  rw [e2]; exact e
theorem way_bd {m : Nat} {h : Int} {k : Nat} : way m h k ≤ m := by
  have hi : SetTable.bits h % (m + 1) ≤ m := Nat.le_of_lt_succ (Nat.mod_lt _ (Nat.succ_pos _))
  have r := runEnd_bd hi
  have q := nth_in (m := m) k (runAt m (SetTable.bits h % (m + 1)) (SetTable.bits h)) (by
    show SetTable.bits h % (m + 1) + (SetTable.runEnd m (SetTable.bits h % (m + 1)) - SetTable.bits h % (m + 1)) ≤ m
    omega)
  show (nth m (runAt m (SetTable.bits h % (m + 1)) (SetTable.bits h)) k).j ≤ m
  omega

/-! ### a table in order -/
structure TOk (t : SetTable) (hs : List Int) : Prop where
  ris : Ris t.place.toList
  dm : t.dummies = #[]
  sz : t.place.size = hs.length
  msk : Msk t.mask
  bd : ∀ x ∈ t.place.toList, x ≤ t.mask
  reach : ∀ (i : Nat) (h : Int) (j : Nat), hs[i]? = some h → t.place.toList[i]? = some j → ∃ k, way t.mask h k = j ∧ ∀ k', k' < k → way t.mask h k' ∈ t.place.toList
theorem TOk.first {t : SetTable} {hs : List Int} (T : TOk t hs) (hl : hs.length ≤ t.mask) (h : Int) : ∃ K, K < 10 * SetTable.turns t.mask ∧ way t.mask h K ∉ t.place.toList ∧ ∀ k, k < K → way t.mask h k ∈ t.place.toList := by
  obtain ⟨j, hj, hn⟩ := st_missing t.place.toList (t.mask + 1) (by rw [Array.length_toList, T.sz]; omega)
  obtain ⟨k, hk, e⟩ := meets_way T.msk h (Nat.le_of_lt_succ hj)
  obtain ⟨K, h1, h2, h3⟩ := st_least (p := fun k => way t.mask h k ∉ t.place.toList) k (by rw [e]; exact hn)
  exact ⟨K, Nat.lt_of_le_of_lt h1 hk, h2, fun k' hk' => Classical.byContradiction fun c => h3 k' hk' c⟩
/-- the answer of a probe: the first slot of that hash, or the first empty one -/
theorem TOk.probe {t : SetTable} {hs : List Int} (T : TOk t hs) (hl : hs.length ≤ t.mask) (hashAt : Nat → Int) (ha : ∀ i h, hs[i]? = some h → hashAt i = h) (h : Int) :
    (h ∈ hs ∧ ∃ j i next, t.place.toList[i]? = some j ∧ hs[i]? = some h ∧ t.probe hashAt h (t.probeStart h) = some (.candidate j i next)) ∨
    (h ∉ hs ∧ ∃ K, way t.mask h K ∉ t.place.toList ∧ (∀ k, k < K → way t.mask h k ∈ t.place.toList) ∧ t.probe hashAt h (t.probeStart h) = some (.empty (way t.mask h K) none)) := by
  obtain ⟨K, hK, hn, hb⟩ := T.first hl h
  have at_ : ∀ i, i < hs.length → ∃ h', hs[i]? = some h' := fun i hi => ⟨hs[i], List.getElem?_eq_getElem hi⟩
  have hlen : ∀ i j, t.place.toList[i]? = some j → i < hs.length := fun i j e => by
    have := (List.getElem?_eq_some_iff.mp e).1
    rw [Array.length_toList, T.sz] at this
    exact this
  rcases go_spec t T.ris T.dm hashAt h (10 * SetTable.turns t.mask) K (t.probeStart h) rfl hK hb hn with ⟨k, i, hk, hi, hh, _, e⟩ | ⟨hno, e⟩
  · obtain ⟨h', eh⟩ := at_ i (hlen i _ hi)
    have e1 := ha i h' eh
    rw [hh] at e1
    subst e1
    exact .inl ⟨List.mem_of_getElem? eh, _, i, _, hi, eh, e⟩
  · refine .inr ⟨fun hm => ?_, K, hn, hb, e⟩
    obtain ⟨i, hi, ei⟩ := List.getElem_of_mem hm
    have ei' : hs[i]? = some h := by rw [List.getElem?_eq_getElem hi, ei]
    have hp : i < t.place.toList.length := by rw [Array.length_toList, T.sz]; exact hi
    have ej := List.getElem?_eq_getElem hp
    obtain ⟨k, ek, hkb⟩ := T.reach i h _ ei' ej
    have hkK : k < K := by
      rcases Nat.lt_trichotomy k K with c | c | c
      · exact c
      · rw [← c, ek] at hn
        exact absurd (List.mem_of_getElem? ej) hn
      · exact absurd (hkb K c) hn
    refine hno k i hkK ?_ (ha i h ei')
    show t.place.toList[i]? = some (way t.mask h k)
    rw [ek, ej]
/-- one is put at the first empty slot of its way -/
theorem TOk.put {t : SetTable} {hs : List Int} (T : TOk t hs) {h : Int} {K : Nat} (hK : way t.mask h K ∉ t.place.toList) (hb : ∀ k, k < K → way t.mask h k ∈ t.place.toList) :
    (t.put (way t.mask h K)).2 ≤ hs.length ∧ TOk (t.put (way t.mask h K)).1 (hs.take (t.put (way t.mask h K)).2 ++ h :: hs.drop (t.put (way t.mask h K)).2) ∧
    (t.put (way t.mask h K)).1.mask = t.mask ∧ (t.put (way t.mask h K)).1.led = t.led ∧ (t.put (way t.mask h K)).1.plain = t.plain ∧ (t.put (way t.mask h K)).1.fill = hs.length + 1 := by
  have hjm : way t.mask h K ≤ t.mask := way_bd
  generalize hj : way t.mask h K = j at *
  have c1 := (below_cut T.ris j).1
  have hpl : SetTable.below t.place j ≤ t.place.toList.length := by rw [Array.length_toList]; exact c1
  have hph : SetTable.below t.place j ≤ hs.length := by rw [← T.sz]; exact c1
  have hnp : t.place[SetTable.below t.place j]? ≠ some j := fun e => hK (List.mem_of_getElem? (by rw [Array.getElem?_toList]; exact e))
  have hpp := put_place t j
  have hsize : (t.put j).1.place.size = hs.length + 1 := by rw [← Array.length_toList, hpp, len_ins _ hpl, Array.length_toList, T.sz]
  have grow : ∀ {x : Nat}, x ∈ t.place.toList → x ∈ (t.put j).1.place.toList := fun {x} hx => by rw [hpp]; exact L2.mem_ins.2 (.inr hx)
  refine ⟨hph, ⟨ris_insert T.ris hnp, put_dm T.dm j, ?_, T.msk, fun x hx => ?_, fun i h' j' e1 e2 => ?_⟩, rfl, rfl, rfl, ?_⟩
  · exact hsize.trans (len_ins hs hph h).symm
  · rw [hpp] at hx
    rcases L2.mem_ins.1 hx with z | z
    · rw [z]; exact hjm
    · exact T.bd x z
  · have e1' : (hs.take (SetTable.below t.place j) ++ h :: hs.drop (SetTable.below t.place j))[i]? = some h' := e1
    rw [tins_get hs hph] at e1'
    rw [hpp, tins_get _ hpl] at e2
    have old : ∀ i', hs[i']? = some h' → t.place.toList[i']? = some j' → ∃ k, way t.mask h' k = j' ∧ ∀ k', k' < k → way t.mask h' k' ∈ (t.put j).1.place.toList := fun i' q1 q2 => by
      obtain ⟨k, e, z⟩ := T.reach i' h' j' q1 q2
      exact ⟨k, e, fun k' hk' => grow (z k' hk')⟩
    show ∃ k, way t.mask h' k = j' ∧ _
    by_cases c : i < SetTable.below t.place j
    · rw [if_pos c] at e1' e2
      exact old i e1' e2
    · rw [if_neg c] at e1' e2
      by_cases d : i = SetTable.below t.place j
      · rw [if_pos d] at e1' e2
        cases e1'; cases e2
        exact ⟨K, hj, fun k' hk' => grow (hb k' hk')⟩
      · rw [if_neg d] at e1' e2
        exact old (i - 1) e1' e2
  · show (t.put j).1.place.size + (t.put j).1.dummies.size = hs.length + 1
    rw [hsize, put_dm T.dm j]; rfl
end K51
end

section
set_option Elab.async false
set_option linter.all false
set_option maxRecDepth 100000
set_option maxHeartbeats 2000000
/-! a table laid anew, of any size -/
namespace K51
open PySem PySem.Spec PyProof.Rows L2
theorem free_at {m : Nat} (hm : Msk m) (owner : Array (Option Nat)) (h : Int) {j : Nat} (hj : j ≤ m) (hf : oAt owner j = none) :
    ∃ K, SetTable.layClean.free m owner (SetTable.turns m) (SetTable.bits h % (m + 1)) (SetTable.bits h) = some (way m h K) ∧ oAt owner (way m h K) = none ∧ ∀ k, k < K → oAt owner (way m h k) ≠ none := by
  obtain ⟨n, hn, e⟩ := meets_run hm h hj
  have hw : way m h (off m (SetTable.bits h % (m + 1)) (SetTable.bits h) n) = j := by
    unfold way
    rw [nth_off, itL_run]
    exact e
  obtain ⟨K, k1, k2, k3⟩ := st_least (p := fun k => oAt owner (way m h k) = none) _ (show oAt owner (way m h (off m (SetTable.bits h % (m + 1)) (SetTable.bits h) n)) = none by rw [hw]; exact hf)
  have full : ∀ k, oAt owner (way m h k) ≠ none → (oAt owner (way m h k)).isNone = false := fun k q => by
    cases z : oAt owner (way m h k) with
    | none => exact absurd z q
    | some _ => rfl
  exact ⟨K, free_spec m owner _ n _ _ K (by unfold SetTable.turns; omega) k1 (fun k hk => full k (k3 k hk)) (by show (oAt owner (way m h K)).isNone = true; rw [k2]; rfl), k2, k3⟩
theorem own_more {m : Nat} (hm : Msk m) {done : List Int} {owner : Array (Option Nat)} (O : Own m done owner) (hl : done.length ≤ m) (h : Int) :
    ∃ j, SetTable.layClean.free m owner (SetTable.turns m) (SetTable.bits h % (m + 1)) (SetTable.bits h) = some j ∧ Own m (done ++ [h]) (owner.setIfInBounds j (some done.length)) := by
  obtain ⟨ps, hps, hin⟩ := O.ps
  obtain ⟨j0, h0, hn0⟩ := st_missing ps (m + 1) (by omega)
  have hj0 : oAt owner j0 = none := Classical.byContradiction fun z => hn0 (hin j0 (Nat.le_of_lt_succ h0) z)
  obtain ⟨K, e1, e2, e3⟩ := free_at hm owner h (Nat.le_of_lt_succ h0) hj0
  have hjm : way m h K ≤ m := way_bd
  refine ⟨way m h K, e1, ?_⟩
  generalize hJ : way m h K = J at *
  have self := oAt_set_self (some done.length) (show J < owner.size by rw [O.sz]; omega)
  have keep : ∀ {i : Nat}, oAt owner i ≠ none → oAt (owner.setIfInBounds J (some done.length)) i ≠ none := fun {i} hi => by
    by_cases c : i = J
    · rw [c, self]; exact fun e => nomatch e
    · rw [oAt_set_ne _ c]; exact hi
  have hlen : (done ++ [h]).length = done.length + 1 := by simp
  refine ⟨(Array.size_setIfInBounds).trans O.sz, fun j k hj e => ?_, fun k hk => ?_, J :: ps, by rw [List.length_cons, hps, hlen], fun j hj e => ?_⟩
  · by_cases c : j = J
    · subst c
      rw [self] at e
      cases e
      exact ⟨h, K, by simp, hJ, fun k' hk' => keep (e3 k' hk')⟩
    · rw [oAt_set_ne _ c] at e
      obtain ⟨h', K', a1, a2, a3⟩ := O.at_ j k hj e
      exact ⟨h', K', by rw [List.getElem?_append_left (List.getElem?_eq_some_iff.mp a1).1]; exact a1, a2, fun k' hk' => keep (a3 k' hk')⟩
  · rw [hlen] at hk
    by_cases c : k = done.length
    · exact ⟨J, hjm, by rw [c]; exact self⟩
    · obtain ⟨j, hj, e⟩ := O.all k (by omega)
      exact ⟨j, hj, by rw [oAt_set_ne _ fun z => by rw [z, e2] at e; cases e]; exact e⟩
  · by_cases c : j = J
    · rw [c]; exact List.mem_cons_self
    · rw [oAt_set_ne _ c] at e
      exact List.mem_cons_of_mem _ (hin j hj e)
theorem fold_lay {m : Nat} (hm : Msk m) : ∀ (rest done : List Int) (owner : Array (Option Nat)), Own m done owner → done.length + rest.length ≤ m →
    ∃ owner', rest.foldl (stepF m) (some (owner, done.length)) = some (owner', (done ++ rest).length) ∧ Own m (done ++ rest) owner'
  | [], done, owner, O, _ => ⟨owner, by rw [List.append_nil]; rfl, by rw [List.append_nil]; exact O⟩
  | h :: rest, done, owner, O, hl => by
    rw [List.length_cons] at hl
    obtain ⟨j, e, O'⟩ := own_more hm O (by omega) h
    obtain ⟨o2, f, O2⟩ := fold_lay hm rest (done ++ [h]) _ O' (by rw [List.length_append, List.length_singleton]; omega)
    rw [List.append_assoc] at f O2
    refine ⟨o2, ?_, O2⟩
    rw [List.foldl_cons, stepF_some e]
    rw [List.length_append, List.length_singleton] at f
    exact f
theorem lay_all {m : Nat} (hm : Msk m) {hs : Array Int} (hn : hs.size ≤ m) : ∃ owner, SetTable.layClean m hs = some owner ∧ Own m hs.toList owner := by
  obtain ⟨owner, f, O⟩ := fold_lay hm hs.toList [] _ (Own.init m) (by simp; exact hn)
  refine ⟨owner, ?_, O⟩
  rw [layClean_eq]
  have f' : hs.toList.foldl (stepF m) (some (Array.replicate (m + 1) none, 0)) = some (owner, ([] ++ hs.toList).length) := f
  rw [f']; rfl
theorem relaid_any (t : SetTable) {hs : Array Int} {wanted M : Nat} (hw : SetTable.sizeAbove wanted - 1 = M) (hM : Msk M) (hn : hs.size ≤ M) :
    ∃ t' order, t.relaid hs wanted = some (t', order) ∧ order.toList.Perm (List.range hs.size) ∧ TOk t' (order.toList.map fun i => hs.getD i 0) ∧ t'.mask = M ∧ t'.led = t.led ∧ t'.plain = t.plain ∧ t'.dummies = #[] := by
  obtain ⟨owner, e, O⟩ := lay_all hM hn
  have hr : t.relaid hs wanted = some (tabOf t M owner, ((liveOf M owner).map (·.2)).toArray) := by rw [relaid_eq, hw, e]; rfl
  have ris := ris_live (fun j => owner.getD j none) (List.range (M + 1)) (by unfold Ris; exact List.pairwise_lt_range)
  have r1 : Ris ((liveOf M owner).map (·.1)) := ris.1
  have r2 : ∀ x ∈ (liveOf M owner).map (·.1), x ∈ List.range (M + 1) := ris.2
  have nd : ((liveOf M owner).map (·.1)).Nodup := List.Pairwise.imp (fun h => Nat.ne_of_lt h) r1
  have hlen : (liveOf M owner).length = hs.size := by
    obtain ⟨ps, p1, p2⟩ := O.ps
    have a := nat_nodup_len ((liveOf M owner).map (·.1)) ps nd fun x hx => by
      obtain ⟨⟨y, k⟩, hq, rfl⟩ := List.mem_map.mp hx
      obtain ⟨b1, b2⟩ := (mem_live O.sz).1 hq
      exact p2 y b1 (by rw [b2]; exact fun z => nomatch z)
    have b := nat_nodup_len (List.range hs.size) ((liveOf M owner).map (·.2)) List.nodup_range fun k hk => by
      obtain ⟨j, b1, b2⟩ := O.all k (by rw [Array.length_toList]; exact List.mem_range.mp hk)
      exact List.mem_map.mpr ⟨(j, k), (mem_live O.sz).2 ⟨b1, b2⟩, rfl⟩
    have hz : hs.toList.length = hs.size := rfl
    have a' : (liveOf M owner).length ≤ hs.toList.length := by rw [List.length_map, p1] at a; exact a
    have b' : hs.size ≤ (liveOf M owner).length := by rw [List.length_map, List.length_range] at b; exact b
    omega
  refine ⟨_, _, hr, ?_, ⟨r1, rfl, ?_, hM, fun x hx => ?_, fun i h j h1 h2 => ?_⟩, rfl, rfl, rfl, rfl⟩
  · refine perm_range hs.size _ (by simpa using hlen) fun k hk => ?_
    obtain ⟨j, b1, b2⟩ := O.all k (by rw [Array.length_toList]; exact hk)
    exact List.mem_map.mpr ⟨(j, k), (mem_live O.sz).2 ⟨b1, b2⟩, rfl⟩
  · show ((liveOf M owner).map (·.1)).toArray.size = (((liveOf M owner).map (·.2)).map fun i => hs.getD i 0).length
    simp
  · exact Nat.le_of_lt_succ (List.mem_range.mp (r2 x hx))
  · have h1' : (((liveOf M owner).map (·.2)).map fun i => hs.getD i 0)[i]? = some h := h1
    have h2' : ((liveOf M owner).map (·.1))[i]? = some j := h2
    rw [List.getElem?_map, List.getElem?_map] at h1'
    rw [List.getElem?_map] at h2'
    cases hq : (liveOf M owner)[i]? with
    | none => rw [hq] at h2'; cases h2'
    | some q =>
      obtain ⟨y, k⟩ := q
      rw [hq] at h1' h2'
      have ej : y = j := Option.some.inj h2'
      have eh : hs.getD k 0 = h := Option.some.inj h1'
      subst ej
      obtain ⟨b1, b2⟩ := (mem_live O.sz).1 (List.mem_of_getElem? hq)
      obtain ⟨h0, K, a1, a2, a3⟩ := O.at_ y k b1 b2
      have ehh : h0 = h := by
        rw [← eh, Array.getD_eq_getD_getElem?, ← Array.getElem?_toList, a1]; rfl
      subst ehh
      refine ⟨K, a2, fun k' hk' => ?_⟩
      show way M h0 k' ∈ (liveOf M owner).map (·.1)
      cases z : oAt owner (way M h0 k') with
      | none => exact absurd z (a3 k' hk')
      | some k2 => exact List.mem_map.mpr ⟨(way M h0 k', k2), (mem_live O.sz).2 ⟨way_bd, z⟩, rfl⟩
/-! ### how large -/
theorem above_go (n : Nat) : ∀ (f k : Nat), 3 ≤ k → n < 2 ^ (k + f) → ∃ k', 3 ≤ k' ∧ SetTable.sizeAbove.go n f (2 ^ k) = 2 ^ k' ∧ n < 2 ^ k' ∧ (2 ^ k' ≤ 2 * n ∨ k' = k)
  | 0, k, hk, h => ⟨k, hk, rfl, h, .inr rfl⟩
  | f + 1, k, hk, h => by
    unfold SetTable.sizeAbove.go
    by_cases c : 2 ^ k ≤ n
    · rw [if_pos c, show 2 ^ k * 2 = 2 ^ (k + 1) from (Nat.pow_succ ..).symm]
      obtain ⟨k', h1, h2, h3, h4⟩ := above_go n f (k + 1) (by omega) (by rw [show k + 1 + f = k + (f + 1) by omega]; exact h)
      refine ⟨k', h1, h2, h3, .inl ?_⟩
      rcases h4 with h4 | h4
      · exact h4
      · rw [h4, Nat.pow_succ]; omega
    · rw [if_neg c]
      exact ⟨k, hk, rfl, by omega, .inr rfl⟩
theorem above_ok {n : Nat} (hn : n < 2 ^ 60) : Msk (SetTable.sizeAbove n - 1) ∧ n < SetTable.sizeAbove n ∧ SetTable.sizeAbove n ≤ 2 * n + 8 := by
  obtain ⟨k', h1, h2, h3, h4⟩ := above_go n 64 3 (Nat.le_refl _) (Nat.lt_of_lt_of_le hn (Nat.pow_le_pow_right (by decide) (by decide)))
  have e : SetTable.sizeAbove n = 2 ^ k' := h2
  have hp : 0 < 2 ^ k' := Nat.pow_pos (by decide)
  refine ⟨⟨k', h1, by rw [e]; omega⟩, by rw [e]; exact h3, ?_⟩
  rw [e]
  rcases h4 with h4 | h4
  · omega
  · rw [h4]; omega
theorem grown_ge (n : Nat) : 2 * n ≤ SetTable.grown n ∧ SetTable.grown n ≤ 4 * n := by
  unfold SetTable.grown; split <;> omega
end K51
end

section
set_option Elab.async false
set_option linter.all false
set_option maxRecDepth 100000
set_option maxHeartbeats 2000000
/-! sets of nested keys whose hashes tell them apart, of any size -/
namespace K51
open PySem PySem.Spec PyProof.Rows L2

mutual
/-- whole numbers and tuples of such -/
def numK : NestedKey → Bool
  | .none => false
  | .num _ => true
  | .text _ => false
  | .tup ks => numKs ks
def numKs : List NestedKey → Bool
  | [] => true
  | k :: ks => numK k && numKs ks
end
section
variable {P : Program} {w : World} {A : Around} {E : Value → Shared → Prop} {s : Shared}
/-! ### what a search may show: nothing -/
mutual
theorem ofA_key : ∀ (k : NestedKey) (v : Value) (n : Nat) (s : Shared) (Q : Bool → Shared → Prop), NestedIs s.heap k v → k.depth ≤ n → Q false s → wpAny (model P w) A (ofAClassStatement n v) Q E s
  | .none, _, n, s, Q, x, _, h => by
    cases x
    cases n <;> exact wpAny_pure h
  | .num i, _, n, s, Q, x, _, h => by
    cases x <;> (cases n <;> exact wpAny_pure h)
  | .text y, _, n, s, Q, x, _, h => by
    cases x
    cases n <;> exact wpAny_pure h
  | .tup ks, _, n, s, Q, x, hn, h => by
    cases x with
    | @tup b o vs m _ ho hc hd hi =>
      simp only [NestedKey.depth] at hn
      obtain ⟨n, rfl⟩ : ∃ n', n = n' + 1 := ⟨n - 1, by omega⟩
      unfold ofAClassStatement
      refine wpAny_bind (wpAny_typeOf (T := "tuple") ⟨o, ho, hc⟩ ?_)
      dsimp only
      have e : (("tuple" : String) == "tuple") = true := by decide
      simp only [e, if_true, Bool.not_true, Bool.false_eq_true, if_false]
      try refine wpAny_bind (wpAny_pure ?_)
      try simp only [Bool.not_true, Bool.false_eq_true, if_false]
      show wpAny _ _ (seqItems? (.ref b) >>= _) _ _ s
      refine wpAny_bind (wpAny_seqItems ho hd ?_)
      dsimp only
      refine wpAny_bind ?_
      show wpAny _ _ (forIn vs _ _) _ _ s
      rw [← Array.forIn_toList]
      refine wpAny_forIn_list _ (fun rest r s' => r.1 = none ∧ s' = s ∧ ∀ v ∈ rest, ∀ Q : Bool → Shared → Prop, Q false s → wpAny (model P w) A (ofAClassStatement n v) Q E s) _ ?_ ?_ _ _ ⟨rfl, rfl, ofA_keys ks vs.toList n s hi (by omega)⟩
      · rintro v rest r s' ⟨hr, rfl, hall⟩
        refine wpAny_bind (hall v List.mem_cons_self _ ?_)
        simp only [Bool.false_eq_true, if_false]
        exact wpAny_pure ⟨rfl, rfl, fun u hu' => hall u (List.mem_cons_of_mem _ hu')⟩
      · rintro ⟨r1, r2⟩ s' ⟨hr, rfl, _⟩
        simp only at hr
        subst hr
        exact wpAny_pure h
theorem ofA_keys : ∀ (ks : List NestedKey) (vs : List Value) (n : Nat) (s : Shared), NestedAll s.heap ks vs → NestedKey.depthAll ks ≤ n → ∀ v ∈ vs, ∀ Q : Bool → Shared → Prop, Q false s → wpAny (model P w) A (ofAClassStatement n v) Q E s
  | [], _, n, s, x, _, v, hv, Q, h => by cases x; cases hv
  | k :: ks, _, n, s, x, hn, v, hv, Q, h => by
    cases x with
    | cons x1 x2 =>
      simp only [NestedKey.depthAll] at hn
      rcases List.mem_cons.mp hv with e | hv
      · rw [e]; exact ofA_key k _ n s Q x1 (by omega) h
      · exact ofA_keys ks _ n s x2 (by omega) v hv Q h
end
mutual
theorem hashBy_key : ∀ (k : NestedKey) (v : Value) (n : Nat) (s : Shared) (Q : Bool → Shared → Prop), NestedIs s.heap k v → k.depth ≤ n → numK k = true → Q true s → wpAny (model P w) A (hashByValue n v) Q E s
  | .none, _, n, s, Q, x, _, hn, h => by cases hn
  | .num i, _, n, s, Q, x, _, _, h => by
    cases x <;> (cases n <;> exact wpAny_pure h)
  | .text y, _, n, s, Q, x, _, hn, h => by cases hn
  | .tup ks, _, n, s, Q, x, hn, hz, h => by
    cases x with
    | @tup b o vs m _ ho hc hd hi =>
      simp only [NestedKey.depth] at hn
      obtain ⟨n, rfl⟩ : ∃ n', n = n' + 1 := ⟨n - 1, by omega⟩
      unfold hashByValue
      refine wpAny_bind (wpAny_specialOf (T := "tuple") ⟨o, ho, hc⟩ F.slot_tuple_hash.lookup ?_)
      show wpAny _ _ (seqItems? (.ref b) >>= _) _ _ s
      refine wpAny_bind (wpAny_seqItems ho hd ?_)
      refine wpAny_bind ?_
      show wpAny _ _ (forIn vs _ _) _ _ s
      rw [← Array.forIn_toList]
      refine wpAny_forIn_list _ (fun rest r s' => r.1 = none ∧ s' = s ∧ ∀ v ∈ rest, ∀ Q : Bool → Shared → Prop, Q true s → wpAny (model P w) A (hashByValue n v) Q E s) _ ?_ ?_ _ _ ⟨rfl, rfl, hashBy_keys ks vs.toList n s hi (by omega) hz⟩
      · rintro v rest r s' ⟨hr, rfl, hall⟩
        refine wpAny_bind (hall v List.mem_cons_self _ ?_)
        simp only [Bool.not_true, Bool.false_eq_true, if_false]
        exact wpAny_pure ⟨rfl, rfl, fun u hu' => hall u (List.mem_cons_of_mem _ hu')⟩
      · rintro ⟨r1, r2⟩ s' ⟨hr, rfl, _⟩
        simp only at hr
        subst hr
        exact wpAny_pure h
theorem hashBy_keys : ∀ (ks : List NestedKey) (vs : List Value) (n : Nat) (s : Shared), NestedAll s.heap ks vs → NestedKey.depthAll ks ≤ n → numKs ks = true → ∀ v ∈ vs, ∀ Q : Bool → Shared → Prop, Q true s → wpAny (model P w) A (hashByValue n v) Q E s
  | [], _, n, s, x, _, _, v, hv, Q, h => by cases x; cases hv
  | k :: ks, _, n, s, x, hn, hz, v, hv, Q, h => by
    cases x with
    | cons x1 x2 =>
      simp only [NestedKey.depthAll] at hn
      have hz' : (numK k && numKs ks) = true := hz
      rw [Bool.and_eq_true] at hz'
      rcases List.mem_cons.mp hv with e | hv
      · rw [e]; exact hashBy_key k _ n s Q x1 (by omega) hz'.1 h
      · exact hashBy_keys ks _ n s x2 (by omega) hz'.2 v hv Q h
end
/-- the object at a is the key k, a low one -/
def IsK (h : Heap) (k : NestedKey) (a : Addr) : Prop := NestedIs h k (.ref a) ∧ k.depth ≤ 8 ∧ numK k = true
theorem seen_key {k : NestedKey} {b : Addr} {Q : Bool → Shared → Prop} (hk : IsK s.heap k b) {ys : List Value} (hy : ∀ y ∈ ys, ∃ k' c, y = Value.ref c ∧ IsK s.heap k' c) (h : Q false s) :
    wpAny (model P w) A (searchCouldBeSeen (.ref b) ys) Q E s := by
  unfold searchCouldBeSeen
  refine wpAny_bind ?_
  refine wpAny_forIn_list _ (fun rest r s' => r.1 = none ∧ s' = s ∧ ∀ y ∈ rest, ∃ k' c, y = Value.ref c ∧ IsK s.heap k' c) _ ?_ ?_ _ _ ⟨rfl, rfl, hy⟩
  · rintro v rest r s' ⟨hr, rfl, hall⟩
    obtain ⟨k', c, rfl, hc⟩ := hall v List.mem_cons_self
    have rest' : ∀ y ∈ rest, ∃ k' c, y = Value.ref c ∧ IsK s'.heap k' c := fun u hu' => hall u (List.mem_cons_of_mem _ hu')
    dsimp only
    by_cases hv : (b == c || (carriedByValue (.ref b) && carriedByValue (.ref c))) = true
    · refine wp_if_pos hv ?_
      exact wpAny_pure ⟨rfl, rfl, rest'⟩
    · refine wp_if_neg hv ?_
      refine wpAny_bind (quiet_key k _ 8 s' hk.1 hk.2.1 _ _ _ ?_)
      simp only [Bool.not_true, Bool.false_eq_true, if_false]
      refine wpAny_bind (quiet_key k' _ 8 s' hc.1 hc.2.1 _ _ _ ?_)
      simp only [Bool.not_true, Bool.false_eq_true, if_false]
      refine wpAny_bind (ofA_key k _ 8 s' _ hk.1 hk.2.1 ?_)
      simp only [Bool.false_eq_true, if_false]
      refine wpAny_bind (ofA_key k' _ 8 s' _ hc.1 hc.2.1 ?_)
      simp only [Bool.false_eq_true, if_false]
      exact wpAny_pure ⟨rfl, rfl, rest'⟩
  · rintro ⟨r1, r2⟩ s' ⟨hr, rfl, _⟩
    simp only at hr
    subst hr
    exact wpAny_pure h
theorem IsK.at {h h' : Heap} {k : NestedKey} {b : Addr} (x : IsK h k b) (hk : ∀ a o vs n, h.get? a = some o → o.data = .seq vs n → h'.get? a = some o) : IsK h' k b := ⟨x.1.at hk, x.2⟩
theorem isK_same {h h' : Heap} {k : NestedKey} {a b : Addr} {o : Obj} {es : Array (Int × Value)} {ep : Nat} {t : SetTable} (hb : IsK h k b) (ho : h.get? a = some o) (hd : o.data = .set es ep t) (hs : Heap.SameBut a h h') : IsK h' k b :=
  hb.at fun c oc vs n hc hcd => by
    refine (hs.2 c fun e => ?_).trans hc
    subst e
    rw [ho] at hc
    cases hc
    rw [hd] at hcd
    cases hcd

/-! ### the set -/
/-- the hashes of the keys that may come tell the keys apart -/
def Apart (w : World) (D : NestedKey → Prop) : Prop := ∀ k k', D k → D k' → k.hash w = k'.hash w → k = k'
abbrev hashN (w : World) (L : List (Addr × NestedKey)) : List Int := L.map fun p => p.2.hash w
def rowsN (w : World) (L : List (Addr × NestedKey)) : List (Int × Value) := L.map fun p => (p.2.hash w, Value.ref p.1)
def mostN : Nat := 1000000
structure SetN (w : World) (D : NestedKey → Prop) (h : Heap) (a : Addr) (L : List (Addr × NestedKey)) (es : Array (Int × Value)) (ep : Nat) (t : SetTable) : Prop where
  ob : ∃ o, h.get? a = some o ∧ o.ExactSet ∧ o.data = .set es ep t
  rows : es.toList = rowsN w L
  tab : TOk t (hashN w L)
  nd : (L.map (·.2)).Nodup
  keys : ∀ p ∈ L, IsK h p.2 p.1
  dom : ∀ p ∈ L, D p.2
  plain : t.plain = true
  led : w.params.followText "set-order" = true ∨ t.led = true
  room : L.length * 5 < t.mask * 3
  few : L.length < mostN
variable {a : Addr} {D : NestedKey → Prop} {L : List (Addr × NestedKey)} {es : Array (Int × Value)} {ep : Nat} {t : SetTable}
theorem rowsN_size (hr : es.toList = rowsN w L) : es.size = L.length := by
  have h := congrArg List.length hr
  unfold rowsN at h
  rw [Array.length_toList, List.length_map] at h
  exact h
theorem SetN.size {h : Heap} (R : SetN w D h a L es ep t) : es.size = L.length := rowsN_size R.rows
theorem SetN.fits {h : Heap} (R : SetN w D h a L es ep t) : t.fits es.size = true := by
  have h1 := R.tab.sz
  rw [List.length_map] at h1
  have h2 := R.size
  have h3 := R.room
  unfold SetTable.fits SetTable.fill
  rw [R.tab.dm, Bool.and_eq_true, beq_iff_eq, decide_eq_true_eq]
  show t.place.size = es.size ∧ t.place.size + 0 ≤ t.mask
  omega
theorem rowsN_get (hr : es.toList = rowsN w L) {i : Nat} {p : Addr × NestedKey} (h : L[i]? = some p) : es[i]? = some (p.2.hash w, Value.ref p.1) := by
  rw [← Array.getElem?_toList, hr]
  unfold rowsN
  rw [List.getElem?_map, h] <;> rfl
theorem msk_odd {m : Nat} (h : Msk m) : m % 2 = 1 := by
  obtain ⟨k, hk, e⟩ := h
  obtain ⟨j, rfl⟩ : ∃ j, k = j + 1 := ⟨k - 1, by omega⟩
  rw [Nat.pow_succ] at e
  omega
theorem TOk.gw {hs : List Int} (T : TOk t hs) : ¬ t.gaveWay = true := by
  unfold SetTable.gaveWay
  rw [msk_odd T.msk]
  decide
/-- the search as adding asks for it -/
theorem searchN (R : SetN w D s.heap a L es ep t) (ap : Apart w D) {x : Addr} {k : NestedKey} (hx : IsK s.heap k x) (hD : D k) (hu : A.units + 8 < cLine) {Q : SetFound → Shared → Prop}
    (hin : k ∈ L.map (·.2) → Q (.there none) s)
    (hout : ∀ K, k ∉ L.map (·.2) → way t.mask (k.hash w) K ∉ t.place.toList → (∀ c, c < K → way t.mask (k.hash w) c ∈ t.place.toList) → Q (.free (way t.mask (k.hash w) K) false) s) :
    wpAny (model P w) A (setSearch a (.ref x) (k.hash w) true) Q E s := by
  obtain ⟨o, ho, hex, hd⟩ := R.ob
  have hroom := R.room
  unfold setSearch
  rw [show (100000 : Nat) = 99999 + 1 from rfl, setSearchFrom_succ]
  refine wpAny_bind (wpAny_setState_of ho hd R.fits ?_)
  dsimp only
  refine wp_if_neg R.tab.gw ?_
  try refine wpAny_bind (wpAny_pure ?_)
  have ha : ∀ (i : Nat) (h : Int), (hashN w L)[i]? = some h → (fun i : Nat => (es[i]?.map (·.1)).getD 0) i = h := fun i h e => by
    show (es[i]?.map (·.1)).getD 0 = h
    unfold hashN at e
    rw [List.getElem?_map] at e
    cases hq : L[i]? with
    | none => rw [hq] at e; cases e
    | some p =>
      rw [hq] at e
      cases e
      rw [rowsN_get R.rows hq] <;> rfl
  rcases R.tab.probe (by rw [List.length_map]; omega) _ ha (k.hash w) with ⟨hm, j, i, next, hj, hi, hpr⟩ | ⟨hm, K, hK, hb, hpr⟩
  · have hpr' : t.probe (fun i => (es[i]?.map (·.1)).getD 0) (k.hash w) ((none : Option SetTable.Probe).getD (t.probeStart (k.hash w))) = some (.candidate j i next) := hpr
    rw [hpr']
    dsimp only
    rw [List.getElem?_map] at hi
    obtain ⟨p, hp, hpk⟩ : ∃ p, L[i]? = some p ∧ p.2.hash w = k.hash w := by
      cases hq : L[i]? with
      | none => rw [hq] at hi; cases hi
      | some p => rw [hq] at hi; exact ⟨p, rfl, Option.some.inj hi⟩
    have hmem : p ∈ L := List.mem_of_getElem? hp
    have hpe : p.2 = k := ap _ _ (R.dom p hmem) hD hpk
    have rest : wpAny (model P w) A (searchRest a (.ref x) (k.hash w) true 99999 es t j i next) Q E s := by
      unfold searchRest
      rw [rowsN_get R.rows hp]
      dsimp only
      have q1 := (R.keys p hmem).1
      have q2 := hx.1
      have e1 : NestedKey.beq p.2 k = true := by rw [hpe]; exact NestedKey.beq_self k
      refine wpAny_bind (wpAny_holding (eqAt_key p.2 k A s _ _ q1 q2 (by have := hx.2.1; omega) _ _ _ _ ?_))
      rw [e1]
      refine wpAny_bind (wpAny_setState_of ho hd R.fits ?_)
      dsimp only
      refine wp_if_pos rfl ?_
      exact wpAny_pure (hin (List.mem_map.mpr ⟨p, hmem, hpe⟩))
    by_cases hl : t.led = true
    · refine wp_if_neg (by simp [hl]) ?_
      try refine wpAny_bind (wpAny_pure ?_)
      exact rest
    · refine wp_if_pos (by simp [hl]) ?_
      refine wpAny_bind (seen_key hx (fun y hy => ?_) ?_)
      · obtain ⟨e, he, ee⟩ := List.mem_map.mp hy
        have he1 : e ∈ es ∧ e.1 = k.hash w := by simpa using he
        have he2 : e ∈ es.toList := by simpa using he1.1
        rw [R.rows] at he2
        obtain ⟨p2, hp2, e2⟩ := List.mem_map.mp he2
        exact ⟨p2.2, p2.1, by rw [← ee, ← e2], R.keys p2 hp2⟩
      · refine wp_if_neg (by decide) ?_
        try refine wpAny_bind (wpAny_pure ?_)
        exact rest
  · have hpr' : t.probe (fun i => (es[i]?.map (·.1)).getD 0) (k.hash w) ((none : Option SetTable.Probe).getD (t.probeStart (k.hash w))) = some (.empty (way t.mask (k.hash w) K) none) := hpr
    rw [hpr']
    dsimp only
    refine wpAny_pure (hout K (fun hk => hm ?_) hK hb)
    obtain ⟨p0, h0, hk0⟩ := List.mem_map.mp hk
    exact List.mem_map.mpr ⟨p0, h0, by rw [hk0]⟩

theorem rowsN_put (L : List (Addr × NestedKey)) (p : Nat) (x : Addr) (k : NestedKey) : rowsN w (L.take p ++ (x, k) :: L.drop p) = (rowsN w L).take p ++ (k.hash w, Value.ref x) :: (rowsN w L).drop p := by
  unfold rowsN
  rw [List.map_append, List.map_cons, List.map_take, List.map_drop]
theorem order_get {α β : Type} (f : α → β) (g : β → Int) (L : List α) (es : Array β) (hr : es.toList = L.map f) : ∀ l : List Nat, (∀ i ∈ l, i < L.length) →
    l.filterMap (fun i => es[i]?) = (l.filterMap fun i => L[i]?).map f ∧ ((l.filterMap fun i => L[i]?).map fun p => g (f p)) = l.map fun i => (es.map g).getD i 0
  | [], _ => ⟨rfl, rfl⟩
  | i :: l, hl => by
    have hi := hl i List.mem_cons_self
    obtain ⟨e1, e2⟩ := order_get f g L es hr l fun j hj => hl j (List.mem_cons_of_mem _ hj)
    have ent : es[i]? = some (f L[i]) := by rw [← Array.getElem?_toList, hr, List.getElem?_map, List.getElem?_eq_getElem hi]; rfl
    refine ⟨?_, ?_⟩
    · rw [List.filterMap_cons_some ent, List.filterMap_cons_some (List.getElem?_eq_getElem hi), e1]; rfl
    · rw [List.filterMap_cons_some (List.getElem?_eq_getElem hi), List.map_cons, List.map_cons, e2]
      have e5 : (es.map g)[i]? = some (g (f L[i])) := by rw [Array.getElem?_map, ent]; rfl
      rw [Array.getD_eq_getD_getElem?, e5]; rfl
theorem range_pick {α : Type} (L : List α) : (List.range L.length).filterMap (fun i => L[i]?) = L := by
  have key : ∀ n, n ≤ L.length → (List.range n).filterMap (fun i => L[i]?) = L.take n := by
    intro n
    induction n with
    | zero => intro _; rfl
    | succ n ih =>
      intro hn
      have hlt : n < L.length := hn
      rw [List.range_succ, List.filterMap_append, ih (Nat.le_of_lt hlt), List.take_succ, List.getElem?_eq_getElem hlt, List.filterMap_cons_some (List.getElem?_eq_getElem hlt)]
      rfl
  rw [key L.length (Nat.le_refl _), List.take_length]
theorem order_rowsN (L : List (Addr × NestedKey)) (es : Array (Int × Value)) (order : Array Nat) (hr : es.toList = rowsN w L) (hp : order.toList.Perm (List.range L.length)) :
    ∃ L2, (order.filterMap (es[·]?)).toList = rowsN w L2 ∧ L2.Perm L ∧ hashN w L2 = order.toList.map fun i => (es.map (·.1)).getD i 0 := by
  obtain ⟨e1, e2⟩ := order_get (fun p : Addr × NestedKey => (p.2.hash w, Value.ref p.1)) (·.1) L es hr order.toList fun i hi => List.mem_range.mp (hp.mem_iff.mp hi)
  refine ⟨_, by rw [Array.toList_filterMap]; exact e1, ?_, e2⟩
  have h1 := hp.filterMap (fun i => L[i]?)
  rw [range_pick] at h1
  exact h1

/-- the table laid anew, larger -/
theorem relayN {o : Obj} (ho : s.heap.get? a = some o) (hex : o.ExactSet) (hd : o.data = .set es ep t) (hrows : es.toList = rowsN w L) (hsz : t.place.size = es.size) (hdm : t.dummies = #[]) (hfl : es.size ≤ t.mask)
    (nd : (L.map (·.2)).Nodup) (keys : ∀ p ∈ L, IsK s.heap p.2 p.1) (dom : ∀ p ∈ L, D p.2) (pl : t.plain = true) (ld : w.params.followText "set-order" = true ∨ t.led = true) (few : L.length < mostN) (h0 : 0 < L.length) {Q : Unit → Shared → Prop}
    (hQ : ∀ h' L' es' ep' t', Heap.SameBut a s.heap h' → SetN w D h' a L' es' ep' t' → L'.Perm L → Q () { s with heap := h' }) : wpAny (model P w) A (setRelay a (SetTable.grown L.length)) Q E s := by
  have hsl : es.size = L.length := rowsN_size hrows
  have fw : L.length < 1000000 := few
  have hg := grown_ge L.length
  obtain ⟨m1, m2, m3⟩ := above_ok (n := SetTable.grown L.length) (Nat.lt_of_lt_of_le (m := 4000000) (by omega) (by decide))
  have hfits : t.fits es.size = true := by
    unfold SetTable.fits SetTable.fill
    rw [hdm, Bool.and_eq_true, beq_iff_eq, decide_eq_true_eq]
    show t.place.size = es.size ∧ t.place.size + 0 ≤ t.mask
    omega
  obtain ⟨t', order, e, hp, T, em, el, ep', ed⟩ := relaid_any t (hs := es.map (·.1)) (wanted := SetTable.grown L.length) rfl m1 (by rw [Array.size_map, hsl]; omega)
  rw [Array.size_map, hsl] at hp
  obtain ⟨L2, r1, r2, r3⟩ := order_rowsN L es order hrows hp
  rw [← r3] at T
  have hs2 : (order.filterMap (es[·]?)).size = es.size := by rw [rowsN_size r1, r2.length_eq, hsl]
  rw [setRelay_eq]
  refine wpAny_bind (wpAny_setState_of ho hd hfits ?_)
  dsimp only
  refine wp_if_neg (by show ¬ _ > sizeLine; rw [sizeLine_eq]; omega) ?_
  try refine wpAny_bind (wpAny_pure ?_)
  rw [e]
  dsimp only
  refine wpAny_bind ?_
  refine wp_if_neg (by rw [hs2]; simp) ?_
  try refine wpAny_bind (wpAny_pure ?_)
  refine wpAny_pure ?_
  dsimp only
  refine wpAny_storeSet_of ho hd ?_ (by rw [hs2, hsl, sizeLine_eq]; omega)
  have sb : Heap.SameBut a s.heap (s.heap.update a (Obj.putSet (order.filterMap (es[·]?)) t')) := Heap.SameBut.update ..
  refine hQ _ L2 (order.filterMap (es[·]?)) (ep + 1) t' sb ?_ r2
  refine ⟨⟨_, store_at ho hd, ⟨hex.1, hex.2.1, hex.2.2⟩, rfl⟩, r1, T, (r2.map (·.2)).nodup_iff.mpr nd, fun p hpm => isK_same (keys p (r2.mem_iff.mp hpm)) ho hd sb, fun p hpm => dom p (r2.mem_iff.mp hpm), by rw [ep']; exact pl, by rw [el]; exact ld, ?_, by rw [r2.length_eq]; exact few⟩
  rw [r2.length_eq, em]
  omega
theorem SetN.keep {h h' : Heap} (R : SetN w D h a L es ep t) (ha : ∀ o, h.get? a = some o → h'.get? a = some o) (ht : ∀ p ∈ L, IsK h' p.2 p.1) : SetN w D h' a L es ep t := by
  obtain ⟨o, ho, r⟩ := R.ob
  exact ⟨⟨o, ha o ho, r⟩, R.rows, R.tab, R.nd, ht, R.dom, R.plain, R.led, R.room, R.few⟩

/-- ADDING -/
theorem addN (R : SetN w D s.heap a L es ep t) (ap : Apart w D) {x : Addr} {k : NestedKey} (hx : IsK s.heap k x) (hD : D k) (hu : A.units + 8 < cLine) (hfew : L.length + 1 < mostN) {Q : Bool → Shared → Prop}
    (hQ : ∀ b h' L' es' ep' t', Heap.SameBut a s.heap h' → SetN w D h' a L' es' ep' t' → (k ∈ L.map (·.2) → L' = L) → (k ∉ L.map (·.2) → L'.Perm ((x, k) :: L)) → Q b { s with heap := h' }) :
    wpAny (model P w) A (setAddHashed a (.ref x) (k.hash w)) Q E s := by
  obtain ⟨o, ho, hex, hd⟩ := R.ob
  have hsl := R.size
  have hroom := R.room
  unfold setAddHashed
  refine wpAny_holding ?_
  rw [show (100000 : Nat) = 99999 + 1 from rfl, setAddHashedIn_succ]
  refine wpAny_bind (wpAny_setState_of ho hd R.fits ?_)
  dsimp only
  refine wp_if_neg (by simp [byScan, Value.scannable]) ?_
  try refine wpAny_bind (wpAny_pure ?_)
  refine wpAny_bind (searchN R ap hx hD hu (fun hm => ?_) fun K hm hK hb => ?_)
  · dsimp only
    exact wpAny_pure (hQ false s.heap L es ep t (Heap.SameBut.refl a s.heap) R (fun _ => rfl) fun z => absurd hm z)
  · dsimp only
    refine wpAny_bind (wpAny_setState_of ho hd R.fits ?_)
    dsimp only
    obtain ⟨q2, q3, q4, q5, q6, q9⟩ := R.tab.put hK hb
    have q1 : (t.put (way t.mask (k.hash w) K)).2 = SetTable.below t.place (way t.mask (k.hash w) K) := rfl
    have hp1 : (t.put (way t.mask (k.hash w) K)).1.plain = true := by rw [q6]; exact R.plain
    generalize hpt : t.put (way t.mask (k.hash w) K) = pt at q1 q2 q3 q4 q5 q6 q9 hp1 ⊢
    obtain ⟨t1, p⟩ := pt
    dsimp only at q1 q2 q3 q4 q5 q6 q9 hp1 ⊢
    first
      | (refine wpAny_bind ?_; refine wp_if_pos hp1 ?_; refine hashBy_key k _ 8 s _ hx.1 hx.2.1 hx.2.2 ?_)
      | refine wp_if_pos hp1 (wpAny_bind (hashBy_key k _ 8 s _ hx.1 hx.2.1 hx.2.2 ?_))
    simp only [if_true]
    have hin : (SetTable.insertAt es p (k.hash w, Value.ref x)).toList = rowsN w (L.take p ++ (x, k) :: L.drop p) := by
      rw [SetTable.toList_insertAt, rowsN_put, R.rows]
    have pm := put_perm L p (x, k)
    have hlen : (L.take p ++ (x, k) :: L.drop p).length = L.length + 1 := pm.length_eq
    have hhs : hashN w (L.take p ++ (x, k) :: L.drop p) = (hashN w L).take p ++ k.hash w :: (hashN w L).drop p := by
      unfold hashN
      rw [List.map_append, List.map_cons, List.map_take, List.map_drop]
    rw [← hhs] at q3
    have nd1 : ((L.take p ++ (x, k) :: L.drop p).map (·.2)).Nodup := by
      refine (pm.map (·.2)).nodup_iff.mpr ?_
      rw [List.map_cons]
      exact List.nodup_cons.mpr ⟨hm, R.nd⟩
    have hes : (SetTable.insertAt es p (k.hash w, Value.ref x)).size = L.length + 1 := (rowsN_size hin).trans hlen
    generalize SetTable.insertAt es p (k.hash w, Value.ref x) = es1 at hin hes ⊢
    generalize L.take p ++ (x, k) :: L.drop p = L1 at pm hlen q3 nd1 hin
    have fw : L.length + 1 < 1000000 := hfew
    refine wpAny_bind (wpAny_storeSet_of ho hd ?_ (by rw [hes, sizeLine_eq]; omega))
    have sb : Heap.SameBut a s.heap (s.heap.update a (Obj.putSet es1 t1)) := Heap.SameBut.update ..
    have ho1 := store_at (es' := es1) (t' := t1) ho hd
    generalize s.heap.update a (Obj.putSet es1 t1) = h1 at sb ho1 ⊢
    have keys1 : ∀ p ∈ L1, IsK h1 p.2 p.1 := fun p hp => by
      rcases List.mem_cons.mp (pm.mem_iff.mp hp) with e | hp
      · rw [e]; exact isK_same hx ho hd sb
      · exact isK_same (R.keys p hp) ho hd sb
    have dom1 : ∀ p ∈ L1, D p.2 := fun p hp => by
      rcases List.mem_cons.mp (pm.mem_iff.mp hp) with e | hp
      · rw [e]; exact hD
      · exact R.dom p hp
    have ld1 : w.params.followText "set-order" = true ∨ t1.led = true := by rw [q5]; exact R.led
    by_cases hf : t1.tooFull = true
    · first
        | (refine wpAny_bind ?_; refine wp_if_pos (by simp [hf]) ?_)
        | (refine wp_if_pos (by simp [hf]) ?_; refine wpAny_bind ?_)
      rw [hsl, ← hlen]
      have hsz1 : t1.place.size = es1.size := by
        have h := q3.sz
        rw [List.length_map, hlen] at h
        rw [h, hes]
      refine relayN (s := { s with heap := h1 }) (D := D) ho1 ⟨hex.1, hex.2.1, hex.2.2⟩ rfl hin hsz1 q3.dm (by rw [hes, q4]; omega) nd1 keys1 dom1 hp1 ld1 (by rw [hlen]; exact hfew) (by rw [hlen]; omega) ?_
      intro h2 L2 es2 ep2 t2 sb2 R2 pm2
      exact wpAny_pure (hQ true h2 L2 es2 ep2 t2 (sb.trans sb2) R2 (fun z => absurd z hm) fun _ => pm2.trans pm)
    · first
        | refine wp_if_neg (by simp [hf]) ?_
        | (refine wpAny_bind ?_; refine wp_if_neg (by simp [hf]) ?_; refine wpAny_pure ?_)
      refine wpAny_pure (hQ true h1 L1 es1 (ep + 1) t1 sb ⟨⟨_, ho1, ⟨hex.1, hex.2.1, hex.2.2⟩, rfl⟩, hin, q3, nd1, keys1, dom1, hp1, ld1, ?_, by rw [hlen]; exact hfew⟩ (fun z => absurd z hm) fun _ => pm)
      have h := hf
      unfold SetTable.tooFull at h
      rw [decide_eq_true_eq, q9, List.length_map] at h
      rw [hlen]
      omega
end
end K51
end

section
set_option Elab.async false
set_option linter.all false
set_option maxRecDepth 100000
set_option maxHeartbeats 2000000
/-! set(xs) of a list, whatever the set keeps -/
namespace K51
open PySem PySem.Spec PyProof.Rows L2
abbrev newSet (w : World) : Obj := { cls := .type "set", dict := none, data := .set #[] 0 (.fresh 0 0 (!w.params.followText "set-order")) }
section
variable {P : Program} {w : World} {A : Around} {E : Value → Shared → Prop} {s : Shared}
/-- what set(xs) asks of what the set keeps: Ok i h: the set at S in h has the first i items; h0: what stood before -/
structure Grows (P : Program) (w : World) (A : Around) (S : Addr) (h0 : Heap) (items : Array Value) (Ok : Nat → Heap → Prop) : Prop where
  keep : ∀ i h h', Ok i h → (∀ o, h.get? S = some o → h'.get? S = some o) → (∀ b o, h0.get? b = some o → h'.get? b = some o) → Ok i h'
  step : ∀ (i : Nat) (v : Value) (s : Shared) (E : Value → Shared → Prop) (Q : Bool → Shared → Prop), items[i]? = some v → (∀ b o, h0.get? b = some o → s.heap.get? b = some o) → Ok i s.heap →
    (∀ b h' tk, s.toks ≤ tk → Heap.SameBut S s.heap h' → Ok (i + 1) h' → Q b { s with heap := h', toks := tk }) → wpAny (model P w) A (setAdd S v) Q E s
theorem update_by {I : Addr} {fp wr : List Addr} {G : Array GenState → Array GenState → Prop} {n : Nat} {Pv : Nat → Value → Prop} {St : Nat → Shared → Prop} {R : Result → Shared → Prop} {items : Array Value} {Ok : Nat → Heap → Prop} {h0 : Heap} {S : Addr}
    (W : WalksS P w A.in1 I fp wr G n Pv St) (GR : Grows P w A.in1 S h0 items Ok) (hSf : S ∉ fp) (hval : ∀ i v, Pv i v → items[i]? = some v)
    (hS0 : h0.get? S = none) (hw0 : ∀ b ∈ wr, h0.get? b = none) :
    ∀ (k i : Nat) (s : Shared), n - i = k → i ≤ n → St i s → (∀ b o, h0.get? b = some o → s.heap.get? b = some o) → Ok i s.heap →
      (∀ s', Moved (S :: wr) G s s' → Ok n s'.heap → (∀ b o, h0.get? b = some o → s'.heap.get? b = some o) → R (.ok (.ret .none)) s') →
      codeAny (model P w) A (.builtin "set.update.loop" ⟨[.ref S, .ref I], []⟩) R s := by
  have hSw : S ∉ wr := fun h => hSf (W.sub _ h)
  have hsub : ∀ b ∈ wr, b ∈ S :: wr := fun b hb => List.mem_cons_of_mem _ hb
  have keepM : ∀ {s s' : Shared}, Moved wr G s s' → (∀ b o, h0.get? b = some o → s.heap.get? b = some o) → ∀ b o, h0.get? b = some o → s'.heap.get? b = some o := fun hm hkp b o e =>
    hm.heap b o (fun hb => by rw [hw0 b hb] at e; cases e) (hkp b o e)
  intro k
  induction k with
  | zero =>
    intro i s hk' hi hst hkp hS hR
    have hin : i = n := by omega
    subst hin
    refine codeAny_builtin F.entry_set_update_loop ?_
    rw [Around.under_plainId F.plain_set_update_loop _]
    show wpAny _ A.in1 (pyNext (.ref I) >>= _) _ _ s
    refine wpAny_bind (W.done s _ _ hst fun s' hm => ?_)
    show wpAny _ A.in1 (ret Value.none) _ _ s'
    have hkp' := keepM hm hkp
    exact wpAny_pure (hR s' (hm.mono hsub) (GR.keep _ _ _ hS (fun o e => hm.heap S o hSw e) hkp') hkp')
  | succ k ih =>
    intro i s hk' hi hst hkp hS hR
    have hlt : i < n := by omega
    refine codeAny_builtin F.entry_set_update_loop ?_
    rw [Around.under_plainId F.plain_set_update_loop _]
    show wpAny _ A.in1 (pyNext (.ref I) >>= _) _ _ s
    refine wpAny_bind (W.item i s _ _ hlt hst fun v s' hP hst' hm => ?_)
    have hp := hval i v hP
    have hkp' := keepM hm hkp
    have hS' := GR.keep _ _ _ hS (fun o e => hm.heap S o hSw e) hkp'
    show wpAny _ A.in1 (holding [v] (setAdd S v) >>= _) _ _ s'
    refine wpAny_bind (wpAny_holding ?_)
    refine GR.step i v s' _ _ hp hkp' hS' fun b h' tk htk hsb hS2 => ?_
    have hkp2 : ∀ b o, h0.get? b = some o → h'.get? b = some o := fun b o e => (hsb.2 b (fun z => by rw [z, hS0] at e; cases e)).trans (hkp' b o e)
    refine wpAny_pure ⟨plainId_quiet F.plain_set_update_loop _, ih (i + 1) _ (by omega) hlt (W.frame _ s' _ _ hst' htk fun b hb o e => ?_) hkp2 hS2 fun s'' hm'' hS'' hkp'' => ?_⟩
    · rw [hsb.2 b (fun h : b = S => hSf (by rw [← h]; exact hb))]; exact e
    · refine hR s'' (Moved.trans W.gtrans ((hm.mono hsub).then_heap htk fun b o hb e => ?_) hm'') hS'' hkp''
      rw [hsb.2 b (fun h : b = S => hb (by rw [h]; exact List.mem_cons_self))]; exact e

set_option maxHeartbeats 3200000 in
/-- set(xs) -/
theorem set_by {l : Addr} {items : Array Value} {Ok : Nat → Heap → Prop} {Q : Value → Shared → Prop} (hh : A.handled = none) (hl : s.heap.IsList l items)
    (GR : Grows P w A.in1.in1.in1 s.heap.objs.size s.heap items Ok) (h0 : ∀ h, h.get? s.heap.objs.size = some (newSet w) → (∀ b o, s.heap.get? b = some o → h.get? b = some o) → Ok 0 h)
    (h : ∀ (h' : Heap) (tk : Nat), Ok items.size h' → (∀ b o, s.heap.get? b = some o → h'.get? b = some o) → Q (.ref s.heap.objs.size) { s with heap := h', toks := tk }) :
    wpAny (model P w) A (call (.type "set") [.ref l]) Q E s := by
  obtain ⟨c, tl, hmro⟩ := F.called_set.mro
  have hmade := F.called_set.made
  have hsub := F.called_set.sub
  refine wpAny_call (codeAny_of_tree ?_)
  show wpAny _ _ (callAny (.type "set") _) _ _ _
  refine wpAny_pure ⟨Code.quiet_builtin _ (by decide +kernel), codeAny_builtin F.entry_type_call ?_⟩
  rw [Around.under_plain (weight_type_call_type "set" [.ref l] []) rfl]
  have h1 := F.called_set.notType
  have h2 := F.called_set.canCreate
  have hct := F.typeCall_set_1 (.ref l)
  repeat (any_goals (first | assumption | wp_step))
  refine codeAny_mono (code_set_led1 (.ref l) (E := E) (Q₁ := fun obj s₁ => obj = .ref s.heap.objs.size ∧ s₁ = { s with heap := s.heap.push (newSet w) }) ⟨rfl, rfl⟩) fun r s₁ hr => ?_
  cases r with
  | error e => exact hr
  | ok fl =>
    cases fl with
    | ret obj =>
      obtain ⟨rfl, rfl⟩ := hr
      have hS : (s.heap.push (newSet w)).get? s.heap.objs.size = some (newSet w) := Heap.get?_push_size _ rfl
      have hT : Shared.TypeIs { s with heap := s.heap.push (newSet w) } (.ref s.heap.objs.size) "set" := ⟨_, hS, rfl⟩
      have hli := F.called_set.init.lookup
      have hbi := F.called_set.init.bind (.ref s.heap.objs.size)
      repeat (any_goals (first | assumption | wp_step))
      refine codeAny_mono (codeAny_call_builtin (R := wants (fun r s₂ => r = .none ∧ ∃ h' tk, s₂ = { s with heap := h', toks := tk } ∧ Ok items.size h' ∧
          (∀ b o, s.heap.get? b = some o → h'.get? b = some o)) E) F.called_set.init.plain F.entry_set_init (check_set_init_1 hT ?_)) fun r₂ s₂ hr₂ => ?_
      · obtain ⟨ol, hol, hcl, nl, hdl⟩ := hl
        obtain ⟨ocls, odict, odata, oslots⟩ := ol
        simp only at hcl hdl
        subst hcl; subst hdl
        have hol' : (s.heap.push (newSet w)).get? l = some { cls := .type "list", dict := odict, data := .seq items nl, slots := oslots } := Heap.get?_push_of_some _ hol
        have hsls := F.sub_list_set
        have hslf := F.sub_list_frozenset
        have hne : (Value.type "list" == Value.type "dict") = false := by decide
        have hl1 : (s.heap.push (newSet w)).IsList l items := ⟨_, hol', rfl, nl, rfl⟩
        unfold Builtin.«set.__init__» noKeywords Builtin.Frozenset.updateFrom
        generalize hPI : pyIter = PI
        wp_walk
        subst hPI
        refine wpAny_pyIter_list hl1 ?_
        refine wpAny_bind (wpAny_runValue ?_)
        have hlS : l < s.heap.objs.size := Heap.lt_size hol
        have hh3 : A.in1.in1.in1.handled = none := by simp [hh]
        have hneI : l ≠ (s.heap.push (newSet w)).objs.size := by
          rw [Heap.size_push]; exact Nat.ne_of_lt (Nat.lt_succ_of_lt hlS)
        have hSf : s.heap.objs.size ∉ [(s.heap.push (newSet w)).objs.size, l] := by
          rw [Heap.size_push]; simp only [List.mem_cons, List.mem_singleton, List.not_mem_nil, or_false, not_or]
          exact ⟨Nat.ne_of_lt (Nat.lt_succ_self _), Nat.ne_of_gt hlS⟩
        have none_of : ∀ b, s.heap.objs.size ≤ b → s.heap.get? b = none := fun b hb => by
          cases q : s.heap.get? b with
          | none => rfl
          | some o => exact absurd (Nat.lt_of_lt_of_le (Heap.lt_size q) hb) (Nat.lt_irrefl _)
        refine update_by ((Walks.list hh3 _ l hneI items).toS) GR hSf (fun i v hv => hv) (none_of _ (Nat.le_refl _)) (fun b hb => none_of b (by
            rw [List.mem_singleton.mp hb, Heap.size_push]
            exact Nat.le_succ _)) (items.size - 0) 0 _ (by omega) (Nat.zero_le _)
          ⟨⟨_, Heap.get?_push_size _ rfl, rfl, rfl⟩, (hl1.push _)⟩ (fun b o e => Heap.get?_push_of_some _ (Heap.get?_push_of_some _ e)) ?hS0 ?hR
        case hS0 =>
          refine h0 _ ?_ fun b o e => Heap.get?_push_of_some _ (Heap.get?_push_of_some _ e)
          exact Heap.get?_push_of_some _ hS
        case hR =>
          intro s' hm hS' hkp
          obtain ⟨h', g2, d', tk', os'⟩ := s'
          have eg : g2 = s.gens := hm.gens
          have ed : d' = s.drawn := hm.drawn
          have eo : os' = s.os := hm.os
          subst eg; subst ed; subst eo
          show wpAny _ _ _ _ _ _
          refine wpAny_pure ?_
          show wpAny _ _ (ret Value.none) _ _ _
          exact wpAny_pure ⟨rfl, h', tk', rfl, hS', hkp⟩
      · cases r₂ with
        | error e => exact hr₂
        | ok fl₂ =>
          cases fl₂ with
          | ret r =>
            obtain ⟨rfl, h', tk, rfl, hS', hk'⟩ := hr₂
            repeat (any_goals (first | assumption | wp_step))
            exact h _ _ hS' hk'
          | _ => exact hr₂.elim
    | _ => exact hr.elim

/-! ### ints -/
/-- the set has just these -/
def Has (S : Int → Bool) (ns : List Int) : Prop := ∀ k, S k = true ↔ k ∈ ns
def GotI (w : World) (S : Addr) (ns : List Int) (i : Nat) (h : Heap) : Prop := ∃ (F : Int → Bool) (n : Nat), SetR w h S F n ∧ Has F (ns.take i) ∧ n ≤ i
theorem grows_ints {S : Addr} {h0 : Heap} {items : Array Value} {ns : List Int} (hi : IntsAre items.toList ns) (hb : ns.length + 1 < scanBound) : Grows P w A S h0 items (GotI w S ns) where
  keep := fun i h h' ⟨F, n, R, q⟩ k _ => ⟨F, n, R.at k, q⟩
  step := fun i v s E Q hv hk ⟨F, n, R, hF, hn⟩ hQ => by
    obtain ⟨t, rfl⟩ := IntsAre.int_at hi i v (by rw [Array.getElem?_toList]; exact hv)
    have hil : i < ns.length := by
      have h1 := (Array.getElem?_eq_some_iff.mp hv).1
      have h2 := IntsAre.length hi
      rw [Array.length_toList] at h2
      omega
    have hx : ns[i]? = some (ns.getD i 0) := by rw [List.getElem?_eq_getElem hil, List.getD_eq_getElem?_getD, List.getElem?_eq_getElem hil]; rfl
    unfold setAdd
    refine wpAny_holding ?_
    refine wpAny_bind ((intKind P w).pyHash (k := ns.getD i 0) (intKind_is P w _ t) ?_)
    refine setR_add_hashed (s := { s with toks := s.toks + 1 }) R (by omega) fun h' sb R' => ?_
    refine hQ _ h' (s.toks + 1) (Nat.le_succ _) sb ⟨_, _, R', fun k => ?_, by split <;> omega⟩
    rw [take_next hx, List.mem_append, List.mem_singleton, ← hF k, Bool.or_eq_true, decide_eq_true_eq]
/-! ### nested keys -/
structure GotK (ks : List (Addr × NestedKey)) (i : Nat) (L : List (Addr × NestedKey)) : Prop where
  sub : ∀ p ∈ L, p ∈ ks.take i
  all : ∀ p ∈ ks.take i, p.2 ∈ L.map (·.2)
  len : L.length ≤ i
theorem GotK.zero (ks : List (Addr × NestedKey)) : GotK ks 0 [] := ⟨fun p h => (by cases h), fun p h => (by simp at h), Nat.le_refl _⟩
theorem GotK.same {ks L : List (Addr × NestedKey)} {i : Nat} {x : Addr × NestedKey} (g : GotK ks i L) (h : ks[i]? = some x) (hm : x.2 ∈ L.map (·.2)) : GotK ks (i + 1) L := by
  refine ⟨fun p hp => ?_, fun p hp => ?_, Nat.le_succ_of_le g.len⟩
  · rw [take_next h]; exact List.mem_append_left _ (g.sub p hp)
  · rw [take_next h] at hp
    rcases List.mem_append.mp hp with z | z
    · exact g.all p z
    · rw [List.mem_singleton.mp z]; exact hm
theorem GotK.more {ks L L' : List (Addr × NestedKey)} {i : Nat} {x : Addr × NestedKey} (g : GotK ks i L) (h : ks[i]? = some x) (pm : L'.Perm (x :: L)) : GotK ks (i + 1) L' := by
  refine ⟨fun p hp => ?_, fun p hp => ?_, ?_⟩
  · rw [take_next h]
    rcases List.mem_cons.mp (pm.mem_iff.mp hp) with e | z
    · rw [e]; exact List.mem_append_right _ (List.mem_singleton.mpr rfl)
    · exact List.mem_append_left _ (g.sub p z)
  · rw [(pm.map (·.2)).mem_iff, List.map_cons]
    rw [take_next h] at hp
    rcases List.mem_append.mp hp with z | z
    · exact List.mem_cons_of_mem _ (g.all p z)
    · rw [List.mem_singleton.mp z]; exact List.mem_cons_self
  · rw [pm.length_eq, List.length_cons]; exact Nat.succ_le_succ g.len
def GotN (w : World) (D : NestedKey → Prop) (S : Addr) (ks : List (Addr × NestedKey)) (i : Nat) (h : Heap) : Prop := ∃ L es ep t, SetN w D h S L es ep t ∧ GotK ks i L
theorem setN_fresh {D : NestedKey → Prop} {h : Heap} {a : Addr} (ho : h.get? a = some (newSet w)) : SetN w D h a [] #[] 0 (.fresh 0 0 (!w.params.followText "set-order")) where
  ob := ⟨_, ho, ⟨rfl, rfl, rfl⟩, rfl⟩
  rows := rfl
  tab := ⟨List.Pairwise.nil, rfl, rfl, ⟨3, by decide, rfl⟩, fun x hx => (by cases hx), fun i h j hi => (by simp at hi)⟩
  nd := List.nodup_nil
  keys := fun p hp => (by cases hp)
  dom := fun p hp => (by cases hp)
  plain := rfl
  led := by
    show _ ∨ (!w.params.followText "set-order") = true
    cases w.params.followText "set-order"
    · exact .inr rfl
    · exact .inl rfl
  room := by
    show 0 * 5 < 7 * 3
    decide
  few := by
    show 0 < 1000000
    decide
theorem grows_keys {D : NestedKey → Prop} (ap : Apart w D) {S : Addr} {h0 : Heap} {items : Array Value} {ks : List (Addr × NestedKey)} (hi : items.toList = ks.map fun p => Value.ref p.1) (hk : ∀ p ∈ ks, IsK h0 p.2 p.1 ∧ D p.2)
    (few : ks.length < mostN) (hu : A.units + 8 < cLine) : Grows P w A S h0 items (GotN w D S ks) where
  keep := fun i h h' ⟨L, es, ep, t, R, g⟩ k1 k2 => ⟨L, es, ep, t, R.keep k1 fun p hp => (hk p (List.mem_of_mem_take (g.sub p hp))).1.at fun a o vs n e _ => k2 a o e, g⟩
  step := fun i v s E Q hv hkp ⟨L, es, ep, t, R, g⟩ hQ => by
    have hv' : items.toList[i]? = some v := by rw [Array.getElem?_toList]; exact hv
    rw [hi, List.getElem?_map] at hv'
    obtain ⟨p, hp, rfl⟩ : ∃ p, ks[i]? = some p ∧ v = Value.ref p.1 := by
      cases hq : ks[i]? with
      | none => rw [hq] at hv'; cases hv'
      | some p => rw [hq] at hv'; exact ⟨p, rfl, (Option.some.inj hv').symm⟩
    have hil : i < ks.length := (List.getElem?_eq_some_iff.mp hp).1
    have hx0 := hk p (List.mem_of_getElem? hp)
    have hx : IsK s.heap p.2 p.1 := hx0.1.at fun a o vs n e _ => hkp a o e
    unfold setAdd
    refine wpAny_holding ?_
    refine wpAny_bind (pyHash_key p.2 _ A s _ hx.1 (by have := hx.2.1; omega) ?_)
    have fw : ks.length < 1000000 := few
    refine addN (s := { s with toks := s.toks + p.2.draws }) R ap hx hx0.2 hu (by have := g.len; show _ < 1000000; omega) fun b h' L' es' ep' t' hsb R' c1 c2 => ?_
    refine hQ b h' _ (Nat.le_add_right _ _) hsb ⟨L', es', ep', t', R', ?_⟩
    rcases Classical.em (p.2 ∈ L.map (·.2)) with c | c
    · rw [c1 c]; exact g.same hp c
    · exact g.more hp (c2 c)
end
end K51
end

section
set_option Elab.async false
set_option linter.all false
set_option maxRecDepth 100000
set_option maxHeartbeats 2000000
/-! sorted(set) of nested keys, of any size; the layer's rules of set(xs) and sorted of configurations -/
namespace K51
open PySem PySem.Spec PyProof.Rows L2
section
variable {P : Program} {w : World} {A : Around} {E : Value → Shared → Prop} {s : Shared} {a : Addr} {D : NestedKey → Prop} {L : List (Addr × NestedKey)} {es : Array (Int × Value)} {ep : Nat} {t : SetTable}
/-- iter(set): an iterator behind all that stands, over the members in some order -/
theorem iterN {Q : Value → Shared → Prop} (R : SetN w D s.heap a L es ep t)
    (hQ : ∀ (s₂ : Shared) (out : List Value) (n : Nat) (St : Nat → Heap → Prop) (Pv : Nat → Value → Prop), (∀ b o, s.heap.get? b = some o → s₂.heap.get? b = some o) → s₂.gens = s.gens → s₂.os = s.os → out.Perm (L.map fun p => Value.ref p.1) → out.length = n →
      (∀ A' : Around, A'.handled = none → Walks P w A' s.heap.objs.size [s.heap.objs.size, a] [s.heap.objs.size] n Pv St) → (∀ j v, Pv j v → out[j]? = some v) → St 0 s₂.heap → Q (.ref s.heap.objs.size) s₂) :
    wpAny (model P w) A (pyIter (.ref a)) Q E s := by
  obtain ⟨o, ho, hex, hd⟩ := R.ob
  have hf := R.fits
  have ha : SetAt s.heap a es ep t := ⟨o, ho, hex.1, hd⟩
  have hT : s.TypeIs (.ref a) "set" := ⟨o, ho, hex.1⟩
  have hne : a ≠ s.heap.objs.size := Nat.ne_of_lt (Heap.lt_size ho)
  have hes : es.toList.map (·.2) = L.map fun q => Value.ref q.1 := by
    rw [R.rows]
    unfold rowsN
    rw [List.map_map] <;> rfl
  refine wpAny_pyIter_slot hT F.slot_set_iter (wpAny_call_entry F.slot_set_iter hT entry_s_iter ?_ (F.args_set_iter_1 _))
  unfold Builtin.«frozenset.__iter__»
  refine wpAny_bind (m := Builtin.Frozenset.slot0 "__iter__" _) (wpAny_of_eq (a := a) (by rfl) ?_)
  refine wpAny_bind (m := Builtin.Frozenset.sizeOf a) ?_
  unfold Builtin.Frozenset.sizeOf
  refine wpAny_bind (wpAny_setEntries_of ho hd hf (wpAny_pure ?_))
  have hdr : (!w.params.followText "set-order" && (!t.plain && decide (es.size > 1))) = false := by rw [R.plain]; simp
  first
    | refine wpAny_bind (setDrawn_at ha hf ?_)
    | refine wpAny_bind (wpAny_bind (setDrawn_at ha hf ?_))
  rw [hdr]
  refine wp_if_neg (by simp) ?_
  first | refine wpAny_bind (wpAny_pure ?_) | refine wpAny_pure ?_
  refine wpAny_bind (wpAny_setEpoch_of ho hd hf ?_)
  refine wpAny_bind (wpAny_newObj_type (wpAny_pure ⟨_, rfl, "set_iterator", _, ⟨_, Heap.get?_push_size _ rfl, rfl⟩, slot_si_next.lookup, ?_⟩))
  cases hb : w.params.followText "set-order" with
  | true =>
    have hp := (pick_perm (w.params.setOrder a ep) es).map (·.2)
    rw [hes] at hp
    have hlen : ((pickOrder (w.params.setOrder a ep) es).toList.map (·.2)).length = (pickOrder (w.params.setOrder a ep) es).size := by rw [List.length_map, Array.length_toList]
    refine hQ _ _ _ _ _ (fun b u e => Heap.get?_push_of_some _ e) rfl rfl hp hlen (fun A' hA' => walks_text (P := P) (ep := ep) hA' hne hf hb) (fun j v q => ?_) ⟨⟨_, Heap.get?_push_size _ rfl, rfl, rfl⟩, ha.at fun u e => Heap.get?_push_of_some _ e⟩
    rw [List.getElem?_map, Array.getElem?_toList]; exact q
  | false =>
    have hled : t.led = true := R.led.resolve_left (by rw [hb]; exact Bool.false_ne_true)
    have hdr2 : (!t.plain && decide (es.size > 1)) = false := by rw [R.plain]; rfl
    have hlen : (es.toList.map (·.2)).length = es.size := by rw [List.length_map, Array.length_toList]
    refine hQ _ (es.toList.map (·.2)) _ _ _ (fun b u e => Heap.get?_push_of_some _ e) rfl rfl (by rw [hes]) hlen (fun A' hA' => walks_led (P := P) (ep := ep) hA' hne hf R.tab.ris hb hdr2 hled) (fun j v q => ?_) ⟨⟨_, Heap.get?_push_size _ rfl, rfl, rfl⟩, ha.at fun u e => Heap.get?_push_of_some _ e⟩
    rw [List.getElem?_map, Array.getElem?_toList]; exact q
/-- the members, gathered into a list -/
theorem collectN {Q : List Value → Shared → Prop} (hh : A.handled = none) (R : SetN w D s.heap a L es ep t)
    (hQ : ∀ s' out, (∀ b o, s.heap.get? b = some o → s'.heap.get? b = some o) → s.heap.objs.size ≤ s'.heap.objs.size → s'.gens = s.gens → s'.os = s.os → out.Perm (L.map fun p => Value.ref p.1) → Q out s') :
    wpAny (model P w) A (collect (.ref a)) Q E s := by
  obtain ⟨o, ho, hex, hd⟩ := R.ob
  have hlt : a < s.heap.objs.size := Heap.lt_size ho
  have hSa : s.heap.objs.size ≠ a := Nat.ne_of_gt hlt
  unfold collect
  refine wpAny_bind (wpAny_runValue (codeAny_builtin F.entry_proto_collect ?_))
  rw [Around.under_plainId F.plain_proto_collect _]
  show wpAny _ A.in1 (newList [] >>= fun l => again (.builtin "list.__iadd__" ⟨[l, .ref a], []⟩)) _ _ s
  refine wpAny_bind (wpAny_newObj_type ?_)
  refine wpAny_pure ⟨plainId_quiet F.plain_list_iadd _, codeAny_builtin F.entry_list_iadd ?_⟩
  rw [Around.under_plainId F.plain_list_iadd _]
  have hz1 : (s.heap.push { cls := .type "list", data := .seq ([] : List Value).toArray }).objs.size = s.heap.objs.size + 1 := size_push' _ _
  have hS : (s.heap.push { cls := .type "list", data := .seq ([] : List Value).toArray }).get? s.heap.objs.size = some { cls := .type "list", data := .seq ([] : List Value).toArray } := Heap.get?_push_size _ rfl
  have kp1 : ∀ b u, s.heap.get? b = some u → (s.heap.push { cls := .type "list", data := .seq ([] : List Value).toArray }).get? b = some u := fun b u e => Heap.get?_push_of_some _ e
  have R1 : SetN w D (s.heap.push { cls := .type "list", data := .seq ([] : List Value).toArray }) a L es ep t := R.keep (fun u e => kp1 a u e) fun p hp => (R.keys p hp).at fun b u vs n e _ => kp1 b u e
  generalize hh1 : s.heap.push { cls := .type "list", data := .seq ([] : List Value).toArray } = h1 at hz1 hS kp1 R1 ⊢
  show wpAny _ A.in1 (Builtin.List.listExtendWith (.ref s.heap.objs.size) (.ref a) (.ref s.heap.objs.size)) _ _ _
  unfold Builtin.List.listExtendWith
  refine wpAny_bind (wpAny_typeOf (T := "set") ⟨o, kp1 a o ho, hex.1⟩ ?_)
  have e1 : Builtin.List.listSameRef (.ref s.heap.objs.size) (.ref a) = false := by simp [Builtin.List.listSameRef, hSa]
  have e2 : (Value.type "set" == Value.type "list") = false := by decide
  have e3 : (Value.type "set" == Value.type "tuple") = false := by decide
  simp only [e1, e2, e3, Bool.or_false, Bool.false_eq_true, if_false]
  refine wpAny_bind (iterN (s := { s with heap := h1 }) R1 fun s₂ out n St Pv k2 g2 o2 hp hnn hW hPv hst => ?_)
  subst hnn
  dsimp only at hW ⊢
  rw [hz1] at hW ⊢
  have hSf : s.heap.objs.size ∉ [s.heap.objs.size + 1, a] := by
    simp only [List.mem_cons, List.not_mem_nil, or_false, not_or]
    exact ⟨Nat.ne_of_lt (Nat.lt_succ_self _), hSa⟩
  have hT2 : s₂.TypeIs (.ref a) "set" := ⟨o, k2 a o (kp1 a o ho), hex.1⟩
  refine wpAny_bind (wpAny_holding ?_)
  unfold Builtin.List.listLengthHint
  refine wpAny_bind (wpAny_specialOf hT2 F.slot_set_len.lookup ?_)
  (generalize hid : ("set.__len__" : String) = id0; (fail_if_success (clear hid id0)); wp_delta; rw [show splitId id0 = some ("set", "__len__") from by subst hid; decide +kernel]; subst hid)
  refine wpAny_bind (wpAny_isInstance (b := true) hT2 sub_set_self ?_)
  show wpAny _ A.in1 (typeOf (.ref a) >>= _) _ _ _
  refine wpAny_bind (wpAny_typeOf hT2 ?_)
  refine wpAny_pure ?_
  show wpAny _ A.in1 (rule "list.extend.makes-room" >>= fun _ => Builtin.List.listTouch (.ref s.heap.objs.size) >>= fun _ =>
    again (.builtin "list.extend.loop" ⟨[.ref s.heap.objs.size, .ref (s.heap.objs.size + 1), .ref s.heap.objs.size], []⟩)) _ _ _
  refine wpAny_bind (wpAny_rule ?_)
  have hS2 := k2 _ _ hS
  refine wpAny_bind ?_
  show wpAny _ A.in1 (updateSeq s.heap.objs.size (·.push .none) >>= fun _ => updateSeq s.heap.objs.size (·.pop)) _ _ _
  refine wpAny_bind (wpAny_updateSeq hS2 rfl ?_)
  have hS3 := Heap.get?_update_self (Obj.mapSeq (·.push Value.none)) hS2 rfl
  refine wpAny_updateSeq hS3 rfl ?_
  have hS4 := Heap.get?_update_self (Obj.mapSeq (·.pop)) hS3 rfl
  have oth : ∀ b u, b ≠ s.heap.objs.size → s₂.heap.get? b = some u → ((s₂.heap.update s.heap.objs.size (Obj.mapSeq (·.push Value.none))).update s.heap.objs.size (Obj.mapSeq (·.pop))).get? b = some u :=
    fun b u hb e => (Heap.get?_update_other _ _ (Ne.symm hb)).trans ((Heap.get?_update_other _ _ (Ne.symm hb)).trans e)
  have fw : L.length < 1000000 := R.few
  have hn : out.length ≤ sizeLine := by
    rw [hp.length_eq, List.length_map, sizeLine_eq]
    omega
  have W := hW A.in1 hh
  have hst2 := W.frame 0 _ _ hst fun b hb u e => oth b u (fun z => hSf (z ▸ hb)) e
  refine wpAny_pure ⟨plainId_quiet F.plain_extend_loop _, codeAny_extend_loopS W.toS hn _ hSf _ out.length 0 _ _ _ rfl (Nat.zero_le _) hst2 hS4 (ItemsOf.nil Pv) fun s' acc' c' hm hS' hacc => ?_⟩
  show wpAny _ A (load s.heap.objs.size >>= _) _ _ s'
  refine wpAny_bind (wpAny_load hS' ?_)
  have eo := items_out hacc hPv
  refine wpAny_pure ?_
  show Q acc'.toList s'
  rw [eo]
  refine hQ s' out (fun b u e => ?_) (Nat.le_of_lt (Heap.lt_size hS')) (Eq.trans hm.gens g2) (Eq.trans hm.os o2) hp
  have hbl : b < s.heap.objs.size := Heap.lt_size e
  refine hm.heap b u (fun z => ?_) (oth b u (Nat.ne_of_lt hbl) (k2 b u (kp1 b u e)))
  rcases List.mem_cons.mp z with z | z
  · exact absurd hbl (by rw [z]; exact Nat.lt_irrefl _)
  · have z := List.mem_singleton.mp z
    rw [z] at hbl
    exact absurd hbl (Nat.not_lt_of_le (Nat.le_succ _))
/-- sorted(set): some arrangement -/
theorem sortedN {Q : Value → Shared → Prop} (R : SetN w D s.heap a L es ep t) (hh : A.handled = none) (enc : Addr × NestedKey → PyData)
    (hr : ∀ p ∈ L, ∀ h', (∀ b o, s.heap.get? b = some o → h'.get? b = some o) → Reads h' (.ref p.1) (enc p) []) (hal : ∀ p ∈ L, ∀ q ∈ L, PySem.W.alike (enc p) (enc q) = true) (hk : ∀ p ∈ L, ∃ x r, enc p = .tuple (x :: r)) (hdp : ∀ p ∈ L, (enc p).depth ≤ 8) (hu : A.units + 16 < cLine)
    (hQ : ∀ s' p (out : Array Value) (c : Nat) (L' : List (Addr × NestedKey)), (∀ b o, s.heap.get? b = some o → s'.heap.get? b = some o) → s'.gens = s.gens → s'.os = s.os → s.heap.objs.size ≤ p →
      s'.heap.get? p = some (seqObj "list" out c) → out.toList = L'.map (fun q => Value.ref q.1) → L'.Perm L → Q (.ref p) s') :
    wpAny (model P w) A (call (.builtin "sorted") [.ref a]) Q E s := by
  refine Calls.call_function_entry kind_sorted plain_sorted entry_sorted (args_sorted1 _) ?_
  unfold Builtin.«sorted»
  refine wpAny_bind (m := checkCount "sorted" 1 1 _) (wpAny_pure ?_)
  refine wpAny_bind (collectN (A := A.in1) hh R fun s1 vs k1 hz g1 o1 pm => ?_)
  have fw : L.length < 1000000 := R.few
  -- the arrangement of the rows
  have ord : ∀ vs : List Value, vs.Perm (L.map fun q => Value.ref q.1) → ∃ L1 : List (Addr × NestedKey), vs = L1.map (fun q => Value.ref q.1) ∧ L1.Perm L := fun vs pm => by
    have one : ∀ q ∈ L, ∀ r ∈ L, q.1 = r.1 → q = r := fun q hq r hr e => by
      have a1 := (R.keys q hq).1
      have a2 := (R.keys r hr).1
      rw [e] at a1
      exact Prod.ext e (NestedIs.inj _ _ _ a1 a2)
    have key : ∀ vs : List Value, (∀ v ∈ vs, ∃ q ∈ L, v = Value.ref q.1) → ∃ L1 : List (Addr × NestedKey), vs = L1.map (fun q => Value.ref q.1) ∧ ∀ q ∈ L1, q ∈ L := by
      intro vs
      induction vs with
      | nil => intro _; exact ⟨[], rfl, fun q hq => (by cases hq)⟩
      | cons v vs ih =>
        intro hv
        obtain ⟨q, hq, e⟩ := hv v List.mem_cons_self
        obtain ⟨L1, e1, hs⟩ := ih fun u hu => hv u (List.mem_cons_of_mem _ hu)
        refine ⟨q :: L1, by rw [List.map_cons, e, e1], fun r hr => ?_⟩
        rcases List.mem_cons.mp hr with z | z
        · rw [z]; exact hq
        · exact hs r z
    obtain ⟨L1, e1, hs⟩ := key vs fun v hv => by
      obtain ⟨q, hq, e⟩ := List.mem_map.mp (pm.mem_iff.mp hv)
      exact ⟨q, hq, e.symm⟩
    refine ⟨L1, e1, ?_⟩
    have nL : L.Nodup := nodup_of_map R.nd
    have nref : (L.map fun q => Value.ref q.1).Nodup := by
      refine List.pairwise_map.mpr (List.Pairwise.imp_of_mem (fun {q r} hq hr hne e => ?_) nL)
      injection e with e
      exact hne (one q hq r hr e)
    rw [e1] at pm
    have n1 : L1.Nodup := nodup_of_map (pm.nodup_iff.mpr nref)
    refine (List.perm_ext_iff_of_nodup n1 nL).mpr fun q => ⟨hs q, fun hq => ?_⟩
    obtain ⟨r, hr, e⟩ := List.mem_map.mp (pm.mem_iff.mpr (List.mem_map.mpr ⟨q, hq, rfl⟩))
    injection e with e
    rw [← one r (hs r hr) q hq e]
    exact hr
  obtain ⟨L1, e1, p1⟩ := ord vs pm
  have hvl : vs.length = L.length := by rw [pm.length_eq, List.length_map]
  refine wpAny_bind (wpAny_newList ?_ (by rw [hvl, sizeLine_eq]; omega))
  have hoL : (s1.heap.push (seqObj "list" vs.toArray 0)).get? s1.heap.objs.size = some (seqObj "list" vs.toArray 0) := Heap.get?_push_size _ rfl
  have er : PySem.W.EachIs (fun v b => ∃ as, Reads (s1.heap.push (seqObj "list" vs.toArray 0)) v (enc b) as ∧ s1.heap.objs.size ∉ as) vs L1 := by
    have key : ∀ L0 : List (Addr × NestedKey), (∀ q ∈ L0, q ∈ L) → PySem.W.EachIs (fun v b => ∃ as, Reads (s1.heap.push (seqObj "list" vs.toArray 0)) v (enc b) as ∧ s1.heap.objs.size ∉ as) (L0.map fun q => Value.ref q.1) L0 := by
      intro L0
      induction L0 with
      | nil => intro _; exact .nil
      | cons q L0 ih =>
        intro hs
        exact .cons ⟨[], hr q (hs q List.mem_cons_self) _ fun b o e => Heap.get?_push_of_some _ (k1 b o e), fun z => nomatch z⟩ (ih fun r hr => hs r (List.mem_cons_of_mem _ hr))
    rw [e1]
    rw [e1] at key
    exact key L1 fun q hq => p1.mem_iff.mp hq
  have eR : PySem.W.EachIs (fun (v : Value) (b : Addr × NestedKey) => v = Value.ref b.1) vs L1 := by
    rw [e1]
    clear er e1 pm hoL hvl p1
    induction L1 with
    | nil => exact .nil
    | cons q L0 ih => exact .cons rfl ih
  refine wpAny_bind (wpAny_holding (PySem.W.list_sort_data (s := { s1 with heap := s1.heap.push (seqObj "list" vs.toArray 0) }) (R := fun (v : Value) (b : Addr × NestedKey) => v = Value.ref b.1) (enc := enc) hoL eR er ?_ ?_ ?_ ?_ fun out hl hout => ?_))
  · intro d hd d' hd'
    obtain ⟨p, hp, rfl⟩ := List.mem_map.mp hd
    obtain ⟨q, hq, rfl⟩ := List.mem_map.mp hd'
    exact hal p (p1.mem_iff.mp hp) q (p1.mem_iff.mp hq)
  · refine .inl fun d hd => ?_
    obtain ⟨p, hp, rfl⟩ := List.mem_map.mp hd
    exact hk p (p1.mem_iff.mp hp)
  · rw [p1.length_eq, sizeLine_eq]; omega
  · intro b hb
    have h1 := hdp b (p1.mem_iff.mp hb)
    have h2 : A.in1.units ≤ A.units + 2 := by simp [Around.in1_units]
    omega
  · obtain ⟨c, hc⟩ := sortedHeap_at (vs := vs) (out := out.toArray) hoL
    have eo : out = ((L1.mergeSort (PySem.W.dataLe false enc)).map fun q => Value.ref q.1) := by
      clear hc hl
      generalize L1.mergeSort (PySem.W.dataLe false enc) = L2 at hout
      induction hout with
      | nil => rfl
      | cons h1 _ ih => rw [h1, ih]; rfl
    refine wpAny_pure ⟨_, rfl, hQ _ s1.heap.objs.size out.toArray c (L1.mergeSort (PySem.W.dataLe false enc)) (fun b u e => ?_) g1 o1 hz hc (by rw [← eo]) ((List.mergeSort_perm ..).trans p1)⟩
    have q := k1 b u e
    have hlt := Heap.lt_size q
    show (sortedHeap (s1.heap.push (seqObj "list" vs.toArray 0)) s1.heap.objs.size vs out.toArray).get? b = some u
    rw [sortedHeap_old (Nat.ne_of_lt hlt) (by rw [size_push']; exact Nat.lt_succ_of_lt hlt)]
    exact Heap.get?_push_of_some _ q
end
end K51
end

section
set_option Elab.async false
set_option linter.all false
set_option maxRecDepth 100000
set_option maxHeartbeats 2000000
/-! set(xs), sorted(s) over the layer: ints; configurations (a state, a stack) -/
namespace K51
open PySem PySem.Spec PyProof.Rows L2

abbrev Cf := Int × List Int
/-- the key of a configuration -/
def kc (c : Cf) : NestedKey := .tup [.num c.1, .tup (c.2.map .num)]
theorem num_inj : ∀ xs ys : List Int, xs.map NestedKey.num = ys.map NestedKey.num → xs = ys
  | [], [], _ => rfl
  | x :: xs, y :: ys, h => by
    simp only [List.map_cons, List.cons.injEq, NestedKey.num.injEq] at h
    rw [h.1, num_inj xs ys h.2]
  | [], _ :: _, h => by simp at h
  | _ :: _, [], h => by simp at h
theorem kc_inj {c d : Cf} (h : kc c = kc d) : c = d := by
  obtain ⟨q, st⟩ := c
  obtain ⟨q', st'⟩ := d
  simp only [kc, NestedKey.tup.injEq, List.cons.injEq, NestedKey.num.injEq, and_true] at h
  rw [h.1, num_inj _ _ h.2]
theorem depth_nums : ∀ xs : List Int, NestedKey.depthAll (xs.map .num) = 0
  | [] => by simp [NestedKey.depthAll]
  | x :: xs => by simp [NestedKey.depthAll, NestedKey.depth, depth_nums xs]
theorem kc_depth (c : Cf) : (kc c).depth = 2 := by
  simp [kc, NestedKey.depth, NestedKey.depthAll, depth_nums]
theorem num_nums : ∀ xs : List Int, numKs (xs.map .num) = true
  | [] => rfl
  | x :: xs => by show (numK (.num x) && numKs (xs.map .num)) = true; rw [num_nums xs]; rfl
theorem kc_num (c : Cf) : numK (kc c) = true := by
  show (numK (.num c.1) && (numKs (c.2.map .num) && true)) = true
  rw [num_nums]; rfl
/-- the configuration as data -/
def dc (c : Cf) : PyData := .tuple [.int c.1, .tuple (c.2.map .int)]
theorem dc_alike (c d : Cf) : PySem.W.alike (dc c) (dc d) = true := by
  simp [dc, PySem.W.alike, PySem.W.alikeAll, PySem.W.alike_ints]
theorem dc_depth (c : Cf) : (dc c).depth ≤ 8 := by
  simp [dc, PyData.depth, PyData.depthAll, PySem.W.depth_ints]
/-- at a stands the configuration c -/
def CfAt (K : PySem.W.Frag) (H : Hp) (a : Addr) (c : Cf) : Prop := ∃ b, SqT K H a [.int c.1, .ref b] ∧ SqT K H b (c.2.map V.int)
theorem nest_of_vals {h : Heap} : ∀ {k : List Int} {us : List Value}, Vals (k.map V.int) us → NestedAll h (k.map .num) us
  | [], _, .nil => .nil
  | n :: k, _, .cons r t => by
    obtain ⟨tk, rfl⟩ := r
    exact .cons (.int n tk) (nest_of_vals t)
theorem reads_of_vals {h : Heap} : ∀ {k : List Int} {us : List Value}, Vals (k.map V.int) us → ReadsAll h us (k.map .int) []
  | [], _, .nil => .nil
  | n :: k, _, .cons r t => by
    obtain ⟨tk, rfl⟩ := r
    exact .cons (as := []) (bs := []) (.int n tk) (reads_of_vals t)
theorem refs_vals {α : Type} (f : α → Addr) : ∀ {ks : List α} {us : List Value}, Vals (ks.map fun p => V.ref (f p)) us → us = ks.map fun p => Value.ref (f p)
  | [], _, .nil => rfl
  | p :: ks, _, .cons r t => by
    cases r
    rw [refs_vals f t] <;> rfl
theorem vals_refs {α : Type} (f : α → Addr) : ∀ (ks : List α), Vals (ks.map fun p => V.ref (f p)) (ks.map fun p => Value.ref (f p))
  | [] => .nil
  | p :: ks => .cons rfl (vals_refs f ks)
section
variable {X : Cx}
theorem Inv.cf {pins : List (Addr × Obj)} {σ : L2.St} {H : Hp} {s : Shared} {a : Addr} {c : Cf} (I : Inv X pins σ H s) (h : CfAt X.K H a c) :
    IsK s.heap (kc c) a ∧ ∀ h', (∀ b o, s.heap.get? b = some o → h'.get? b = some o) → Reads h' (.ref a) (dc c) [] := by
  obtain ⟨b, h1, h2⟩ := h
  obtain ⟨its, r, ⟨o, ho, hc, n, hd⟩, _⟩ := I.tuple h1
  obtain ⟨its2, r2, ⟨o2, ho2, hc2, n2, hd2⟩, _⟩ := I.tuple h2
  cases r with
  | cons r1 t =>
    cases t with
    | cons rb t =>
      cases t
      cases rb
      obtain ⟨tk, rfl⟩ := r1
      refine ⟨⟨.tup ho hc hd ?_, by rw [kc_depth]; decide, kc_num c⟩, fun h' k => ?_⟩
      · exact .cons (.int c.1 tk) (.cons (.tup ho2 hc2 hd2 (nest_of_vals (by simpa using r2))) .nil)
      · exact Reads.tuple (k _ _ ho) hc hd (.cons (as := []) (bs := []) (.int c.1 tk) (.cons (as := []) (bs := []) (Reads.tuple (k _ _ ho2) hc2 hd2 (reads_of_vals (by simpa using r2))) .nil))
/-! ### the set of configurations in the abstract heap -/
structure CfS (w : World) (D : NestedKey → Prop) (h : Heap) (a : Addr) (L : List (Addr × Cf)) : Prop where
  ex : ∃ (es : Array (Int × Value)) (ep : Nat) (t : SetTable), (∃ o, h.get? a = some o ∧ o.ExactSet ∧ o.data = .set es ep t) ∧ es.toList = rowsN w (L.map fun p => (p.1, kc p.2)) ∧ TOk t (hashN w (L.map fun p => (p.1, kc p.2))) ∧ ((L.map fun p => (p.1, kc p.2)).map (·.2)).Nodup ∧
    (∀ p ∈ L.map (fun p => (p.1, kc p.2)), D p.2) ∧ t.plain = true ∧ (w.params.followText "set-order" = true ∨ t.led = true) ∧ (L.map fun p => (p.1, kc p.2)).length * 5 < t.mask * 3 ∧ (L.map fun p => (p.1, kc p.2)).length < mostN
def CfSO (w : World) (D : NestedKey → Prop) (a : Addr) (L : List (Addr × Cf)) : HO := .ext fun h => CfS w D h a L
abbrev kl (L : List (Addr × Cf)) : List (Addr × NestedKey) := L.map fun p => (p.1, kc p.2)
theorem SetN.cfS {w : World} {D : NestedKey → Prop} {h : Heap} {a : Addr} {L : List (Addr × Cf)} {es : Array (Int × Value)} {ep : Nat} {t : SetTable} (R : SetN w D h a (kl L) es ep t) : CfS w D h a L :=
  ⟨es, ep, t, R.ob, R.rows, R.tab, R.nd, R.dom, R.plain, R.led, R.room, R.few⟩
theorem CfS.full {w : World} {D : NestedKey → Prop} {h : Heap} {a : Addr} {L : List (Addr × Cf)} (R : CfS w D h a L) (ht : ∀ p ∈ L, IsK h (kc p.2) p.1) : ∃ es ep t, SetN w D h a (kl L) es ep t := by
  obtain ⟨es, ep, t, h1, h2, h3, h4, h5, h6, h7, h8, h9⟩ := R.ex
  exact ⟨es, ep, t, h1, h2, h3, h4, fun p hp => by obtain ⟨q, hq, rfl⟩ := List.mem_map.mp hp; exact ht q hq, h5, h6, h7, h8, h9⟩
theorem cfSO_new {w : World} {P : Program} {D : NestedKey → Prop} {H : Hp} {h : Heap} {a : Addr} {L : List (Addr × Cf)} (R : CfS w D h a L) : ObjOk P w H h a (CfSO w D a L) := by
  have ⟨es, ep, t, ⟨o, ho, r⟩, q⟩ := R
  refine ⟨R, ⟨o, ho⟩, fun h1 h2 p k => ?_⟩
  have ⟨es', ep', t', ⟨o', ho', r'⟩, q'⟩ := CfS.ex p
  exact ⟨es', ep', t', ⟨o', k o' ho', r'⟩, q'⟩
/-- rows of configurations among others -/
theorem kl_sub {ks : List (Addr × Cf)} : ∀ L : List (Addr × NestedKey), (∀ p ∈ L, p ∈ kl ks) → ∃ L', L = kl L' ∧ ∀ p ∈ L', p ∈ ks
  | [], _ => ⟨[], rfl, fun p h => nomatch h⟩
  | p :: L, h => by
    obtain ⟨q, hq, e⟩ := List.mem_map.mp (h p List.mem_cons_self)
    obtain ⟨L', e', h'⟩ := kl_sub L fun r hr => h r (List.mem_cons_of_mem _ hr)
    refine ⟨q :: L', by rw [e', ← e]; rfl, fun r hr => ?_⟩
    rcases List.mem_cons.mp hr with z | z
    · rw [z]; exact hq
    · exact h' r z
/-- set(xs), xs a list of configurations of the domain D -/
def rSetOfC (K : PySem.W.Frag) (w : World) (D : NestedKey → Prop) : List V → Hp → VK → Prop := fun xs H Q => ∃ (l : Addr) (ks : List (Addr × Cf)), xs = [V.ref l] ∧ SqL K H l (ks.map fun p => V.ref p.1) ∧ (∀ p ∈ ks, CfAt K H p.1 p.2 ∧ D (kc p.2)) ∧ ks.length < mostN ∧
  ∀ a L, H a = none → (∀ p ∈ L, p ∈ ks) → (∀ p ∈ ks, p.2 ∈ L.map (·.2)) → (L.map (·.2)).Nodup → L.length ≤ ks.length → Q (.ref a) (upd H a (CfSO w D a L))
theorem cr_setOfC {D : NestedKey → Prop} (ap : Apart X.w D) (hc : X.calm = true) (hu : X.A.units + 64 < cLine) : CallR X (.type "set") (rSetOfC X.K X.w D) := by
  intro pins s σ H xs us Q I r h
  obtain ⟨l, ks, rfl, hl, hk, hf, q⟩ := h
  rw [Vals.ref1 r]
  obtain ⟨its, rv, pl, hz⟩ := I.list hl
  have hn : H s.heap.objs.size = none := I.hok.fresh (Nat.le_refl _)
  have hit : its = (kl ks).map fun p => Value.ref p.1 := by rw [List.map_map]; exact refs_vals (fun p : Addr × Cf => p.1) rv
  have hlen : its.length = ks.length := by rw [hit, List.length_map, List.length_map]
  refine set_by (P := X.prog) (w := X.w) (I.ok.hd hc) pl.isList (grows_keys ap (ks := kl ks) (by simpa using hit) (fun p hp => ?_) (by rw [List.length_map]; exact hf) (by simp only [Around.in1_units]; omega)) (fun h e _ => ⟨[], _, _, _, setN_fresh e, GotK.zero _⟩) (fun h' tk hz2 k => ?_)
  · obtain ⟨q, hq, rfl⟩ := List.mem_map.mp hp
    exact ⟨(Inv.cf I (hk q hq).1).1, (hk q hq).2⟩
  · obtain ⟨L, es, ep, t, R, g⟩ := hz2
    have gs : ∀ p ∈ L, p ∈ kl ks := fun p hp => List.mem_of_mem_take (g.sub p hp)
    obtain ⟨L', rfl, hs⟩ := kl_sub L gs
    refine ⟨.ref s.heap.objs.size, upd H s.heap.objs.size (CfSO X.w D s.heap.objs.size L'), I.laid (t' := tk) k (Nat.le_refl _) (cfSO_new R.cfS), rfl, q _ L' hn hs (fun p hp => ?_) ?_ ?_⟩
    · have z := g.all (p.1, kc p.2) (by
        have e : its.toArray.size = (kl ks).length := by rw [List.size_toArray, hlen, List.length_map]
        rw [e, List.take_length]; exact List.mem_map.mpr ⟨p, hp, rfl⟩)
      obtain ⟨q1, hq1, e1⟩ := List.mem_map.mp z
      obtain ⟨q2, hq2, rfl⟩ := List.mem_map.mp hq1
      exact List.mem_map.mpr ⟨q2, hq2, kc_inj e1⟩
    · have z : ((kl L').map (·.2)).Pairwise (· ≠ ·) := R.nd
      have z2 := List.pairwise_map.mp (List.pairwise_map.mp z)
      exact List.pairwise_map.mpr (z2.imp fun {x y : Addr × Cf} (hne : kc x.2 ≠ kc y.2) (e : x.2 = y.2) => hne (congrArg kc e))
    · have := g.len
      rw [List.length_map, List.size_toArray, hlen] at this
      exact this
/-- sorted(set) -/
def rSortedC (K : PySem.W.Frag) (w : World) (D : NestedKey → Prop) : List V → Hp → VK → Prop := fun vs H Q => ∃ (a : Addr) (L : List (Addr × Cf)), vs = [V.ref a] ∧ H a = some (CfSO w D a L) ∧ (∀ p ∈ L, CfAt K H p.1 p.2) ∧
  ∀ (L' : List (Addr × Cf)) (p : Addr), L'.Perm L → H p = none → Q (.ref p) (upd H p (.lst (L'.map fun q => V.ref q.1)))
theorem cr_sortedC {D : NestedKey → Prop} (hc : X.calm = true) (hu : X.A.units + 64 < cLine) : CallR X (.builtin "sorted") (rSortedC X.K X.w D) := by
  intro pins s σ H vs us Q I r h
  obtain ⟨a, L, rfl, ha, hk, q⟩ := h
  have R0 : CfS X.w D s.heap a L := (I.hok a _ ha).1
  obtain ⟨es, ep, t, R⟩ := R0.full fun p hp => (Inv.cf I (hk p hp)).1
  rw [Vals.ref1 r]
  -- the key's own configuration back
  have back : ∀ p ∈ kl L, ∃ c : Cf, p.2 = kc c ∧ CfAt X.K H p.1 c := fun p hp => by
    obtain ⟨q, hq, rfl⟩ := List.mem_map.mp hp
    exact ⟨q.2, rfl, hk q hq⟩
  let enc : Addr × NestedKey → PyData := fun p => match p.2 with
    | .tup [.num q, .tup ks] => .tuple [.int q, .tuple (ks.map fun k => match k with | .num i => .int i | _ => .none)]
    | _ => .none
  have encE : ∀ (b : Addr) (c : Cf), enc (b, kc c) = dc c := fun b c => by
    show PyData.tuple [.int c.1, .tuple ((c.2.map NestedKey.num).map _)] = dc c
    rw [List.map_map]; rfl
  have E2 : ∀ p ∈ kl L, ∃ c : Cf, enc p = dc c ∧ CfAt X.K H p.1 c := fun p hp => by
    obtain ⟨c, e, h⟩ := back p hp
    obtain ⟨b, k⟩ := p
    have e : k = kc c := e
    subst e
    exact ⟨c, encE b c, h⟩
  refine sortedN R (I.ok.hd hc) enc (fun p hp h' k => ?_) (fun p hp p' hp' => ?_) (fun p hp => ?_) (fun p hp => ?_) (by omega) fun s' p out c L' k g o hp hg hout pm => ?_
  · obtain ⟨c, e, hc⟩ := E2 p hp
    rw [e]; exact (Inv.cf I hc).2 h' k
  · obtain ⟨c, e, _⟩ := E2 p hp
    obtain ⟨c', e', _⟩ := E2 p' hp'
    rw [e, e']; exact dc_alike c c'
  · obtain ⟨c, e, _⟩ := E2 p hp
    rw [e]; exact ⟨_, _, rfl⟩
  · obtain ⟨c, e, _⟩ := E2 p hp
    rw [e]; exact dc_depth c
  · obtain ⟨L2, rfl, hs⟩ := kl_sub L' fun r hr => pm.mem_iff.mp hr
    have pm2 : L2.Perm L := by
      have nL : (kl L).Nodup := nodup_of_map R.nd
      have n2 : (kl L2).Nodup := pm.nodup_iff.mpr nL
      refine (List.perm_ext_iff_of_nodup (nodup_of_map n2) (nodup_of_map nL)).mpr fun r => ⟨hs r, fun hr => ?_⟩
      obtain ⟨r2, hr2, e⟩ := List.mem_map.mp (pm.mem_iff.mpr (List.mem_map.mpr ⟨r, hr, rfl⟩))
      have e0 : (r2.1, kc r2.2) = (r.1, kc r.2) := e
      have e1 : r2.1 = r.1 := (Prod.mk.inj e0).1
      have e2 : r2.2 = r.2 := kc_inj (Prod.mk.inj e0).2
      rw [← show r2 = r from Prod.ext e1 e2]
      exact hr2
    have fw : (kl L).length < 1000000 := R.few
    rw [List.length_map] at fw
    have hlen : (L2.map fun q => V.ref q.1).length ≤ sizeLine := by rw [List.length_map, pm2.length_eq, sizeLine_eq]; omega
    have hn : H p = none := I.hok.fresh hp
    have hv : Vals (L2.map fun q => V.ref q.1) out.toList := by
      rw [hout, List.map_map]; exact vals_refs (fun p : Addr × Cf => p.1) L2
    have J : Inv X pins σ (upd H p (.lst (L2.map fun q => V.ref q.1))) { s with heap := s'.heap, gens := s'.gens, drawn := s'.drawn, toks := s'.toks } :=
      I.call (ch := []) (Un.laid k hp hn) (I.hok.laid k hp ⟨hlen, out.toList, c, hv, hg⟩) (by rw [g]; exact I.bare) (fun _ z => nomatch z)
    have e : s' = { s with heap := s'.heap, gens := s'.gens, drawn := s'.drawn, toks := s'.toks } := by
      cases s'
      cases s
      cases o
      rfl
    rw [e]
    exact ⟨.ref p, _, J, rfl, q L2 p pm2 hn⟩
theorem setR_freshAt {w : World} {h : Heap} {a : Addr} (ho : h.get? a = some (newSet w)) : SetR w h a (fun _ => false) 0 :=
  ⟨_, #[], 0, _, ho, ⟨rfl, rfl, rfl⟩, rfl, (fun e he => by simp at he), (by simp), (fun k => by simp), (by decide), (by rfl), rfl, List.Pairwise.nil, by
    show _ ∨ (!w.params.followText "set-order") = true
    cases w.params.followText "set-order"
    · exact .inr rfl
    · exact .inl rfl⟩
/-- set(xs), xs a list of ints -/
def rSetOfI (K : PySem.W.Frag) (w : World) : List V → Hp → VK → Prop := fun xs H Q => ∃ (l : Addr) (ns : List Int), xs = [V.ref l] ∧ SqL K H l (ns.map V.int) ∧ ns.length + 1 < scanBound ∧
  ∀ a S n, H a = none → Has S ns → n ≤ ns.length → Q (.ref a) (upd H a (SetO w a S n))
theorem cr_setOfI (hc : X.calm = true) : CallR X (.type "set") (rSetOfI X.K X.w) := by
  intro pins s σ H xs us Q I r h
  obtain ⟨l, ns, rfl, hl, hf, q⟩ := h
  rw [Vals.ref1 r]
  obtain ⟨its, rv, pl, hz⟩ := I.list hl
  have hn : H s.heap.objs.size = none := I.hok.fresh (Nat.le_refl _)
  have hi : IntsAre its ns := ints_of_vals rv
  have hlen := IntsAre.length hi
  refine set_by (P := X.prog) (w := X.w) (I.ok.hd hc) pl.isList (grows_ints (ns := ns) (by simpa using hi) hf) (fun h e _ => ⟨fun _ => false, 0, setR_freshAt e, fun k => by simp, Nat.le_refl _⟩) fun h' tk ⟨F, n, R, hF, hn2⟩ k => ?_
  have e : its.toArray.size = ns.length := by rw [List.size_toArray, hlen]
  rw [e] at hF hn2
  rw [List.take_length] at hF
  exact ⟨.ref s.heap.objs.size, upd H s.heap.objs.size (SetO X.w s.heap.objs.size F n), I.laid (t' := tk) k (Nat.le_refl _) (setO_new R), rfl, q _ F n hn hF hn2⟩
end
end K51
end

section
set_option Elab.async false
set_option linter.all false
set_option maxRecDepth 100000
set_option maxHeartbeats 2000000
/-! the hashes of the configurations with stacks of one length, states and signs below 3, are all different -/
namespace K51
open PySem PySem.Spec PyProof.Rows L2
def lane (acc h : Nat) : Nat := 
  (((((acc + h * 14029467366897019727) % 18446744073709551616) * 2147483648) % 18446744073709551616 + ((acc + h * 14029467366897019727) % 18446744073709551616) / 8589934592) * 11400714785074694791) % 18446744073709551616
def fin (acc len : Nat) : Nat := (fun a => bif Nat.beq a 18446744073709551615 then 1546275796 else a) ((acc + (len ^^^ (2870177450012600261 ^^^ 3527539))) % 18446744073709551616)
noncomputable def accs (d : Nat) : Nat → List Nat → List Nat := @Nat.rec (fun _ => Nat → List Nat → List Nat) (fun acc out => acc :: out) (fun _ ih acc out => ih (lane acc 0) (ih (lane acc 1) (ih (lane acc 2) out))) d
noncomputable def outer (d q : Nat) (l : List Nat) (out : List Nat) : List Nat := @List.rec Nat (fun _ => List Nat) out (fun h _ ih => fin (lane (lane 2870177450012600261 q) (fin h d)) 2 :: ih) l
noncomputable def keysOf (d : Nat) : List Nat := outer d 0 (accs d 2870177450012600261 []) (outer d 1 (accs d 2870177450012600261 []) (outer d 2 (accs d 2870177450012600261 []) []))
noncomputable def hiL (m : Nat) (l : List Nat) : List Nat := @List.rec Nat (fun _ => List Nat) [] (fun x _ ih => @Bool.rec (fun _ => List Nat) ih (x :: ih) (Nat.ble m x)) l
noncomputable def loL (m : Nat) (l : List Nat) : List Nat := @List.rec Nat (fun _ => List Nat) [] (fun x _ ih => @Bool.rec (fun _ => List Nat) (x :: ih) ih (Nat.ble m x)) l
noncomputable def short (l : List Nat) : Bool := @List.rec Nat (fun _ => Bool) true (fun _ r _ => @List.rec Nat (fun _ => Bool) true (fun _ _ _ => false) r) l
noncomputable def apart (k : Nat) : Nat → Nat → List Nat → Bool := @Nat.rec (fun _ => Nat → Nat → List Nat → Bool) (fun _ _ l => short l) (fun k ih b w l => @Bool.rec (fun _ => Bool) (@Bool.rec (fun _ => Bool) false (ih (b + w) (w / 2) (hiL (b + w) l)) (ih b (w / 2) (loL (b + w) l))) true (short l)) k

/-! ### what the check says -/
theorem hiL_eq (m : Nat) : ∀ l, hiL m l = l.filter fun x => Nat.ble m x
  | [] => rfl
  | x :: l => by
    have ih := hiL_eq m l
    show (@Bool.rec (fun _ => List Nat) (hiL m l) (x :: hiL m l) (Nat.ble m x)) = _
    rw [ih, List.filter_cons]
    cases Nat.ble m x <;> rfl
theorem loL_eq (m : Nat) : ∀ l, loL m l = l.filter fun x => !Nat.ble m x
  | [] => rfl
  | x :: l => by
    have ih := loL_eq m l
    show (@Bool.rec (fun _ => List Nat) (x :: loL m l) (loL m l) (Nat.ble m x)) = _
    rw [ih, List.filter_cons]
    cases Nat.ble m x <;> rfl
theorem short_nodup : ∀ l, short l = true → l.Nodup
  | [], _ => List.nodup_nil
  | [x], _ => by simp
  | x :: y :: l, h => by
    have h' : false = true := h
    cases h'
theorem split_nodup (p : Nat → Bool) : ∀ l : List Nat, (l.filter p).Nodup → (l.filter fun x => !p x).Nodup → l.Nodup
  | [], _, _ => List.nodup_nil
  | x :: l, h1, h2 => by
    rw [List.filter_cons] at h1 h2
    cases hp : p x with
    | true =>
      rw [hp, if_pos rfl, List.nodup_cons] at h1
      rw [hp, if_neg (by decide)] at h2
      refine List.nodup_cons.mpr ⟨fun hx => h1.1 (List.mem_filter.mpr ⟨hx, hp⟩), split_nodup p l h1.2 h2⟩
    | false =>
      rw [hp, if_neg (by decide)] at h1
      rw [hp, if_pos (by decide), List.nodup_cons] at h2
      refine List.nodup_cons.mpr ⟨fun hx => h2.1 (List.mem_filter.mpr ⟨hx, by rw [hp]; rfl⟩), split_nodup p l h1 h2.2⟩
theorem apart_nodup : ∀ (k b w : Nat) (l : List Nat), apart k b w l = true → l.Nodup
  | 0, b, w, l, h => short_nodup l h
  | k + 1, b, w, l, h => by
    have h' : (@Bool.rec (fun _ => Bool) (@Bool.rec (fun _ => Bool) false (apart k (b + w) (w / 2) (hiL (b + w) l)) (apart k b (w / 2) (loL (b + w) l))) true (short l)) = true := h
    cases hs : short l with
    | true => exact short_nodup l hs
    | false =>
      rw [hs] at h'
      have h2 : (@Bool.rec (fun _ => Bool) false (apart k (b + w) (w / 2) (hiL (b + w) l)) (apart k b (w / 2) (loL (b + w) l))) = true := h'
      cases ha : apart k b (w / 2) (loL (b + w) l) with
      | false => rw [ha] at h2; cases h2
      | true =>
        rw [ha] at h2
        have h3 : apart k (b + w) (w / 2) (hiL (b + w) l) = true := h2
        have n1 := apart_nodup k _ _ _ ha
        have n2 := apart_nodup k _ _ _ h3
        rw [loL_eq] at n1
        rw [hiL_eq] at n2
        exact split_nodup _ l n2 n1
/-! ### the words -/
def words : Nat → List (List Nat)
  | 0 => [[]]
  | d + 1 => (words d).map (0 :: ·) ++ (words d).map (1 :: ·) ++ (words d).map (2 :: ·)
theorem accs_eq : ∀ (d acc : Nat) (out : List Nat), accs d acc out = (words d).map (fun st => st.foldl lane acc) ++ out
  | 0, _, _ => rfl
  | d + 1, acc, out => by
    show accs d (lane acc 0) (accs d (lane acc 1) (accs d (lane acc 2) out)) = _
    rw [accs_eq d, accs_eq d, accs_eq d]
    simp only [words, List.map_append, List.map_map, List.append_assoc]
    rfl
theorem outer_eq (d q : Nat) : ∀ (l out : List Nat), outer d q l out = l.map (fun h => fin (lane (lane 2870177450012600261 q) (fin h d)) 2) ++ out
  | [], _ => rfl
  | h :: l, out => by
    show fin (lane (lane 2870177450012600261 q) (fin h d)) 2 :: outer d q l out = _
    rw [outer_eq d q l out]; rfl
theorem words_mem : ∀ (d : Nat) (st : List Nat), st.length = d → (∀ x ∈ st, x < 3) → st ∈ words d
  | 0, [], _, _ => by simp [words]
  | d + 1, x :: st, h, hb => by
    have ih := words_mem d st (by simpa using h) fun y hy => hb y (List.mem_cons_of_mem _ hy)
    have hx := hb x List.mem_cons_self
    simp only [words, List.mem_append, List.mem_map]
    have : x = 0 ∨ x = 1 ∨ x = 2 := by omega
    rcases this with rfl | rfl | rfl
    · exact .inl (.inl ⟨st, ih, rfl⟩)
    · exact .inl (.inr ⟨st, ih, rfl⟩)
    · exact .inr ⟨st, ih, rfl⟩
def codeN (d q : Nat) (st : List Nat) : Nat := fin (lane (lane 2870177450012600261 q) (fin (st.foldl lane 2870177450012600261) d)) 2
def pairsN (d : Nat) : List (Nat × List Nat) := (words d).map (fun st => (0, st)) ++ ((words d).map (fun st => (1, st)) ++ (words d).map (fun st => (2, st)))
theorem keysOf_eq (d : Nat) : keysOf d = (pairsN d).map fun p => codeN d p.1 p.2 := by
  unfold keysOf pairsN
  rw [outer_eq, outer_eq, outer_eq, accs_eq]
  simp only [List.append_nil, List.map_append, List.map_map]
  rfl
theorem inj_of_nodup {α β : Type} {f : α → β} : ∀ {l : List α}, (l.map f).Nodup → ∀ {x y : α}, x ∈ l → y ∈ l → f x = f y → x = y
  | [], _, _, _, hx, _, _ => nomatch hx
  | a :: l, h, x, y, hx, hy, e => by
    rw [List.map_cons, List.nodup_cons] at h
    rcases List.mem_cons.mp hx with ex | hx
    · rcases List.mem_cons.mp hy with ey | hy
      · rw [ex, ey]
      · exact absurd (List.mem_map.mpr ⟨y, hy, by rw [← ex]; exact e.symm⟩) h.1
    · rcases List.mem_cons.mp hy with ey | hy
      · exact absurd (List.mem_map.mpr ⟨x, hx, by rw [← ey]; exact e⟩) h.1
      · exact inj_of_nodup h.2 hx hy e
/-- the check in four parts, by the first two bits -/
noncomputable def pick (j : Nat) (l : List Nat) : List Nat := @List.rec Nat (fun _ => List Nat) [] (fun x _ ih => @Bool.rec (fun _ => List Nat) ih (x :: ih) (Nat.beq (Nat.div x 4611686018427387904) j)) l
theorem pick_eq (j : Nat) : ∀ l, pick j l = l.filter fun x => Nat.beq (Nat.div x 4611686018427387904) j
  | [] => rfl
  | x :: l => by
    have ih := pick_eq j l
    show (@Bool.rec (fun _ => List Nat) (pick j l) (x :: pick j l) (Nat.beq (Nat.div x 4611686018427387904) j)) = _
    rw [ih, List.filter_cons]
    cases Nat.beq (Nat.div x 4611686018427387904) j <;> rfl
def Part (d j : Nat) : Prop := apart 62 (j * 4611686018427387904) 2305843009213693952 (pick j (keysOf d)) = true
theorem parts_nodup : ∀ l : List Nat, (∀ x ∈ l, x < 18446744073709551616) → (∀ j, j < 4 → (pick j l).Nodup) → l.Nodup
  | [], _, _ => List.nodup_nil
  | x :: l, hb, h => by
    have hx := hb x List.mem_cons_self
    have hj : Nat.div x 4611686018427387904 < 4 := by
      show x / 4611686018427387904 < 4
      omega
    refine List.nodup_cons.mpr ⟨fun hm => ?_, parts_nodup l (fun y hy => hb y (List.mem_cons_of_mem _ hy)) fun j hj => ?_⟩
    · have z := h _ hj
      rw [pick_eq, List.filter_cons, if_pos (Nat.beq_refl _), List.nodup_cons] at z
      exact z.1 (List.mem_filter.mpr ⟨hm, Nat.beq_refl _⟩)
    · have z := h j hj
      rw [pick_eq, List.filter_cons] at z
      rw [pick_eq]
      split at z
      · exact (List.nodup_cons.mp z).2
      · exact z
theorem codeN_inj {d : Nat} (n : (keysOf d).Nodup) {q q' : Nat} {st st' : List Nat} (hq : q < 3) (hq' : q' < 3) (hs : st ∈ words d) (hs' : st' ∈ words d) (e : codeN d q st = codeN d q' st') : q = q' ∧ st = st' := by
  rw [keysOf_eq] at n
  have m : ∀ {q : Nat} {st : List Nat}, q < 3 → st ∈ words d → (q, st) ∈ pairsN d := fun {q st} hq hs => by
    have : q = 0 ∨ q = 1 ∨ q = 2 := by omega
    simp only [pairsN, List.mem_append, List.mem_map]
    rcases this with rfl | rfl | rfl
    · exact .inl ⟨st, hs, rfl⟩
    · exact .inr (.inl ⟨st, hs, rfl⟩)
    · exact .inr (.inr ⟨st, hs, rfl⟩)
  have z := inj_of_nodup n (m hq hs) (m hq' hs') e
  exact ⟨congrArg Prod.fst z, congrArg Prod.snd z⟩
/-! ### the model's hash -/
def sg (x : Nat) : Int := if x < 2 ^ 63 then (x : Int) else (x : Int) - (2 ^ 64 : Nat)
theorem fin_lt (acc len : Nat) : fin acc len < 18446744073709551616 ∧ fin acc len ≠ 18446744073709551615 := by
  unfold fin
  have h := Nat.mod_lt (acc + (len ^^^ (2870177450012600261 ^^^ 3527539))) (show 0 < 18446744073709551616 by decide)
  generalize (acc + (len ^^^ (2870177450012600261 ^^^ 3527539))) % 18446744073709551616 = a at h
  show (bif Nat.beq a 18446744073709551615 then 1546275796 else a) < 18446744073709551616 ∧ (bif Nat.beq a 18446744073709551615 then 1546275796 else a) ≠ 18446744073709551615
  cases hb : Nat.beq a 18446744073709551615 with
  | true =>
    show (1546275796 : Nat) < 18446744073709551616 ∧ (1546275796 : Nat) ≠ 18446744073709551615
    exact ⟨by decide, by decide⟩
  | false =>
    have : a ≠ 18446744073709551615 := fun e => by rw [e] at hb; revert hb; decide
    exact ⟨h, this⟩
theorem sg_inj {x y : Nat} (hx : x < 18446744073709551616) (hy : y < 18446744073709551616) (e : sg x = sg y) : x = y := by
  unfold sg at e
  split at e <;> split at e <;> omega
theorem sg_mod {x : Nat} (hx : x < 18446744073709551616) : (sg x % (18446744073709551616 : Int)).toNat = x := by
  unfold sg
  split <;> omega
theorem sg_red {x : Nat} (hx : x < 18446744073709551616) (h : x ≠ 18446744073709551615) : reduceHash (sg x) = sg x := by
  unfold reduceHash
  have h1 : (decide (-(2 ^ 63 : Int) ≤ sg x) && decide (sg x < 2 ^ 63)) = true := by
    rw [Bool.and_eq_true, decide_eq_true_eq, decide_eq_true_eq]
    unfold sg
    split <;> omega
  rw [h1]
  have h2 : (sg x == -1) = false := by
    rw [beq_eq_false_iff_ne]
    unfold sg
    split <;> omega
  rw [h2]; rfl
theorem lane_eq (acc : Nat) {h : Int} {x : Nat} (e : (h % (18446744073709551616 : Int)).toNat = x) :
    (fun (acc : Nat) (h : Int) => let acc := (acc + (h % ((2 ^ 64 : Nat) : Int)).toNat * 14029467366897019727) % 2 ^ 64; let acc := (acc * 2 ^ 31) % 2 ^ 64 + acc / 2 ^ 33; (acc * 11400714785074694791) % 2 ^ 64) acc h = lane acc x := by
  subst e
  rfl
theorem fold_lane (f : Nat → Int → Nat) (hf : ∀ acc h x, (h % (18446744073709551616 : Int)).toNat = x → f acc h = lane acc x) : ∀ (hs : List Int) (xs : List Nat) (acc : Nat), hs.map (fun h => (h % (18446744073709551616 : Int)).toNat) = xs → hs.foldl f acc = xs.foldl lane acc
  | [], xs, acc, e => by subst e; rfl
  | h :: hs, xs, acc, e => by
    subst e
    rw [List.map_cons, List.foldl_cons, List.foldl_cons, hf acc h _ rfl]
    exact fold_lane f hf hs _ _ rfl
theorem hashOf_eq (hs : List Int) (xs : List Nat) (e : hs.map (fun h => (h % (18446744073709551616 : Int)).toNat) = xs) : Builtin.Tuple.tupleHashOf hs = sg (fin (xs.foldl lane 2870177450012600261) hs.length) := by
  unfold Builtin.Tuple.tupleHashOf
  dsimp only
  rw [fold_lane _ (fun acc h x e => lane_eq acc e) hs xs _ e]
  unfold fin
  generalize xs.foldl lane 2870177450012600261 = a
  have e64 : (2 : Nat) ^ 64 = 18446744073709551616 := by decide
  rw [e64]
  have hlt := Nat.mod_lt (a + (hs.length ^^^ (2870177450012600261 ^^^ 3527539))) (show 0 < 18446744073709551616 by decide)
  generalize (a + (hs.length ^^^ (2870177450012600261 ^^^ 3527539))) % 18446744073709551616 = b at hlt ⊢
  show (if (b == 18446744073709551616 - 1) = true then (1546275796 : Int) else if b < 2 ^ 63 then (b : Int) else (b : Int) - _) = sg (bif Nat.beq b 18446744073709551615 then 1546275796 else b)
  by_cases c : b = 18446744073709551615
  · subst c
    rfl
  · have c1 : (b == 18446744073709551616 - 1) = false := beq_eq_false_iff_ne.mpr c
    have c2 : Nat.beq b 18446744073709551615 = false := by
      cases hb : Nat.beq b 18446744073709551615 with
      | false => rfl
      | true => exact absurd (Nat.eq_of_beq_eq_true hb) c
    rw [c1, c2]
    unfold sg
    rfl
theorem hash_small {i : Int} (h : 0 ≤ i ∧ i < 3) : hashInt i = i := by
  have : i = 0 ∨ i = 1 ∨ i = 2 := by omega
  rcases this with rfl | rfl | rfl <;> decide
theorem hashes_nums (w : World) : ∀ xs : List Int, (∀ x ∈ xs, 0 ≤ x ∧ x < 3) → NestedKey.hashes w (xs.map .num) = xs
  | [], _ => by simp [NestedKey.hashes]
  | x :: xs, h => by
    simp only [List.map_cons, NestedKey.hashes, NestedKey.hash]
    rw [hash_small (h x List.mem_cons_self), hashes_nums w xs fun y hy => h y (List.mem_cons_of_mem _ hy)]
/-- a configuration with a stack of length d -/
def InD (d : Nat) (c : Cf) : Prop := (0 ≤ c.1 ∧ c.1 < 3) ∧ c.2.length = d ∧ ∀ x ∈ c.2, 0 ≤ x ∧ x < 3
theorem kc_hash {w : World} {d : Nat} {c : Cf} (h : InD d c) : (kc c).hash w = sg (codeN d c.1.toNat (c.2.map Int.toNat)) := by
  obtain ⟨⟨h1, h2⟩, h3, h4⟩ := h
  have e1 : NestedKey.hash w (.tup (c.2.map .num)) = sg (fin ((c.2.map Int.toNat).foldl lane 2870177450012600261) d) := by
    simp only [NestedKey.hash]
    rw [hashes_nums w c.2 h4, hashOf_eq c.2 (c.2.map Int.toNat) (List.map_congr_left fun x hx => by have := h4 x hx; omega), h3]
    exact sg_red (fin_lt _ _).1 (fin_lt _ _).2
  have e2 : (kc c).hash w = reduceHash (Builtin.Tuple.tupleHashOf [c.1, sg (fin ((c.2.map Int.toNat).foldl lane 2870177450012600261) d)]) := by
    show NestedKey.hash w (.tup [.num c.1, .tup (c.2.map .num)]) = _
    rw [NestedKey.hash]
    simp only [NestedKey.hashes]
    rw [e1]
    simp only [NestedKey.hash]
    rw [hash_small ⟨h1, h2⟩]
  have e3 := hashOf_eq [c.1, sg (fin ((c.2.map Int.toNat).foldl lane 2870177450012600261) d)] [c.1.toNat, fin ((c.2.map Int.toNat).foldl lane 2870177450012600261) d] (by
    rw [List.map_cons, List.map_cons, List.map_nil, sg_mod (fin_lt _ _).1, show (c.1 % 18446744073709551616).toNat = c.1.toNat from by omega])
  have e4 : [c.1, sg (fin ((c.2.map Int.toNat).foldl lane 2870177450012600261) d)].length = 2 := rfl
  rw [List.foldl_cons, List.foldl_cons, List.foldl_nil, e4] at e3
  rw [e2, e3, sg_red (fin_lt _ _).1 (fin_lt _ _).2]
  unfold codeN
  rfl
def DomC (d : Nat) (k : NestedKey) : Prop := ∃ c, k = kc c ∧ InD d c
theorem whole_of {d : Nat} (h : apart 64 0 9223372036854775808 (keysOf d) = true) : (keysOf d).Nodup := apart_nodup _ _ _ _ h
theorem parts_of {d : Nat} (h : ∀ j, j < 4 → Part d j) : (keysOf d).Nodup := parts_nodup _ (fun x hx => by
  rw [keysOf_eq] at hx
  obtain ⟨p, _, rfl⟩ := List.mem_map.mp hx
  exact (fin_lt _ _).1) fun j hj => apart_nodup _ _ _ _ (h j hj)
theorem apart_of {d : Nat} (w : World) (h : (keysOf d).Nodup) : Apart w (DomC d) := by
  rintro _ _ ⟨c, rfl, hc⟩ ⟨c', rfl, hc'⟩ e
  rw [kc_hash hc, kc_hash hc'] at e
  have e := sg_inj (fin_lt _ _).1 (fin_lt _ _).1 e
  have wm : ∀ {c : Cf}, InD d c → c.2.map Int.toNat ∈ words d := fun {c} h => words_mem d _ (by rw [List.length_map]; exact h.2.1) fun x hx => by
    obtain ⟨y, hy, rfl⟩ := List.mem_map.mp hx
    have := h.2.2 y hy
    omega
  obtain ⟨e1, e2⟩ := codeN_inj h (by have := hc.1; omega) (by have := hc'.1; omega) (wm hc) (wm hc') e
  have a1 : c.1 = c'.1 := by have := hc.1; have := hc'.1; omega
  have a2 : c.2 = c'.2 := by
    have key : ∀ xs ys : List Int, (∀ x ∈ xs, 0 ≤ x ∧ x < 3) → (∀ x ∈ ys, 0 ≤ x ∧ x < 3) → xs.map Int.toNat = ys.map Int.toNat → xs = ys := by
      intro xs
      induction xs with
      | nil => intro ys _ _ e; cases ys with | nil => rfl | cons y ys => cases e
      | cons x xs ih =>
        intro ys hx hy e
        cases ys with
        | nil => cases e
        | cons y ys =>
          simp only [List.map_cons, List.cons.injEq] at e
          have b1 := hx x List.mem_cons_self
          have b2 := hy y List.mem_cons_self
          rw [ih ys (fun z hz => hx z (List.mem_cons_of_mem _ hz)) (fun z hz => hy z (List.mem_cons_of_mem _ hz)) e.2, show x = y by omega]
    exact key _ _ hc.2.2 hc'.2.2 e2
  rw [show c = c' from Prod.ext a1 a2]
end K51
end

section
set_option Elab.async false
set_option linter.all false
set_option maxRecDepth 100000
namespace K51
open PySem
theorem chk0 : apart 64 0 9223372036854775808 (keysOf 0) = true := by decide +kernel
theorem chk1 : apart 64 0 9223372036854775808 (keysOf 1) = true := by decide +kernel
theorem chk2 : apart 64 0 9223372036854775808 (keysOf 2) = true := by decide +kernel
theorem chk3 : apart 64 0 9223372036854775808 (keysOf 3) = true := by decide +kernel
theorem chk4 : apart 64 0 9223372036854775808 (keysOf 4) = true := by decide +kernel
theorem chk5 : apart 64 0 9223372036854775808 (keysOf 5) = true := by decide +kernel
theorem chk6 : apart 64 0 9223372036854775808 (keysOf 6) = true := by decide +kernel
theorem chk7 : apart 64 0 9223372036854775808 (keysOf 7) = true := by decide +kernel
theorem chk8 : apart 64 0 9223372036854775808 (keysOf 8) = true := by decide +kernel
theorem chk9_0 : Part 9 0 := by
  unfold Part
  decide +kernel
theorem chk9_1 : Part 9 1 := by
  unfold Part
  decide +kernel
theorem chk9_2 : Part 9 2 := by
  unfold Part
  decide +kernel
theorem chk9_3 : Part 9 3 := by
  unfold Part
  decide +kernel
theorem apart_all (w : World) {d : Nat} (h : d ≤ 9) : Apart w (DomC d) :=
  match d, h with
  | 0, _ => apart_of w (whole_of chk0)
  | 1, _ => apart_of w (whole_of chk1)
  | 2, _ => apart_of w (whole_of chk2)
  | 3, _ => apart_of w (whole_of chk3)
  | 4, _ => apart_of w (whole_of chk4)
  | 5, _ => apart_of w (whole_of chk5)
  | 6, _ => apart_of w (whole_of chk6)
  | 7, _ => apart_of w (whole_of chk7)
  | 8, _ => apart_of w (whole_of chk8)
  | 9, _ => apart_of w (parts_of fun j hj => match j, hj with
    | 0, _ => chk9_0
    | 1, _ => chk9_1
    | 2, _ => chk9_2
    | 3, _ => chk9_3)
end K51
end

section
set_option Elab.async false
set_option linter.all false
set_option maxRecDepth 100000
set_option maxHeartbeats 2000000
/-! data of ints and tuples; what stays from heap to heap -/
namespace K51
open PySem PySem.Spec PyProof.Rows L2

mutual
/-- ints and tuples of such -/
def nums : PyData → Bool
  | .int _ => true
  | .tuple ds => numsAll ds
  | _ => false
def numsAll : List PyData → Bool
  | [] => true
  | d :: ds => nums d && numsAll ds
end
mutual
/-- no list, no dict -/
def solid : PyData → Bool
  | .tuple ds => solidAll ds
  | .list _ => false
  | .dict _ => false
  | _ => true
def solidAll : List PyData → Bool
  | [] => true
  | d :: ds => solid d && solidAll ds
end
mutual
theorem nums_solid : ∀ d : PyData, nums d = true → solid d = true
  | .int _, _ => rfl
  | .tuple ds, h => numsAll_solid ds h
  | .none, h => by cases h
  | .bool _, h => by cases h
  | .str _, h => by cases h
  | .list _, h => by cases h
  | .dict _, h => by cases h
theorem numsAll_solid : ∀ ds : List PyData, numsAll ds = true → solidAll ds = true
  | [], _ => rfl
  | d :: ds, h => by
    rw [numsAll, Bool.and_eq_true] at h
    rw [solidAll, nums_solid d h.1, numsAll_solid ds h.2]; rfl
end
mutual
theorem nums_lay : ∀ d : PyData, nums d = true → d.canLay0 = true
  | .int _, _ => by simp [PyData.canLay0]
  | .tuple ds, h => by rw [PyData.canLay0]; exact numsAll_lay ds h
  | .none, h => by cases h
  | .bool _, h => by cases h
  | .str _, h => by cases h
  | .list _, h => by cases h
  | .dict _, h => by cases h
theorem numsAll_lay : ∀ ds : List PyData, numsAll ds = true → PyData.canLayAll0 ds = true
  | [], _ => by simp [PyData.canLayAll0]
  | d :: ds, h => by
    rw [numsAll, Bool.and_eq_true] at h
    rw [PyData.canLayAll0, nums_lay d h.1, numsAll_lay ds h.2]; rfl
end
mutual
theorem nums_eqv : ∀ d e : PyData, nums d = true → nums e = true → (PyData.eqv d e = true ↔ d = e)
  | .int i, .int j, _, _ => by simp [PyData.eqv]
  | .int i, .tuple es, _, _ => by simp [PyData.eqv]
  | .tuple ds, .int j, _, _ => by simp [PyData.eqv]
  | .tuple ds, .tuple es, h, h' => by
    rw [PyData.eqv, numsAll_eqv ds es h h']
    constructor
    · intro e; rw [e]
    · intro e; injection e
  | .none, _, h, _ => by cases h
  | .bool _, _, h, _ => by cases h
  | .str _, _, h, _ => by cases h
  | .list _, _, h, _ => by cases h
  | .dict _, _, h, _ => by cases h
  | .int _, .none, _, h => by cases h
  | .int _, .bool _, _, h => by cases h
  | .int _, .str _, _, h => by cases h
  | .int _, .list _, _, h => by cases h
  | .int _, .dict _, _, h => by cases h
  | .tuple _, .none, _, h => by cases h
  | .tuple _, .bool _, _, h => by cases h
  | .tuple _, .str _, _, h => by cases h
  | .tuple _, .list _, _, h => by cases h
  | .tuple _, .dict _, _, h => by cases h
theorem numsAll_eqv : ∀ ds es : List PyData, numsAll ds = true → numsAll es = true → (PyData.eqvAll ds es = true ↔ ds = es)
  | [], [], _, _ => by simp [PyData.eqvAll]
  | [], _ :: _, _, _ => by simp [PyData.eqvAll]
  | _ :: _, [], _, _ => by simp [PyData.eqvAll]
  | d :: ds, e :: es, h, h' => by
    rw [numsAll, Bool.and_eq_true] at h h'
    rw [PyData.eqvAll, Bool.and_eq_true, nums_eqv d e h.1 h'.1, numsAll_eqv ds es h.2 h'.2, List.cons.injEq]
end
theorem shaped_of {d : PyData} (h : nums d = true) (hd : d.depth ≤ 64) : SeqAt.shaped d = true := by
  unfold SeqAt.shaped; rw [nums_lay d h, decide_eq_true hd]; rfl
theorem numsAll_of {ds : List PyData} (h : ∀ d ∈ ds, nums d = true) : numsAll ds = true := by
  induction ds with
  | nil => rfl
  | cons d ds ih => rw [numsAll, h d List.mem_cons_self, ih fun e he => h e (List.mem_cons_of_mem _ he)]; rfl
theorem solidAll_of {ds : List PyData} (h : ∀ d ∈ ds, solid d = true) : solidAll ds = true := by
  induction ds with
  | nil => rfl
  | cons d ds ih => rw [solidAll, h d List.mem_cons_self, ih fun e he => h e (List.mem_cons_of_mem _ he)]; rfl
theorem depthAll_of {ds : List PyData} {n : Nat} (h : ∀ d ∈ ds, d.depth ≤ n) : PyData.depthAll ds ≤ n := by
  induction ds with
  | nil => simp [PyData.depthAll]
  | cons d ds ih =>
    have h1 := h d List.mem_cons_self
    have h2 := ih fun e he => h e (List.mem_cons_of_mem _ he)
    simp only [PyData.depthAll]; omega

/-! ### data at a place -/
section
variable {K : PySem.W.Frag} {H H' : Hp}
theorem DpAll.length : ∀ {vs : List V} {ds : List PyData}, DpAll K H vs ds → vs.length = ds.length
  | [], _, h => by cases h; rfl
  | _ :: _, _, h => by cases h with | cons _ t => rw [List.length_cons, List.length_cons, DpAll.length t]
theorem DpAll.get : ∀ {vs : List V} {ds : List PyData}, DpAll K H vs ds → ∀ {i : Nat} {d : PyData}, ds[i]? = some d → ∃ v, vs[i]? = some v ∧ Dp K H v d
  | [], _, h, i, d, e => by cases h; simp at e
  | _ :: _, _, h, i, d, e => by
    cases h with
    | cons h1 t =>
      cases i with
      | zero => simp only [List.getElem?_cons_zero, Option.some.injEq] at e; subst e; exact ⟨_, rfl, h1⟩
      | succ i => exact DpAll.get t (by simpa using e)
theorem DpAll.got : ∀ {vs : List V} {ds : List PyData}, DpAll K H vs ds → ∀ {i : Nat} {v : V}, vs[i]? = some v → ∃ d, ds[i]? = some d ∧ Dp K H v d
  | [], _, h, i, d, e => by simp at e
  | _ :: _, _, h, i, d, e => by
    cases h with
    | cons h1 t =>
      cases i with
      | zero => simp only [List.getElem?_cons_zero, Option.some.injEq] at e; subst e; exact ⟨_, rfl, h1⟩
      | succ i => exact DpAll.got t (by simpa using e)
theorem DpAll.append : ∀ {vs : List V} {ds : List PyData} {us : List V} {es : List PyData}, DpAll K H vs ds → DpAll K H us es → DpAll K H (vs ++ us) (ds ++ es)
  | [], _, _, _, h, h' => by cases h; exact h'
  | _ :: _, _, _, _, h, h' => by cases h with | cons h1 t => exact .cons h1 (DpAll.append t h')
theorem DpAll.snoc {vs : List V} {ds : List PyData} {v : V} {d : PyData} (h : DpAll K H vs ds) (h1 : Dp K H v d) : DpAll K H (vs ++ [v]) (ds ++ [d]) := DpAll.append h (.cons h1 .nil)
theorem dpAll_ints : ∀ ns : List Int, DpAll K H (ns.map V.int) (ns.map PyData.int)
  | [] => .nil
  | n :: ns => .cons (.int n) (dpAll_ints ns)
theorem DpAll.ints : ∀ {vs : List V} {ns : List Int}, DpAll K H vs (ns.map PyData.int) → vs = ns.map V.int
  | [], [], _ => rfl
  | _, n :: ns, h => by
    cases h with
    | cons h1 t => cases h1; rw [DpAll.ints t]; rfl
  | _ :: _, [], h => by cases h
mutual
theorem Dp.stay (k : ∀ p xs, SqT K H p xs → SqT K H' p xs) : ∀ (d : PyData) (v : V), solid d = true → Dp K H v d → Dp K H' v d
  | .none, _, _, h => by cases h; exact .non
  | .bool b, _, _, h => by cases h; exact .bl b
  | .int i, _, _, h => by cases h; exact .int i
  | .str x, _, _, h => by cases h; exact .str x
  | .list _, _, e, _ => by cases e
  | .dict _, _, e, _ => by cases e
  | .tuple ds, _, e, h => by cases h with | tup hs ha => exact .tup (k _ _ hs) (DpAll.stay k ds _ e ha)
theorem DpAll.stay (k : ∀ p xs, SqT K H p xs → SqT K H' p xs) : ∀ (ds : List PyData) (vs : List V), solidAll ds = true → DpAll K H vs ds → DpAll K H' vs ds
  | [], _, _, h => by cases h; exact .nil
  | d :: ds, _, e, h => by
    rw [solidAll, Bool.and_eq_true] at e
    cases h with | cons h1 t => exact .cons (Dp.stay k d _ e.1 h1) (DpAll.stay k ds _ e.2 t)
end
theorem Dp.tupI {v : V} {ds : List PyData} (h : Dp K H v (.tuple ds)) : ∃ a xs, v = .ref a ∧ SqT K H a xs ∧ DpAll K H xs ds := by
  cases h with | tup hs ha => exact ⟨_, _, rfl, hs, ha⟩
theorem Dp.intI {v : V} {i : Int} (h : Dp K H v (.int i)) : v = .int i := by cases h; rfl
theorem Dp.strI {v : V} {i : Str} (h : Dp K H v (.str i)) : v = .str i := by cases h; rfl

/-! ### from heap to heap: all that is tracked stays but what stands at S; tables may grow -/
structure Kp (S : List Addr) (H H' : Hp) : Prop where
  keep : ∀ p o, H p = some o → p ∉ S → (∀ ps, o ≠ .tbl ps) → H' p = some o
  tabs : ∀ P, GxR.TabG H P → GxR.TabG H' P
  back : ∀ p, H' p = none → H p = none
theorem Kp.refl {S : List Addr} : Kp S H H := ⟨fun _ _ h _ _ => h, fun _ h => h, fun _ h => h⟩
theorem Kp.trans {S : List Addr} {H1 H2 : Hp} (a : Kp S H H1) (b : Kp S H1 H2) : Kp S H H2 :=
  ⟨fun p o e n t => b.keep p o (a.keep p o e n t) n t, fun P h => b.tabs P (a.tabs P h), fun p e => a.back p (b.back p e)⟩
theorem Kp.mono {S S' : List Addr} (a : Kp S H H') (h : ∀ p ∈ S, p ∈ S') : Kp S' H H' := ⟨fun p o e n t => a.keep p o e (fun z => n (h p z)) t, a.tabs, a.back⟩
theorem Kp.then {S S' : List Addr} {H1 H2 : Hp} (a : Kp S H H1) (b : Kp S' H1 H2) (h : ∀ p ∈ S', p ∈ S ∨ H p = none) : Kp S H H2 :=
  ⟨fun p o e n t => b.keep p o (a.keep p o e n t) (fun z => (h p z).elim n fun q => by rw [q] at e; cases e) t, fun P g => b.tabs P (a.tabs P g), fun p e => a.back p (b.back p e)⟩
theorem Kp.wide {S : List Addr} (a : Kp [] H H') : Kp S H H' := a.mono fun _ h => nomatch h
theorem upd_none {a p : Addr} {o : HO} (h : upd H a o p = none) : H p = none ∧ p ≠ a := by
  by_cases c : p = a
  · subst c; rw [upd_same] at h; cases h
  · rw [upd_ne c] at h; exact ⟨h, c⟩
theorem TabG.upd {P a : Addr} {o : HO} (h : GxR.TabG H P) (ha : ∀ ps, H a ≠ some (.tbl ps)) : GxR.TabG (upd H a o) P := by
  obtain ⟨ps, e, t⟩ := h
  have ne : P ≠ a := fun z => by
    rw [z] at e
    exact ha ps e
  exact ⟨ps, by rw [upd_ne ne]; exact e, t⟩
theorem Kp.new {S : List Addr} {a : Addr} {o : HO} (h : H a = none) : Kp S H (upd H a o) :=
  ⟨fun p u e _ _ => by rw [upd_ne (ne_of_none e h)]; exact e, fun P g => TabG.upd g (fun ps => by rw [h]; exact fun z => nomatch z), fun p e => (upd_none e).1⟩
/-- what stands at a place of S, or has come since, is written -/
theorem Kp.put {S : List Addr} {H1 : Hp} {a : Addr} {o u : HO} (k : Kp S H H1) (h : H1 a = some u) (hu : ∀ ps, u ≠ .tbl ps) (ha : a ∈ S ∨ H a = none) : Kp S H (upd H1 a o) :=
  ⟨fun p v e n t => by
    have : p ≠ a := fun z => by
      rcases ha with c | c
      · exact n (z ▸ c)
      · rw [z, c] at e; cases e
    rw [upd_ne this]; exact k.keep p v e n t, fun P g => TabG.upd (k.tabs P g) (fun ps => by rw [h]; exact fun z => hu ps (Option.some.inj z)), fun p e => k.back p (upd_none e).1⟩
theorem Kp.and {S : List Addr} {H1 : Hp} {a : Addr} {o : HO} (k : Kp S H H1) (h : H1 a = none) : Kp S H (upd H1 a o) := k.trans (Kp.new h)
theorem Kp.tabbed {S : List Addr} {P : Addr} (h : GxR.TabG H P) (t : GxR.Tabbed P H H') : Kp S H H' := by
  obtain ⟨ps, e, _⟩ := h
  have ne : ∀ p u, H p = some u → (∀ qs, u ≠ .tbl qs) → p ≠ P := fun p u e' t' z => by
    subst z; rw [e] at e'; exact t' ps (Option.some.inj e').symm
  refine ⟨fun p u e' _ t' => by rw [t.2 p (ne p u e' t')]; exact e', fun Q g => ?_, fun p e' => ?_⟩
  · by_cases c : Q = P
    · subst c; exact t.1
    · obtain ⟨qs, eq, tq⟩ := g
      exact ⟨qs, by rw [t.2 Q c]; exact eq, tq⟩
  · by_cases c : p = P
    · obtain ⟨qs, eq, _⟩ := t.1
      rw [c, eq] at e'; cases e'
    · rw [← t.2 p c]; exact e'
/-- places of S hold lists, instances .., not tuples -/
theorem Kp.tup {S : List Addr} (k : Kp S H H') (hS : ∀ p ∈ S, ∀ xs, ¬ Rd H p (.tup xs)) {p : Addr} {xs : List V} (h : SqT K H p xs) : SqT K H' p xs := by
  rcases h with h | h
  · have hp : p ∉ S := fun z => hS p z xs h
    rcases h with h | ⟨o, h⟩
    · exact .inl (.inl (k.keep _ _ h hp fun ps z => by cases z))
    · exact .inl (.inr ⟨o, k.keep _ _ h hp fun ps z => by cases z⟩)
  · exact .inr h
theorem Kp.lst {S : List Addr} (k : Kp S H H') {p : Addr} {xs : List V} (hp : p ∉ S) (h : SqL K H p xs) : SqL K H' p xs := by
  rcases h with h | h
  · rcases h with h | ⟨o, h⟩
    · exact .inl (.inl (k.keep _ _ h hp fun ps z => by cases z))
    · exact .inl (.inr ⟨o, k.keep _ _ h hp fun ps z => by cases z⟩)
  · exact .inr h
def NoTup (S : List Addr) (H : Hp) : Prop := ∀ p ∈ S, ∀ xs, ¬ Rd H p (.tup xs)
theorem NoTup.nil : NoTup [] H := fun _ h => nomatch h
theorem NoTup.one {a : Addr} {xs : List V} (h : H a = some (.lst xs)) : NoTup [a] H := fun p hp ys z => by
  rw [List.mem_singleton.mp hp] at z
  rcases z with z | ⟨o, z⟩ <;> (rw [h] at z; cases z)
theorem Kp.dp {S : List Addr} (k : Kp S H H') (hS : NoTup S H) {v : V} {d : PyData} (hd : solid d = true) (h : Dp K H v d) : Dp K H' v d :=
  Dp.stay (fun _ _ z => k.tup hS z) d v hd h
theorem Kp.dps {S : List Addr} (k : Kp S H H') (hS : NoTup S H) {vs : List V} {ds : List PyData} (hd : solidAll ds = true) (h : DpAll K H vs ds) : DpAll K H' vs ds :=
  DpAll.stay (fun _ _ z => k.tup hS z) ds vs hd h
end

/-! ### keys -/
mutual
def keyD : PyData → NestedKey
  | .int i => .num i
  | .tuple ds => .tup (keyDs ds)
  | _ => .none
def keyDs : List PyData → List NestedKey
  | [] => []
  | d :: ds => keyD d :: keyDs ds
end
mutual
theorem keyD_inj : ∀ d e : PyData, nums d = true → nums e = true → keyD d = keyD e → d = e
  | .int i, .int j, _, _, h => by simp only [keyD, NestedKey.num.injEq] at h; rw [h]
  | .tuple ds, .tuple es, h, h', e => by simp only [keyD, NestedKey.tup.injEq] at e; rw [keyDs_inj ds es h h' e]
  | .int i, .tuple es, _, _, e => by simp [keyD] at e
  | .tuple ds, .int j, _, _, e => by simp [keyD] at e
  | .none, _, h, _, _ => by cases h
  | .bool _, _, h, _, _ => by cases h
  | .str _, _, h, _, _ => by cases h
  | .list _, _, h, _, _ => by cases h
  | .dict _, _, h, _, _ => by cases h
  | .int _, .none, _, h, _ => by cases h
  | .int _, .bool _, _, h, _ => by cases h
  | .int _, .str _, _, h, _ => by cases h
  | .int _, .list _, _, h, _ => by cases h
  | .int _, .dict _, _, h, _ => by cases h
  | .tuple _, .none, _, h, _ => by cases h
  | .tuple _, .bool _, _, h, _ => by cases h
  | .tuple _, .str _, _, h, _ => by cases h
  | .tuple _, .list _, _, h, _ => by cases h
  | .tuple _, .dict _, _, h, _ => by cases h
theorem keyDs_inj : ∀ ds es : List PyData, numsAll ds = true → numsAll es = true → keyDs ds = keyDs es → ds = es
  | [], [], _, _, _ => rfl
  | [], _ :: _, _, _, e => by simp [keyDs] at e
  | _ :: _, [], _, _, e => by simp [keyDs] at e
  | d :: ds, e :: es, h, h', q => by
    rw [numsAll, Bool.and_eq_true] at h h'
    simp only [keyDs, List.cons.injEq] at q
    rw [keyD_inj d e h.1 h'.1 q.1, keyDs_inj ds es h.2 h'.2 q.2]
end
mutual
theorem keyD_depth : ∀ d : PyData, nums d = true → (keyD d).depth = d.depth
  | .int i, _ => by simp [keyD, NestedKey.depth, PyData.depth]
  | .tuple ds, h => by simp only [keyD, NestedKey.depth, PyData.depth]; rw [keyDs_depth ds h]
  | .none, h => by cases h
  | .bool _, h => by cases h
  | .str _, h => by cases h
  | .list _, h => by cases h
  | .dict _, h => by cases h
theorem keyDs_depth : ∀ ds : List PyData, numsAll ds = true → NestedKey.depthAll (keyDs ds) = PyData.depthAll ds
  | [], _ => by simp [keyDs, NestedKey.depthAll, PyData.depthAll]
  | d :: ds, h => by
    rw [numsAll, Bool.and_eq_true] at h
    simp only [keyDs, NestedKey.depthAll, PyData.depthAll]
    rw [keyD_depth d h.1, keyDs_depth ds h.2]
end
section
variable {X : Cx} {pins : List (Addr × Obj)} {σ : L2.St} {H : Hp} {s : Shared}
mutual
theorem Dp.nest (I : Inv X pins σ H s) : ∀ (d : PyData) (v : V) (u : Value), nums d = true → Dp X.K H v d → RelV v u → NestedIs s.heap (keyD d) u
  | .int i, _, _, _, h, r => by
    cases h
    obtain ⟨t, rfl⟩ := r
    exact .int i t
  | .tuple ds, _, _, hn, h, r => by
    cases h with
    | tup hs ha =>
      cases r
      obtain ⟨its, rv, ⟨o, ho, hc, n, hd⟩, _⟩ := I.tuple hs
      exact .tup ho hc hd (by simpa using Dp.nestAll I ds _ its hn ha rv)
  | .none, _, _, h, _, _ => by cases h
  | .bool _, _, _, h, _, _ => by cases h
  | .str _, _, _, h, _, _ => by cases h
  | .list _, _, _, h, _, _ => by cases h
  | .dict _, _, _, h, _, _ => by cases h
theorem Dp.nestAll (I : Inv X pins σ H s) : ∀ (ds : List PyData) (vs : List V) (us : List Value), numsAll ds = true → DpAll X.K H vs ds → Vals vs us → NestedAll s.heap (keyDs ds) us
  | [], _, _, _, h, r => by
    cases h
    cases r
    exact .nil
  | d :: ds, _, _, hn, h, r => by
    rw [numsAll, Bool.and_eq_true] at hn
    cases h with
    | cons h1 h2 =>
      cases r with
      | cons r1 r2 => exact .cons (Dp.nest I d _ _ hn.1 h1 r1) (Dp.nestAll I ds _ _ hn.2 h2 r2)
end
end
end K51
end

section
set_option Elab.async false
set_option linter.all false
set_option maxRecDepth 100000
set_option maxHeartbeats 2000000
/-! dicts from tables to their numbers: the i-th key has the value i -/
namespace K51
open PySem PySem.Spec PyProof.Rows L2

abbrev NK (P : Program) (w : World) : HeapKind P w NestedKey := nestedKind P w
/-- the entries of the keys ks -/
def Ents (L : List (Addr × PyData)) (xs : List (NestedKey × Addr × Value)) : Prop := xs.length = L.length ∧ ∀ (i : Nat) (p : Addr × PyData), L[i]? = some p → ∃ t : Tok, xs[i]? = some (keyD p.2, p.1, Value.int (i : Nat) t)
theorem Ents.nil : Ents [] [] := ⟨rfl, fun i p h => by simp at h⟩
theorem Ents.snoc {L : List (Addr × PyData)} {xs : List (NestedKey × Addr × Value)} (h : Ents L xs) {p : Addr × PyData} {t : Tok} : Ents (L ++ [p]) (xs ++ [(keyD p.2, p.1, .int (L.length : Nat) t)]) := by
  refine ⟨by simp [h.1], fun i q hq => ?_⟩
  rcases Nat.lt_trichotomy i L.length with c | c | c
  · rw [List.getElem?_append_left c] at hq
    obtain ⟨t, e⟩ := h.2 i q hq
    exact ⟨t, by rw [List.getElem?_append_left (by rw [h.1]; exact c)]; exact e⟩
  · subst c
    rw [List.getElem?_append_right (Nat.le_refl _), Nat.sub_self] at hq
    simp only [List.getElem?_cons_zero, Option.some.injEq] at hq
    subst hq
    exact ⟨t, by rw [List.getElem?_append_right (by rw [h.1]; exact Nat.le_refl _), h.1, Nat.sub_self]; rfl⟩
  · rw [List.getElem?_eq_none (by simp; omega)] at hq
    cases hq
theorem Ents.keys {L : List (Addr × PyData)} {xs : List (NestedKey × Addr × Value)} (h : Ents L xs) : xs.map (·.1) = L.map fun p => keyD p.2 := by
  refine List.ext_getElem? fun i => ?_
  rw [List.getElem?_map, List.getElem?_map]
  cases hq : L[i]? with
  | none =>
    have hl := List.getElem?_eq_none_iff.mp hq
    rw [List.getElem?_eq_none (by rw [h.1]; exact hl)]; rfl
  | some p =>
    obtain ⟨t, e⟩ := h.2 i p hq
    rw [e]; rfl
theorem Ents.at_ {L : List (Addr × PyData)} {xs : List (NestedKey × Addr × Value)} (h : Ents L xs) {i : Nat} {x : NestedKey × Addr × Value} (e : xs[i]? = some x) : ∃ p t, L[i]? = some p ∧ x = (keyD p.2, p.1, .int (i : Nat) t) := by
  have hi : i < L.length := by rw [← h.1]; exact (List.getElem?_eq_some_iff.mp e).1
  have hp := List.getElem?_eq_getElem hi
  obtain ⟨t, e2⟩ := h.2 i _ hp
  rw [e] at e2
  exact ⟨_, t, hp, Option.some.inj e2⟩
/-- the dict at a, but for its keys' own objects -/
structure TbD (P : Program) (w : World) (h : Heap) (a : Addr) (L : List (Addr × PyData)) : Prop where
  ex : ∃ xs, Ents L xs ∧ (a == sysModules) = false ∧ (xs.map (·.1)).Nodup ∧ L.length ≤ 60000 ∧ ∃ o es ep, h.get? a = some o ∧ o.ExactDict ∧ o.data = .dict es ep ∧ es.toList = xs.map (entryOfKey (NK P w))
def TbO (P : Program) (w : World) (a : Addr) (L : List (Addr × PyData)) : HO := .ext fun h => TbD P w h a L
theorem tbO_new {w : World} {P : Program} {H : Hp} {h : Heap} {a : Addr} {L : List (Addr × PyData)} (R : TbD P w h a L) : ObjOk P w H h a (TbO P w a L) := by
  have ⟨xs, h1, h2, h3, h4, o, es, ep, ho, r⟩ := R
  refine ⟨R, ⟨o, ho⟩, fun h1 h2 p k => ?_⟩
  have ⟨xs', a1, a2, a3, a4, o', es', ep', ho', r'⟩ := TbD.ex p
  exact ⟨xs', a1, a2, a3, a4, o', es', ep', k o' ho', r'⟩
/-- a key: a tuple at its place -/
def IsKey (K : PySem.W.Frag) (H : Hp) (p : Addr × PyData) : Prop := Dp K H (.ref p.1) p.2 ∧ nums p.2 = true ∧ p.2.depth ≤ 8
section
variable {X : Cx} {pins : List (Addr × Obj)} {σ : L2.St} {H : Hp} {s : Shared}
theorem IsKey.is (I : Inv X pins σ H s) {p : Addr × PyData} (h : IsKey X.K H p) : (NK X.prog X.w).is s.heap (keyD p.2) p.1 :=
  ⟨Dp.nest I p.2 _ _ h.2.1 h.1 rfl, by rw [keyD_depth _ h.2.1]; exact h.2.2⟩
theorem TbD.full (I : Inv X pins σ H s) {a : Addr} {L : List (Addr × PyData)} (R : TbD X.prog X.w s.heap a L) (hk : ∀ p ∈ L, IsKey X.K H p) : ∃ xs, Ents L xs ∧ (a == sysModules) = false ∧ L.length ≤ 60000 ∧ s.heap.DictOfH (NK X.prog X.w) a xs := by
  have ⟨xs, h1, h2, h3, h4, o, es, ep, ho, hx, hd, he⟩ := R
  refine ⟨xs, h1, h2, h4, o, es, ep, ho, hx, hd, he, fun x hx => ?_, h3⟩
  obtain ⟨i, hi, e⟩ := List.getElem_of_mem hx
  obtain ⟨p, t, hp, e2⟩ := h1.at_ (show xs[i]? = some x by rw [List.getElem?_eq_getElem hi, e])
  rw [e2]
  exact IsKey.is I (hk p (List.mem_of_getElem? hp))
theorem TbD.of {P : Program} {w : World} {h : Heap} {a : Addr} {L : List (Addr × PyData)} {xs : List (NestedKey × Addr × Value)} (e : Ents L xs) (hs : (a == sysModules) = false) (hl : L.length ≤ 60000) (d : h.DictOfH (NK P w) a xs) : TbD P w h a L := by
  obtain ⟨o, es, ep, ho, hx, hd, he, _, hn⟩ := d
  exact ⟨xs, e, hs, hn, hl, o, es, ep, ho, hx, hd, he⟩
/-- where the key d stands -/
def idxD (L : List (Addr × PyData)) (d : PyData) (i : Nat) : Prop := ∃ p, L[i]? = some p ∧ p.2 = d
theorem at_some {L : List (Addr × PyData)} {xs : List (NestedKey × Addr × Value)} (h : Ents L xs) (hn : (xs.map (·.1)).Nodup) {i : Nat} {d : PyData} (hi : idxD L d i) : ∃ b t, atKey xs (keyD d) = some (b, .int (i : Nat) t) := by
  obtain ⟨p, hp, rfl⟩ := hi
  obtain ⟨t, e⟩ := h.2 i p hp
  exact ⟨_, t, atKey_of_get hn e⟩
theorem at_none {L : List (Addr × PyData)} {xs : List (NestedKey × Addr × Value)} (h : Ents L xs) (hk : ∀ p ∈ L, nums p.2 = true) {d : PyData} (hd : nums d = true) (hi : d ∉ L.map (·.2)) : atKey xs (keyD d) = none := by
  refine atKey_none_of_get fun j q e => ?_
  obtain ⟨p, t, hp, e2⟩ := h.at_ e
  have e3 : keyD d = keyD p.2 := congrArg Prod.fst e2
  have hm := List.mem_of_getElem? hp
  exact hi (List.mem_map.mpr ⟨p, hm, (keyD_inj _ _ hd (hk p hm) e3).symm⟩)
theorem idx_of_mem {L : List (Addr × PyData)} {d : PyData} (h : d ∈ L.map (·.2)) : ∃ i, idxD L d i := by
  obtain ⟨p, hp, e⟩ := List.mem_map.mp h
  obtain ⟨i, hi, e2⟩ := List.getElem_of_mem hp
  exact ⟨i, p, by rw [List.getElem?_eq_getElem hi, e2], e⟩
theorem DictOfH.nodup {P : Program} {w : World} {h : Heap} {a : Addr} {xs : List (NestedKey × Addr × Value)} (d : h.DictOfH (NK P w) a xs) : (xs.map (·.1)).Nodup := by
  obtain ⟨_, _, _, _, _, _, _, _, hn⟩ := d
  exact hn
/-- x in d, x not in d -/
def rInT (K : PySem.W.Frag) (P : Program) (w : World) (neg : Bool) : R2 := fun x y H Q => ∃ (b a : Addr) (d : PyData) (L : List (Addr × PyData)), x = .ref b ∧ y = .ref a ∧ H a = some (TbO P w a L) ∧ (∀ p ∈ L, IsKey K H p) ∧ IsKey K H (b, d) ∧
  (d ∈ L.map (·.2) → Q (.bl (!neg)) H) ∧ (d ∉ L.map (·.2) → Q (.bl neg) H)
theorem in_core {Q : Value → Shared → Prop} {E : Value → Shared → Prop} {A : Around} (hu : A.units + 64 < cLine) (I : Inv X pins σ H s) {a b : Addr} {d : PyData} {L : List (Addr × PyData)} (ha : H a = some (TbO X.prog X.w a L)) (hk : ∀ p ∈ L, IsKey X.K H p) (hb : IsKey X.K H (b, d))
    (h1 : d ∈ L.map (·.2) → ∀ t, Q (.bool true) { s with toks := t }) (h2 : d ∉ L.map (·.2) → ∀ t, Q (.bool false) { s with toks := t }) : wpAny (model X.prog X.w) A (compareOp .In (.ref b) (.ref a)) Q E s := by
  have R : TbD X.prog X.w s.heap a L := (I.hok a _ ha).1
  obtain ⟨xs, en, hs, hl, dd⟩ := R.full I hk
  refine wpAny_in_heap (knd := NK X.prog X.w) (k := keyD d) (by show A.in1.units + 8 < cLine; simp only [Around.in1_units]; omega) (IsKey.is I hb) hs dd ?_
  by_cases c : d ∈ L.map (·.2)
  · obtain ⟨i, hi⟩ := idx_of_mem c
    obtain ⟨b', t, e⟩ := at_some en (DictOfH.nodup dd) hi
    rw [e]; exact h1 c _
  · rw [at_none en (fun p hp => (hk p hp).2.1) hb.2.1 c]; exact h2 c _
theorem op_inT (hu : X.A.units + 64 < cLine) : OpR X (compareOp .In) (rInT X.K X.prog X.w false) := by
  intro pins s σ H x y v u Q I rx ry h
  obtain ⟨b, a, d, L, rfl, rfl, ha, hk, hb, q1, q2⟩ := h
  cases rx
  cases ry
  exact in_core hu I ha hk hb (fun c t => ⟨.bl true, H, I.tok _, rfl, q1 c⟩) fun c t => ⟨.bl false, H, I.tok _, rfl, q2 c⟩
theorem op_notInT (hu : X.A.units + 64 < cLine) : OpR X (compareOp .NotIn) (rInT X.K X.prog X.w true) := by
  intro pins s σ H x y v u Q I rx ry h
  obtain ⟨b, a, d, L, rfl, rfl, ha, hk, hb, q1, q2⟩ := h
  cases rx
  cases ry
  have R : TbD X.prog X.w s.heap a L := (I.hok a _ ha).1
  obtain ⟨xs, en, hs, hl, dd⟩ := R.full I hk
  refine wpAny_notIn_heap (knd := NK X.prog X.w) (k := keyD d) (by show X.A.in1.units + 8 < cLine; simp only [Around.in1_units]; omega) (IsKey.is I hb) hs dd ?_
  by_cases c : d ∈ L.map (·.2)
  · obtain ⟨i, hi⟩ := idx_of_mem c
    obtain ⟨b', t, e⟩ := at_some en (DictOfH.nodup dd) hi
    rw [e]; exact ⟨.bl false, H, I.tok _, rfl, q1 c⟩
  · rw [at_none en (fun p hp => (hk p hp).2.1) hb.2.1 c]; exact ⟨.bl true, H, I.tok _, rfl, q2 c⟩
/-- d[k] -/
def rGetT (K : PySem.W.Frag) (P : Program) (w : World) : R2 := fun x y H Q => ∃ (a b : Addr) (d : PyData) (L : List (Addr × PyData)) (i : Nat), x = .ref a ∧ y = .ref b ∧ H a = some (TbO P w a L) ∧ (∀ p ∈ L, IsKey K H p) ∧ IsKey K H (b, d) ∧ idxD L d i ∧ Q (.int i) H
theorem ix_tb (hu : X.A.units + 64 < cLine) : IxR X (rGetT X.K X.prog X.w) := by
  intro value slice pins s σ H x y v u Q I rx ry h hs
  obtain ⟨a, b, d, L, i, rfl, rfl, ha, hk, hb, hi, q⟩ := h
  cases rx
  cases ry
  have R : TbD X.prog X.w s.heap a L := (I.hok a _ ha).1
  obtain ⟨xs, en, hsy, hl, dd⟩ := R.full I hk
  obtain ⟨b', t, e⟩ := at_some en (DictOfH.nodup dd) hi
  refine tail_any dd.typeIs slot_dict_getitem.lookup ?_ hs
  refine wpAny_getItem_heap (knd := NK X.prog X.w) (k := keyD d) (p := (b', .int (i : Nat) t)) (by show X.A.in1.units + 8 < cLine; simp only [Around.in1_units]; omega) (IsKey.is I hb) dd e ?_
  exact ⟨.int i, H, I.tok _, ⟨t, rfl⟩, q⟩
/-- d[k] = the number that comes next, k new -/
def rPutT (K : PySem.W.Frag) (P : Program) (w : World) : V → V → V → Hp → (Hp → Prop) → Prop := fun o i v H Q => ∃ (a b : Addr) (d : PyData) (L : List (Addr × PyData)), o = .ref a ∧ i = .ref b ∧ v = .int (L.length : Nat) ∧ H a = some (TbO P w a L) ∧ (∀ p ∈ L, IsKey K H p) ∧ IsKey K H (b, d) ∧
  d ∉ L.map (·.2) ∧ L.length < 60000 ∧ Q (upd H a (TbO P w a (L ++ [(b, d)])))
theorem set_tb (hu : X.A.units + 64 < cLine) : PSet X (rPutT X.K X.prog X.w) := by
  intro pins s σ H o i v ov iv u Q I ro ri rv h
  obtain ⟨a, b, d, L, rfl, rfl, rfl, ha, hk, hb, hn, hl, q⟩ := h
  cases ro
  cases ri
  obtain ⟨t, rfl⟩ := rv
  have R : TbD X.prog X.w s.heap a L := (I.hok a _ ha).1
  obtain ⟨xs, en, hsy, hl2, dd⟩ := R.full I hk
  refine wpAny_setItem_heap (knd := NK X.prog X.w) (k := keyD d) (by show X.A.in1.units + 8 < cLine; simp only [Around.in1_units]; omega) (IsKey.is I hb) dd (fun h' dd' hs => ?_) (by rw [en.1, sizeLine_eq]; omega)
  rw [storedH_new (at_none en (fun p hp => (hk p hp).2.1) hb.2.1 hn)] at dd'
  have R' : TbD X.prog X.w h' a (L ++ [(b, d)]) := TbD.of (en.snoc (p := (b, d))) hsy (by simp; omega) dd'
  have he : ∃ q, h'.get? a = some q := let ⟨q, _, _, hq, _⟩ := dd'; ⟨q, hq⟩
  exact ⟨upd H a (TbO X.prog X.w a (L ++ [(b, d)])), d_write I (by rw [ha]; trivial) hs he (tbO_new R'), q⟩
/-- len(d) -/
def rLenTb (K : PySem.W.Frag) (P : Program) (w : World) : List V → Hp → VK → Prop := fun xs H Q => ∃ (a : Addr) (L : List (Addr × PyData)), xs = [.ref a] ∧ H a = some (TbO P w a L) ∧ (∀ p ∈ L, IsKey K H p) ∧ Q (.int (L.length : Nat)) H
theorem call_lenTb : CallR X (.builtin "len") (rLenTb X.K X.prog X.w) := by
  intro pins s σ H xs us Q I r h
  obtain ⟨a, L, rfl, ha, hk, q⟩ := h
  rw [Vals.ref1 r]
  have R : TbD X.prog X.w s.heap a L := (I.hok a _ ha).1
  obtain ⟨ys, en, hsy, hl, dd⟩ := R.full I hk
  refine call_len_dictH hsy dd (by rw [en.1]; omega) ?_
  rw [en.1]
  exact ⟨.int (L.length : Nat), H, I.tok _, ⟨_, rfl⟩, q⟩
/-- list(d) -/
def rListTb (K : PySem.W.Frag) (P : Program) (w : World) : List V → Hp → VK → Prop := fun xs H Q => ∃ (a : Addr) (L : List (Addr × PyData)), xs = [.ref a] ∧ H a = some (TbO P w a L) ∧ (∀ p ∈ L, IsKey K H p) ∧ ∀ q, H q = none → Q (.ref q) (upd H q (.lst (L.map fun p => V.ref p.1)))
theorem call_listTb (hc : X.calm = true) : CallR X (.type "list") (rListTb X.K X.prog X.w) := by
  intro pins s σ H xs us Q I r h
  obtain ⟨a, L, rfl, ha, hk, q⟩ := h
  rw [Vals.ref1 r]
  have R : TbD X.prog X.w s.heap a L := (I.hok a _ ha).1
  obtain ⟨ks, en, hsy, hl, o, es, ep, ho, hx, hdt, he, _, hn⟩ := R.full I hk
  have l1 : es.size = ks.length := size_of_entries he
  have l2 := en.1
  refine PySem.W.kdl_call (kdl_raw hsy hx hdt) (I.ok.hd hc) ho (by rw [l1, l2, sizeLine_eq]; omega) fun h' tk acc' c' kp e it => ?_
  have ea : acc'.toList = L.map fun p => Value.ref p.1 := by
    apply List.ext_getElem?
    intro j
    rw [List.getElem?_map]
    cases hj : acc'.toList[j]? with
    | none =>
      have h1 := List.getElem?_eq_none_iff.mp hj
      rw [Array.length_toList, it.1, l1, l2] at h1
      rw [List.getElem?_eq_none h1]; rfl
    | some v =>
      obtain ⟨en', h1, rfl⟩ := it.2 j v (by rw [← Array.getElem?_toList]; exact hj)
      rw [entry_at he] at h1
      cases hk2 : ks[j]? with
      | none => rw [hk2] at h1; cases h1
      | some x =>
        rw [hk2] at h1
        cases h1
        obtain ⟨p, t, hp, e2⟩ := en.at_ hk2
        rw [hp, e2]; rfl
  refine ⟨.ref s.heap.objs.size, upd H s.heap.objs.size (.lst (L.map fun p => V.ref p.1)), I.laid kp (Nat.le_refl _) (show ObjOk X.prog X.w _ _ _ (.lst (L.map fun p => V.ref p.1)) from ⟨?_, acc'.toList, c', ?_, ?_⟩), rfl, q _ (I.hok.fresh (Nat.le_refl _))⟩
  · rw [List.length_map, sizeLine_eq]; omega
  · rw [ea]; exact vals_refs (fun p : Addr × PyData => p.1) L
  · rw [Array.toArray_toList]; exact e
/-- {k: 0} -/
def tOneT (K : PySem.W.Frag) (P : Program) (w : World) (tk tv : TE) : TE := fun σ H Q => ∀ a, H a = none → tk σ (upd H a (TbO P w a [])) fun x H1 => tv σ H1 fun y H2 => H2 a = some (TbO P w a []) ∧ ∃ b d, x = .ref b ∧ y = .int 0 ∧ IsKey K H2 (b, d) ∧ Q (.ref a) (upd H2 a (TbO P w a [(b, d)]))
theorem pe_oneT {pos : Pos} {k v : Expr} {tk tv : TE} (hu : X.A.units + 64 < cLine) (hk : PE X k tk) (hv : PE X v tv) : PE X (.Dict [some k] [v] pos) (tOneT X.K X.prog X.w tk tv) := by
  refine ⟨fun pins s σ H Q I q => ?_⟩
  have hn := I.hok.fresh (Nat.le_refl s.heap.objs.size)
  have hsy : (s.heap.objs.size == sysModules) = false := beq_eq_false_iff_ne.mpr (Ne.symm (Nat.ne_of_lt I.big))
  have R0 : TbD X.prog X.w (s.heap.push { cls := .type "dict", data := .dict #[] }) s.heap.objs.size [] :=
    TbD.of Ents.nil hsy (Nat.zero_le _) (Heap.DictOfH.new s.heap)
  have I1 := I.laid (a := s.heap.objs.size) (o := TbO X.prog X.w s.heap.objs.size []) (h' := s.heap.push { cls := .type "dict", data := .dict #[] }) (t' := s.toks) (fun _ _ q => Heap.get?_push_of_some _ q) (Nat.le_refl _) (tbO_new R0)
  rw [arm_eval_Dict, zip_pairTrees [some k] [v] X.env pos rfl rfl, dictDisplay_pairs (pairTrees [some k] [v] X.env pos) (fun z => nomatch z) (by show 1 < 17; decide)]
  refine wpAny_bind (wpAny_standAt (wpAny_bind (wpAny_subDictH (knd := NK X.prog X.w) (Q := fun d s' => wpAny (model X.prog X.w) X.A (pure (Value.ref d)) (EP X pins σ Q) X.xe s') (by show X.A.units + 8 < cLine; omega) (by show 1 ≤ 15; decide) ?_)))
  refine pairTrees_cons_walk (thn (hk.run pins _ σ _ _ I1 (q _ hn)) fun u s1 ⟨x, H1, I1', rx, q1⟩ => thn (hv.run pins s1 σ H1 _ I1' q1) fun w2 s2 ⟨y, H2, I2, ry, e, b, d, ex, ey, hb, q2⟩ => pairTrees_nil_walk ?_)
  subst ex ey
  cases rx
  obtain ⟨t, rfl⟩ := ry
  have R : TbD X.prog X.w s2.heap s.heap.objs.size [] := (I2.hok _ _ e).1
  obtain ⟨xs, en, _, _, dd⟩ := R.full I2 (fun p hp => nomatch hp)
  have ex : xs = [] := List.length_eq_zero_iff.mp en.1
  subst ex
  refine ⟨[(keyD d, b, .int 0 t)], ⟨rfl, rfl, IsKey.is I2 hb, trivial⟩, dd, fun h' tk dd' hs => wpAny_pure ?_⟩
  have R' : TbD X.prog X.w h' s.heap.objs.size [(b, d)] := TbD.of (Ents.nil.snoc (p := (b, d)) (t := t)) hsy (by show 1 ≤ 60000; decide) dd'
  have he : ∃ q, h'.get? s.heap.objs.size = some q := let ⟨q, _, _, hq, _⟩ := dd'; ⟨q, hq⟩
  exact ⟨.ref s.heap.objs.size, upd H2 s.heap.objs.size (TbO X.prog X.w s.heap.objs.size [(b, d)]), d_write I2 (by rw [e]; trivial) hs he (tbO_new R'), rfl, q2⟩
/-- {} to be such a dict -/
def tNewT (P : Program) (w : World) : TE := fun _ H Q => ∀ a, H a = none → Q (.ref a) (upd H a (TbO P w a []))
theorem pe_newT {pos : Pos} : PE X (.Dict [] [] pos) (tNewT X.prog X.w) := ⟨fun pins s σ H Q I h => by
  have hsy : (s.heap.objs.size == sysModules) = false := beq_eq_false_iff_ne.mpr (Ne.symm (Nat.ne_of_lt I.big))
  have R0 : TbD X.prog X.w (s.heap.push { cls := .type "dict", data := .dict #[] }) s.heap.objs.size [] :=
    TbD.of Ents.nil hsy (Nat.zero_le _) (Heap.DictOfH.new s.heap)
  exact wpAny_Dict_empty ⟨.ref s.heap.objs.size, _, I.laid (a := s.heap.objs.size) (o := TbO X.prog X.w s.heap.objs.size []) (t' := s.toks) (fun _ _ q => Heap.get?_push_of_some _ q) (Nat.le_refl _) (tbO_new R0), rfl, h _ (I.hok.fresh (Nat.le_refl _))⟩⟩
end
end K51
end

section
set_option Elab.async false
set_option linter.all false
set_option maxRecDepth 100000
set_option maxHeartbeats 4000000
/-! the data of machines, labels, readers; what a def finds; rules on data -/
namespace K51
open PySem PySem.Spec PyProof.Rows L2

/-! ### data -/
abbrev iD (xs : List Int) : PyData := .tuple (xs.map .int)
def tD (t : Tab) : PyData := .tuple (t.map iD)
def d3 (t : Int × Int × Int) : PyData := .tuple [.int t.1, .int t.2.1, .int t.2.2]
def d4 (t : Int × Int × Int × Int) : PyData := .tuple [.int t.1, .int t.2.1, .int t.2.2.1, .int t.2.2.2]
def mDs (M : Mach) : List PyData := [.int (M.m : Int), iD M.firsts, .tuple (M.lets.map d3), .tuple (M.calls.map d4), .tuple (M.rets.map d4), iD M.lasts]
def mD (M : Mach) : PyData := .tuple (mDs M)
def lDs (L : Nat × Nat × Nat) : List PyData := [.int (L.1 : Int), .int (L.2.1 : Int), .int (L.2.2 : Int)]
def lD (L : Nat × Nat × Nat) : PyData := .tuple (lDs L)
theorem nums_ints (xs : List Int) : numsAll (xs.map .int) = true := numsAll_of fun d h => by obtain ⟨i, _, rfl⟩ := List.mem_map.mp h; rfl
theorem iD_nums (xs : List Int) : nums (iD xs) = true := nums_ints xs
theorem tD_nums (t : Tab) : nums (tD t) = true := numsAll_of fun d h => by obtain ⟨r, _, rfl⟩ := List.mem_map.mp h; exact iD_nums r
theorem d3_nums (t : Int × Int × Int) : nums (d3 t) = true := rfl
theorem d4_nums (t : Int × Int × Int × Int) : nums (d4 t) = true := rfl
theorem lD_nums (L : Nat × Nat × Nat) : nums (lD L) = true := rfl
theorem d3s_nums (l : List (Int × Int × Int)) : nums (.tuple (l.map d3)) = true := numsAll_of fun d h => by obtain ⟨r, _, rfl⟩ := List.mem_map.mp h; rfl
theorem d4s_nums (l : List (Int × Int × Int × Int)) : nums (.tuple (l.map d4)) = true := numsAll_of fun d h => by obtain ⟨r, _, rfl⟩ := List.mem_map.mp h; rfl
theorem mD_nums (M : Mach) : nums (mD M) = true := by
  refine numsAll_of fun d h => ?_
  simp only [mDs, List.mem_cons, List.not_mem_nil, or_false] at h
  rcases h with rfl | rfl | rfl | rfl | rfl | rfl
  · rfl
  · exact iD_nums _
  · exact d3s_nums _
  · exact d4s_nums _
  · exact d4s_nums _
  · exact iD_nums _
theorem iD_depth (xs : List Int) : (iD xs).depth ≤ 1 := by
  have := depthAll_of (ds := xs.map PyData.int) (n := 0) fun d h => by obtain ⟨i, _, rfl⟩ := List.mem_map.mp h; simp [PyData.depth]
  simp only [iD, PyData.depth]; omega
theorem tD_depth (t : Tab) : (tD t).depth ≤ 2 := by
  have := depthAll_of (ds := t.map iD) (n := 1) fun d h => by obtain ⟨r, _, rfl⟩ := List.mem_map.mp h; exact iD_depth r
  simp only [tD, PyData.depth]; omega
theorem int_inj : ∀ {xs ys : List Int}, xs.map PyData.int = ys.map PyData.int → xs = ys
  | [], [], _ => rfl
  | [], _ :: _, h => by simp at h
  | _ :: _, [], h => by simp at h
  | x :: xs, y :: ys, h => by
    simp only [List.map_cons, List.cons.injEq, PyData.int.injEq] at h
    rw [h.1, int_inj h.2]
theorem iD_inj {xs ys : List Int} (h : iD xs = iD ys) : xs = ys := int_inj (by simpa [iD] using h)
theorem tD_inj {t u : Tab} (h : tD t = tD u) : t = u := by
  simp only [tD, PyData.tuple.injEq] at h
  induction t generalizing u with
  | nil => cases u with | nil => rfl | cons r u => simp at h
  | cons r t ih =>
    cases u with
    | nil => simp at h
    | cons r' u =>
      simp only [List.map_cons, List.cons.injEq] at h
      rw [iD_inj h.1, ih h.2]
theorem tD_shaped (t : Tab) : SeqAt.shaped (tD t) = true := shaped_of (tD_nums t) (by have := tD_depth t; omega)
theorem tD_eqv (t u : Tab) : PyData.eqv (tD t) (tD u) = decide (t = u) := by
  have h := nums_eqv (tD t) (tD u) (tD_nums t) (tD_nums u)
  by_cases c : t = u
  · rw [decide_eq_true c]; exact h.mpr (by rw [c])
  · rw [decide_eq_false c]
    cases e : PyData.eqv (tD t) (tD u) with
    | false => rfl
    | true => exact absurd (tD_inj (h.mp e)) c
theorem map_dp {K : PySem.W.Frag} {H : Hp} {α : Type} {f : α → PyData} : ∀ {l : List α} {vs : List V}, DpAll K H vs (l.map f) → ∀ {i : Nat} {v : V}, vs[i]? = some v → ∃ x, l[i]? = some x ∧ Dp K H v (f x) := fun {l vs} h {i v} e => by
  obtain ⟨d, hd, hv⟩ := DpAll.got h e
  rw [List.getElem?_map] at hd
  cases hx : l[i]? with
  | none => rw [hx] at hd; cases hd
  | some x => rw [hx] at hd; cases hd; exact ⟨x, rfl, hv⟩

/-! ### what a def finds -/
structure Gs (mg : PySem.Str → Option Value) : Prop where
  range : mg "range" = none
  len : mg "len" = none
  list : mg "list" = none
  tuple : mg "tuple" = none
  sorted : mg "sorted" = none
  set : mg "set" = none
  any : mg "any" = none
  all : mg "all" = none
  enumerate : mg "enumerate" = none
  int : mg "int" = none
/-- a def that can be called by its name -/
structure Cal (P : Program) (w : World) (K : PySem.W.Frag) (mg : PySem.Str → Option Value) (base : Heap) (CX : CXT) (k : Nat) (x : PySem.Str) (ps : List PySem.Str) (sp : Sp) (f : Addr) (fd : FuncData) : Prop where
  g : mg x = some (.ref f)
  ok : FnOk P w K mg base CX k f fd ps sp
  kp : PySem.W.keepIn K (.ref f) = true
  b : Binds K fd ps []
/-- a method -/
structure Mth (P : Program) (w : World) (K : PySem.W.Frag) (mg : PySem.Str → Option Value) (base : Heap) (k : Nat) (C : Addr) (x : PySem.Str) (ps : List PySem.Str) (sp : Sp) (f : Addr) (fd : FuncData) : Prop where
  m : Meth K C x f
  ok : FnOk P w K mg base CX0 k f fd ps sp
  b : Binds K fd ps []
structure TCls (K : PySem.W.Frag) (mg : PySem.Str → Option Value) (C : Addr) : Prop where
  cl : Cls K C
  na : NoAttr K C "machine"
  g : mg "Tables" = some (.ref C)
def fldT (v : V) : List (PySem.Str × V) := putF "machine" v []
theorem fldT_get (v : V) : (fldT v).lookup ("machine" : PySem.Str) = some v := by unfold fldT; rw [lookup_putF, if_pos rfl]
theorem fldT_no (v : V) {m : PySem.Str} (h : ¬ m = "machine") : (fldT v).lookup m = none := by
  unfold fldT; rw [lookup_putF, if_neg h]; rfl
/-- the Tables at p -/
def TAt (K : PySem.W.Frag) (C : Addr) (H : Hp) (p : Addr) (M : Mach) : Prop := ∃ dx v, H p = some (.ins C dx (fldT v)) ∧ Dp K H v (mD M)
section
variable {K : PySem.W.Frag} {H H' : Hp} {C : Addr}
theorem TAt.kp {p : Addr} {M : Mach} (h : TAt K C H p M) (k : Kp [] H H') : TAt K C H' p M := by
  obtain ⟨dx, v, h1, h2⟩ := h
  exact ⟨dx, v, k.keep _ _ h1 (fun z => nomatch z) (fun ps (z : HO.ins C dx (fldT v) = HO.tbl ps) => nomatch z), k.dp NoTup.nil (nums_solid _ (mD_nums M)) h2⟩
/-- the number of a table in a dict -/
def rIxD (K : PySem.W.Frag) : R2 := fun x y H Q => ∃ (ds : List PyData) (i : Nat) (d : PyData), Dp K H x (.tuple ds) ∧ y = .int (i : Nat) ∧ ds[i]? = some d ∧ ∀ u, Dp K H u d → Q u H
end
/-! ### lists that grow by data -/
def Grow (K : PySem.W.Frag) (S : List Addr) (H1 : Hp) (D : Addr) (ds : List PyData) (H : Hp) : Prop := ∃ acc, Kp S H1 H ∧ H D = some (.lst acc) ∧ DpAll K H acc ds
section
variable {K : PySem.W.Frag} {S : List Addr} {H H1 H4 : Hp} {D : Addr} {ds : List PyData}
theorem NoTup.upd {a : Addr} {xs : List V} (hS : NoTup S H) : NoTup S (upd H a (.lst xs)) := fun p hp ys z => by
  by_cases c : p = a
  · subst c
    rcases z with z | ⟨o, z⟩ <;> (rw [upd_same] at z; cases z)
  · refine hS p hp ys ?_
    rcases z with z | ⟨o, z⟩
    · rw [upd_ne c] at z; exact .inl z
    · rw [upd_ne c] at z; exact .inr ⟨o, z⟩
theorem put_dp {a : Addr} {xs ys : List V} {v : V} {d : PyData} (h : H a = some (.lst xs)) (hd : solid d = true) (x : Dp K H v d) : Dp K (upd H a (.lst ys)) v d :=
  Dp.stay (fun p zs z => by
    rcases z with (z | ⟨o, z⟩) | z
    · exact .inl (.inl (by rw [upd_ne (ne_of z h fun e => by cases e)]; exact z))
    · exact .inl (.inr ⟨o, by rw [upd_ne (ne_of z h fun e => by cases e)]; exact z⟩)
    · exact .inr z) d v hd x
theorem put_dps {a : Addr} {xs ys : List V} {vs : List V} {es : List PyData} (h : H a = some (.lst xs)) (hd : solidAll es = true) (x : DpAll K H vs es) : DpAll K (upd H a (.lst ys)) vs es :=
  DpAll.stay (fun p zs z => by
    rcases z with (z | ⟨o, z⟩) | z
    · exact .inl (.inl (by rw [upd_ne (ne_of z h fun e => by cases e)]; exact z))
    · exact .inl (.inr ⟨o, by rw [upd_ne (ne_of z h fun e => by cases e)]; exact z⟩)
    · exact .inr z) es vs hd x
theorem Grow.zero (h : H1 D = none) : Grow K S H1 D [] (upd H1 D (.lst [])) := ⟨[], Kp.new h, upd_same, .nil⟩
theorem Grow.kp (g : Grow K S H1 D ds H) : Kp S H1 H := let ⟨_, k, _⟩ := g; k
theorem solidAll_snoc : ∀ {ds : List PyData} {d : PyData}, solidAll ds = true → solid d = true → solidAll (ds ++ [d]) = true
  | [], d, _, h => by show (solid d && true) = true; rw [h]; rfl
  | e :: ds, d, h, h' => by
    rw [solidAll, Bool.and_eq_true] at h
    show (solid e && solidAll (ds ++ [d])) = true
    rw [h.1, solidAll_snoc h.2 h']; rfl
theorem Grow.step {y : V} {d : PyData} (h1 : H1 D = none) (hD : D ∉ S) (hS : NoTup S H) (g : Grow K S H1 D ds H) (k : Kp S H H4) (sd : solidAll ds = true) (hy : Dp K H4 y d) (sy : solid d = true) (hl : ds.length < 10000000) :
    ∃ acc, H4 D = some (.lst acc) ∧ acc.length < sizeLine ∧ Grow K S H1 D (ds ++ [d]) (upd H4 D (.lst (acc ++ [y]))) := by
  obtain ⟨acc, k0, e, a⟩ := g
  have e4 : H4 D = some (.lst acc) := k.keep _ _ e hD fun ps z => by cases z
  have a4 := k.dps hS sd a
  have hlen := DpAll.length a
  refine ⟨acc, e4, by rw [hlen, sizeLine_eq]; omega, acc ++ [y], (k0.trans k).put e4 (fun ps z => by cases z) (.inr h1), upd_same, ?_⟩
  exact put_dps e4 (solidAll_snoc sd sy) (DpAll.snoc a4 hy)
/-- since the list was made -/
theorem Kp.since {o : HO} {xs : List V} (h1 : H1 D = none) (k : Kp S H1 H) (e : H D = some (.lst xs)) (ho : ∀ ps, o ≠ .tbl ps) : Kp (D :: S) (upd H1 D o) H := by
  refine ⟨fun p u e n t => ?_, fun P g => ?_, fun p e' => ?_⟩
  · have ne : p ≠ D := fun z => n (by rw [z]; exact List.mem_cons_self)
    rw [upd_ne ne] at e
    exact k.keep _ _ e (fun z => n (List.mem_cons_of_mem _ z)) t
  · obtain ⟨ps, e, tq⟩ := g
    have ne : P ≠ D := fun z => by rw [z, upd_same] at e; exact ho _ (Option.some.inj e)
    rw [upd_ne ne] at e
    exact k.tabs P ⟨ps, e, tq⟩
  · have ne : p ≠ D := fun z => by rw [z, e] at e'; cases e'
    rw [upd_ne ne]; exact k.back p e'
theorem Grow.since {xs : List V} (h1 : H1 D = none) (g : Grow K [] H1 D ds H) : Kp [D] (upd H1 D (.lst xs)) H := by
  obtain ⟨acc, k, e, _⟩ := g
  exact Kp.since h1 k e fun ps z => by cases z
/-- tuple(list) of it -/
theorem Grow.done {p : Addr} {acc : List V} (k : Kp S H1 H) (a : DpAll K H acc ds) (sd : solidAll ds = true) (hp : H p = none) : Kp S H1 (upd H p (.tup acc)) ∧ Dp K (upd H p (.tup acc)) (.ref p) (.tuple ds) :=
  ⟨k.and hp, .tup (SqT.of upd_same) ((Kp.new (S := []) hp).dps NoTup.nil sd a)⟩
end
theorem yesT {σ : L2.St} {H : Hp} {A B : Hp → Prop} (h : A H) : tYes σ H fun b H3 => if b = true then A H3 else B H3 := by
  show (if true = true then A H else B H)
  rw [if_pos rfl]; exact h
/-! ### sets of ints -/
def SI (w : World) (D : Addr) (l : List Int) (H : Hp) : Prop := ∃ S n, H D = some (SetO w D S n) ∧ Has S l ∧ n ≤ l.length
section
variable {K : PySem.W.Frag} {w : World} {H H1 : Hp} {D a : Addr} {xs : List V} {g g1 : TG} {tt : TT} {te : TE} {vs vs1 : List Nat} {σ : L2.St} {Qd : Hp → Prop} {l : List Int}
theorem SI.zero : SI w D [] (upd H1 D (SetO w D (fun _ => false) 0)) := ⟨_, _, upd_same, fun k => by simp, Nat.le_refl _⟩
theorem SI.adds {Nx : Hp → Prop} {c : Int} (h : SI w D l H) (hl : l.length + 1 < scanBound) (k : ∀ S n, SI w D (l ++ [c]) (upd H D (SetO w D S n)) → Nx (upd H D (SetO w D S n))) : Adds w D Nx (.int c) H := by
  obtain ⟨S, n, e, hS, hn⟩ := h
  refine ⟨c, S, n, rfl, e, by omega, k _ _ ⟨_, _, upd_same, fun j => ?_, by rw [List.length_append, List.length_singleton]; split <;> omega⟩⟩
  show (S j || decide (j = c)) = true ↔ _
  rw [Bool.or_eq_true, hS j, decide_eq_true_eq, List.mem_append, List.mem_singleton]
theorem SI.noTup (h : SI w D l H) : NoTup [D] H := fun p hp ys z => by
  obtain ⟨S, n, e, _⟩ := h
  rw [List.mem_singleton.mp hp] at z
  rcases z with z | ⟨o, z⟩ <;> (rw [e] at z; cases z)
theorem si_list (Pv : Nat → Hp → Prop) (h0 : Pv 0 (upd H1 D (SetO w D (fun _ => false) 0))) (hl : ∀ i H, i ≤ xs.length → Pv i H → SqL K H a xs)
    (hs : ∀ i x H, xs[i]? = some x → Pv i H → g x (wipe σ vs) H fun σ2 H2 => wipe σ2 vs = wipe σ vs ∧ tt σ2 H2 fun b H3 => if b = true then te σ2 H3 fun y H4 => Adds w D (Pv (i + 1)) y H4 else Pv (i + 1) H3) (hd : ∀ H, Pv xs.length H → Qd H) :
    ∃ W : Nat → Nat → Hp → Prop, (∃ m, W 0 m (upd H1 D (SetO w D (fun _ => false) 0))) ∧ ∀ i m H, W i m H →
      ((Itl K a).stop i H ∧ Qd H) ∨ ((Itl K a).go i H ∧ ∃ Nx : Hp → Prop, (∀ H', Nx H' → ∃ m', m' < m ∧ W (i + 1) m' H') ∧ ∀ x H', (Itl K a).yld i H x H' → g x (wipe σ vs) H' fun σ2 H2 => wipe σ2 vs = wipe σ vs ∧ tt σ2 H2 fun b H3 =>
        if b = true then te σ2 H3 fun y H4 => Adds w D Nx y H4 else Nx H3) := by
  refine ⟨fun i m H => m = xs.length - i ∧ i ≤ xs.length ∧ Pv i H, ⟨xs.length, by simp, Nat.zero_le _, h0⟩, ?_⟩
  rintro i m H ⟨rfl, hi, p⟩
  have q := hl i H hi p
  by_cases hlt : i < xs.length
  · refine .inr ⟨⟨xs, xs[i], q, by simp [hlt]⟩, Pv (i + 1), fun H' p' => ⟨xs.length - (i + 1), by omega, rfl, hlt, p'⟩, fun x H' y => ?_⟩
    obtain ⟨e, y⟩ := y
    subst e
    exact hs i x _ (y xs q) p
  · have e : i = xs.length := by omega
    subst e
    exact .inl ⟨⟨xs, q, Nat.le_refl _⟩, hd H p⟩
/-- the two walks of a set comprehension of two clauses, both over tuples; the inner one's tuple at a1 holds ys -/
theorem si2_tup {wi1 : TI} (Pv : Nat → Hp → Prop) (h0 : Pv 0 (upd H1 D (SetO w D (fun _ => false) 0))) (hl : ∀ i H, i ≤ xs.length → Pv i H → SqT K H a xs)
    (hs : ∀ i x H, xs[i]? = some x → Pv i H → g x (wipe σ vs) H fun σ2 H2 => wipe σ2 vs = wipe σ vs ∧ wi1 σ2 H2 fun J1 H4 => ∃ (a1 : Addr) (ys : List V) (Pw : Nat → Hp → Prop), J1 = Itt K a1 ∧ Pw 0 H4 ∧ (∀ j H, j ≤ ys.length → Pw j H → SqT K H a1 ys) ∧
      (∀ j y H, ys[j]? = some y → Pw j H → g1 y (wipe σ2 vs1) H fun σ3 H5 => wipe σ3 vs1 = wipe σ2 vs1 ∧ te σ3 H5 fun y H6 => Adds w D (Pw (j + 1)) y H6) ∧ ∀ H, Pw ys.length H → Pv (i + 1) H) (mono : ∀ σ H Q Q', (∀ J H, Q J H → Q' J H) → wi1 σ H Q → wi1 σ H Q') (monog : ∀ x σ H Q Q', (∀ σ H, Q σ H → Q' σ H) → g x σ H Q → g x σ H Q') (hd : ∀ H, Pv xs.length H → Qd H) :
    ∃ W : Nat → Nat → Hp → Prop, (∃ m, W 0 m (upd H1 D (SetO w D (fun _ => false) 0))) ∧ ∀ i m H, W i m H →
      ((Itt K a).stop i H ∧ Qd H) ∨ ((Itt K a).go i H ∧ ∃ Nx : Hp → Prop, (∀ H', Nx H' → ∃ m', m' < m ∧ W (i + 1) m' H') ∧ ∀ x H', (Itt K a).yld i H x H' → g x (wipe σ vs) H' fun σ2 H2 => wipe σ2 vs = wipe σ vs ∧ wi1 σ2 H2 fun J1 H4 => ∃ W1 : Nat → Nat → Hp → Prop, (∃ m, W1 0 m H4) ∧ ∀ j k H, W1 j k H →
        (J1.stop j H ∧ Nx H) ∨ (J1.go j H ∧ ∃ Nx1 : Hp → Prop, (∀ H', Nx1 H' → ∃ k', k' < k ∧ W1 (j + 1) k' H') ∧ ∀ x H', J1.yld j H x H' → g1 x (wipe σ2 vs1) H' fun σ3 H5 => wipe σ3 vs1 = wipe σ2 vs1 ∧ te σ3 H5 fun y H6 => Adds w D Nx1 y H6)) := by
  refine ⟨fun i m H => m = xs.length - i ∧ i ≤ xs.length ∧ Pv i H, ⟨xs.length, by simp, Nat.zero_le _, h0⟩, ?_⟩
  rintro i m H ⟨rfl, hi, p⟩
  have q := hl i H hi p
  by_cases hlt : i < xs.length
  · refine .inr ⟨⟨xs, xs[i], q, by simp [hlt]⟩, Pv (i + 1), fun H' p' => ⟨xs.length - (i + 1), by omega, rfl, hlt, p'⟩, fun x H' y => ?_⟩
    obtain ⟨e, y⟩ := y
    subst e
    refine monog _ _ _ _ _ (fun σ2 H2 z => ⟨z.1, mono _ _ _ _ (fun J1 H4 ⟨a1, ys, Pw, e1, p0, pl, ps, pd⟩ => ?_) z.2⟩) (hs i x _ (y xs q) p)
    subst e1
    refine ⟨fun j k H => k = ys.length - j ∧ j ≤ ys.length ∧ Pw j H, ⟨ys.length, by simp, Nat.zero_le _, p0⟩, ?_⟩
    rintro j k H ⟨rfl, hj, pj⟩
    have qj := pl j H hj pj
    by_cases hltj : j < ys.length
    · refine .inr ⟨⟨ys, ys[j], qj, by simp [hltj]⟩, Pw (j + 1), fun H' p' => ⟨ys.length - (j + 1), by omega, rfl, hltj, p'⟩, fun x H' y => ?_⟩
      obtain ⟨e, y⟩ := y
      subst e
      exact ps j x _ (y ys qj) pj
    · have e : j = ys.length := by omega
      subst e
      exact .inl ⟨⟨ys, qj, Nat.le_refl _⟩, pd _ pj⟩
  · have e : i = xs.length := by omega
    subst e
    exact .inl ⟨⟨xs, q, Nat.le_refl _⟩, hd H p⟩
end
theorem iteYes {c : Bool} {A B : Prop} (h : c = true) (x : A) : if c = true then A else B := by rw [if_pos h]; exact x
theorem iteNo {c : Bool} {A B : Prop} (h : c = false) (x : B) : if c = true then A else B := by rw [if_neg (by rw [h]; decide)]; exact x
theorem eqV_int (x y : Int) : eqV (.int x) (.int y) = decide (x = y) := by
  first
    | rfl
    | (unfold eqV; simp)
theorem inV_int (x : Int) : ∀ ns : List Int, inV (.int x) (ns.map V.int) = decide (x ∈ ns)
  | [] => rfl
  | n :: ns => by
    have ih := inV_int x ns
    unfold inV at ih ⊢
    rw [List.map_cons, List.any_cons, ih, eqV_int, Bool.eq_iff_iff, Bool.or_eq_true, decide_eq_true_eq, decide_eq_true_eq, decide_eq_true_eq, List.mem_cons]
    constructor
    · rintro (h | h)
      · exact .inl h.symm
      · exact .inr h
    · rintro (h | h)
      · exact .inl h.symm
      · exact .inr h
theorem flat_ints (ns : List Int) : (ns.map V.int).all flatV = true := by
  rw [List.all_eq_true]
  intro x hx
  obtain ⟨n, _, rfl⟩ := List.mem_map.mp hx
  rfl
theorem dec_V (x y : Int) : decide (V.int x = V.int y) = decide (x = y) := by
  by_cases c : x = y
  · rw [decide_eq_true c, decide_eq_true (by rw [c])]
  · rw [decide_eq_false c, decide_eq_false fun z => c (by injection z)]
theorem atI_of {vs : List V} {i : Nat} {v : V} (h : vs[i]? = some v) : atI vs ((i : Nat) : Int) = some v := by
  exact atI_nat h
section
variable {X : Cx}
theorem ix_dp : IxR X (rIxD X.K) := by
  intro value slice pins s σ H x y v u Q I rx ry h hs
  obtain ⟨ds, i, d, hx, rfl, hd, q⟩ := h
  obtain ⟨a, xs, rfl, hq, ha⟩ := Dp.tupI hx
  obtain ⟨z, hz, hzd⟩ := DpAll.get ha hd
  exact ix_tup value slice pins s σ H (.ref a) (.int (i : Nat)) v u Q I rx ry ⟨a, xs, _, z, rfl, rfl, hq, atI_of hz, q z hzd⟩ hs
end

/-! ### the rules with the written part and the world by name: for what stands within comprehensions -/
section
variable {X : Cx} (K : PySem.W.Frag) (w : World)
theorem pi_listK {tg l : Expr} {tl : TE} (hl : PE X l tl) (hK : X.K = K := by rfl) : PI X tg l (iList K tl) := by subst hK; exact pi_list hl
theorem pi_tupK {tg l : Expr} {tl : TE} (hl : PE X l tl) (hK : X.K = K := by rfl) : PI X tg l (iTup K tl) := by subst hK; exact pi_tup hl
theorem pg_tupK {es : List Expr} {k : Nat} {t : TGs} {n : Nat} {pos : Pos} (hc : X.calm = true) (h : PGs X es t) (hK : X.K = K := by rfl)
    (hn : (assignEach es X.env).length = n := by rfl) (hst : (assignEach es X.env).findIdx? (·.1) = none := by rfl) : PG X (.Tuple es k pos) (gTup K n t) := by subst hK; exact pg_tup hc h hn hst
theorem ix_dpK (hK : X.K = K := by rfl) : IxR X (rIxD K) := by subst hK; exact ix_dp
def rTupOf (K : PySem.W.Frag) : List V → Hp → VK → Prop := fun xs H Q => ∃ p ys, xs = [V.ref p] ∧ ((SqL K H p ys ∧ ∀ l, H l = none → Q (.ref l) (upd H l (.tup ys))) ∨ (SqT K H p ys ∧ Q (.ref p) H))
theorem cr_tupleK (hK : X.K = K := by rfl) : CallR X (.type "tuple") (rTupOf K) := by subst hK; exact call_tuple_of
theorem cr_sortedSetK (hc : X.calm = true) (hw : X.w = w := by rfl) : CallR X (.builtin "sorted") (rSortedSet w) := by subst hw; exact cr_sortedSet hc
theorem cr_setOfIK (hc : X.calm = true) (hK : X.K = K := by rfl) (hw : X.w = w := by rfl) : CallR X (.type "set") (rSetOfI K w) := by subst hK hw; exact cr_setOfI hc
theorem pe_siK {elt tg iter : Expr} {ifs : List Expr} {scope : Scope} {own : List (PySem.Str × Nat)} {pos : Pos} {wi : TI} {g : TG} {tt : TT} {te : TE} (hc : X.calm = true) (hN : X.N.Nodup) (hi : PI X tg iter wi) (ok : BlkOk X.N X.env.scope scope own)
    (hg : ForBlk X scope fun Y => PG Y tg g) (ht : ForBlk X scope fun Y => PTs Y ifs tt) (he : ForBlk X scope fun Y => PE Y elt te) (hs : ∀ x, foldedSetIterable iter X.env x = pure x := by intro _; rfl) (hw : X.w = w := by rfl) :
    PE X (.SetComp elt [⟨tg, iter, ifs, 0⟩] scope pos) (tSI w wi g tt te (own.map (·.2))) := by subst hw; exact pe_si hc hN hi ok hg ht he hs
theorem pe_siK2 {elt tg iter tg1 iter1 : Expr} {scope : Scope} {own : List (PySem.Str × Nat)} {vs1 : List Nat} {pos : Pos} {wi wi1 : TI} {g g1 : TG} {te : TE} (hc : X.calm = true) (hN : X.N.Nodup) (hi : PI X tg iter wi) (ok : BlkOk X.N X.env.scope scope own) (hv : ∀ i ∈ vs1, i ∈ own.map (·.2))
    (hg : ForBlk X scope fun Y => PG Y tg g) (hi1 : ForBlk X scope fun Y => PI Y tg1 iter1 wi1) (hg1 : ForBlk X scope fun Y => PG Y tg1 g1) (he : ForBlk X scope fun Y => PE Y elt te) (hs : ∀ x, foldedSetIterable iter X.env x = pure x := by intro _; rfl) (hs1 : ∀ env x, foldedSetIterable iter1 env x = pure x := by intro _ _; rfl) (hw : X.w = w := by rfl) :
    PE X (.SetComp elt [⟨tg, iter, [], 0⟩, ⟨tg1, iter1, [], 0⟩] scope pos) (tSI2 w wi g wi1 g1 te (own.map (·.2)) vs1) := by subst hw; exact pe_si2 hc hN hi ok hv hg hi1 hg1 he hs hs1
end
theorem b_tuple : bootBuiltins "tuple" = some (.type "tuple") := by decide +kernel
theorem b_list : bootBuiltins "list" = some (.type "list") := by decide +kernel
theorem b_set : bootBuiltins "set" = some (.type "set") := by decide +kernel
theorem b_int : bootBuiltins "int" = some (.type "int") := by decide +kernel
theorem b_sorted : bootBuiltins "sorted" = some (.builtin "sorted") := by decide +kernel
theorem b_len : bootBuiltins "len" = some (.builtin "len") := by decide +kernel
theorem b_any : bootBuiltins "any" = some (.builtin "any") := by decide +kernel
theorem b_all : bootBuiltins "all" = some (.builtin "all") := by decide +kernel
theorem b_enumerate : bootBuiltins "enumerate" = some (.type "enumerate") := by decide +kernel
end K51
end

section
set_option Elab.async false
set_option linter.all false
set_option maxRecDepth 100000
set_option maxHeartbeats 4000000
/-! class Tables -/
namespace K51
open PySem PySem.Spec PyProof.Rows L2
section
variable {P : Program} {w : World} {K : PySem.W.Frag} {mg : PySem.Str → Option Value} {base : Heap} {C : Addr}
def spInit (C : Addr) : Sp := fun vs H Q _ => ∃ (p dx : Addr) (v : V), vs = [.ref p, v] ∧ H p = some (.ins C dx []) ∧ Q .non (upd H p (.ins C dx (fldT v)))
theorem sc_init : FnScope ["self", "machine"] ["self", "machine"] (defScope s_Tables_init) := ⟨rfl, rfl, rfl, by decide +kernel, rfl, by decide +kernel, by decide +kernel⟩
theorem ok_init {f : Addr} {fd : FuncData} (F : L2.Fun K "__init__" "Tables.__init__" s_Tables_init f fd) (T : TCls K mg C) : FnOk P w K mg base CX0 1 f fd ["self", "machine"] (spInit C) := by
  refine F.ok sc_init (fun vs H Q E h => ?_) (fun cdv A outer s H vs Q E hr h => ?_)
  · obtain ⟨p, dx, v, rfl, _⟩ := h
    rfl
  · obtain ⟨p, dx, v, rfl, hp, k⟩ := h
    refine ⟨_, pss_one (ps_fld (pv 0) (pv 1) rfl), ?_⟩
    exact ⟨_, rfl, _, rfl, p, C, dx, _, rfl, hp, T.cl, T.na, (by show 0 < 1000; decide), k⟩
/-- empty(self) -/
def spEmpty (K : PySem.W.Frag) (C : Addr) : Sp := fun vs H Q _ => ∃ (p : Addr) (M : Mach), vs = [.ref p] ∧ TAt K C H p M ∧ M.m ≤ 3 ∧ ∀ v H', Kp [] H H' → Dp K H' v (tD (tEmpty M.m)) → Q v H'
theorem sc_empty : FnScope ["self", "state"] ["self"] (defScope s_Tables_empty) := ⟨rfl, rfl, rfl, by decide +kernel, rfl, by decide +kernel, by decide +kernel⟩
theorem ok_empty {f : Addr} {fd : FuncData} (F : L2.Fun K "empty" "Tables.empty" s_Tables_empty f fd) (T : TCls K mg C) (G : Gs mg) : FnOk P w K mg base CX0 1 f fd ["self"] (spEmpty K C) := by
  refine F.ok sc_empty (fun vs H Q E h => ?_) (fun cdv A outer s H vs Q E hr h => ?_)
  · obtain ⟨p, M, rfl, _⟩ := h
    rfl
  · obtain ⟨p, M, rfl, ⟨dx, mv, hp, hM⟩, h3, k⟩ := h
    refine ⟨_, pss_one (ps_ret (pe_callTy call_tuple_of (by rfl) G.tuple (by decide +kernel) (pa_cons (pe_lc (own := [("state", 1)]) (g := gName 1) (tt := tYes) rfl sc_empty.nd
      (pi_range1 (by rfl) G.range (pa_cons (pe_ix ix_dp (pe_fld (pv 0) rfl) pe_int (fun _ _ => rfl)) pa_nil))
      (blkOk_by (N := ["self", "state"]) (sc := defScope s_Tables_empty) (by decide +kernel)) (fun _ _ _ _ _ => pg_name (i := 1) sc_empty.nd rfl (Or.inl rfl)) (fun _ _ _ _ _ => pts_nil)
      (fun _ _ _ _ _ => pe_tup (pa_cons (pv 1) pa_nil))) pa_nil))), ?_⟩
    refine ⟨_, rfl, p, C, dx, _, _, rfl, hp, T.cl, T.na, fldT_get _, mDs M, 0, .int (M.m : Int), hM, rfl, rfl, fun u hu => ?_⟩
    obtain rfl := Dp.intI hu
    refine ⟨_, rfl, by omega, by omega, fun D hD => ?_⟩
    refine lc_range (lo := 0) (n := (M.m : Int).toNat) (fun i H' => Grow K [] H D (((List.range i).map fun (s : Nat) => [(s : Int)]).map iD) H') (Grow.zero hD) (fun i H' hi g => ⟨rfl, ?_⟩) fun H' g => ?_
    · refine yesT ?_
      refine ⟨_, rfl, (by show 1 ≤ sizeLine; decide), fun t ht => ?_⟩
      rw [List.range_succ, List.map_append, List.map_append]
      have kt := Kp.new (S := []) (o := .tup [V.int (0 + (i : Int))]) ht
      refine Grow.step hD (fun z => nomatch z) NoTup.nil g kt (solidAll_of fun d hd => by obtain ⟨r, _, rfl⟩ := List.mem_map.mp hd; exact nums_solid _ (iD_nums r)) (Dp.tup (SqT.of upd_same) ?_) (nums_solid _ (iD_nums _)) (by simp; omega)
      rw [Int.zero_add]
      exact dpAll_ints [(i : Int)]
    · obtain ⟨acc, kD, eD, aD⟩ := g
      refine ⟨D, acc, rfl, .inl ⟨SqL.of eD, fun l hl => ?_⟩⟩
      obtain ⟨k2, d2⟩ := Grow.done kD aD (solidAll_of fun d hd => by obtain ⟨r, _, rfl⟩ := List.mem_map.mp hd; exact nums_solid _ (iD_nums r)) hl
      exact k _ _ k2 (by rw [Int.toNat_natCast] at d2; exact d2)
/-- pairs -/
abbrev d2 (p : Int × Int) : PyData := .tuple [.int p.1, .int p.2]
theorem d2_solid (l : List (Int × Int)) : solidAll (l.map d2) = true := solidAll_of fun d h => by obtain ⟨r, _, rfl⟩ := List.mem_map.mp h; rfl
theorem rows_solid (l : List Row) : solidAll (l.map iD) = true := solidAll_of fun d hd => by obtain ⟨r, _, rfl⟩ := List.mem_map.mp hd; exact nums_solid _ (iD_nums r)
/-- from_pairs(self, pairs) -/
def spPairs (K : PySem.W.Frag) (C : Addr) : Sp := fun vs H Q _ => ∃ (p l : Addr) (M : Mach) (xs : List V) (ps : List (Int × Int)), vs = [.ref p, .ref l] ∧ TAt K C H p M ∧ M.m ≤ 3 ∧ H l = some (.lst xs) ∧ DpAll K H xs (ps.map d2) ∧ ps.length < 64 ∧
  ∀ v H', Kp [] H H' → Dp K H' v (tD (tPairs M.m ps)) → Q v H'
theorem sc_pairs : FnScope ["self", "pairs", "state", "p", "q"] ["self", "pairs"] (defScope s_Tables_from_pairs) := ⟨rfl, rfl, rfl, by decide +kernel, rfl, by decide +kernel, by decide +kernel⟩
theorem ok_pairs {f : Addr} {fd : FuncData} (F : L2.Fun K "from_pairs" "Tables.from_pairs" s_Tables_from_pairs f fd) (T : TCls K mg C) (G : Gs mg) : FnOk P w K mg base CX0 1 f fd ["self", "pairs"] (spPairs K C) := by
  refine F.ok sc_pairs (fun vs H Q E h => ?_) (fun cdv A outer s H vs Q E hr h => ?_)
  · obtain ⟨p, l, M, xs, ps, rfl, _⟩ := h
    rfl
  · obtain ⟨p, l, M, xs, ps, rfl, ⟨dx, mv, hp, hM⟩, h3, hl, hx, hn, k⟩ := h
    refine ⟨_, pss_one (ps_ret (pe_callTy call_tuple_of (by rfl) G.tuple (by decide +kernel) (pa_cons (pe_lc (own := [("state", 2)]) (g := gName 2) (tt := tYes) rfl sc_pairs.nd
      (pi_range1 (by rfl) G.range (pa_cons (pe_ix ix_dp (pe_fld (pv 0) rfl) pe_int (fun _ _ => rfl)) pa_nil))
      (blkOk_by (N := ["self", "pairs", "state", "p", "q"]) (sc := defScope s_Tables_from_pairs) (by decide +kernel)) (fun _ _ _ _ _ => pg_name (i := 2) sc_pairs.nd rfl (Or.inr rfl)) (fun _ _ _ _ _ => pts_nil)
      (fun _ _ _ _ _ => pe_callTy (cr_tupleK K) (by rfl) G.tuple b_tuple (pa_cons (pe_callB (cr_sortedSetK w rfl) (by rfl) G.sorted b_sorted (pa_cons
        (pe_siK w (own := [("p", 3), ("q", 4)]) rfl sc_pairs.nd (pi_listK K (pv 1)) (blkOk_by (by kernel_rfl))
          (fun _ _ _ _ _ => pg_tupK K (n := 2) rfl (pgs_cons (pg_name (i := 3) sc_pairs.nd rfl (Or.inl rfl)) (pgs_cons (pg_name (i := 4) sc_pairs.nd rfl (Or.inl rfl)) pgs_nil)))
          (fun _ _ _ _ _ => pts_one (pt_cmpR op_eq (pv 3) (pv 2) (nomark _))) (fun _ _ _ _ _ => pv 4)) pa_nil)) pa_nil))) pa_nil))), ?_⟩
    refine ⟨_, rfl, p, C, dx, _, _, rfl, hp, T.cl, T.na, fldT_get _, mDs M, 0, .int (M.m : Int), hM, rfl, rfl, fun u hu => ?_⟩
    obtain rfl := Dp.intI hu
    refine ⟨_, rfl, by omega, by omega, fun D hD => ?_⟩
    refine lc_range (lo := 0) (n := (M.m : Int).toNat) (fun i H' => Grow K [] H D (((List.range i).map fun (s : Nat) => ssort (pairsAt ps (s : Int))).map iD) H') (Grow.zero hD) (fun i H' hi g => ⟨rfl, ?_⟩) fun H' g => ?_
    · refine yesT ?_
      have kH := Grow.kp g
      have hl' : H' l = some (.lst xs) := kH.keep _ _ hl (fun z => nomatch z) fun ps z => by cases z
      have hx' := kH.dps NoTup.nil (d2_solid ps) hx
      refine ⟨_, rfl, l, rfl, ⟨xs, SqL.of hl'⟩, fun S hS => ?_⟩
      refine si_list (K := K) (xs := xs) (fun j H2 => Kp [] H' H2 ∧ SI w S (pairsAt (ps.take j) (i : Int)) H2) ⟨Kp.new hS, SI.zero⟩ (fun j H2 _ z => z.1.lst (fun z => nomatch z) (SqL.of hl')) (fun j x H2 ej z => ?_) fun H2 z => ?_
      · obtain ⟨z1, z2⟩ := z
        obtain ⟨⟨p1, p2⟩, ep, hx1⟩ := map_dp hx' ej
        obtain ⟨a, ys, rfl, hq, hys⟩ := Dp.tupI (z1.dp NoTup.nil rfl hx1)
        obtain rfl := DpAll.ints (ns := [p1, p2]) hys
        refine ⟨a, _, rfl, hq, rfl, _, _, rfl, _, _, rfl, rfl, rfl, ?_⟩
        refine ⟨_, rfl, _, rfl, rfl, _, rfl, ?_⟩
        have e1 : ps.take (j + 1) = ps.take j ++ [(p1, p2)] := take_next ep
        have hjl : (pairsAt (ps.take j) (i : Int)).length < 64 := by
          have h1 : (pairsAt (ps.take j) (i : Int)).length ≤ (ps.take j).length := by
            unfold pairsAt
            rw [List.length_map]; exact List.length_filter_le _ _
          have h2 := List.length_take_le j ps
          have h3 : (ps.take j).length ≤ ps.length := by rw [List.length_take]; omega
          omega
        by_cases c : p1 = (i : Int)
        · refine iteYes (decide_eq_true (by rw [c, Int.zero_add])) ?_
          refine ⟨_, rfl, ?_⟩
          have e2 : pairsAt (ps.take (j + 1)) (i : Int) = pairsAt (ps.take j) (i : Int) ++ [p2] := by
            rw [e1]; unfold pairsAt
            rw [List.filter_append, List.map_append]
            simp [c]
          refine SI.adds z2 (by unfold scanBound; omega) fun F n z3 => ⟨?_, ?_⟩
          · obtain ⟨F0, n0, e0, _⟩ := z2
            exact z1.put e0 (fun ps z => by cases z) (.inr hS)
          · rw [e2]; exact z3
        · refine iteNo (decide_eq_false fun z => c ?_) ?_
          · injection z with z; omega
          · refine ⟨z1, ?_⟩
            have e2 : pairsAt (ps.take (j + 1)) (i : Int) = pairsAt (ps.take j) (i : Int) := by
              rw [e1]; unfold pairsAt
              rw [List.filter_append, List.map_append]
              simp [c]
            rw [e2]; exact z2
      · rw [show ps.take xs.length = ps by rw [DpAll.length hx, List.length_map, List.take_length]] at z
        obtain ⟨z1, F, n, eS, hF, hn2⟩ := z
        have hlen : (pairsAt ps (i : Int)).length ≤ ps.length := by
          unfold pairsAt
          rw [List.length_map]; exact List.length_filter_le _ _
        refine ⟨S, F, n, rfl, eS, by omega, fun ns q hns hmem _ hq => ?_⟩
        have en : ns = ssort (pairsAt ps (i : Int)) := ssort_eq hns fun x => (hmem x).trans (hF x)
        refine ⟨q, _, rfl, .inl ⟨SqL.of upd_same, fun r hr => ?_⟩⟩
        rw [List.range_succ, List.map_append, List.map_append]
        refine Grow.step hD (fun z => nomatch z) NoTup.nil g ((z1.and hq).and hr) (rows_solid _) (Dp.tup (SqT.of upd_same) ?_) (nums_solid _ (iD_nums _)) (by simp; omega)
        rw [en]
        exact dpAll_ints _
    · obtain ⟨acc, kD, eD, aD⟩ := g
      refine ⟨D, acc, rfl, .inl ⟨SqL.of eD, fun l hl => ?_⟩⟩
      obtain ⟨k2, d2⟩ := Grow.done kD aD (rows_solid _) hl
      exact k _ _ k2 (by rw [Int.toNat_natCast] at d2; exact d2)
end
end K51
end

section
set_option Elab.async false
set_option linter.all false
set_option maxRecDepth 100000
set_option maxHeartbeats 4000000
/-! class Tables: letter, join -/
namespace K51
open PySem PySem.Spec PyProof.Rows L2
/-- a strictly ascending list below m has at most m members -/
theorem up_len {m : Nat} {l : List Int} (h : l.Pairwise (· < ·)) (hb : ∀ q ∈ l, InS m q) : l.length ≤ m := by
  have nd : (l.map Int.toNat).Nodup := by
    unfold List.Nodup
    rw [List.pairwise_map]
    refine List.Pairwise.imp_of_mem (fun {a b} ha hb' hab => ?_) h
    have h1 := hb a ha
    have h2 := hb b hb'
    unfold InS at h1 h2
    omega
  have z := nat_nodup_len (l.map Int.toNat) (List.range m) nd fun x hx => by
    obtain ⟨q, hq, rfl⟩ := List.mem_map.mp hx
    have h1 := hb q hq
    unfold InS at h1
    exact List.mem_range.mpr (by omega)
  rw [List.length_map, List.length_range] at z
  exact z
theorem Good.rowLen {m : Nat} {t : Tab} (g : Good m t) {row : Row} (h : row ∈ t) : row.length ≤ m := up_len (g.up row h) (g.bd row h)
section
variable {P : Program} {w : World} {K : PySem.W.Frag} {mg : PySem.Str → Option Value} {base : Heap} {C : Addr}
/-- letter(self, a) -/
def spLetter (K : PySem.W.Frag) (C : Addr) : Sp := fun vs H Q _ => ∃ (p : Addr) (M : Mach) (a : Int), vs = [.ref p, .int a] ∧ TAt K C H p M ∧ M.m ≤ 3 ∧ M.lets.length < 64 ∧
  ∀ v H', Kp [] H H' → Dp K H' v (tD (tLetter M a)) → Q v H'
theorem sc_letter : FnScope ["self", "a", "p", "label", "q"] ["self", "a"] (defScope s_Tables_letter) := ⟨rfl, rfl, rfl, by decide +kernel, rfl, by decide +kernel, by decide +kernel⟩
theorem k_pairs : ¬ (("from_pairs" : PySem.Str) = "machine") := by decide +kernel
theorem ok_letter {f f1 : Addr} {fd fd1 : FuncData} (F : L2.Fun K "letter" "Tables.letter" s_Tables_letter f fd) (T : TCls K mg C) (G : Gs mg) (M1 : Mth P w K mg base 1 C "from_pairs" ["self", "pairs"] (spPairs K C) f1 fd1) :
    FnOk P w K mg base CX0 2 f fd ["self", "a"] (spLetter K C) := by
  refine F.ok sc_letter (fun vs H Q E h => ?_) (fun cdv A outer s H vs Q E hr h => ?_)
  · obtain ⟨p, M, a, rfl, _⟩ := h
    rfl
  · obtain ⟨p, M, a, rfl, ⟨dx, mv, hp, hM⟩, h3, hlen, k⟩ := h
    have hr1 : Room 1 _ := hr
    refine ⟨_, pss_one (ps_ret (pe_meth (pv 0) T.cl M1.m M1.ok hr1 M1.b .nil pass0 (pa_cons (pe_lc (own := [("p", 2), ("label", 3), ("q", 4)]) rfl sc_letter.nd
      (pi_tup (pe_ix ix_dp (pe_fld (pv 0) rfl) pe_int (fun _ _ => rfl)))
      (blkOk_by (N := ["self", "a", "p", "label", "q"]) (sc := defScope s_Tables_letter) (by decide +kernel))
      (fun _ _ _ _ _ => pg_tupK K (n := 3) rfl (pgs_cons (pg_name (i := 2) sc_letter.nd rfl (Or.inl rfl)) (pgs_cons (pg_name (i := 3) sc_letter.nd rfl (Or.inl rfl)) (pgs_cons (pg_name (i := 4) sc_letter.nd rfl (Or.inl rfl)) pgs_nil))))
      (fun _ _ _ _ _ => pts_one (pt_cmpR op_eq (pv 3) (pv 1) (nomark _)))
      (fun _ _ _ _ _ => pe_tup (pa_cons (pv 2) (pa_cons (pv 4) pa_nil)))) pa_nil))), ?_⟩
    refine ⟨_, rfl, p, dx, _, rfl, hp, fldT_no _ k_pairs, ?_⟩
    refine ⟨_, rfl, p, C, dx, _, _, rfl, hp, T.cl, T.na, fldT_get _, mDs M, 2, .tuple (M.lets.map d3), hM, rfl, rfl, fun u hu => ?_⟩
    obtain ⟨a0, xs, rfl, hq0, hx0⟩ := Dp.tupI hu
    refine ⟨a0, rfl, ⟨xs, hq0⟩, fun D hD => ?_⟩
    refine lc_tup (K := K) (xs := xs) (fun i H' => Grow K [] H D ((((M.lets.take i).filter fun t => decide (t.2.1 = a)).map fun t => (t.1, t.2.2)).map d2) H') (Grow.zero hD) (fun i H' _ g => g.kp.tup NoTup.nil hq0) (fun i x H' ei g => ?_) fun H' g => ?_
    · obtain ⟨⟨t1, t2, t3⟩, et, hx1⟩ := map_dp hx0 ei
      obtain ⟨a1, ys, rfl, hq, hys⟩ := Dp.tupI (g.kp.dp NoTup.nil rfl hx1)
      obtain rfl := DpAll.ints (ns := [t1, t2, t3]) hys
      refine ⟨a1, _, rfl, hq, rfl, _, _, rfl, _, _, rfl, _, _, rfl, rfl, rfl, ?_⟩
      refine ⟨_, rfl, _, rfl, rfl, _, rfl, ?_⟩
      have e1 : M.lets.take (i + 1) = M.lets.take i ++ [(t1, t2, t3)] := take_next et
      by_cases c : t2 = a
      · refine iteYes (decide_eq_true (by rw [c])) ?_
        refine ⟨_, rfl, _, rfl, (by show 2 ≤ sizeLine; decide), fun t ht => ?_⟩
        rw [e1, List.filter_append, List.map_append, List.map_append]
        simp only [c, List.filter_cons, List.filter_nil, decide_true, if_true, List.map_cons, List.map_nil]
        exact Grow.step hD (fun z => nomatch z) NoTup.nil g (Kp.new ht) (d2_solid _) (Dp.tup (SqT.of upd_same) (dpAll_ints [t1, t3])) rfl (by
          rw [List.length_map, List.length_map]
          have h1 := List.length_filter_le (fun t : Int × Int × Int => decide (t.2.1 = a)) (M.lets.take i)
          have h2 : (M.lets.take i).length ≤ M.lets.length := by rw [List.length_take]; omega
          omega)
      · refine iteNo (decide_eq_false fun z => c (by injection z)) ?_
        rw [e1, List.filter_append]
        simp only [c, List.filter_cons, List.filter_nil, decide_false, Bool.false_eq_true, if_false, List.append_nil]
        exact g
    · rw [show M.lets.take xs.length = M.lets by rw [DpAll.length hx0, List.length_map, List.take_length]] at g
      obtain ⟨acc, kD, eD, aD⟩ := g
      refine ⟨p, D, M, acc, letPairs M a, rfl, TAt.kp ⟨dx, mv, hp, hM⟩ kD, h3, eD, aD, ?_, fun v H2 k2 d2 => k v H2 (kD.trans k2) d2⟩
      unfold letPairs
      rw [List.length_map]
      have h1 := List.length_filter_le (fun t : Int × Int × Int => decide (t.2.1 = a)) M.lets
      omega
/-- join(self, x, y) -/
def spJoin (K : PySem.W.Frag) (C : Addr) : Sp := fun vs H Q _ => ∃ (p : Addr) (m : Nat) (x y : V) (t u : Tab), vs = [.ref p, x, y] ∧ Dp K H x (tD t) ∧ Dp K H y (tD u) ∧ Good m t ∧ Good m u ∧ m ≤ 3 ∧
  ∀ v H', Kp [] H H' → Dp K H' v (tD (tJoin t u)) → Q v H'
abbrev nJoin : List PySem.Str := ["self", "x", "y", "row", "r", "q"]
theorem sc_join : FnScope nJoin ["self", "x", "y"] (defScope s_Tables_join) := ⟨rfl, rfl, rfl, by decide +kernel, rfl, by decide +kernel, by decide +kernel⟩
theorem ok_join {f : Addr} {fd : FuncData} (F : L2.Fun K "join" "Tables.join" s_Tables_join f fd) (G : Gs mg) : FnOk P w K mg base CX0 1 f fd ["self", "x", "y"] (spJoin K C) := by
  refine F.ok sc_join (fun vs H Q E h => ?_) (fun cdv A outer s H vs Q E hr h => ?_)
  · obtain ⟨p, m, x, y, t, u, rfl, _⟩ := h
    rfl
  · obtain ⟨p, m, x, y, t, u, rfl, hx, hy, gt, gu, h3, k⟩ := h
    refine ⟨_, pss_one (ps_ret (pe_callTy call_tuple_of (by rfl) G.tuple b_tuple (pa_cons (pe_lc (own := [("row", 3)]) (g := gName 3) (tt := tYes) rfl sc_join.nd (pi_tup (pv 1))
      (blkOk_by (N := nJoin) (sc := defScope s_Tables_join) (by decide +kernel)) (fun _ _ _ _ _ => pg_name (i := 3) sc_join.nd rfl (Or.inl rfl)) (fun _ _ _ _ _ => pts_nil)
      (fun _ _ _ _ _ => pe_callTy (cr_tupleK K) (by rfl) G.tuple b_tuple (pa_cons (pe_callB (cr_sortedSetK w rfl) (by rfl) G.sorted b_sorted (pa_cons
        (pe_siK2 w (own := [("r", 4), ("q", 5)]) (vs1 := [5]) rfl sc_join.nd (pi_tupK K (pv 3)) (blkOk_by (by kernel_rfl)) (by decide)
          (fun _ _ _ _ _ => pg_name (i := 4) sc_join.nd rfl (Or.inl rfl)) (fun _ _ _ _ _ => pi_tupK K (pe_ix (ix_dpK K) (pv 2) (pv 4) (fun _ _ => rfl)))
          (fun _ _ _ _ _ => pg_name (i := 5) sc_join.nd rfl (Or.inl rfl)) (fun _ _ _ _ _ => pv 5)) pa_nil)) pa_nil))) pa_nil))), ?_⟩
    obtain ⟨ax, xs, rfl, hqx, hdx⟩ := Dp.tupI hx
    refine ⟨_, rfl, ax, rfl, ⟨xs, hqx⟩, fun D hD => ?_⟩
    refine lc_tup (K := K) (xs := xs) (fun i H' => Grow K [] H D (((t.take i).map (joinRow u)).map iD) H') (Grow.zero hD) (fun i H' _ g => g.kp.tup NoTup.nil hqx) (fun i x H' ei g => ⟨rfl, ?_⟩) fun H' g => ?_
    · refine yesT ?_
      have kH := Grow.kp g
      obtain ⟨row, er, hx1⟩ := map_dp hdx ei
      have hrow : row ∈ t := List.mem_of_getElem? er
      obtain ⟨ar, rs, rfl, hqr, hdr⟩ := Dp.tupI (kH.dp NoTup.nil (nums_solid _ (iD_nums row)) hx1)
      obtain rfl := DpAll.ints (ns := row) hdr
      have hy' := kH.dp NoTup.nil (nums_solid _ (tD_nums u)) hy
      refine ⟨_, rfl, ar, rfl, ⟨_, hqr⟩, fun S hS => ?_⟩
      have few : ∀ l : List Int, (∀ r ∈ l, r ∈ row) → l.length ≤ 3 → (l.flatMap fun r => getR u r).length ≤ l.length * 3 := fun l => by
        induction l with
        | nil => intro _ _; exact Nat.le_refl _
        | cons r l ih =>
          intro hs hl
          rw [List.flatMap_cons, List.length_append, List.length_cons]
          have h1 := ih (fun q hq => hs q (List.mem_cons_of_mem _ hq)) (by rw [List.length_cons] at hl; omega)
          have h2 : (getR u r).length ≤ m := gu.rowLen (getR_mem (by rw [gu.len]; exact gt.bd row hrow r (hs r List.mem_cons_self)))
          omega
      have rl := gt.rowLen hrow
      refine si2_tup (K := K) (xs := row.map V.int) (fun j H2 => Kp [] H' H2 ∧ SI w S ((row.take j).flatMap fun r => getR u r) H2) ⟨Kp.new hS, SI.zero⟩ (fun j H2 _ z => z.1.tup NoTup.nil hqr) (fun j x H2 ej z => ?_) ?_ (fun x σ H Q Q' hQ z => hQ _ _ z) fun H2 z => ?_
      · obtain ⟨z1, z2⟩ := z
        rw [List.getElem?_map] at ej
        obtain ⟨r, ejr, rfl⟩ : ∃ r, row[j]? = some r ∧ x = V.int r := by
          cases hr : row[j]? with
          | none => rw [hr] at ej; cases ej
          | some r => rw [hr] at ej; exact ⟨r, rfl, (Option.some.inj ej).symm⟩
        have hrm : r ∈ row := List.mem_of_getElem? ejr
        have hrS := gt.bd row hrow r hrm
        obtain ⟨n, rfl⟩ := Int.eq_ofNat_of_zero_le hrS.1
        refine ⟨rfl, _, rfl, _, rfl, u.map iD, n, iD (getR u ((n : Nat) : Int)), z1.dp NoTup.nil (nums_solid _ (tD_nums u)) hy', rfl, ?_, fun v hv => ?_⟩
        · have z3 := getR_some (t := u) (p := ((n : Nat) : Int)) (by rw [gu.len]; exact hrS)
          rw [Int.toNat_natCast] at z3
          rw [List.getElem?_map, z3]; rfl
        · obtain ⟨a1, ys, rfl, hq1, hd1⟩ := Dp.tupI hv
          obtain rfl := DpAll.ints (ns := getR u ((n : Nat) : Int)) hd1
          have e1 : row.take (j + 1) = row.take j ++ [((n : Nat) : Int)] := take_next ejr
          refine ⟨a1, rfl, ⟨_, hq1⟩, a1, _, fun k H3 => Kp [S] H2 H3 ∧ SI w S (((row.take j).flatMap fun r => getR u r) ++ (getR u ((n : Nat) : Int)).take k) H3, rfl, ⟨Kp.refl, by rw [List.take_zero, List.append_nil]; exact z2⟩, fun k H3 _ z => z.1.tup z2.noTup hq1, fun k y H3 ek z => ?_, fun H3 z => ?_⟩
          · rw [List.getElem?_map] at ek
            obtain ⟨q, ekq, rfl⟩ : ∃ q, (getR u ((n : Nat) : Int))[k]? = some q ∧ y = V.int q := by
              cases hr : (getR u ((n : Nat) : Int))[k]? with
              | none => rw [hr] at ek; cases ek
              | some q => rw [hr] at ek; exact ⟨q, rfl, (Option.some.inj ek).symm⟩
            refine ⟨rfl, _, rfl, ?_⟩
            have f1 := few (row.take j) (fun q hq => List.mem_of_mem_take hq) (by rw [List.length_take]; omega)
            have f0 := gu.rowLen (getR_mem (t := u) (p := ((n : Nat) : Int)) (by rw [gu.len]; exact hrS))
            have f2 : ((getR u ((n : Nat) : Int)).take k).length ≤ m := by rw [List.length_take]; omega
            have f3 : (row.take j).length ≤ 3 := by rw [List.length_take]; omega
            have z2' := z.2
            refine SI.adds z2' (by rw [List.length_append]; unfold scanBound; omega) fun F n' z3 => ⟨?_, ?_⟩
            · obtain ⟨F0, n0, e0, _⟩ := z2'
              exact z.1.put e0 (fun ps z => by cases z) (.inl (List.mem_singleton.mpr rfl))
            · rw [take_next ekq, ← List.append_assoc]; exact z3
          · rw [List.length_map, List.take_length] at z
            refine ⟨z1.then z.1 fun p hp => .inr (by rw [List.mem_singleton.mp hp]; exact hS), ?_⟩
            rw [e1, List.flatMap_append, List.flatMap_cons, List.flatMap_nil, List.append_nil]
            exact z.2
      · rintro σ' H9 Q9 Q9' hQ ⟨v, e, v', e', ds, n, d, b1, b2, b3, b4⟩
        exact ⟨v, e, v', e', ds, n, d, b1, b2, b3, fun u' hu' => let ⟨a9, c1, c2, c3⟩ := b4 u' hu'; ⟨a9, c1, c2, hQ _ _ c3⟩⟩
      · rw [List.length_map, List.take_length] at z
        obtain ⟨z1, F, n, eS, hF, hn2⟩ := z
        have f1 := few row (fun q hq => hq) (by omega)
        refine ⟨S, F, n, rfl, eS, by omega, fun ns q hns hmem _ hq => ?_⟩
        have en : ns = joinRow u row := ssort_eq hns fun x => (hmem x).trans (hF x)
        refine ⟨q, _, rfl, .inl ⟨SqL.of upd_same, fun r hr => ?_⟩⟩
        rw [take_next er, List.map_append, List.map_append]
        have hlt : (t.take i).length ≤ t.length := by rw [List.length_take]; omega
        refine Grow.step hD (fun z => nomatch z) NoTup.nil g ((z1.and hq).and hr) (rows_solid _) (Dp.tup (SqT.of upd_same) ?_) (nums_solid _ (iD_nums _)) (by rw [List.length_map, List.length_map]; have := gt.len; omega)
        rw [en]
        exact dpAll_ints _
    · rw [show t.take xs.length = t by rw [DpAll.length hdx, List.length_map, List.take_length]] at g
      obtain ⟨acc, kD, eD, aD⟩ := g
      refine ⟨D, acc, rfl, .inl ⟨SqL.of eD, fun l hl => ?_⟩⟩
      obtain ⟨k2, d2⟩ := Grow.done kD aD (rows_solid _) hl
      exact k _ _ k2 d2
end
end K51
end

section
set_option Elab.async false
set_option linter.all false
set_option maxRecDepth 100000
set_option maxHeartbeats 4000000
/-! class Tables: around -/
namespace K51
open PySem PySem.Spec PyProof.Rows L2
section
variable {P : Program} {w : World} {K : PySem.W.Frag} {mg : PySem.Str → Option Value} {base : Heap} {C : Addr}
/-- around(self, a, b, x) -/
def spAround (K : PySem.W.Frag) (C : Addr) : Sp := fun vs H Q _ => ∃ (p : Addr) (M : Mach) (L : Nat × Nat × Nat) (a b : Int) (x : V) (t : Tab), vs = [.ref p, .int a, .int b, x] ∧ TAt K C H p M ∧ M.Ok L ∧ Dp K H x (tD t) ∧ Good M.m t ∧
  ∀ v H', Kp [] H H' → Dp K H' v (tD (tAround M a b t)) → Q v H'
abbrev nAround : List PySem.Str := ["self", "a", "b", "x", "pairs", "p", "label", "r", "sign", "s", "popped", "last", "q"]
theorem sc_around : FnScope nAround ["self", "a", "b", "x"] (defScope s_Tables_around) := ⟨rfl, rfl, rfl, by decide +kernel, rfl, by decide +kernel, by decide +kernel⟩
theorem ok_around {f f1 : Addr} {fd fd1 : FuncData} (F : L2.Fun K "around" "Tables.around" s_Tables_around f fd) (T : TCls K mg C) (M1 : Mth P w K mg base 1 C "from_pairs" ["self", "pairs"] (spPairs K C) f1 fd1) :
    FnOk P w K mg base CX0 2 f fd ["self", "a", "b", "x"] (spAround K C) := by
  refine F.ok sc_around (fun vs H Q E h => ?_) (fun cdv A outer s H vs Q E hr h => ?_)
  · obtain ⟨p, M, L, a, b, x, t, rfl, _⟩ := h
    rfl
  · obtain ⟨p, M, L, a, b, x, t, rfl, ⟨dx, mv, hp, hM⟩, ok, hx, gt, k⟩ := h
    have hr1 : Room 1 _ := hr
    refine ⟨_, pss_cons (ps_set (i := 4) sc_around.nd rfl (Or.inl rfl) (pe_lst pa_nil))
      (pss_cons (ps_for PassesOwn.never rfl (pi_tup (pe_ix ix_dp (pe_fld (pv 0) rfl) pe_int (fun _ _ => rfl)))
          (pg_tup rfl (pgs_cons (pg_name (i := 5) sc_around.nd rfl (Or.inl rfl)) (pgs_cons (pg_name (i := 6) sc_around.nd rfl (Or.inl rfl)) (pgs_cons (pg_name (i := 7) sc_around.nd rfl (Or.inl rfl)) (pgs_cons (pg_name (i := 8) sc_around.nd rfl (Or.inl rfl)) pgs_nil)))))
        (pss_one (ps_for PassesOwn.never rfl (pi_tup (pe_ix ix_dp (pe_fld (pv 0) rfl) pe_int (fun _ _ => rfl)))
          (pg_tup rfl (pgs_cons (pg_name (i := 9) sc_around.nd rfl (Or.inl rfl)) (pgs_cons (pg_name (i := 10) sc_around.nd rfl (Or.inl rfl)) (pgs_cons (pg_name (i := 11) sc_around.nd rfl (Or.inl rfl)) (pgs_cons (pg_name (i := 12) sc_around.nd rfl (Or.inl rfl)) pgs_nil)))))
          (pss_one (ps_if (PW.pt (pw_and (pt_cmpR op_eq (pv 6) (pv 1) (nomark _)) (pw_and (pt_cmpR op_eq (pv 11) (pv 2) (nomark _)) (pw_and (pt_cmpR op_eq (pv 10) (pv 8) (nomark _))
              (pw_and1 (pt_cmpR op_in_seq (pv 9) (pe_ix ix_dp (pv 3) (pv 7) (fun _ _ => rfl)) (by rfl)))))))
            (pss_one (ps_expr (pe_bm PySem.F.plainAttrs_list PySem.F.slot_list_append PySem.F.type_list_append mt_append (pv 4) (pa_cons (pe_tup (pa_cons (pv 5) (pa_cons (pv 12) pa_nil))) pa_nil)))) pss_nil)))))
      (pss_one (ps_ret (pe_meth (pv 0) T.cl M1.m M1.ok hr1 M1.b .nil pass0 (pa_cons (pv 4) pa_nil))))), ?_⟩
    refine ⟨by decide, fun l hl => ?_⟩
    have hT : TAt K C H p M := ⟨dx, mv, hp, hM⟩
    let part : List (Int × Int × Int × Int) → List (Int × Int) := fun cs => cs.flatMap fun c => (M.rets.filter (fits a b t c)).map fun r => (c.1, r.2.2.2)
    let Pv : Nat → L2.St → Hp → Prop := fun i σ H' => (∃ o5 o6 o7 o8 o9 o10 o11 o12, σ = [some (V.ref p), some (V.int a), some (V.int b), some x, some (V.ref l), o5, o6, o7, o8, o9, o10, o11, o12]) ∧ Grow K [] H l ((part (M.calls.take i)).map d2) H'
    refine ⟨_, rfl, p, C, dx, _, mv, rfl, (by rw [upd_ne (ne_of_none hp hl)]; exact hp), T.cl, T.na, fldT_get _, mDs M, 3, .tuple (M.calls.map d4), (Kp.new (S := []) hl).dp NoTup.nil (nums_solid _ (mD_nums M)) hM, rfl, rfl, fun u hu => ?_⟩
    obtain ⟨ac, cs, rfl, hqc, hdc⟩ := Dp.tupI hu
    have key : ∀ cs : List (Int × Int × Int × Int), (part cs).length ≤ cs.length * 7 := fun cs => by
      induction cs with
      | nil => exact Nat.le_refl _
      | cons c cs ih =>
          show (List.flatMap _ (c :: cs)).length ≤ _
          rw [List.flatMap_cons, List.length_append, List.length_cons, List.length_map]
          have h1 := List.length_filter_le (fits a b t c) M.rets
          have h2 := ok.nrets
          have ih' : (List.flatMap (fun c => (M.rets.filter (fits a b t c)).map fun r => (c.1, r.2.2.2)) cs).length ≤ cs.length * 7 := ih
          omega
    have lenc : (part M.calls).length < 64 := by
      have := key M.calls
      have := ok.ncalls
      omega
    refine ⟨ac, rfl, ⟨_, hqc⟩, ?_⟩
    have zero : Grow K [] H l [] (upd H l (.lst [])) := Grow.zero hl
    refine for_tup (K := K) (xs := cs) Pv ⟨⟨none, none, none, none, none, none, none, none, rfl⟩, zero⟩ (fun i σ H' _ z => ?_) (fun i y σ H' ei z => ?_) fun σ H' z => ?_
    · exact (Grow.since hl z.2).tup (NoTup.one upd_same) hqc
    · obtain ⟨⟨o5, o6, o7, o8, o9, o10, o11, o12, rfl⟩, g⟩ := z
      obtain ⟨⟨c1, c2, c3, c4⟩, ec, hy1⟩ := map_dp hdc ei
      have kS := Grow.since (xs := []) hl g
      obtain ⟨a1, ys, rfl, hq, hys⟩ := Dp.tupI (kS.dp (NoTup.one upd_same) rfl hy1)
      obtain rfl := DpAll.ints (ns := [c1, c2, c3, c4]) hys
      refine ⟨a1, _, rfl, hq, rfl, _, _, rfl, _, _, rfl, _, _, rfl, _, _, rfl, rfl, ?_⟩
      have kH := Grow.kp g
      have hp' : H' p = some (.ins C dx (fldT mv)) := kH.keep _ _ hp (fun z => nomatch z) fun ps z => by cases z
      refine ⟨_, rfl, p, C, dx, _, mv, rfl, hp', T.cl, T.na, fldT_get _, mDs M, 4, .tuple (M.rets.map d4), kH.dp NoTup.nil (nums_solid _ (mD_nums M)) hM, rfl, rfl, fun u hu => ?_⟩
      obtain ⟨ar, rs, rfl, hqr, hdr⟩ := Dp.tupI hu
      let Pw : Nat → L2.St → Hp → Prop := fun j σ H2 => (∃ o9 o10 o11 o12, σ = [some (V.ref p), some (V.int a), some (V.int b), some x, some (V.ref l), some (V.int c1), some (V.int c2), some (V.int c3), some (V.int c4), o9, o10, o11, o12]) ∧
        Grow K [] H l ((part (M.calls.take i) ++ ((M.rets.take j).filter (fits a b t (c1, c2, c3, c4))).map fun r => (c1, r.2.2.2)).map d2) H2 ∧ Kp [l] H' H2
      have el : ∃ acc, H' l = some (.lst acc) := let ⟨acc, _, e, _⟩ := g; ⟨acc, e⟩
      obtain ⟨acc0, el⟩ := el
      refine ⟨ar, rfl, ⟨_, hqr⟩, ?_⟩
      refine for_tup (K := K) (xs := rs) Pw ⟨⟨o9, o10, o11, o12, rfl⟩, by rw [List.take_zero, List.filter_nil, List.map_nil, List.append_nil]; exact g, Kp.refl⟩ (fun j σ H2 _ z => z.2.2.tup (NoTup.one el) hqr) (fun j y σ H2 ej z => ?_) fun σ H2 z => ?_
      · obtain ⟨⟨o9, o10, o11, o12, rfl⟩, g2, k2⟩ := z
        obtain ⟨⟨r1, r2, r3, r4⟩, er, hy2⟩ := map_dp hdr ej
        obtain ⟨a2, ys, rfl, hq2, hys2⟩ := Dp.tupI (k2.dp (NoTup.one el) rfl hy2)
        obtain rfl := DpAll.ints (ns := [r1, r2, r3, r4]) hys2
        refine ⟨a2, _, rfl, hq2, rfl, _, _, rfl, _, _, rfl, _, _, rfl, _, _, rfl, rfl, ?_⟩
        have e1 : M.rets.take (j + 1) = M.rets.take j ++ [(r1, r2, r3, r4)] := take_next er
        have no : fits a b t (c1, c2, c3, c4) (r1, r2, r3, r4) = false → ∀ o9 o10 o11 o12, Pw (j + 1) [some (V.ref p), some (V.int a), some (V.int b), some x, some (V.ref l), some (V.int c1), some (V.int c2), some (V.int c3), some (V.int c4), o9, o10, o11, o12] H2 := fun h o9 o10 o11 o12 =>
          ⟨⟨o9, o10, o11, o12, rfl⟩, by rw [e1, List.filter_append, List.filter_cons, List.filter_nil, h, if_neg (by decide), List.append_nil]; exact g2, k2⟩
        refine ⟨_, rfl, _, rfl, rfl, _, rfl, ?_⟩
        by_cases q1 : c2 = a
        case neg => exact iteNo ((dec_V _ _).trans (decide_eq_false q1)) (iteNo rfl (no (by simp [fits, q1]) _ _ _ _))
        refine iteYes ((dec_V _ _).trans (decide_eq_true q1)) ?_
        refine ⟨_, rfl, _, rfl, rfl, _, rfl, ?_⟩
        by_cases q2 : r3 = b
        case neg => exact iteNo ((dec_V _ _).trans (decide_eq_false q2)) (iteNo rfl (no (by simp [fits, q2]) _ _ _ _))
        refine iteYes ((dec_V _ _).trans (decide_eq_true q2)) ?_
        refine ⟨_, rfl, _, rfl, rfl, _, rfl, ?_⟩
        by_cases q3 : r2 = c4
        case neg => exact iteNo ((dec_V _ _).trans (decide_eq_false q3)) (iteNo rfl (no (by simp [fits, q3]) _ _ _ _))
        refine iteYes ((dec_V _ _).trans (decide_eq_true q3)) ?_
        have hc3 : InS M.m c3 := (ok.calls _ (List.mem_of_getElem? ec)).2.2.1
        obtain ⟨n, en⟩ : ∃ n : Nat, c3 = (n : Int) := Int.eq_ofNat_of_zero_le hc3.1
        have hx2 := (Grow.kp g2).dp NoTup.nil (nums_solid _ (tD_nums t)) hx
        refine ⟨_, rfl, _, rfl, _, rfl, t.map iD, n, iD (getR t c3), hx2, by rw [show c3 = ((n : Nat) : Int) from en], ?_, fun u hu => ?_⟩
        · have z3 := getR_some (t := t) (p := c3) (by rw [gt.len]; exact hc3)
          rw [show c3.toNat = n by rw [en]; rfl] at z3
          rw [List.getElem?_map, z3]; rfl
        obtain ⟨a3, ys, rfl, hq3, hys3⟩ := Dp.tupI hu
        obtain rfl := DpAll.ints (ns := getR t c3) hys3
        refine ⟨a3, _, rfl, .inr hq3, rfl, flat_ints _, _, rfl, ?_⟩
        by_cases q4 : r1 ∈ getR t c3
        case neg => exact iteNo ((inV_int _ _).trans (decide_eq_false q4)) (no (by simp [fits, q4]) _ _ _ _)
        refine iteYes ((inV_int _ _).trans (decide_eq_true q4)) ?_
        have e2 : ∃ acc, H2 l = some (.lst acc) := let ⟨acc, _, e, _⟩ := g2; ⟨acc, e⟩
        obtain ⟨acc2, e2⟩ := e2
        refine ⟨_, rfl, .inl ⟨rfl, _, SqL.of e2⟩, _, rfl, _, rfl, (by show 2 ≤ sizeLine; decide), fun v hv => ?_⟩
        obtain ⟨acc, e4, hlen, g3⟩ := Grow.step (S := []) (d := d2 (c1, r4)) hl (fun z => nomatch z) NoTup.nil g2 (Kp.new hv) (d2_solid _) (Dp.tup (SqT.of upd_same) (dpAll_ints [c1, r4])) rfl (by
          rw [List.length_map, List.length_append, List.length_map]
          have h1 := key (M.calls.take i)
          have h2 : (M.calls.take i).length ≤ M.calls.length := by rw [List.length_take]; omega
          have h3 := List.length_filter_le (fits a b t (c1, c2, c3, c4)) (M.rets.take j)
          have h4 : (M.rets.take j).length ≤ M.rets.length := by rw [List.length_take]; omega
          have h5 := ok.ncalls
          have h6 := ok.nrets
          omega)
        refine ⟨l, acc, _, rfl, rfl, e4, hlen, ⟨_, _, _, _, rfl⟩, ?_, ?_⟩
        · rw [e1, List.filter_append, List.filter_cons, List.filter_nil, show fits a b t (c1, c2, c3, c4) (r1, r2, r3, r4) = true by simp [fits, q1, q2, q3, q4], if_pos rfl, List.map_append (l₁ := (M.rets.take j).filter _), ← List.append_assoc, List.map_append (l₂ := List.map _ [(r1, r2, r3, r4)])]
          exact g3
        · exact ((k2.trans (Kp.new hv)).put e4 (fun ps z => by cases z) (.inl (List.mem_singleton.mpr rfl)))
      · obtain ⟨⟨o9, o10, o11, o12, rfl⟩, g2, k2⟩ := z
        rw [show M.rets.take rs.length = M.rets by rw [DpAll.length hdr, List.length_map, List.take_length]] at g2
        refine ⟨⟨_, _, _, _, _, _, _, _, rfl⟩, ?_⟩
        rw [show M.calls.take (i + 1) = M.calls.take i ++ [(c1, c2, c3, c4)] from take_next ec]
        show Grow K [] H l ((List.flatMap _ (M.calls.take i ++ [(c1, c2, c3, c4)])).map d2) H2
        rw [List.flatMap_append, List.flatMap_cons, List.flatMap_nil, List.append_nil]
        exact g2
    · obtain ⟨⟨o5, o6, o7, o8, o9, o10, o11, o12, rfl⟩, g⟩ := z
      rw [show M.calls.take cs.length = M.calls by rw [DpAll.length hdc, List.length_map, List.take_length]] at g
      obtain ⟨acc, kD, eD, aD⟩ := g
      have hp' : H' p = some (.ins C dx (fldT mv)) := kD.keep _ _ hp (fun z => nomatch z) fun ps z => by cases z
      refine ⟨_, rfl, p, dx, _, rfl, hp', fldT_no _ k_pairs, ?_⟩
      exact ⟨_, rfl, p, l, M, acc, aroundPairs M a b t, rfl, hT.kp kD, ok.m3, eD, aD, lenc, fun v H2 k2 d2 => k v H2 (kD.trans k2) d2⟩
end
end K51
end

section
set_option Elab.async false
set_option linter.all false
set_option maxRecDepth 100000
set_option maxHeartbeats 4000000
/-! defs whose code is told; the loops of any, all -/
namespace K51
open PySem PySem.Spec PyProof.Rows L2
section
variable {P : Program} {w : World} {K : PySem.W.Frag} {mg : PySem.Str → Option Value} {base : Heap}
theorem okC {x qual : PySem.Str} {st : Stmt} {f c : Addr} {fd : FuncData} {N ps : List PySem.Str} {k : Nat} {sp : Sp} (F : L2.Fun K x qual st f fd) (hc : fd.code = .ref c) (S : FnScope N ps (defScope st)) (len : ∀ vs H Q E, sp vs H Q E → vs.length = ps.length)
    (hbody : ∀ (A : Around) (outer : List Env) (s : Shared) (H : Hp) (vs : List V) (Q : VK) (E : XK), Room k (A.deeper (envOfC qual (defScope st) s.heap.objs.size f (.ref c))) → sp vs H Q E →
      ∃ t, PSs (cxOf CX0 P w K mg base N qual (defScope st) f (.ref c) A outer s H E).nox (defBody st) t ∧ t { nx := fun _ H' => Q .non H', rt := Q } (start N vs) H) : FnOk P w K mg base CX0 (k + 1) f fd ps sp := by
  obtain ⟨oc, od, kV, doc, pm, an, cdv, ct, osl, rfl, lk, hcd⟩ := F.ex
  obtain rfl : cdv = .ref c := hc
  refine fn_of lk hcd S len fun A outer s H vs Q E hr hsp => ?_
  obtain ⟨t, h, q⟩ := hbody A outer s H vs Q E hr hsp
  exact ⟨t, h.nox, q⟩
theorem gscp {scope : Scope} (h1 : scope.isCoroutine = false) (h2 : scope.kind = .function) (h3 : scope.names.all (fun y => match y.2 with | .cell => false | _ => true) = true) (h4 : scope.names.lookup (".0" : PySem.Str) = some NameKind.local) : GScp scope :=
  ⟨h1, h2, (fun y hy e => by
    have z := List.all_eq_true.mp h3 y hy
    rw [e] at z
    exact absurd z (by decide)), h4⟩
variable {a : Addr} {xs : List V} {g g1 : TG} {te : TE} {wi1 : TI} {vs vs1 : List Nat} {σ : L2.St} {z : Bool} {Qz Qn : Hp → Prop} {H0 : Hp}
theorem loopG_tup (Pv : Nat → Hp → Prop) (h0 : Pv 0 H0) (hl : ∀ i H, i ≤ xs.length → Pv i H → SqT K H a xs)
    (hs : ∀ i x H, xs[i]? = some x → Pv i H → g x (wipe σ vs) H fun σ2 H3 => wipe σ2 vs = wipe σ vs ∧ te σ2 H3 fun y H4 => ∃ b, y = .bl b ∧ (b = z → Qz H4) ∧ (b ≠ z → Pv (i + 1) H4)) (hd : ∀ H, Pv xs.length H → Qn H)
    (mg' : ∀ x σ H Q Q', (∀ σ H, Q σ H → Q' σ H) → g x σ H Q → g x σ H Q') (mt : ∀ σ H Q Q', (∀ v H, Q v H → Q' v H) → te σ H Q → te σ H Q') : LoopG (Itt K a) g te vs σ z Qz Qn H0 := by
  refine ⟨fun i n H => n = xs.length - i ∧ i ≤ xs.length ∧ Pv i H, ⟨xs.length, by simp, Nat.zero_le _, h0⟩, ?_⟩
  rintro i n H ⟨rfl, hi, p⟩
  have q := hl i H hi p
  by_cases hlt : i < xs.length
  · refine .inr ⟨by omega, ⟨xs, xs[i], q, by simp [hlt]⟩, fun x H' y => ?_⟩
    obtain ⟨e, y⟩ := y
    subst e
    refine mg' _ _ _ _ _ (fun σ2 H3 ⟨e, q⟩ => ⟨e, mt _ _ _ _ (fun v H4 ⟨b, eb, h1, h2⟩ => ⟨b, eb, h1, fun nb => ⟨xs.length - (i + 1), by omega, rfl, hlt, h2 nb⟩⟩) q⟩) (hs i x _ (y xs q) p)
  · have e : i = xs.length := by omega
    subst e
    exact .inl ⟨⟨xs, q, Nat.le_refl _⟩, hd H p⟩
theorem loopG_range {lo : Int} {m : Nat} (Pv : Nat → Hp → Prop) (h0 : Pv 0 H0)
    (hs : ∀ i H, i < m → Pv i H → g (.int (lo + i)) (wipe σ vs) H fun σ2 H3 => wipe σ2 vs = wipe σ vs ∧ te σ2 H3 fun y H4 => ∃ b, y = .bl b ∧ (b = z → Qz H4) ∧ (b ≠ z → Pv (i + 1) H4)) (hd : ∀ H, Pv m H → Qn H)
    (mg' : ∀ x σ H Q Q', (∀ σ H, Q σ H → Q' σ H) → g x σ H Q → g x σ H Q') (mt : ∀ σ H Q Q', (∀ v H, Q v H → Q' v H) → te σ H Q → te σ H Q') : LoopG (Itr lo m) g te vs σ z Qz Qn H0 := by
  refine ⟨fun i n H => n = m - i ∧ i ≤ m ∧ Pv i H, ⟨m, by simp, Nat.zero_le _, h0⟩, ?_⟩
  rintro i n H ⟨rfl, hi, p⟩
  by_cases hlt : i < m
  · refine .inr ⟨by omega, hlt, fun x H' y => ?_⟩
    obtain ⟨e, y⟩ := y
    subst e y
    refine mg' _ _ _ _ _ (fun σ2 H3 ⟨e, q⟩ => ⟨e, mt _ _ _ _ (fun v H4 ⟨b, eb, h1, h2⟩ => ⟨b, eb, h1, fun nb => ⟨m - (i + 1), by omega, rfl, hlt, h2 nb⟩⟩) q⟩) (hs i _ hlt p)
  · have e : i = m := by omega
    subst e
    exact .inl ⟨Nat.le_refl _, hd H p⟩
theorem loopG_list (Pv : Nat → Hp → Prop) (h0 : Pv 0 H0) (hl : ∀ i H, i ≤ xs.length → Pv i H → SqL K H a xs)
    (hs : ∀ i x H, xs[i]? = some x → Pv i H → g x (wipe σ vs) H fun σ2 H3 => wipe σ2 vs = wipe σ vs ∧ te σ2 H3 fun y H4 => ∃ b, y = .bl b ∧ (b = z → Qz H4) ∧ (b ≠ z → Pv (i + 1) H4)) (hd : ∀ H, Pv xs.length H → Qn H)
    (mg' : ∀ x σ H Q Q', (∀ σ H, Q σ H → Q' σ H) → g x σ H Q → g x σ H Q') (mt : ∀ σ H Q Q', (∀ v H, Q v H → Q' v H) → te σ H Q → te σ H Q') : LoopG (Itl K a) g te vs σ z Qz Qn H0 := by
  refine ⟨fun i n H => n = xs.length - i ∧ i ≤ xs.length ∧ Pv i H, ⟨xs.length, by simp, Nat.zero_le _, h0⟩, ?_⟩
  rintro i n H ⟨rfl, hi, p⟩
  have q := hl i H hi p
  by_cases hlt : i < xs.length
  · refine .inr ⟨by omega, ⟨xs, xs[i], q, by simp [hlt]⟩, fun x H' y => ?_⟩
    obtain ⟨e, y⟩ := y
    subst e
    refine mg' _ _ _ _ _ (fun σ2 H3 ⟨e, q⟩ => ⟨e, mt _ _ _ _ (fun v H4 ⟨b, eb, h1, h2⟩ => ⟨b, eb, h1, fun nb => ⟨xs.length - (i + 1), by omega, rfl, hlt, h2 nb⟩⟩) q⟩) (hs i x _ (y xs q) p)
  · have e : i = xs.length := by omega
    subst e
    exact .inl ⟨⟨xs, q, Nat.le_refl _⟩, hd H p⟩
/-- two clauses over tuples, at most B items in an inner one -/
theorem loopG2_tup (B : Nat) (Pv : Nat → Hp → Prop) (h0 : Pv 0 H0) (hl : ∀ i H, i ≤ xs.length → Pv i H → SqT K H a xs)
    (hs : ∀ i x H, xs[i]? = some x → Pv i H → g x (wipe σ vs) H fun σ2 H3 => wipe σ2 vs = wipe σ vs ∧ wi1 σ2 H3 fun J1 H4 => ∃ (a1 : Addr) (ys : List V) (Pw : Nat → Hp → Prop), J1 = Itt K a1 ∧ ys.length ≤ B ∧ Pw 0 H4 ∧ (∀ j H, j ≤ ys.length → Pw j H → SqT K H a1 ys) ∧
      (∀ j y H, ys[j]? = some y → Pw j H → g1 y (wipe σ2 vs1) H fun σ3 H5 => wipe σ3 vs1 = wipe σ2 vs1 ∧ te σ3 H5 fun y H6 => ∃ b, y = .bl b ∧ (b = z → Qz H6) ∧ (b ≠ z → Pw (j + 1) H6)) ∧ ∀ H, Pw ys.length H → Pv (i + 1) H) (hd : ∀ H, Pv xs.length H → Qn H)
    (mono : ∀ σ H Q Q', (∀ J H, Q J H → Q' J H) → wi1 σ H Q → wi1 σ H Q') (mg' : ∀ x σ H Q Q', (∀ σ H, Q σ H → Q' σ H) → g x σ H Q → g x σ H Q') (mg1 : ∀ x σ H Q Q', (∀ σ H, Q σ H → Q' σ H) → g1 x σ H Q → g1 x σ H Q') (mt : ∀ σ H Q Q', (∀ v H, Q v H → Q' v H) → te σ H Q → te σ H Q') :
    LoopG2 (Itt K a) g wi1 g1 te vs vs1 σ z Qz Qn H0 := by
  refine ⟨fun i m n H => m = xs.length - i ∧ (xs.length - i) * B ≤ n ∧ i ≤ xs.length ∧ Pv i H, ⟨xs.length, xs.length * B, by simp, by simp, Nat.zero_le _, h0⟩, ?_⟩
  rintro i m n H ⟨rfl, hn, hi, p⟩
  have q := hl i H hi p
  by_cases hlt : i < xs.length
  · refine .inr ⟨⟨xs, xs[i], q, by simp [hlt]⟩, fun x H' y => ?_⟩
    obtain ⟨e, y⟩ := y
    subst e
    refine mg' _ _ _ _ _ (fun σ2 H3 ⟨e, q⟩ => ⟨e, mono _ _ _ _ (fun J1 H4 ⟨a1, ys, Pw, eJ, hB, p0, pl, ps, pd⟩ => ?_) q⟩) (hs i x _ (y xs q) p)
    subst eJ
    have hpos : (xs.length - i) * B = (xs.length - (i + 1)) * B + B := by
      rw [show xs.length - i = (xs.length - (i + 1)) + 1 by omega, Nat.add_mul, Nat.one_mul]
    rw [hpos] at hn
    refine ⟨fun j k n H => k = ys.length - j ∧ (xs.length - (i + 1)) * B + (B - j) ≤ n ∧ j ≤ ys.length ∧ Pw j H, ⟨ys.length, by simp, by simpa using hn, Nat.zero_le _, p0⟩, ?_⟩
    rintro j k n H ⟨rfl, hn, hj, pj⟩
    have qj := pl j H hj pj
    by_cases hltj : j < ys.length
    · refine .inr ⟨by omega, ⟨ys, ys[j], qj, by simp [hltj]⟩, fun x H' y => ?_⟩
      obtain ⟨e, y⟩ := y
      subst e
      refine mg1 _ _ _ _ _ (fun σ3 H5 ⟨e, q⟩ => ⟨e, mt _ _ _ _ (fun v H6 ⟨b, eb, h1, h2⟩ => ⟨b, eb, h1, fun nb => ⟨ys.length - (j + 1), n - 1, by omega, by omega, rfl, by omega, hltj, h2 nb⟩⟩) q⟩) (ps j x _ (y ys qj) pj)
    · have e : j = ys.length := by omega
      subst e
      exact .inl ⟨⟨ys, qj, Nat.le_refl _⟩, xs.length - (i + 1), by omega, rfl, by omega, hlt, pd _ pj⟩
  · have e : i = xs.length := by omega
    subst e
    exact .inl ⟨⟨xs, q, Nat.le_refl _⟩, hd H p⟩
end
end K51
end

section
set_option Elab.async false
set_option linter.all false
set_option maxRecDepth 100000
set_option maxHeartbeats 4000000
/-! class Tables: is_accepted -/
namespace K51
open PySem PySem.Spec PyProof.Rows L2
section
variable {X : Cx} (K : PySem.W.Frag)
theorem op_in_seqK (hK : X.K = K := by rfl) : OpR X (compareOp .In) (rIn K false) := by subst hK; exact op_in_seq
theorem pe_fldK {e : Expr} {f : PySem.Str} {pos : Pos} {ta : TE} (he : PE X e ta) (hb : attributeBase e f X.env (eval e X.env) = eval e X.env) (hK : X.K = K := by rfl) : PE X (.Attribute e f pos) (tFld K ta f) := by subst hK; exact pe_fld he hb
end
theorem gName_mono {i : Nat} : ∀ (x : V) (σ : L2.St) (H : Hp) (Q Q' : L2.St → Hp → Prop), (∀ σ H, Q σ H → Q' σ H) → gName i x σ H Q → gName i x σ H Q' := fun x σ H Q Q' hQ z => hQ _ _ z
section
variable {P : Program} {w : World} {K : PySem.W.Frag} {mg : PySem.Str → Option Value} {base : Heap} {C : Addr}
/-- is_accepted(self, x) -/
def spAcc (K : PySem.W.Frag) (C Pt : Addr) : Sp := fun vs H Q _ => ∃ (p : Addr) (M : Mach) (L : Nat × Nat × Nat) (x : V) (t : Tab), vs = [.ref p, x] ∧ TAt K C H p M ∧ M.Ok L ∧ Dp K H x (tD t) ∧ Good M.m t ∧ GxR.TabG H Pt ∧
  ∀ H', Kp [] H H' → Q (.bl (tAcc M t)) H'
abbrev nAcc : List PySem.Str := ["self", "x", "p", "q"]
theorem sc_acc : FnScope nAcc ["self", "x"] (defScope s_Tables_is_accepted) := ⟨rfl, rfl, rfl, by decide +kernel, rfl, by decide +kernel, by decide +kernel⟩
theorem ok_acc {f c Pt : Addr} {fd : FuncData} (F : L2.Fun K "is_accepted" "Tables.is_accepted" s_Tables_is_accepted f fd) (hcd : fd.code = .ref c) (TB : GxR.TabB base mg c Pt) (T : TCls K mg C) (G : Gs mg) :
    FnOk P w K mg base CX0 2 f fd ["self", "x"] (spAcc K C Pt) := by
  refine okC F hcd sc_acc (fun vs H Q E h => ?_) (fun A outer s H vs Q E hr h => ?_)
  · obtain ⟨p, M, L, x, t, rfl, _⟩ := h
    rfl
  · obtain ⟨p, M, L, x, t, rfl, ⟨dx, mv, hp, hM⟩, ok, hx, gt, tg, k⟩ := h
    refine ⟨_, pss_one (ps_ret (pe_any2 (own := [("p", 2), ("q", 3)]) (vs1 := [3]) (g := gName 2) (g1 := gName 3) hr rfl (by rfl) G.any TB rfl (gscp rfl rfl (by decide +kernel) (by decide +kernel)) sc_acc.nd
      (blkOk_by (by kernel_rfl)) (pi_tup (pe_ix ix_dp (pe_fld (pv 0) rfl) pe_int (fun _ _ => rfl))) (fun _ _ _ _ _ _ => pg_name (i := 2) sc_acc.nd rfl (Or.inl rfl)) (fun _ _ _ _ _ _ => pi_tupK K (pe_ix (ix_dpK K) (pv 1) (pv 2) (fun _ _ => rfl)))
      (fun _ _ _ _ _ _ => pg_name (i := 3) sc_acc.nd rfl (Or.inl rfl)) (by decide) (by intro _ _; rfl) (fun _ _ _ _ _ _ => pe_cmpR (op_in_seqK K) (pv 3) (pe_ix (ix_dpK K) (pe_fldK K (pv 0) rfl) pe_int (fun _ _ => rfl)) (by rfl)))), ?_⟩
    refine ⟨_, rfl, p, C, dx, _, mv, rfl, hp, T.cl, T.na, fldT_get _, mDs M, 1, iD M.firsts, hM, rfl, rfl, fun u hu => ?_⟩
    obtain ⟨af, fs, rfl, hqf, hdf⟩ := Dp.tupI hu
    obtain rfl := DpAll.ints (ns := M.firsts) hdf
    refine ⟨af, rfl, ⟨_, hqf⟩, tg, fun H2 tb => ?_⟩
    have kT : Kp [] H H2 := Kp.tabbed tg tb
    have hp2 : H2 p = some (.ins C dx (fldT mv)) := kT.keep _ _ hp (fun z => nomatch z) fun ps z => by cases z
    have hM2 := kT.dp NoTup.nil (nums_solid _ (mD_nums M)) hM
    have hx2 := kT.dp NoTup.nil (nums_solid _ (tD_nums t)) hx
    refine loopG2_tup (K := K) (xs := M.firsts.map V.int) 3 (fun i H' => H' = H2 ∧ (M.firsts.take i).any (fun p => (getR t p).any fun q => decide (q ∈ M.lasts)) = false) ⟨rfl, rfl⟩ (fun i H' _ z => by rw [z.1]; exact kT.tup NoTup.nil hqf) (fun i x' H' ei z => ?_) (fun H' z => ?_) ?_ gName_mono gName_mono ?_
    · obtain ⟨rfl, z⟩ := z
      rw [List.getElem?_map] at ei
      obtain ⟨r, er, rfl⟩ : ∃ r, M.firsts[i]? = some r ∧ x' = V.int r := by
        cases hr : M.firsts[i]? with
        | none => rw [hr] at ei; cases ei
        | some r => rw [hr] at ei; exact ⟨r, rfl, (Option.some.inj ei).symm⟩
      have hrS : InS M.m r := ok.fst r (List.mem_of_getElem? er)
      obtain ⟨n, en⟩ : ∃ n : Nat, r = (n : Int) := Int.eq_ofNat_of_zero_le hrS.1
      refine ⟨rfl, _, rfl, _, rfl, t.map iD, n, iD (getR t r), hx2, by rw [en], ?_, fun v hv => ?_⟩
      · have z3 := getR_some (t := t) (p := r) (by rw [gt.len]; exact hrS)
        rw [show r.toNat = n by rw [en]; rfl] at z3
        rw [List.getElem?_map, z3]; rfl
      obtain ⟨a1, ys, rfl, hq1, hd1⟩ := Dp.tupI hv
      obtain rfl := DpAll.ints (ns := getR t r) hd1
      have e1 : M.firsts.take (i + 1) = M.firsts.take i ++ [r] := take_next er
      have e2 : (M.firsts.take (i + 1)).any (fun p => (getR t p).any fun q => decide (q ∈ M.lasts)) = (getR t r).any fun q => decide (q ∈ M.lasts) := by
        rw [e1, List.any_append, z, Bool.false_or, List.any_cons, List.any_nil, Bool.or_false]
      have hlen : (getR t r).length ≤ 3 := Nat.le_trans (gt.rowLen (getR_mem (by rw [gt.len]; exact hrS))) ok.m3
      refine ⟨a1, rfl, ⟨_, hq1⟩, a1, (getR t r).map V.int, fun j H3 => H3 = H' ∧ ((getR t r).take j).any (fun q => decide (q ∈ M.lasts)) = false, rfl, by rw [List.length_map]; exact hlen, ⟨rfl, rfl⟩, fun j H3 _ z => by rw [z.1]; exact hq1, fun j y H3 ej z2 => ?_, fun H3 z2 => ?_⟩
      · obtain ⟨rfl, z2⟩ := z2
        rw [List.getElem?_map] at ej
        obtain ⟨q, eq, rfl⟩ : ∃ q, (getR t r)[j]? = some q ∧ y = V.int q := by
          cases hr : (getR t r)[j]? with
          | none => rw [hr] at ej; cases ej
          | some q => rw [hr] at ej; exact ⟨q, rfl, (Option.some.inj ej).symm⟩
        refine ⟨rfl, _, rfl, _, rfl, p, C, dx, _, mv, rfl, hp2, T.cl, T.na, fldT_get _, mDs M, 5, iD M.lasts, hM2, rfl, rfl, fun u hu => ?_⟩
        obtain ⟨al, ls, rfl, hql, hdl⟩ := Dp.tupI hu
        obtain rfl := DpAll.ints (ns := M.lasts) hdl
        refine ⟨al, _, rfl, .inr hql, rfl, flat_ints _, inV (V.int q) (M.lasts.map V.int), rfl, fun b => ?_, fun b => ?_⟩
        · rw [inV_int] at b
          have e : tAcc M t = true := List.any_eq_true.mpr ⟨r, List.mem_of_getElem? er, List.any_eq_true.mpr ⟨q, List.mem_of_getElem? eq, b⟩⟩
          have := k H3 kT
          rw [e] at this
          exact this
        · rw [inV_int] at b
          refine ⟨rfl, ?_⟩
          rw [take_next eq, List.any_append, z2, List.any_cons, List.any_nil, Bool.false_or, Bool.or_false]
          exact Bool.eq_false_iff.mpr b
      · obtain ⟨rfl, z2⟩ := z2
        rw [List.length_map, List.take_length] at z2
        exact ⟨rfl, by rw [e2]; exact z2⟩
    · obtain ⟨rfl, z⟩ := z
      rw [List.length_map, List.take_length] at z
      have e : tAcc M t = false := z
      have := k H' kT
      rw [e] at this
      exact this
    · rintro σ' H9 Q9 Q9' hQ ⟨v, e, v', e', ds, n, d, b1, b2, b3, b4⟩
      exact ⟨v, e, v', e', ds, n, d, b1, b2, b3, fun u' hu' => let ⟨a9, c1, c2, c3⟩ := b4 u' hu'; ⟨a9, c1, c2, hQ _ _ c3⟩⟩
    · rintro σ' H9 Q9 Q9' hQ ⟨v, e, v0, e0, a0, C0, dx0, fs0, v1, c1, c2, c3, c4, c5, ds, n, d, b1, b2, b3, b4⟩
      exact ⟨v, e, v0, e0, a0, C0, dx0, fs0, v1, c1, c2, c3, c4, c5, ds, n, d, b1, b2, b3, fun u hu => let ⟨p, xs, d1, d2, d3, d4, d5⟩ := b4 u hu; ⟨p, xs, d1, d2, d3, d4, hQ _ _ d5⟩⟩
end
end K51
end

section
set_option Elab.async false
set_option linter.all false
set_option maxRecDepth 100000
set_option maxHeartbeats 4000000
/-! next_values -/
namespace K51
open PySem PySem.Spec PyProof.Rows L2
theorem tabs_solid (l : List Tab) : solidAll (l.map tD) = true := solidAll_of fun d h => by obtain ⟨r, _, rfl⟩ := List.mem_map.mp h; exact nums_solid _ (tD_nums r)
theorem k_join : ¬ (("join" : PySem.Str) = "machine") := by decide +kernel
theorem k_around : ¬ (("around" : PySem.Str) = "machine") := by decide +kernel
theorem k_letter : ¬ (("letter" : PySem.Str) = "machine") := by decide +kernel
theorem k_empty : ¬ (("empty" : PySem.Str) = "machine") := by decide +kernel
theorem k_acc : ¬ (("is_accepted" : PySem.Str) = "machine") := by decide +kernel
theorem snoc_map {α β : Type} (A : List β) (xs : List α) (x : α) (f : α → β) : A ++ (xs ++ [x]).map f = (A ++ xs.map f) ++ [f x] := by
  rw [List.map_append, ← List.append_assoc]; rfl
theorem len_flat {α β : Type} {f : α → List β} {n : Nat} : ∀ {l : List α}, (∀ x ∈ l, (f x).length ≤ n) → (l.flatMap f).length ≤ l.length * n
  | [], _ => by simp
  | x :: l, h => by
    rw [List.flatMap_cons, List.length_append, List.length_cons, Nat.add_mul, Nat.one_mul]
    have h1 := h x List.mem_cons_self
    have h2 := len_flat (f := f) (n := n) (l := l) fun y hy => h y (List.mem_cons_of_mem _ hy)
    omega
section
variable {P : Program} {w : World} {K : PySem.W.Frag} {mg : PySem.Str → Option Value} {base : Heap} {C : Addr}
theorem ref_of {H : Hp} {v : V} {t : Tab} (h : Dp K H v (tD t)) : ∃ a, v = .ref a := let ⟨a, _, e, _⟩ := Dp.tupI h; ⟨a, e⟩
/-- next_values(table, labels, known) -/
def spNext (K : PySem.W.Frag) (C : Addr) : Sp := fun vs H Q _ => ∃ (p : Addr) (M : Mach) (L : Nat × Nat × Nat) (lv : V) (kn : Addr) (xs : List V) (f : List Tab), vs = [.ref p, lv, .ref kn] ∧ TAt K C H p M ∧ M.Ok L ∧ (L.2.1 ≤ 3 ∧ L.2.2 ≤ 3) ∧ Dp K H lv (lD L) ∧
  H kn = some (.lst xs) ∧ DpAll K H xs (f.map tD) ∧ (∀ t ∈ f, Good M.m t) ∧ f.length ≤ 60 ∧
  ∀ q acc H', Kp [] H H' → H q = none → H' q = some (.lst acc) → DpAll K H' acc ((next M L f).map tD) → Q (.ref q) H'
abbrev nNext : List PySem.Str := ["table", "labels", "known", "made", "x", "y", "a", "b"]
theorem sc_next : FnScope nNext ["table", "labels", "known"] (defScope s_next_values) := ⟨rfl, rfl, rfl, by decide +kernel, rfl, by decide +kernel, by decide +kernel⟩
theorem ok_next {f f1 f2 : Addr} {fd fd1 fd2 : FuncData} (F : L2.Fun K "next_values" "next_values" s_next_values f fd) (T : TCls K mg C) (G : Gs mg) (Mj : Mth P w K mg base 1 C "join" ["self", "x", "y"] (spJoin K C) f1 fd1)
    (Ma : Mth P w K mg base 2 C "around" ["self", "a", "b", "x"] (spAround K C) f2 fd2) : FnOk P w K mg base CX0 3 f fd ["table", "labels", "known"] (spNext K C) := by
  refine F.ok sc_next (fun vs H Q E h => ?_) (fun cdv A outer s H vs Q E hr h => ?_)
  · obtain ⟨p, M, L, lv, kn, xs, f, rfl, _⟩ := h
    rfl
  · obtain ⟨p, M, L, lv, kn, xs, f, rfl, ⟨dx, mv, hp, hM⟩, ok, ⟨lb1, lb2⟩, hL, hkn, hxs, gf, hf, k⟩ := h
    refine ⟨_, pss_cons (ps_set (i := 3) sc_next.nd rfl (Or.inl rfl) (pe_lst pa_nil))
      (pss_cons (ps_for PassesOwn.never rfl (pi_list (pv 2)) (pg_name (i := 4) sc_next.nd rfl (Or.inl rfl))
        (pss_one (ps_for PassesOwn.never rfl (pi_list (pv 2)) (pg_name (i := 5) sc_next.nd rfl (Or.inl rfl))
          (pss_one (ps_expr (pe_bm PySem.F.plainAttrs_list PySem.F.slot_list_append PySem.F.type_list_append mt_append (pv 3)
            (pa_cons (pe_meth (pv 0) T.cl Mj.m Mj.ok (hr.mono (by decide)) Mj.b .nil pass0 (pa_cons (pv 4) (pa_cons (pv 5) pa_nil))) pa_nil)))))))
      (pss_cons (ps_for PassesOwn.never rfl (pi_range1 (by rfl) G.range (pa_cons (pe_ix ix_dp (pv 1) pe_int (fun _ _ => rfl)) pa_nil)) (pg_name (i := 6) sc_next.nd rfl (Or.inl rfl))
        (pss_one (ps_for PassesOwn.never rfl (pi_range1 (by rfl) G.range (pa_cons (pe_ix ix_dp (pv 1) pe_int (fun _ _ => rfl)) pa_nil)) (pg_name (i := 7) sc_next.nd rfl (Or.inl rfl))
          (pss_one (ps_for PassesOwn.never rfl (pi_list (pv 2)) (pg_name (i := 4) sc_next.nd rfl (Or.inl rfl))
            (pss_one (ps_expr (pe_bm PySem.F.plainAttrs_list PySem.F.slot_list_append PySem.F.type_list_append mt_append (pv 3)
              (pa_cons (pe_meth (pv 0) T.cl Ma.m Ma.ok hr Ma.b .nil pass0 (pa_cons (pv 6) (pa_cons (pv 7) (pa_cons (pv 4) pa_nil)))) pa_nil)))))))))
      (pss_one (ps_ret (pv 3))))), ?_⟩
    refine ⟨by decide, fun l hl => ?_⟩
    have hT : TAt K C H p M := ⟨dx, mv, hp, hM⟩
    -- the state: what is made so far
    let St : List Tab → L2.St → Hp → Prop := fun ts σ H' => (∃ o4 o5 o6 o7, σ = [some (V.ref p), some lv, some (V.ref kn), some (V.ref l), o4, o5, o6, o7]) ∧ ts.length ≤ 20000 ∧ Grow K [] H l (ts.map tD) H'
    have kn' : ∀ {ts σ H'}, St ts σ H' → SqL K H' kn xs := fun z => SqL.of (z.2.2.kp.keep _ _ hkn (fun z => nomatch z) fun ps z => by cases z)
    have xs' : ∀ {ts σ H'}, St ts σ H' → DpAll K H' xs (f.map tD) := fun z => z.2.2.kp.dps NoTup.nil (tabs_solid f) hxs
    have lenf := DpAll.length hxs
    rw [List.length_map] at lenf
    -- one table more
    have more : ∀ {ts : List Tab} {H' H2 : Hp} {t : Tab} {v : V}, Grow K [] H l (ts.map tD) H' → ts.length ≤ 20000 → Kp [] H' H2 → Dp K H2 v (tD t) →
        ∃ acc, H2 l = some (.lst acc) ∧ acc.length < sizeLine ∧ Grow K [] H l ((ts ++ [t]).map tD) (upd H2 l (.lst (acc ++ [v]))) := fun {ts H' H2 t v} g hl' k2 d2 => by
      rw [List.map_append]
      exact Grow.step hl (fun z => nomatch z) NoTup.nil g k2 (tabs_solid _) d2 (nums_solid _ (tD_nums t)) (by rw [List.length_map]; omega)
    refine ⟨_, rfl, kn, rfl, ⟨xs, SqL.of (by rw [upd_ne (ne_of_none hkn hl)]; exact hkn)⟩, ?_⟩
    let J : Nat → Nat → List Tab := fun i j => ((f.take i).flatMap fun x => f.map fun y => tJoin x y) ++ (match f[i]? with | some x => (f.take j).map fun y => tJoin x y | none => [])
    have jl : ∀ i, (((f.take i).flatMap fun x => f.map fun y => tJoin x y)).length ≤ 3600 := fun i => by
      have h1 := len_flat (f := fun x => f.map fun y => tJoin x y) (n := 60) (l := f.take i) fun x _ => by rw [List.length_map]; exact hf
      have h2 : (f.take i).length ≤ f.length := by rw [List.length_take]; omega
      omega
    refine for_list (K := K) (xs := xs) (fun i σ H' => St ((f.take i).flatMap fun x => f.map fun y => tJoin x y) σ H') ⟨⟨none, none, none, none, rfl⟩, Nat.zero_le _, Grow.zero hl⟩ (fun i σ H' _ z => kn' z) (fun i x σ H' ei z => ?_) fun σ H' z => ?_
    · obtain ⟨t, et, hx⟩ := map_dp (xs' z) ei
      have knz := kn' z
      obtain ⟨⟨o4, o5, o6, o7, rfl⟩, zl, g⟩ := z
      refine ⟨_, rfl, kn, rfl, ⟨xs, knz⟩, ?_⟩
      refine for_list (K := K) (xs := xs) (fun j σ H2 => (∃ o5 o6 o7, σ = [some (V.ref p), some lv, some (V.ref kn), some (V.ref l), some x, o5, o6, o7]) ∧ Grow K [] H l ((((f.take i).flatMap fun x => f.map fun y => tJoin x y) ++ (f.take j).map fun y => tJoin t y).map tD) H2)
        ⟨⟨_, _, _, rfl⟩, by rw [List.take_zero, List.map_nil, List.append_nil]; exact g⟩ (fun j σ H2 _ z => SqL.of (z.2.kp.keep _ _ hkn (fun z => nomatch z) fun ps z => by cases z)) (fun j y σ H2 ej z => ?_) fun σ H2 z => ?_
      · obtain ⟨⟨o5, o6, o7, rfl⟩, g2⟩ := z
        have k2 := g2.kp
        obtain ⟨u, eu, hy⟩ := map_dp (k2.dps NoTup.nil (tabs_solid f) hxs) ej
        obtain ⟨t', et', hx'⟩ := map_dp (k2.dps NoTup.nil (tabs_solid f) hxs) ei
        obtain rfl : t' = t := by rw [et] at et'; exact (Option.some.inj et').symm
        obtain ⟨acc0, _, e0, _⟩ := id g2
        refine ⟨_, rfl, .inl ⟨rfl, _, SqL.of e0⟩, _, rfl, p, dx, _, rfl, k2.keep _ _ hp (fun z => nomatch z) (fun ps z => by cases z), fldT_no _ k_join, _, rfl, _, rfl, p, M.m, x, y, t', u, rfl, hx', hy, gf _ (List.mem_of_getElem? et), gf _ (List.mem_of_getElem? eu), ok.m3, fun v H3 k3 d3 => ?_⟩
        have hlen : (((f.take i).flatMap fun x => f.map fun y => tJoin x y) ++ (f.take j).map fun y => tJoin t' y).length ≤ 20000 := by
          rw [List.length_append, List.length_map]
          have := jl i
          have h2 : (f.take j).length ≤ f.length := by rw [List.length_take]; omega
          omega
        obtain ⟨acc, e4, hlt, g3⟩ := more g2 hlen k3 d3
        refine ⟨l, acc, v, rfl, rfl, e4, hlt, ⟨_, _, _, rfl⟩, ?_⟩
        rw [take_next eu, snoc_map]
        exact g3
      · obtain ⟨⟨o5, o6, o7, rfl⟩, g2⟩ := z
        rw [lenf, List.take_length] at g2
        refine ⟨⟨_, _, _, _, rfl⟩, Nat.le_trans (jl _) (by decide), ?_⟩
        rw [take_next et, List.flatMap_append, List.flatMap_cons, List.flatMap_nil, List.append_nil]
        exact g2
    · rw [lenf, List.take_length] at z
      obtain ⟨⟨o4, o5, o6, o7, rfl⟩, zl, g⟩ := z
      let B0 : List Tab := f.flatMap fun x => f.map fun y => tJoin x y
      have b0 : B0.length ≤ 3600 := by
        have := jl f.length
        rw [List.take_length] at this
        exact this
      let R : Int → Int → Tab → Tab := fun a b x => tAround M a b x
      let rowB : Nat → List Tab := fun a => (List.range L.2.2).flatMap fun (b : Nat) => f.map fun x => R (a : Int) (b : Int) x
      have rowl : ∀ a, (rowB a).length ≤ 180 := fun a => by
        have h1 := len_flat (f := fun (b : Nat) => f.map fun x => R (a : Int) (b : Int) x) (n := 60) (l := List.range L.2.2) fun x _ => by rw [List.length_map]; exact hf
        rw [List.length_range] at h1
        show (List.flatMap _ _).length ≤ _
        omega
      have wl : ∀ n, n ≤ 3 → ((List.range n).flatMap rowB).length ≤ 540 := fun n hn => by
        have h1 := len_flat (f := rowB) (n := 180) (l := List.range n) fun x _ => rowl x
        rw [List.length_range] at h1
        omega
      have hLd : ∀ {H2 : Hp}, Kp [] H H2 → Dp K H2 lv (lD L) := fun k2 => k2.dp NoTup.nil (nums_solid _ (lD_nums L)) hL
      refine ⟨_, rfl, lDs L, 1, .int (L.2.1 : Int), hLd g.kp, rfl, rfl, fun u hu => ?_⟩
      obtain rfl := Dp.intI hu
      refine ⟨_, rfl, by omega, by omega, ?_⟩
      refine for_range (lo := 0) (n := (L.2.1 : Int).toNat) (fun a σ H2 => (∃ o4 o5 o6 o7, σ = [some (V.ref p), some lv, some (V.ref kn), some (V.ref l), o4, o5, o6, o7]) ∧ Grow K [] H l ((B0 ++ (List.range a).flatMap rowB).map tD) H2)
        ⟨⟨_, _, _, _, rfl⟩, by rw [List.range_zero, List.flatMap_nil, List.append_nil]; exact g⟩ (fun a σ H2 ha z => ?_) fun σ H2 z => ?_
      · obtain ⟨⟨o4, o5, o6, o7, rfl⟩, g2⟩ := z
        rw [Int.toNat_natCast] at ha
        refine ⟨_, rfl, lDs L, 2, .int (L.2.2 : Int), hLd g2.kp, rfl, rfl, fun u hu => ?_⟩
        obtain rfl := Dp.intI hu
        refine ⟨_, rfl, by omega, by omega, ?_⟩
        refine for_range (lo := 0) (n := (L.2.2 : Int).toNat) (fun b σ H3 => (∃ o4 o5 o7, σ = [some (V.ref p), some lv, some (V.ref kn), some (V.ref l), o4, o5, some (V.int (a : Int)), o7]) ∧ Grow K [] H l (((B0 ++ (List.range a).flatMap rowB) ++ (List.range b).flatMap fun (b : Nat) => f.map fun x => R (a : Int) (b : Int) x).map tD) H3)
          ⟨⟨_, _, _, by rw [Int.zero_add]; rfl⟩, by rw [List.range_zero, List.flatMap_nil, List.append_nil]; exact g2⟩ (fun b σ H3 hb z => ?_) fun σ H3 z => ?_
        · obtain ⟨⟨o4, o5, o7, rfl⟩, g3⟩ := z
          rw [Int.toNat_natCast] at hb
          refine ⟨_, rfl, kn, rfl, ⟨xs, SqL.of (g3.kp.keep _ _ hkn (fun z => nomatch z) fun ps z => by cases z)⟩, ?_⟩
          refine for_list (K := K) (xs := xs) (fun j σ H4 => (∃ o4 o5, σ = [some (V.ref p), some lv, some (V.ref kn), some (V.ref l), o4, o5, some (V.int (a : Int)), some (V.int (b : Int))]) ∧
              Grow K [] H l ((((B0 ++ (List.range a).flatMap rowB) ++ (List.range b).flatMap fun (b : Nat) => f.map fun x => R (a : Int) (b : Int) x) ++ (f.take j).map fun x => R (a : Int) (b : Int) x).map tD) H4)
            ⟨⟨_, _, by rw [Int.zero_add]; rfl⟩, by rw [List.take_zero, List.map_nil, List.append_nil]; exact g3⟩ (fun j σ H4 _ z => SqL.of (z.2.kp.keep _ _ hkn (fun z => nomatch z) fun ps z => by cases z)) (fun j x σ H4 ej z => ?_) fun σ H4 z => ?_
          · obtain ⟨⟨o4, o5, rfl⟩, g4⟩ := z
            have k4 := g4.kp
            obtain ⟨t, et, hx⟩ := map_dp (k4.dps NoTup.nil (tabs_solid f) hxs) ej
            obtain ⟨acc0, _, e0, _⟩ := id g4
            refine ⟨_, rfl, .inl ⟨rfl, _, SqL.of e0⟩, _, rfl, p, dx, _, rfl, k4.keep _ _ hp (fun z => nomatch z) (fun ps z => by cases z), fldT_no _ k_around, _, rfl, _, rfl, _, rfl, p, M, L, (a : Int), (b : Int), x, t, rfl, hT.kp k4, ok, hx, gf _ (List.mem_of_getElem? et), fun v H5 k5 d5 => ?_⟩
            have hlen : (((B0 ++ (List.range a).flatMap rowB) ++ (List.range b).flatMap fun (b : Nat) => f.map fun x => R (a : Int) (b : Int) x) ++ (f.take j).map fun x => R (a : Int) (b : Int) x).length ≤ 20000 := by
              rw [List.length_append, List.length_append, List.length_append, List.length_map]
              have h1 := wl a (by omega)
              have h2 : (f.take j).length ≤ f.length := by rw [List.length_take]; omega
              have h3 := len_flat (f := fun (b : Nat) => f.map fun x => R (a : Int) (b : Int) x) (n := 60) (l := List.range b) fun x _ => by rw [List.length_map]; exact hf
              rw [List.length_range] at h3
              omega
            obtain ⟨acc, e5, hlt, g5⟩ := more g4 hlen k5 d5
            refine ⟨l, acc, v, rfl, rfl, e5, hlt, ⟨_, _, rfl⟩, ?_⟩
            rw [take_next et, snoc_map]
            exact g5
          · obtain ⟨⟨o4, o5, rfl⟩, g4⟩ := z
            rw [lenf, List.take_length] at g4
            refine ⟨⟨_, _, _, rfl⟩, ?_⟩
            rw [List.range_succ, List.flatMap_append, List.flatMap_cons, List.flatMap_nil, List.append_nil, ← List.append_assoc]
            exact g4
        · obtain ⟨⟨o4, o5, o7, rfl⟩, g3⟩ := z
          rw [Int.toNat_natCast] at g3
          refine ⟨⟨_, _, _, _, rfl⟩, ?_⟩
          rw [List.range_succ, List.flatMap_append, List.flatMap_cons, List.flatMap_nil, List.append_nil, ← List.append_assoc]
          exact g3
      · obtain ⟨⟨o4, o5, o6, o7, rfl⟩, g2⟩ := z
        rw [Int.toNat_natCast] at g2
        obtain ⟨acc, kD, eD, aD⟩ := g2
        exact ⟨_, rfl, k l acc H2 kD hl eD aD⟩
end
end K51
end

section
set_option Elab.async false
set_option linter.all false
set_option maxRecDepth 100000
set_option maxHeartbeats 8000000
/-! collect -/
namespace K51
open PySem PySem.Spec PyProof.Rows L2
section
variable {X : Cx} (K : PySem.W.Frag) (P : Program) (w : World)
theorem op_notInTK (hu : X.A.units + 64 < cLine) (hK : X.K = K := by rfl) (hP : X.prog = P := by rfl) (hw : X.w = w := by rfl) : OpR X (compareOp .NotIn) (rInT K P w true) := by subst hK hP hw; exact op_notInT hu
end
section
variable {P : Program} {w : World} {K : PySem.W.Frag} {mg : PySem.Str → Option Value} {base : Heap} {C : Addr}
/-- the dict at d has the tables f -/
def Fnd (P : Program) (w : World) (K : PySem.W.Frag) (d : Addr) (f : List Tab) (H : Hp) : Prop := ∃ L : List (Addr × PyData), H d = some (TbO P w d L) ∧ L.map (·.2) = f.map tD ∧ ∀ p ∈ L, IsKey K H p
theorem IsKey.kp {H H' : Hp} {S : List Addr} {p : Addr × PyData} (h : IsKey K H p) (k : Kp S H H') (hS : NoTup S H) : IsKey K H' p := ⟨k.dp hS (nums_solid _ h.2.1) h.1, h.2.1, h.2.2⟩
theorem key_tab {H : Hp} {a : Addr} {t : Tab} (h : Dp K H (.ref a) (tD t)) : IsKey K H (a, tD t) := ⟨h, tD_nums t, Nat.le_trans (tD_depth t) (by decide)⟩
theorem Fnd.noTup {d : Addr} {f : List Tab} {H : Hp} (h : Fnd P w K d f H) : NoTup [d] H := fun p hp ys z => by
  obtain ⟨L, e, _⟩ := h
  rw [List.mem_singleton.mp hp] at z
  rcases z with z | ⟨o, z⟩ <;> (rw [e] at z; cases z)
theorem Fnd.kp {d : Addr} {f : List Tab} {H H' : Hp} (h : Fnd P w K d f H) (k : Kp [] H H') : Fnd P w K d f H' := by
  obtain ⟨L, e, m, hk⟩ := h
  exact ⟨L, k.keep _ _ e (fun z => nomatch z) (fun ps z => by cases z), m, fun p hp => (hk p hp).kp k NoTup.nil⟩
theorem Fnd.mem {f : List Tab} {L : List (Addr × PyData)} (m : L.map (·.2) = f.map tD) {t : Tab} : tD t ∈ L.map (·.2) ↔ t ∈ f := by
  rw [m, List.mem_map]
  exact ⟨fun ⟨u, hu, e⟩ => tD_inj e ▸ hu, fun h => ⟨t, h, rfl⟩⟩
theorem Fnd.len {f : List Tab} {L : List (Addr × PyData)} (m : L.map (·.2) = f.map tD) : L.length = f.length := by
  have := congrArg List.length m
  rwa [List.length_map, List.length_map] at this
theorem Fnd.dps {H : Hp} : ∀ {f : List Tab} {L : List (Addr × PyData)}, L.map (·.2) = f.map tD → (∀ p ∈ L, IsKey K H p) → DpAll K H (L.map fun p => V.ref p.1) (f.map tD)
  | [], [], _, _ => .nil
  | [], _ :: _, m, _ => by simp at m
  | _ :: _, [], m, _ => by simp at m
  | t :: f, p :: L, m, h => by
    simp only [List.map_cons, List.cons.injEq] at m
    refine .cons ?_ (Fnd.dps m.2 fun q hq => h q (List.mem_cons_of_mem _ hq))
    have z := (h p List.mem_cons_self).1
    rw [m.1] at z
    exact z
theorem Fnd.add {H : Hp} {d a : Addr} {f : List Tab} {L : List (Addr × PyData)} {t : Tab} (e : H d = some (TbO P w d L)) (m : L.map (·.2) = f.map tD) (hk : ∀ p ∈ L, IsKey K H p) (ha : Dp K H (.ref a) (tD t)) : Fnd P w K d (f ++ [t]) (upd H d (TbO P w d (L ++ [(a, tD t)]))) := by
  have st : ∀ p : Addr × PyData, IsKey K H p → IsKey K (upd H d (TbO P w d (L ++ [(a, tD t)]))) p := fun p hp => by
    refine ⟨Dp.stay (fun q zs z => ?_) _ _ (nums_solid _ hp.2.1) hp.1, hp.2.1, hp.2.2⟩
    rcases z with (z | ⟨o, z⟩) | z
    · exact .inl (.inl (by rw [upd_ne (ne_of z e fun e => by cases e)]; exact z))
    · exact .inl (.inr ⟨o, by rw [upd_ne (ne_of z e fun e => by cases e)]; exact z⟩)
    · exact .inr z
  refine ⟨L ++ [(a, tD t)], upd_same, by rw [List.map_append, List.map_append, m]; rfl, fun p hp => ?_⟩
  rcases List.mem_append.mp hp with z | z
  · exact st p (hk p z)
  · rw [List.mem_singleton.mp z]; exact st _ (key_tab ha)
/-! ### the rounds -/
section
variable {M : Mach} {Lb : Nat × Nat × Nat} {n : Nat} {fs ts : List Tab} {first : Bool}
theorem rounds_none (h : 60 < (addAll fs ts).length) : rounds M Lb (n + 1) fs ts first = none := by
  show (if 60 < (addAll fs ts).length then none else _) = none
  rw [if_pos h]
theorem rounds_go (h : (addAll fs ts).length ≤ 60) (hg : first = true ∨ fs.length < (addAll fs ts).length) : rounds M Lb (n + 1) fs ts first = rounds M Lb n (addAll fs ts) (next M Lb (addAll fs ts)) false := by
  show (if 60 < (addAll fs ts).length then none else if (!first && (addAll fs ts).length == fs.length) = true then some (addAll fs ts) else rounds M Lb n (addAll fs ts) (next M Lb (addAll fs ts)) false) = _
  rw [if_neg (by omega), if_neg ?_]
  rcases hg with rfl | hg
  · simp
  · simp; omega
theorem rounds_end (h : fs.length ≤ 60) (hs : ∀ t ∈ ts, t ∈ fs) : rounds M Lb (n + 1) fs ts false = some fs := by
  show (if 60 < (addAll fs ts).length then none else if (!false && (addAll fs ts).length == fs.length) = true then some (addAll fs ts) else _) = _
  rw [addAll_same hs, if_neg (by omega), if_pos (by simp)]
theorem len_next (hb : Lb.2.1 ≤ 3 ∧ Lb.2.2 ≤ 3) (h : fs.length ≤ 60) : (next M Lb fs).length ≤ 20000 := by
  unfold next
  rw [List.length_append]
  have h1 := len_flat (f := fun x => fs.map fun y => tJoin x y) (n := 60) (l := fs) fun x _ => by rw [List.length_map]; exact h
  have h2 := len_flat (f := fun (a : Nat) => (List.range Lb.2.2).flatMap fun (b : Nat) => fs.map fun x => tAround M (a : Int) (b : Int) x) (n := 180) (l := List.range Lb.2.1) fun a _ => by
    have h3 := len_flat (f := fun (b : Nat) => fs.map fun x => tAround M (a : Int) (b : Int) x) (n := 60) (l := List.range Lb.2.2) fun b _ => by rw [List.length_map]; exact h
    rw [List.length_range] at h3
    omega
  rw [List.length_range] at h2
  omega
theorem len_addAll_le : ∀ (ts fs : List Tab), (addAll fs ts).length ≤ fs.length + ts.length
  | [], fs => Nat.le_refl _
  | x :: r, fs => by
    rw [addAll_cons, List.length_cons]
    have h1 := len_addAll_le r (add1 fs x)
    have h2 : (add1 fs x).length ≤ fs.length + 1 := by
      unfold add1
      split
      · omega
      · rw [List.length_append, List.length_singleton]; omega
    omega
theorem good_addAll {m : Nat} (h1 : ∀ t ∈ fs, Good m t) (h2 : ∀ t ∈ ts, Good m t) : ∀ t ∈ addAll fs ts, Good m t := fun t ht => (mem_addAll.mp ht).elim (h1 t) (h2 t)
end
/-- collect(table, labels, most) -/
def spCollect (K : PySem.W.Frag) (C Pt : Addr) : Sp := fun vs H Q _ => ∃ (p : Addr) (M : Mach) (L : Nat × Nat × Nat) (lv : V), vs = [.ref p, lv, .int 60] ∧ TAt K C H p M ∧ M.Ok L ∧ (L.1 ≤ 3 ∧ L.2.1 ≤ 3 ∧ L.2.2 ≤ 3) ∧ Dp K H lv (lD L) ∧ GxR.TabG H Pt ∧
  (tables M L = none → ∀ H', Kp [] H H' → Q .non H') ∧ (∀ r, tables M L = some r → ∀ q acc H', Kp [] H H' → H q = none → H' q = some (.lst acc) → DpAll K H' acc (r.map tD) → Q (.ref q) H')
abbrev nCollect : List PySem.Str := ["table", "labels", "most", "found", "made", "grown", "x", "a"]
theorem sc_collect : FnScope nCollect ["table", "labels", "most"] (defScope s_collect) := ⟨rfl, rfl, rfl, by decide +kernel, rfl, by decide +kernel, by decide +kernel⟩
theorem ok_collect {f c Pt f1 f2 f3 : Addr} {fd fd1 fd2 fd3 : FuncData} (F : L2.Fun K "collect" "collect" s_collect f fd) (hcd : fd.code = .ref c) (TB : GxR.TabB base mg c Pt) (T : TCls K mg C) (G : Gs mg)
    (Me : Mth P w K mg base 1 C "empty" ["self"] (spEmpty K C) f1 fd1) (Ml : Mth P w K mg base 2 C "letter" ["self", "a"] (spLetter K C) f2 fd2) (Cn : Cal P w K mg base CX0 3 "next_values" ["table", "labels", "known"] (spNext K C) f3 fd3) :
    FnOk P w K mg base CX0 4 f fd ["table", "labels", "most"] (spCollect K C Pt) := by
  refine okC F hcd sc_collect (fun vs H Q E h => ?_) (fun A outer s H vs Q E hr h => ?_)
  · obtain ⟨p, M, L, lv, rfl, _⟩ := h
    rfl
  · obtain ⟨p, M, L, lv, rfl, hT, ok, ⟨lb0, lb1, lb2⟩, hL, tg, kN, kS⟩ := h
    have hu64 : (A.deeper (envOfC "collect" (defScope s_collect) s.heap.objs.size f (.ref c))).units + 64 < cLine := by have := hr.un; omega
    refine ⟨_, pss_cons (ps_set (i := 3) sc_collect.nd rfl (Or.inr rfl) (pe_oneT hu64 (pe_meth0 (pv 0) T.cl Me.m Me.ok (hr.mono (by decide)) Me.b .nil pass0) pe_int))
      (pss_cons (ps_setLc (i := 4) (own := [("a", 7)]) (g := gName 7) (tt := tYes) rfl sc_collect.nd rfl rfl (sw_true rfl rfl rfl (by decide +kernel))
        (pi_range1 (by rfl) G.range (pa_cons (pe_ix ix_dp (pv 1) pe_int (fun _ _ => rfl)) pa_nil)) (blkOk_by (by kernel_rfl)) (fun _ _ _ _ _ => pg_name (i := 7) sc_collect.nd rfl (Or.inl rfl)) (fun _ _ _ _ _ => pts_nil)
        (fun _ _ _ _ _ => pe_meth (pv 0) T.cl Ml.m Ml.ok (hr.mono (by decide)) Ml.b .nil pass0 (pa_cons (pv 7) pa_nil)))
      (pss_cons (ps_set (i := 5) sc_collect.nd rfl (Or.inl rfl) pe_bl)
      (pss_cons (ps_while PassesOwn.never (pt_val (pv 5))
        (pss_cons (ps_set (i := 5) sc_collect.nd rfl (Or.inl rfl) pe_bl)
        (pss_cons (ps_for PassesOwn.never rfl (pi_list (pv 4)) (pg_name (i := 6) sc_collect.nd rfl (Or.inl rfl))
          (pss_one (ps_if (pt_cmpR (op_notInT hu64) (pv 6) (pv 3) (by rfl))
            (pss_cons (ps_asg (pe_callB call_lenTb (by rfl) G.len b_len (pa_cons (pv 3) pa_nil)) (pg_sub (pv 3) (pv 6) (set_tb hu64)))
            (pss_one (ps_set (i := 5) sc_collect.nd rfl (Or.inl rfl) pe_bl))) pss_nil)))
        (pss_cons (ps_if (pt_cmpR op_gt (pe_callB call_lenTb (by rfl) G.len b_len (pa_cons (pv 3) pa_nil)) (pv 2) (nomark _)) (pss_one (ps_ret pe_non)) pss_nil)
        (pss_cons (ps_set (i := 4) sc_collect.nd rfl (Or.inl rfl) (pe_lst pa_nil))
        (pss_one (ps_if (PW.pt (pw_or (pt_val (pv 5)) (pw_or1 (pt_cmpR op_eq (pe_callB call_lenTb (by rfl) G.len b_len (pa_cons (pv 3) pa_nil)) pe_int (nomark _)))))
          (pss_cons (ps_set (i := 4) sc_collect.nd rfl (Or.inl rfl) (pe_call Cn.ok hr rfl Cn.g Cn.kp Cn.b .nil pass0 (pa_cons (pv 0) (pa_cons (pv 1) (pa_cons (pe_callTy (call_listTb rfl) (by rfl) G.list b_list (pa_cons (pv 3) pa_nil)) pa_nil)))))
          (pss_one (ps_set (i := 5) sc_collect.nd rfl (Or.inl rfl) (pe_any1 (own := [("x", 6)]) (g := gName 6) hr rfl (by rfl) G.any TB rfl (gscp rfl rfl (by decide +kernel) (by decide +kernel)) sc_collect.nd
            (blkOk_by (by kernel_rfl)) (pi_list (pv 4)) (fun _ _ _ _ _ _ => pg_name (i := 6) sc_collect.nd rfl (Or.inl rfl)) (fun _ _ _ _ _ _ => pe_cmpR (op_notInTK K P w (by have h := hr.un; show (Around.units (A.deeper (envOfC "collect" (defScope s_collect) s.heap.objs.size f (.ref c)))) + 1 + 1 + 3 + 64 < cLine; omega)) (pv 6) (pv 3) (by rfl))))))
          pss_nil)))))))
      (pss_one (ps_ret (pe_callTy (call_listTb rfl) (by rfl) G.list b_list (pa_cons (pv 3) pa_nil))))))), ?_⟩
    intro d hd
    obtain ⟨dx, mv, hp, hM⟩ := id hT
    have k0 : Kp [] H (upd H d (TbO P w d [])) := Kp.new hd
    refine ⟨_, rfl, p, dx, _, rfl, by rw [upd_ne (ne_of_none hp hd)]; exact hp, fldT_no _ k_empty, p, M, rfl, hT.kp k0, ok.m3, fun v H1 k1 d1 => ?_⟩
    obtain ⟨b, rfl⟩ := ref_of d1
    have e1 : H1 d = some (TbO P w d []) := k1.keep _ _ upd_same (fun z => nomatch z) fun ps z => by cases z
    refine ⟨e1, b, tD (tEmpty M.m), rfl, rfl, key_tab d1, ?_⟩
    let H2 : Hp := upd H1 d (TbO P w d [(b, tD (tEmpty M.m))])
    have kH2 : Kp [] H H2 := (k0.trans k1).put e1 (fun ps z => by cases z) (.inr hd)
    have F2 : Fnd P w K d [tEmpty M.m] H2 := Fnd.add (f := []) (L := []) e1 rfl (fun p hp => nomatch hp) d1
    have hLd : ∀ {H' : Hp}, Kp [] H H' → Dp K H' lv (lD L) := fun k2 => k2.dp NoTup.nil (nums_solid _ (lD_nums L)) hL
    refine ⟨_, rfl, lDs L, 0, .int (L.1 : Int), hLd kH2, rfl, rfl, fun u hu => ?_⟩
    obtain rfl := Dp.intI hu
    refine ⟨_, rfl, by omega, by omega, fun D hD => ?_⟩
    refine lc_range (lo := 0) (n := (L.1 : Int).toNat) (fun i H' => Grow K [] H2 D (((List.range i).map fun (a : Nat) => tLetter M (a : Int)).map tD) H') (Grow.zero hD) (fun i H' hi g => ⟨rfl, ?_⟩) fun H' g => ?_
    · refine yesT ?_
      have kH := kH2.trans g.kp
      refine ⟨_, rfl, p, dx, _, rfl, kH.keep _ _ hp (fun z => nomatch z) (fun ps z => by cases z), fldT_no _ k_letter, _, rfl, p, M, _, rfl, hT.kp kH, ok.m3, by have := ok.nlets; omega, fun v H3 k3 d3 => ?_⟩
      rw [Int.zero_add] at d3
      rw [List.range_succ, List.map_append, List.map_append]
      exact Grow.step hD (fun z => nomatch z) NoTup.nil g k3 (tabs_solid _) d3 (nums_solid _ (tD_nums _)) (by simp; omega)
    · rw [Int.toNat_natCast] at g
      obtain ⟨acc0, kD, eD, aD⟩ := g
      -- the head of the loop
      let Hd : Nat → List Tab → List Tab → Bool → Addr → Hp → Prop := fun m fs ts first ml H' => Kp [] H H' ∧ Fnd P w K d fs H' ∧ (∃ acc, H' ml = some (.lst acc) ∧ DpAll K H' acc (ts.map tD)) ∧
        (∃ n, tables M L = rounds M L n fs ts first ∧ 70 + (if first = true then 1 else 0) ≤ n + fs.length) ∧ fs.length ≤ 60 ∧ (∀ t ∈ fs, Good M.m t) ∧ (∀ t ∈ ts, Good M.m t) ∧ ts.length ≤ 20000 ∧ (first = true → fs.length = 1) ∧ (first = false → ∃ x ∈ ts, x ∉ fs) ∧ m = (61 - fs.length) * 2 + (if first = true then 1 else 0)
      let W : Nat → L2.St → Hp → Prop := fun m σ H' => ∃ (g : Bool) (fs : List Tab) (ml : Addr) (o6 o7 : Option V), σ = [some (V.ref p), some lv, some (V.int 60), some (V.ref d), some (V.ref ml), some (V.bl g), o6, o7] ∧
        (g = true → ∃ ts first, Hd m fs ts first ml H') ∧ (g = false → Kp [] H H' ∧ Fnd P w K d fs H' ∧ tables M L = some fs)
      refine ⟨W, ⟨121, true, [tEmpty M.m], D, _, _, rfl, fun _ => ⟨letters M L, true, kH2.trans kD, F2.kp kD, ⟨acc0, eD, aD⟩, ⟨70, rfl, by simp⟩, by simp, ?_, good_letters ok, ?_, fun _ => rfl, fun z => (by cases z), rfl⟩, fun z => (by cases z)⟩, ?_⟩
      · intro t ht
        rw [List.mem_singleton.mp ht]; exact good_empty M.m
      · unfold letters
        rw [List.length_map, List.length_range]; omega
      · rintro m σ H3 ⟨g, fs, ml, o6, o7, rfl, hg1, hg2⟩
        refine ⟨_, rfl, g, rfl, ?_⟩
        cases g with
        | false =>
          refine iteNo rfl ?_
          obtain ⟨k3, ⟨Ls, e3, m3, q3⟩, et⟩ := hg2 rfl
          refine ⟨_, rfl, d, Ls, rfl, e3, q3, fun q hq => ?_⟩
          exact kS fs et q _ _ (k3.and hq) (k3.back q hq) upd_same ((Kp.new (S := []) hq).dps NoTup.nil (tabs_solid fs) (Fnd.dps m3 q3))
        | true =>
          obtain ⟨ts, first, k3, F3, ⟨acc, e3, a3⟩, ⟨n, hn, hn70⟩, hl60, gfs, gts, tl, hf1, hf0, rfl⟩ := hg1 rfl
          obtain ⟨n, rfl⟩ : ∃ n', n = n' + 2 := ⟨n - 2, by split at hn70 <;> omega⟩
          refine iteYes rfl ⟨fun σ' H' => ∃ m', m' < (61 - fs.length) * 2 + (if first = true then 1 else 0) ∧ W m' σ' H', fun σ' H' z => z, ?_⟩
          have k3n : NoTup [d] H3 := F3.noTup
          refine ⟨_, rfl, ml, rfl, ⟨acc, SqL.of e3⟩, ?_⟩
          have mld : ml ≠ d := fun z => by
            obtain ⟨Ls, e, _⟩ := F3
            rw [z, e] at e3
            cases e3
          refine for_list (K := K) (xs := acc) (fun i σ H4 => (∃ o6, σ = [some (V.ref p), some lv, some (V.int 60), some (V.ref d), some (V.ref ml), some (V.bl (decide (fs.length < (addAll fs (ts.take i)).length))), o6, o7]) ∧ Kp [d] H3 H4 ∧ Fnd P w K d (addAll fs (ts.take i)) H4)
            ⟨⟨_, by rw [show decide (fs.length < (addAll fs (ts.take 0)).length) = false from decide_eq_false (by rw [List.take_zero]; exact Nat.lt_irrefl _)]; rfl⟩, Kp.refl, F3⟩ (fun i σ H4 _ z => z.2.1.lst (fun z => mld (List.mem_singleton.mp z)) (SqL.of e3)) (fun i x σ H4 ei z => ?_) fun σ H4 z => ?_
          · obtain ⟨⟨o6, rfl⟩, k4, F4⟩ := z
            obtain ⟨t, et, hx⟩ := map_dp (k4.dps k3n (tabs_solid ts) a3) ei
            obtain ⟨b4, rfl⟩ := ref_of hx
            obtain ⟨Ls, e4, m4, q4⟩ := id F4
            have e0 : addAll fs (ts.take (i + 1)) = add1 (addAll fs (ts.take i)) t := by rw [take_next et, addAll_snoc]
            refine ⟨_, rfl, _, rfl, b4, d, tD t, Ls, rfl, rfl, e4, q4, key_tab hx, fun hin => ?_, fun hout => ?_⟩
            · have e1 : addAll fs (ts.take (i + 1)) = addAll fs (ts.take i) := by
                rw [e0]; exact if_pos ((Fnd.mem m4).mp hin)
              refine ⟨_, rfl, ?_⟩
              refine iteNo rfl ?_
              refine ⟨⟨some (V.ref b4), ?_⟩, k4, ?_⟩
              · rw [e1]; rfl
              · rw [e1]; exact F4
            · have hnt : t ∉ addAll fs (ts.take i) := fun z => hout ((Fnd.mem m4).mpr z)
              have e1 : addAll fs (ts.take (i + 1)) = addAll fs (ts.take i) ++ [t] := by
                rw [e0]; exact if_neg hnt
              have hlen := Fnd.len m4
              have hle := len_addAll_le (ts.take i) fs
              have hle2 : (ts.take i).length ≤ ts.length := by rw [List.length_take]; omega
              refine ⟨_, rfl, ?_⟩
              refine iteYes rfl ?_
              refine ⟨_, rfl, d, Ls, rfl, e4, q4, _, rfl, _, rfl, d, b4, tD t, Ls, rfl, rfl, rfl, e4, q4, key_tab hx, hout, by omega, ⟨some (V.ref b4), ?_⟩, ?_, ?_⟩
              · have hd : decide (fs.length < (addAll fs (ts.take (i + 1))).length) = true := decide_eq_true (by
                  rw [e1, List.length_append, List.length_singleton]
                  have := len_addAll (ts.take i) fs
                  omega)
                rw [hd]; rfl
              · exact k4.put e4 (fun ps z => by cases z) (.inl (List.mem_singleton.mpr rfl))
              · rw [e1]; exact Fnd.add e4 m4 q4 hx
          · rw [show ts.take acc.length = ts by rw [DpAll.length a3, List.length_map, List.take_length]] at z
            obtain ⟨⟨o6, rfl⟩, k4, F4⟩ := z
            have kH4 : Kp [] H H4 := k3.then k4 fun q hq => .inr (by rw [List.mem_singleton.mp hq]; exact hd)
            have gfs' : ∀ t ∈ addAll fs ts, Good M.m t := good_addAll gfs gts
            obtain ⟨Ls, e4, m4, q4⟩ := id F4
            have hlen := Fnd.len m4
            refine ⟨_, rfl, d, Ls, rfl, e4, q4, _, rfl, _, _, rfl, rfl, _, rfl, ?_⟩
            have eGT : ∀ c : Prop, ∀ _ : Decidable c, (c ↔ 60 < (addAll fs ts).length) → True := fun _ _ _ => trivial
            by_cases big : 60 < (addAll fs ts).length
            · refine iteYes (decide_eq_true (by rw [hlen]; omega)) ?_
              exact kN (by rw [hn]; exact rounds_none big) _ kH4
            refine iteNo (decide_eq_false (by rw [hlen]; omega)) ?_
            have small : (addAll fs ts).length ≤ 60 := by omega
            refine ⟨by decide, fun m5 hm5 => ?_⟩
            have F5 := F4.kp (Kp.new (S := []) (o := .lst []) hm5)
            have k5 : Kp [] H (upd H4 m5 (.lst [])) := kH4.and hm5
            have grew : first = true ∨ fs.length < (addAll fs ts).length := by
              cases first with
              | true => exact .inl rfl
              | false =>
                obtain ⟨x, hx, hxn⟩ := hf0 rfl
                refine .inr (Nat.lt_of_le_of_ne (len_addAll ts fs) fun e => hxn (addAll_len e.symm x hx))
            have go := rounds_go (M := M) (Lb := L) (n := n + 1) small grew
            have again : fs.length < (addAll fs ts).length ∨ (addAll fs ts).length = 1 := by
              rcases grew with h1 | h1
              · have h2 := hf1 h1
                have h3 := len_addAll ts fs
                omega
              · exact .inl h1
            obtain ⟨Ls5, e5, m5', q5⟩ := id F5
            have hlen5 := Fnd.len m5'
            refine (?a : ?S → _) ?b
            case a =>
              intro suite
              refine ⟨_, rfl, _, rfl, ?_⟩
              by_cases gr : fs.length < (addAll fs ts).length
              · refine iteYes (decide_eq_true gr) ?_
                refine iteYes rfl ?_
                exact suite
              · refine iteNo (decide_eq_false gr) ?_
                refine ⟨_, rfl, d, Ls5, rfl, e5, q5, rfl, _, rfl, ?_⟩
                refine iteYes ((dec_V _ _).trans (decide_eq_true (by rw [hlen5]; have := again.resolve_left gr; omega))) ?_
                exact suite
            case b =>
              have hT5 := hT.kp k5
              refine ⟨_, rfl, _, rfl, _, rfl, d, Ls5, rfl, e5, q5, fun q hq => ?_⟩
              have k6 := k5.and (o := .lst (Ls5.map fun p => V.ref p.1)) hq
              have a6 := (Kp.new (S := []) (o := .lst (Ls5.map fun p => V.ref p.1)) hq).dps NoTup.nil (tabs_solid _) (Fnd.dps m5' q5)
              refine ⟨p, M, L, lv, q, _, addAll fs ts, rfl, hT.kp k6, ok, ⟨lb1, lb2⟩, hLd k6, upd_same, a6, gfs', small, fun q2 acc2 H7 k7 hq2 e7 a7 => ?_⟩
              have kH7 := k6.trans k7
              have F7 := (F5.kp (Kp.new (S := []) (o := .lst (Ls5.map fun p => V.ref p.1)) hq)).kp k7
              refine ⟨_, rfl, q2, rfl, ⟨acc2, SqL.of e7⟩, kH7.tabs Pt tg, fun H8 tb => ?_⟩
              have kT : Kp [] H7 H8 := Kp.tabbed (kH7.tabs Pt tg) tb
              have kH8 := kH7.trans kT
              have F8 := F7.kp kT
              obtain ⟨Ls8, e8, m8, q8⟩ := id F8
              have e8' : H8 q2 = some (.lst acc2) := kT.keep _ _ e7 (fun z => nomatch z) fun ps z => by cases z
              have a8 := kT.dps NoTup.nil (tabs_solid _) a7
              have gn : ∀ t ∈ next M L (addAll fs ts), Good M.m t := good_next ok gfs'
              refine loopG_list (K := K) (xs := acc2) (fun j H9 => H9 = H8 ∧ ∀ x ∈ (next M L (addAll fs ts)).take j, x ∈ addAll fs ts) ⟨rfl, fun x hx => by simp at hx⟩ (fun j H9 _ z => by rw [z.1]; exact SqL.of e8') (fun j x H9 ej z => ?_) (fun H9 z => ?_) gName_mono ?_
              · obtain ⟨rfl, z⟩ := z
                obtain ⟨t, et, hx⟩ := map_dp a8 ej
                obtain ⟨b8, rfl⟩ := ref_of hx
                refine ⟨rfl, _, rfl, _, rfl, b8, d, tD t, Ls8, rfl, rfl, e8, q8, key_tab hx, fun hin => ?_, fun hout => ?_⟩
                · refine ⟨false, rfl, (fun z => nomatch z), fun _ => ⟨rfl, fun y hy => ?_⟩⟩
                  rw [take_next et] at hy
                  rcases List.mem_append.mp hy with hy | hy
                  · exact z y hy
                  · rw [List.mem_singleton.mp hy]; exact (Fnd.mem m8).mp hin
                · refine ⟨true, rfl, fun _ => ?_, fun z => absurd rfl z⟩
                  have hnt : t ∉ addAll fs ts := fun z => hout ((Fnd.mem m8).mpr z)
                  refine ⟨_, ?_, true, addAll fs ts, q2, _, _, rfl, fun _ => ⟨next M L (addAll fs ts), false, kH8, F8, ⟨acc2, e8', a8⟩, ⟨n + 1, hn.trans go, ?_⟩, small, gfs', gn, len_next ⟨lb1, lb2⟩ small, (fun z => by cases z), (fun _ => ⟨t, List.mem_of_getElem? et, hnt⟩), rfl⟩, (fun z => nomatch z)⟩
                  · have h1 := len_addAll ts fs
                    cases first with
                    | true => simp only [if_true]; simp only [Bool.false_eq_true, if_false]; omega
                    | false =>
                      have h2 := grew.resolve_left (by decide)
                      simp only [Bool.false_eq_true, if_false]; omega
                  · have h1 := len_addAll ts fs
                    cases first with
                    | true => simp only [if_true] at hn70; simp only [Bool.false_eq_true, if_false]; omega
                    | false =>
                      have h2 := grew.resolve_left (by decide)
                      simp only [Bool.false_eq_true, if_false] at hn70 ⊢; omega
              · obtain ⟨rfl, z⟩ := z
                rw [show (next M L (addAll fs ts)).take acc2.length = next M L (addAll fs ts) by rw [DpAll.length a7, List.length_map, List.take_length]] at z
                refine ⟨0, by omega, false, addAll fs ts, q2, _, _, rfl, fun z => (by cases z), fun _ => ⟨kH8, F8, ?_⟩⟩
                rw [hn, go]
                exact rounds_end small z
              · rintro σ' H' Q Q' hQ ⟨v, e, v', e', b, a, dd, LL, c1, c2, c3, c4, c5, c6, c7⟩
                exact ⟨v, e, v', e', b, a, dd, LL, c1, c2, c3, c4, c5, fun h => hQ _ _ (c6 h), fun h => hQ _ _ (c7 h)⟩
end
end K51
end

section
set_option Elab.async false
set_option linter.all false
set_option maxRecDepth 100000
set_option maxHeartbeats 8000000
/-! tabled -/
namespace K51
open PySem PySem.Spec PyProof.Rows L2
section
variable {X : Cx} (K : PySem.W.Frag) (P : Program) (w : World)
theorem ix_tbK (hu : X.A.units + 64 < cLine) (hK : X.K = K := by rfl) (hP : X.prog = P := by rfl) (hw : X.w = w := by rfl) : IxR X (rGetT K P w) := by subst hK hP hw; exact ix_tb hu
end
abbrev t3D (t : List (List (List Int))) : PyData := .tuple (t.map tD)
def rDs (M : Mach) (L : Nat × Nat × Nat) (f : List Tab) : List PyData := [lD L, .int 0, iD (rLet M L f), tD (rMul f), t3D (rWrap M L f), iD (rAcc M f)]
def rD (M : Mach) (L : Nat × Nat × Nat) (f : List Tab) : PyData := .tuple (rDs M L f)
theorem t3D_nums (t : List (List (List Int))) : nums (t3D t) = true := numsAll_of fun d h => by obtain ⟨r, _, rfl⟩ := List.mem_map.mp h; exact tD_nums r
theorem rD_nums (M : Mach) (L : Nat × Nat × Nat) (f : List Tab) : nums (rD M L f) = true := by
  refine numsAll_of fun d h => ?_
  simp only [rDs, List.mem_cons, List.not_mem_nil, or_false] at h
  rcases h with rfl | rfl | rfl | rfl | rfl | rfl
  · exact lD_nums L
  · rfl
  · exact iD_nums _
  · exact tD_nums _
  · exact t3D_nums _
  · exact iD_nums _
theorem ints_solid (l : List Int) : solidAll (l.map PyData.int) = true := numsAll_solid _ (nums_ints l)
theorem rng_snoc {α : Type} (n : Nat) (f : Nat → α) : (List.range (n + 1)).map f = (List.range n).map f ++ [f n] := by rw [List.range_succ, List.map_append]; rfl
section
variable {P : Program} {w : World} {K : PySem.W.Frag} {mg : PySem.Str → Option Value} {base : Heap} {C : Addr}
theorem Fnd.idx {f : List Tab} {L : List (Addr × PyData)} (m : L.map (·.2) = f.map tD) {t : Tab} (h : t ∈ f) : idxD L (tD t) (ixN f t) := by
  have hl : ixN f t < f.length := ix_lt h
  have hl2 : ixN f t < L.length := by rw [Fnd.len m]; exact hl
  have e1 := List.getElem?_eq_getElem hl2
  refine ⟨_, e1, ?_⟩
  have e2 : (L.map (·.2))[ixN f t]? = (f.map tD)[ixN f t]? := by rw [m]
  rw [List.getElem?_map, List.getElem?_map, e1, List.getElem?_eq_getElem hl] at e2
  have e3 : f[ixN f t] = t := List.getElem_idxOf hl
  have e4 : (L[ixN f t]).2 = tD f[ixN f t] := Option.some.inj e2
  rw [e4, e3]
theorem look {f : List Tab} {d : Addr} {H2 : Hp} {Q : VK} {v : V} {t : Tab} (F : Fnd P w K d f H2) (hv : Dp K H2 v (tD t)) (ht : t ∈ f) (q : Q (.int (ixN f t : Nat)) H2) : rGetT K P w (.ref d) v H2 Q := by
  obtain ⟨Ls, e, m, hk⟩ := F
  obtain ⟨b, rfl⟩ := ref_of hv
  exact ⟨d, b, tD t, Ls, _, rfl, rfl, e, hk, key_tab hv, Fnd.idx m ht, q⟩
/-- tabled(table, labels, found) -/
def spTabled (K : PySem.W.Frag) (C Pa : Addr) : Sp := fun vs H Q _ => ∃ (p : Addr) (M : Mach) (L : Nat × Nat × Nat) (lv : V) (fl : Addr) (xs : List V) (f : List Tab), vs = [.ref p, lv, .ref fl] ∧ TAt K C H p M ∧ M.Ok L ∧ (L.1 ≤ 3 ∧ L.2.1 ≤ 3 ∧ L.2.2 ≤ 3) ∧ Dp K H lv (lD L) ∧
  H fl = some (.lst xs) ∧ DpAll K H xs (f.map tD) ∧ Clos M L f ∧ f.length ≤ 60 ∧ GxR.TabG H Pa ∧ ∀ v H', Kp [] H H' → Dp K H' v (rD M L f) → Q v H'
abbrev nTabled : List PySem.Str := ["table", "labels", "found", "numbers", "number", "x", "letters", "mul", "wrap", "accepted", "a", "y", "b"]
theorem sc_tabled : FnScope nTabled ["table", "labels", "found"] (defScope s_tabled) := ⟨rfl, rfl, rfl, by decide +kernel, rfl, by decide +kernel, by decide +kernel⟩
theorem ok_tabled {f Pa f1 f2 f3 f4 f5 : Addr} {fd fd1 fd2 fd3 fd4 fd5 : FuncData} (F : L2.Fun K "tabled" "tabled" s_tabled f fd) (T : TCls K mg C) (G : Gs mg)
    (Me : Mth P w K mg base 1 C "empty" ["self"] (spEmpty K C) f1 fd1) (Ml : Mth P w K mg base 2 C "letter" ["self", "a"] (spLetter K C) f2 fd2) (Mj : Mth P w K mg base 1 C "join" ["self", "x", "y"] (spJoin K C) f3 fd3)
    (Ma : Mth P w K mg base 2 C "around" ["self", "a", "b", "x"] (spAround K C) f4 fd4) (Mc : Mth P w K mg base 2 C "is_accepted" ["self", "x"] (spAcc K C Pa) f5 fd5) :
    FnOk P w K mg base CX0 3 f fd ["table", "labels", "found"] (spTabled K C Pa) := by
  refine F.ok sc_tabled (fun vs H Q E h => ?_) (fun cdv A outer s H vs Q E hr h => ?_)
  · obtain ⟨p, M, L, lv, fl, xs, f, rfl, _⟩ := h
    rfl
  · obtain ⟨p, M, L, lv, fl, xs, ff, rfl, hT, ok, ⟨lb0, lb1, lb2⟩, hL, hfl, hxs, hc, hf, tg, k⟩ := h
    have hu64 : (A.deeper (envOfC "tabled" (defScope s_tabled) s.heap.objs.size f cdv)).units + 64 < cLine := by have := hr.un; omega
    refine ⟨_, pss_cons (ps_set (i := 3) sc_tabled.nd rfl (Or.inr rfl) pe_newT)
      (pss_cons (ps_for PassesOwn.never rfl (pi_enum (by rfl) G.enumerate (pa_cons (pv 2) pa_nil)) (pg_tup rfl (pgs_cons (pg_name (i := 4) sc_tabled.nd rfl (Or.inl rfl)) (pgs_cons (pg_name (i := 5) sc_tabled.nd rfl (Or.inl rfl)) pgs_nil)))
        (pss_one (ps_asg (pv 4) (pg_sub (pv 3) (pv 5) (set_tb hu64)))))
      (pss_cons (ps_set (i := 6) sc_tabled.nd rfl (Or.inl rfl) (pe_callTy call_tuple_of (by rfl) G.tuple b_tuple (pa_cons (pe_lc (own := [("a", 10)]) (g := gName 10) (tt := tYes) rfl sc_tabled.nd
          (pi_range1 (by rfl) G.range (pa_cons (pe_ix ix_dp (pv 1) pe_int (fun _ _ => rfl)) pa_nil)) (blkOk_by (by kernel_rfl)) (fun _ _ _ _ _ => pg_name (i := 10) sc_tabled.nd rfl (Or.inl rfl)) (fun _ _ _ _ _ => pts_nil)
          (fun _ _ _ _ _ => pe_ix (ix_tbK K P w hu64) (pv 3) (pe_meth (pv 0) T.cl Ml.m Ml.ok (hr.mono (by decide)) Ml.b .nil pass0 (pa_cons (pv 10) pa_nil)) (fun _ _ => rfl))) pa_nil)))
      (pss_cons (ps_set (i := 7) sc_tabled.nd rfl (Or.inl rfl) (pe_callTy call_tuple_of (by rfl) G.tuple b_tuple (pa_cons (pe_lc (own := [("x", 5)]) (g := gName 5) (tt := tYes) rfl sc_tabled.nd
          (pi_list (pv 2)) (blkOk_by (by kernel_rfl)) (fun _ _ _ _ _ => pg_name (i := 5) sc_tabled.nd rfl (Or.inr rfl)) (fun _ _ _ _ _ => pts_nil)
          (fun _ _ _ _ _ => pe_callTy (cr_tupleK K) (by rfl) G.tuple b_tuple (pa_cons (pe_lc (own := [("y", 11)]) (g := gName 11) (tt := tYes) rfl sc_tabled.nd
            (pi_listK K (pv 2)) (blkOk_by (by kernel_rfl)) (fun _ _ _ _ _ => pg_name (i := 11) sc_tabled.nd rfl (Or.inl rfl)) (fun _ _ _ _ _ => pts_nil)
            (fun _ _ _ _ _ => pe_ix (ix_tbK K P w hu64) (pv 3) (pe_meth (pv 0) T.cl Mj.m Mj.ok (hr.mono (by decide)) Mj.b .nil pass0 (pa_cons (pv 5) (pa_cons (pv 11) pa_nil))) (fun _ _ => rfl))) pa_nil))) pa_nil)))
      (pss_cons (ps_set (i := 8) sc_tabled.nd rfl (Or.inl rfl) (pe_callTy call_tuple_of (by rfl) G.tuple b_tuple (pa_cons (pe_lc (own := [("a", 10)]) (g := gName 10) (tt := tYes) rfl sc_tabled.nd
          (pi_range1 (by rfl) G.range (pa_cons (pe_ix ix_dp (pv 1) pe_int (fun _ _ => rfl)) pa_nil)) (blkOk_by (by kernel_rfl)) (fun _ _ _ _ _ => pg_name (i := 10) sc_tabled.nd rfl (Or.inr rfl)) (fun _ _ _ _ _ => pts_nil)
          (fun _ _ _ _ _ => pe_callTy (cr_tupleK K) (by rfl) G.tuple b_tuple (pa_cons (pe_lc (own := [("b", 12)]) (g := gName 12) (tt := tYes) rfl sc_tabled.nd
            (pi_range1 (by rfl) G.range (pa_cons (pe_ix (ix_dpK K) (pv 1) pe_int (fun _ _ => rfl)) pa_nil)) (blkOk_by (by kernel_rfl)) (fun _ _ _ _ _ => pg_name (i := 12) sc_tabled.nd rfl (Or.inr rfl)) (fun _ _ _ _ _ => pts_nil)
            (fun _ _ _ _ _ => pe_callTy (cr_tupleK K) (by rfl) G.tuple b_tuple (pa_cons (pe_lc (own := [("x", 5)]) (g := gName 5) (tt := tYes) rfl sc_tabled.nd
              (pi_listK K (pv 2)) (blkOk_by (by kernel_rfl)) (fun _ _ _ _ _ => pg_name (i := 5) sc_tabled.nd rfl (Or.inl rfl)) (fun _ _ _ _ _ => pts_nil)
              (fun _ _ _ _ _ => pe_ix (ix_tbK K P w hu64) (pv 3) (pe_meth (pv 0) T.cl Ma.m Ma.ok (hr.mono (by decide)) Ma.b .nil pass0 (pa_cons (pv 10) (pa_cons (pv 12) (pa_cons (pv 5) pa_nil)))) (fun _ _ => rfl))) pa_nil))) pa_nil))) pa_nil)))
      (pss_cons (ps_set (i := 9) sc_tabled.nd rfl (Or.inl rfl) (pe_callTy call_tuple_of (by rfl) G.tuple b_tuple (pa_cons (pe_lc (own := [("number", 4), ("x", 5)]) rfl sc_tabled.nd
          (pi_enum (by rfl) G.enumerate (pa_cons (pv 2) pa_nil)) (blkOk_by (by kernel_rfl)) (fun _ _ _ _ _ => pg_tupK K (n := 2) rfl (pgs_cons (pg_name (i := 4) sc_tabled.nd rfl (Or.inl rfl)) (pgs_cons (pg_name (i := 5) sc_tabled.nd rfl (Or.inl rfl)) pgs_nil)))
          (fun _ _ _ _ _ => pts_one (pt_val (pe_meth (pv 0) T.cl Mc.m Mc.ok (hr.mono (by decide)) Mc.b .nil pass0 (pa_cons (pv 5) pa_nil)))) (fun _ _ _ _ _ => pv 4)) pa_nil)))
      (pss_one (ps_ret (pe_tup (pa_cons (pv 1) (pa_cons (pe_ix (ix_tb hu64) (pv 3) (pe_meth0 (pv 0) T.cl Me.m Me.ok (hr.mono (by decide)) Me.b .nil pass0) (fun _ _ => rfl)) (pa_cons (pv 6) (pa_cons (pv 7) (pa_cons (pv 8) (pa_cons (pv 9) pa_nil)))))))))))))), ?_⟩
    intro d hd
    obtain ⟨dx, mv, hp, hM⟩ := id hT
    have lenf := DpAll.length hxs
    rw [List.length_map] at lenf
    have flH : ∀ {H' : Hp}, Kp [] H H' → SqL K H' fl xs := fun k2 => SqL.of (k2.keep _ _ hfl (fun z => nomatch z) fun ps z => by cases z)
    have xsH : ∀ {H' : Hp}, Kp [] H H' → DpAll K H' xs (ff.map tD) := fun k2 => k2.dps NoTup.nil (tabs_solid ff) hxs
    have pH : ∀ {H' : Hp}, Kp [] H H' → H' p = some (.ins C dx (fldT mv)) := fun k2 => k2.keep _ _ hp (fun z => nomatch z) fun ps z => by cases z
    have lH : ∀ {H' : Hp}, Kp [] H H' → Dp K H' lv (lD L) := fun k2 => k2.dp NoTup.nil (nums_solid _ (lD_nums L)) hL
    have gf : ∀ t ∈ ff, Good M.m t := hc.good
    refine ⟨_, rfl, fl, xs, rfl, flH (Kp.new hd), ?_⟩
    refine for_it (walk_enum (K := K) (a := fl) (xs := xs)) (fun i σ H' => (∃ o4 o5, σ = [some (V.ref p), some lv, some (V.ref fl), some (V.ref d), o4, o5, none, none, none, none, none, none, none]) ∧ Kp [] H H' ∧ Fnd P w K d (ff.take i) H')
      ⟨⟨none, none, rfl⟩, Kp.new hd, ⟨[], upd_same, rfl, fun p hp => nomatch hp⟩⟩ (fun i σ H' _ z => flH z.2.1) (fun i x σ H1 H2 hlt z y => ?_) fun σ H' z => ?_
    · obtain ⟨⟨o4, o5, rfl⟩, k1, F1⟩ := z
      obtain ⟨Tp, x1, x2, rfl, hTp, rfl, ex1, ex2⟩ := y
      cases ex1
      have k2 := k1.and (o := .tup [.int (i : Nat), x2]) hTp
      obtain ⟨t, et, hx⟩ := map_dp (xsH k2) ex2
      obtain ⟨b, rfl⟩ := ref_of hx
      obtain ⟨Ls, e2, m2, q2⟩ := F1.kp (Kp.new (S := []) (o := .tup [.int (i : Nat), .ref b]) hTp)
      have hlen := Fnd.len m2
      rw [List.length_take, Nat.min_eq_left (by omega)] at hlen
      have hnt : t ∉ ff.take i := fun z => by
        obtain ⟨j, hj, ej⟩ := List.getElem_of_mem z
        rw [List.length_take] at hj
        have hn := hc.nd
        have e1 : ff[j]? = some t := by
          rw [List.getElem_take] at ej
          rw [List.getElem?_eq_getElem (by omega), ej]
        have : j = i := (List.getElem?_inj (by omega) hn).mp (e1.trans et.symm)
        omega
      refine ⟨Tp, _, rfl, SqT.of upd_same, rfl, _, _, rfl, _, _, rfl, rfl, ?_⟩
      refine ⟨_, rfl, _, rfl, _, rfl, d, b, tD t, Ls, rfl, rfl, by rw [hlen], e2, q2, key_tab hx, fun z => hnt ((Fnd.mem m2).mp z), by omega, ⟨_, _, rfl⟩, k2.put e2 (fun ps z => by cases z) (.inr hd), ?_⟩
      rw [take_next et]
      exact Fnd.add e2 m2 q2 hx
    · rw [lenf, List.take_length] at z
      obtain ⟨⟨o4, o5, rfl⟩, k1, F1⟩ := z
      -- letters
      refine ⟨_, rfl, lDs L, 0, .int (L.1 : Int), lH k1, rfl, rfl, fun u hu => ?_⟩
      obtain rfl := Dp.intI hu
      refine ⟨_, rfl, by omega, by omega, fun D hD => ?_⟩
      refine lc_range (lo := 0) (n := (L.1 : Int).toNat) (fun i H2 => Grow K [] H' D (((List.range i).map fun (a : Nat) => (ixN ff (tLetter M (a : Int)) : Int)).map .int) H2) (Grow.zero hD) (fun i H2 hi g => ⟨rfl, ?_⟩) fun H2 g => ?_
      · rw [Int.toNat_natCast] at hi
        refine yesT ?_
        have k2 := k1.trans g.kp
        refine ⟨_, rfl, _, rfl, p, dx, _, rfl, pH k2, fldT_no _ k_letter, _, rfl, p, M, _, rfl, hT.kp k2, ok.m3, by have := ok.nlets; omega, fun v H3 k3 d3 => ?_⟩
        rw [Int.zero_add] at d3
        refine look ((F1.kp g.kp).kp k3) d3 (letter_in hc ⟨by omega, by omega⟩) ?_
        rw [rng_snoc, List.map_append]
        exact Grow.step hD (fun z => nomatch z) NoTup.nil g k3 (ints_solid _) (Dp.int _) rfl (by simp; omega)
      · rw [Int.toNat_natCast] at g
        obtain ⟨acc, kD, eD, aD⟩ := g
        refine ⟨D, acc, rfl, .inl ⟨SqL.of eD, fun q hq => ?_⟩⟩
        obtain ⟨k2, dLet⟩ := Grow.done (S := []) kD aD (ints_solid _) hq
        have kH := k1.trans k2
        have F2 := F1.kp k2
        generalize upd H2 q (.tup acc) = HA at kH F2 dLet
        clear kD eD aD k2 hq F1 k1 hD
        -- mul
        refine ⟨_, rfl, fl, rfl, ⟨xs, flH kH⟩, fun D hD => ?_⟩
        refine lc_list (K := K) (xs := xs) (fun i H2 => Grow K [] HA D (((ff.take i).map fun x => ff.map fun y => (ixN ff (tJoin x y) : Int)).map iD) H2) (Grow.zero hD) (fun i H2 _ g => flH (kH.trans g.kp)) (fun i x H2 ei g => ⟨rfl, ?_⟩) fun H2 g => ?_
        · refine yesT ?_
          have k2 := kH.trans g.kp
          have F3 := F2.kp g.kp
          obtain ⟨t, et, hx⟩ := map_dp (xsH k2) ei
          have ht : t ∈ ff := List.mem_of_getElem? et
          refine ⟨_, rfl, fl, rfl, ⟨xs, flH k2⟩, fun D2 hD2 => ?_⟩
          refine lc_list (K := K) (xs := xs) (fun j H3 => Grow K [] H2 D2 (((ff.take j).map fun y => (ixN ff (tJoin t y) : Int)).map .int) H3) (Grow.zero hD2) (fun j H3 _ g => flH (k2.trans g.kp)) (fun j y H3 ej g2 => ⟨rfl, ?_⟩) fun H3 g2 => ?_
          · refine yesT ?_
            have k3 := k2.trans g2.kp
            obtain ⟨u, eu, hy⟩ := map_dp (xsH k3) ej
            obtain ⟨t', et', hx'⟩ := map_dp (xsH k3) ei
            obtain rfl : t' = t := by rw [et] at et'; exact (Option.some.inj et').symm
            have hu : u ∈ ff := List.mem_of_getElem? eu
            refine ⟨_, rfl, _, rfl, p, dx, _, rfl, pH k3, fldT_no _ k_join, _, rfl, _, rfl, p, M.m, x, y, t', u, rfl, hx', hy, gf _ ht, gf _ hu, ok.m3, fun v H4 k4 d4 => ?_⟩
            refine look ((F3.kp g2.kp).kp k4) d4 (join_in hc ht hu) ?_
            rw [take_next eu, List.map_append, List.map_append]
            exact Grow.step hD2 (fun z => nomatch z) NoTup.nil g2 k4 (ints_solid _) (Dp.int _) rfl (by simp; omega)
          · rw [lenf, List.take_length] at g2
            obtain ⟨acc2, kD2, eD2, aD2⟩ := g2
            refine ⟨D2, acc2, rfl, .inl ⟨SqL.of eD2, fun q2 hq2 => ?_⟩⟩
            obtain ⟨k5, d5⟩ := Grow.done (S := []) kD2 aD2 (ints_solid _) hq2
            rw [take_next et, List.map_append, List.map_append]
            exact Grow.step hD (fun z => nomatch z) NoTup.nil g k5 (rows_solid _) d5 (nums_solid _ (iD_nums _)) (by simp; omega)
        · rw [lenf, List.take_length] at g
          obtain ⟨acc, kD, eD, aD⟩ := g
          refine ⟨D, acc, rfl, .inl ⟨SqL.of eD, fun q hq => ?_⟩⟩
          obtain ⟨k2, dMul⟩ := Grow.done (S := []) kD aD (rows_solid _) hq
          have kH' := kH.trans k2
          have F3 := F2.kp k2
          have dLet' := k2.dp NoTup.nil (nums_solid _ (iD_nums _)) dLet
          generalize upd H2 q (.tup acc) = HB at kH' F3 dMul dLet'
          clear kD eD aD k2 hq F2 kH dLet hD
          -- wrap
          let wr2 : Nat → Nat → List Int := fun a b => ff.map fun x => (ixN ff (tAround M (a : Int) (b : Int) x) : Int)
          let wr1 : Nat → Tab := fun a => (List.range L.2.2).map fun (b : Nat) => wr2 a b
          refine ⟨_, rfl, lDs L, 1, .int (L.2.1 : Int), lH kH', rfl, rfl, fun u hu => ?_⟩
          obtain rfl := Dp.intI hu
          refine ⟨_, rfl, by omega, by omega, fun D hD => ?_⟩
          refine lc_range (lo := 0) (n := (L.2.1 : Int).toNat) (fun a H2 => Grow K [] HB D (((List.range a).map wr1).map tD) H2) (Grow.zero hD) (fun a H2 ha g => ⟨rfl, ?_⟩) fun H2 g => ?_
          · rw [Int.toNat_natCast] at ha
            refine yesT ?_
            have k2 := kH'.trans g.kp
            refine ⟨_, rfl, lDs L, 2, .int (L.2.2 : Int), lH k2, rfl, rfl, fun u hu => ?_⟩
            obtain rfl := Dp.intI hu
            refine ⟨_, rfl, by omega, by omega, fun D2 hD2 => ?_⟩
            refine lc_range (lo := 0) (n := (L.2.2 : Int).toNat) (fun b H3 => Grow K [] H2 D2 (((List.range b).map fun (b : Nat) => wr2 a b).map iD) H3) (Grow.zero hD2) (fun b H3 hb g2 => ⟨rfl, ?_⟩) fun H3 g2 => ?_
            · rw [Int.toNat_natCast] at hb
              refine yesT ?_
              have k3 := k2.trans g2.kp
              have F4 := (F3.kp g.kp).kp g2.kp
              refine ⟨_, rfl, fl, rfl, ⟨xs, flH k3⟩, fun D3 hD3 => ?_⟩
              refine lc_list (K := K) (xs := xs) (fun j H4 => Grow K [] H3 D3 (((ff.take j).map fun x => (ixN ff (tAround M (a : Int) (b : Int) x) : Int)).map .int) H4) (Grow.zero hD3) (fun j H4 _ g => flH (k3.trans g.kp)) (fun j x H4 ej g3 => ⟨rfl, ?_⟩) fun H4 g3 => ?_
              · refine yesT ?_
                have k4 := k3.trans g3.kp
                obtain ⟨t, et, hx⟩ := map_dp (xsH k4) ej
                have ht : t ∈ ff := List.mem_of_getElem? et
                refine ⟨_, rfl, _, rfl, p, dx, _, rfl, pH k4, fldT_no _ k_around, _, rfl, _, rfl, _, rfl, p, M, L, _, _, x, t, rfl, hT.kp k4, ok, hx, gf _ ht, fun v H5 k5 d5 => ?_⟩
                rw [Int.zero_add, Int.zero_add] at d5
                refine look ((F4.kp g3.kp).kp k5) d5 (around_in hc ⟨by omega, by omega⟩ ⟨by omega, by omega⟩ ht) ?_
                rw [take_next et, List.map_append, List.map_append]
                exact Grow.step hD3 (fun z => nomatch z) NoTup.nil g3 k5 (ints_solid _) (Dp.int _) rfl (by simp; omega)
              · rw [lenf, List.take_length] at g3
                obtain ⟨acc3, kD3, eD3, aD3⟩ := g3
                refine ⟨D3, acc3, rfl, .inl ⟨SqL.of eD3, fun q3 hq3 => ?_⟩⟩
                obtain ⟨k6, d6⟩ := Grow.done (S := []) kD3 aD3 (ints_solid _) hq3
                rw [rng_snoc, List.map_append]
                exact Grow.step hD2 (fun z => nomatch z) NoTup.nil g2 k6 (rows_solid _) d6 (nums_solid _ (iD_nums _)) (by simp; omega)
            · rw [Int.toNat_natCast] at g2
              obtain ⟨acc2, kD2, eD2, aD2⟩ := g2
              refine ⟨D2, acc2, rfl, .inl ⟨SqL.of eD2, fun q2 hq2 => ?_⟩⟩
              obtain ⟨k5, d5⟩ := Grow.done (S := []) kD2 aD2 (rows_solid _) hq2
              rw [rng_snoc, List.map_append]
              exact Grow.step hD (fun z => nomatch z) NoTup.nil g k5 (tabs_solid _) d5 (nums_solid _ (tD_nums _)) (by simp; omega)
          · rw [Int.toNat_natCast] at g
            obtain ⟨acc, kD, eD, aD⟩ := g
            refine ⟨D, acc, rfl, .inl ⟨SqL.of eD, fun q hq => ?_⟩⟩
            obtain ⟨k2, dWr⟩ := Grow.done (S := []) kD aD (tabs_solid _) hq
            have kH := kH'.trans k2
            have F4 := F3.kp k2
            have dLet := k2.dp NoTup.nil (nums_solid _ (iD_nums _)) dLet'
            have dMul' := k2.dp NoTup.nil (nums_solid _ (tD_nums (rMul ff))) dMul
            have dWr' : Dp K (upd H2 q (.tup acc)) (.ref q) (t3D (rWrap M L ff)) := dWr
            generalize upd H2 q (.tup acc) = HC at kH F4 dLet dMul' dWr'
            clear kD eD aD k2 hq dWr hD F3 kH' dMul dLet'
            -- accepted
            refine ⟨_, rfl, fl, xs, rfl, flH kH, fun D hD => ?_⟩
            let nm : Nat → List Int := fun i => ((List.range i).filter fun (i : Nat) => tAcc M (at_ ff (i : Int))).map fun (i : Nat) => (i : Int)
            have nml : ∀ i, (nm i).length ≤ i := fun i => by
              show (List.map _ _).length ≤ i
              rw [List.length_map]
              have := List.length_filter_le (fun (i : Nat) => tAcc M (at_ ff (i : Int))) (List.range i)
              rw [List.length_range] at this
              exact this
            refine lc_it (walk_enum (K := K) (a := fl) (xs := xs)) (fun i H2 => Grow K [] HC D ((nm i).map .int) H2) (Grow.zero hD) (fun i H2 _ g => flH (kH.trans g.kp)) (fun i x H2 H3 hlt g y => ?_) fun H2 g => ?_
            · obtain ⟨Tp, x1, x2, rfl, hTp, rfl, ex1, ex2⟩ := y
              cases ex1
              have kT : Kp [] H2 (upd H2 Tp (.tup [.int (i : Nat), x2])) := Kp.new hTp
              have k2 := (kH.trans g.kp).trans kT
              obtain ⟨t, et, hx⟩ := map_dp (xsH k2) ex2
              have ht : t ∈ ff := List.mem_of_getElem? et
              refine ⟨Tp, _, rfl, SqT.of upd_same, rfl, _, _, rfl, _, _, rfl, rfl, rfl, ?_⟩
              refine ⟨_, rfl, p, dx, _, rfl, pH k2, fldT_no _ k_acc, _, rfl, p, M, L, x2, t, rfl, hT.kp k2, ok, hx, gf _ ht, k2.tabs Pa tg, fun H4 k4 => ?_⟩
              have eat : at_ ff ((i : Nat) : Int) = t := by
                rw [at_nat (by omega)]
                have := List.getElem?_eq_getElem (l := ff) (i := i) (by omega)
                rw [this] at et
                exact Option.some.inj et
              have enm : nm (i + 1) = nm i ++ (if tAcc M t = true then [((i : Nat) : Int)] else []) := by
                show List.map _ (List.filter _ (List.range (i + 1))) = _
                rw [List.range_succ, List.filter_append, List.map_append, List.filter_cons, List.filter_nil, eat]
                split <;> rfl
              refine ⟨_, rfl, ?_⟩
              by_cases ca : tAcc M t = true
              · refine iteYes ca ?_
                refine ⟨_, rfl, ?_⟩
                rw [enm, if_pos ca, List.map_append]
                exact Grow.step hD (fun z => nomatch z) NoTup.nil g (kT.trans k4) (ints_solid _) (Dp.int _) rfl (by rw [List.length_map]; have := nml i; omega)
              · refine iteNo (Bool.eq_false_iff.mpr ca) ?_
                rw [enm, if_neg ca, List.append_nil]
                obtain ⟨acc, kD, eD, aD⟩ := g
                exact ⟨acc, kD.trans (kT.trans k4), (kT.trans k4).keep _ _ eD (fun z => nomatch z) (fun ps z => by cases z), (kT.trans k4).dps NoTup.nil (ints_solid _) aD⟩
            · rw [lenf] at g
              obtain ⟨acc, kD, eD, aD⟩ := g
              refine ⟨D, acc, rfl, .inl ⟨SqL.of eD, fun q hq => ?_⟩⟩
              obtain ⟨k2, dAcc⟩ := Grow.done (S := []) kD aD (ints_solid _) hq
              have kE := kH.trans k2
              have F5 := F4.kp k2
              have dLet2 := k2.dp NoTup.nil (nums_solid _ (iD_nums _)) dLet
              have dMul2 := k2.dp NoTup.nil (nums_solid _ (tD_nums (rMul ff))) dMul'
              have dWr2 := k2.dp NoTup.nil (nums_solid _ (t3D_nums _)) dWr'
              have dAcc' : Dp K (upd H2 q (.tup acc)) (.ref q) (iD (rAcc M ff)) := dAcc
              generalize upd H2 q (.tup acc) = HE at kE F5 dLet2 dMul2 dWr2 dAcc'
              refine ⟨_, rfl, _, rfl, _, rfl, p, dx, _, rfl, pH kE, fldT_no _ k_empty, p, M, rfl, hT.kp kE, ok.m3, fun v H7 k7 d7 => ?_⟩
              refine look (F5.kp k7) d7 (empty_in hc) ?_
              rw [ix_empty hc]
              refine ⟨_, rfl, _, rfl, _, rfl, _, rfl, (by show 6 ≤ sizeLine; decide), fun r hr => ?_⟩
              have kF : ∀ o, Kp [] HE (upd H7 r o) := fun o => k7.trans (Kp.new hr)
              refine k _ _ (kE.trans (kF _)) (Dp.tup (SqT.of upd_same) ?_)
              exact .cons (lH (kE.trans (kF _))) (.cons (.int 0) (.cons ((kF _).dp NoTup.nil (nums_solid _ (iD_nums _)) dLet2) (.cons ((kF _).dp NoTup.nil (nums_solid _ (tD_nums (rMul ff))) dMul2) (.cons ((kF _).dp NoTup.nil (nums_solid _ (t3D_nums _)) dWr2) (.cons ((kF _).dp NoTup.nil (nums_solid _ (iD_nums _)) dAcc') .nil)))))
end
end K51
end

section
set_option Elab.async false
set_option linter.all false
set_option maxRecDepth 100000
set_option maxHeartbeats 8000000
/-! made_reader, machine_reader, _law_told -/
namespace K51
open PySem PySem.Spec PyProof.Rows L2
/-- the class TooManyValues -/
structure TMV (K : PySem.W.Frag) (mg : PySem.Str → Option Value) (C : Addr) : Prop where
  g : mg "TooManyValues" = some (.ref C)
  x : PySem.W.excIn K C He.veBase "ValueError.__new__" = true
  k : PySem.W.keepIn K (.ref C) = true
  b : PySem.W.subIn K (.ref C) (.type "BaseException") = some true
  t : PySem.W.typeIn K (.ref C) = some (.type "type")
  e : PySem.W.exmOne K (.ref C) (.ref C) = some true
section
variable {P : Program} {w : World} {K : PySem.W.Frag} {mg : PySem.Str → Option Value} {base : Heap} {C Ce : Addr}
/-- made_reader(table, labels, most) -/
def spMade (K : PySem.W.Frag) (C Ce Pt Pa : Addr) : Sp := fun vs H Q E => ∃ (p : Addr) (M : Mach) (L : Nat × Nat × Nat) (lv : V), vs = [.ref p, lv, .int 60] ∧ TAt K C H p M ∧ M.Ok L ∧ (L.1 ≤ 3 ∧ L.2.1 ≤ 3 ∧ L.2.2 ≤ 3) ∧ Dp K H lv (lD L) ∧ GxR.TabG H Pt ∧ GxR.TabG H Pa ∧
  (tables M L = none → ∀ H', Kp [] H H' → E (.ref Ce) none H') ∧ (∀ r, tables M L = some r → ∀ v H', Kp [] H H' → Dp K H' v (rD M L r) → Q v H')
theorem sc_made : FnScope ["table", "labels", "most", "found"] ["table", "labels", "most"] (defScope s_made_reader) := ⟨rfl, rfl, rfl, by decide +kernel, rfl, by decide +kernel, by decide +kernel⟩
theorem ok_made {f Pt Pa f1 f2 : Addr} {fd fd1 fd2 : FuncData} (F : L2.Fun K "made_reader" "made_reader" s_made_reader f fd) (V : TMV K mg Ce)
    (Cc : Cal P w K mg base CX0 4 "collect" ["table", "labels", "most"] (spCollect K C Pt) f1 fd1) (Ct : Cal P w K mg base CX0 3 "tabled" ["table", "labels", "found"] (spTabled K C Pa) f2 fd2) :
    FnOk P w K mg base (L2.CX P w) 5 f fd ["table", "labels", "most"] (spMade K C Ce Pt Pa) := by
  refine F.okX sc_made (fun vs H Q E h => ?_) (fun cdv A outer s H vs Q E hr h => ?_)
  · obtain ⟨p, M, L, lv, rfl, _⟩ := h
    rfl
  · obtain ⟨p, M, L, lv, rfl, hT, ok, lb, hL, tt, ta, kE, kS⟩ := h
    refine ⟨_, pss_cons (ps_set (i := 3) sc_made.nd rfl (Or.inl rfl) (pe_call Cc.ok hr rfl Cc.g Cc.kp Cc.b .nil pass0 (pa_cons (pv 0) (pa_cons (pv 1) (pa_cons (pv 2) pa_nil)))))
      (pss_cons (ps_if (pt_cmpR op_isN (pv 3) pe_non (nomark _)) (pss_one (ps_raise rfl (takes_of rfl rfl rfl rfl) (pmk_own PySem.F.excBase_ValueError V.x V.g V.k (raises_own V.b V.t) rfl))) pss_nil)
      (pss_one (ps_ret (pe_call Ct.ok (hr.mono (by decide)) rfl Ct.g Ct.kp Ct.b .nil pass0 (pa_cons (pv 0) (pa_cons (pv 1) (pa_cons (pv 3) pa_nil))))))), ?_⟩
    refine ⟨_, rfl, _, rfl, _, rfl, p, M, L, lv, rfl, hT, ok, lb, hL, tt, fun hn H1 k1 => ?_, fun r hr q acc H1 k1 hq e1 a1 => ?_⟩
    · refine ⟨_, rfl, rfl, _, rfl, ?_⟩
      refine iteYes (decide_eq_true rfl) ?_
      exact kE hn H1 k1
    · refine ⟨_, rfl, rfl, _, rfl, ?_⟩
      refine iteNo (decide_eq_false fun z => nomatch z) ?_
      have hc := tables_clos ok hr
      exact ⟨_, rfl, _, rfl, _, rfl, p, M, L, lv, q, acc, r, rfl, hT.kp k1, ok, lb, k1.dp NoTup.nil (nums_solid _ (lD_nums L)) hL, e1, a1, hc, hc.len, k1.tabs Pa ta, fun v H2 k2 d2 => kS r hr v H2 (k1.trans k2) d2⟩
/-- machine_reader(labels, machine) -/
def spMach (K : PySem.W.Frag) (Ce Pt Pa : Addr) : Sp := fun vs H Q E => ∃ (M : Mach) (L : Nat × Nat × Nat) (lv mv : V), vs = [lv, mv] ∧ Dp K H mv (mD M) ∧ M.Ok L ∧ (L.1 ≤ 3 ∧ L.2.1 ≤ 3 ∧ L.2.2 ≤ 3) ∧ Dp K H lv (lD L) ∧ GxR.TabG H Pt ∧ GxR.TabG H Pa ∧
  (tables M L = none → ∀ H', Kp [] H H' → E (.ref Ce) none H') ∧ (∀ r, tables M L = some r → ∀ v H', Kp [] H H' → Dp K H' v (rD M L r) → Q v H')
theorem sc_mach : FnScope ["labels", "machine"] ["labels", "machine"] (defScope s_machine_reader) := ⟨rfl, rfl, rfl, by decide +kernel, rfl, by decide +kernel, by decide +kernel⟩
theorem ok_mach {f Pt Pa f1 fI : Addr} {fd fd1 fdI : FuncData} {t60 : Tok} (F : L2.Fun K "machine_reader" "machine_reader" s_machine_reader f fd) (T : TCls K mg C) (Mk0 : Mk K C fI) (GI : FnOk P w K mg base CX0 1 fI fdI ["self", "machine"] (spInit C)) (bI : Binds K fdI ["self", "machine"] [])
    (g60 : mg "MOST_VALUES_values" = some (.int 60 t60)) (Cm : Cal P w K mg base (L2.CX P w) 5 "made_reader" ["table", "labels", "most"] (spMade K C Ce Pt Pa) f1 fd1) :
    FnOk P w K mg base (L2.CX P w) 6 f fd ["labels", "machine"] (spMach K Ce Pt Pa) := by
  refine F.okX sc_mach (fun vs H Q E h => ?_) (fun cdv A outer s H vs Q E hr h => ?_)
  · obtain ⟨M, L, lv, mv, rfl, _⟩ := h
    rfl
  · obtain ⟨M, L, lv, mv, rfl, hM, ok, lb, hL, tt, ta, kE, kS⟩ := h
    refine ⟨_, pss_one (ps_ret (pe_call Cm.ok hr rfl Cm.g Cm.kp Cm.b .nil (passes_call (takes_of rfl rfl rfl rfl) fun _ _ _ _ h => h)
      (pa_cons (pe_make Mk0 GI (hr.mono (by decide)) rfl T.g bI .nil pass0 (pa_cons (pv 1) pa_nil)) (pa_cons (pv 0) (pa_cons (pe_glob (v := .int 60) rfl g60 ⟨_, rfl⟩) pa_nil))))), ?_⟩
    refine ⟨_, rfl, fun x dx nx ndx nex => ⟨x, dx, mv, rfl, upd_same, rfl, ?_⟩⟩
    have kx : Kp [] H (upd (upd (upd H dx (.own x)) x (.ins C dx [])) x (.ins C dx (fldT mv))) := by
      have k1 : Kp [] H (upd H dx (.own x)) := Kp.new ndx
      have nx' : upd H dx (.own x) x = none := by rw [upd_ne (Ne.symm nex)]; exact nx
      exact (k1.and nx').put upd_same (fun ps z => by cases z) (.inr nx)
    have hT : TAt K C (upd (upd (upd H dx (.own x)) x (.ins C dx [])) x (.ins C dx (fldT mv))) x M := ⟨dx, mv, upd_same, kx.dp NoTup.nil (nums_solid _ (mD_nums M)) hM⟩
    refine ⟨_, rfl, x, M, L, lv, rfl, hT, ok, lb, kx.dp NoTup.nil (nums_solid _ (lD_nums L)) hL, kx.tabs Pt tt, kx.tabs Pa ta, fun hn H1 k1 => kE hn H1 (kx.trans k1), fun r hr v H1 k1 d1 => kS r hr v H1 (kx.trans k1) d1⟩
/-- _law_told(labels, machine) -/
def spTold (K : PySem.W.Frag) (Pt Pa : Addr) : Sp := fun vs H Q _ => ∃ (M : Mach) (L : Nat × Nat × Nat) (lv mv : V), vs = [lv, mv] ∧ Dp K H mv (mD M) ∧ M.Ok L ∧ (L.1 ≤ 3 ∧ L.2.1 ≤ 3 ∧ L.2.2 ≤ 3) ∧ Dp K H lv (lD L) ∧ GxR.TabG H Pt ∧ GxR.TabG H Pa ∧
  (tables M L = none → ∀ H', Kp [] H H' → Q .non H') ∧ (∀ r, tables M L = some r → ∀ v H', Kp [] H H' → Dp K H' v (rD M L r) → Q v H')
abbrev nTold : List PySem.Str := ["_law_labels_here", "_law_machine_here", "error"]
theorem sc_told : FnScope nTold ["_law_labels_here", "_law_machine_here"] (defScope s_L_told) := ⟨rfl, rfl, rfl, by decide +kernel, rfl, by decide +kernel, by decide +kernel⟩
theorem ok_told {f Pt Pa f1 : Addr} {fd fd1 : FuncData} (F : L2.Fun K "_law_told" "_law_told" s_L_told f fd) (V : TMV K mg Ce) (Cm : Cal P w K mg base (L2.CX P w) 6 "machine_reader" ["labels", "machine"] (spMach K Ce Pt Pa) f1 fd1) :
    FnOk P w K mg base CX0 7 f fd ["_law_labels_here", "_law_machine_here"] (spTold K Pt Pa) := by
  refine F.ok sc_told (fun vs H Q E h => ?_) (fun cdv A outer s H vs Q E hr h => ?_)
  · obtain ⟨M, L, lv, mv, rfl, _⟩ := h
    rfl
  · obtain ⟨M, L, lv, mv, rfl, hM, ok, lb, hL, tt, ta, kE, kS⟩ := h
    refine ⟨_, pss_one (ps_try_as (i := 2) (tb := fun W => tRet (tCallS (spMach K Ce Pt Pa) (WE W) (tCons (tVar 0) (tCons (tVar 1) tNil)))) (ts := fun _ _ _ => tRet (tC .non)) (Wout := fun _ _ _ _ => False) rfl rfl sc_told.nd rfl rfl ⟨rfl, by decide, .inl V.g⟩ takes0
      (fun W pn xe tk _ => pss_one (ps_ret (by exact (pe_callS Cm.ok hr rfl Cm.g Cm.kp Cm.b (fun σ => passAt tk σ) (by exact (pa_cons (pv 0) (pa_cons (pv 1) pa_nil))))))) (fun a oe cls d pn hz hf => pss_one (ps_ret pe_non))), ?_⟩
    refine ⟨_, rfl, _, rfl, M, L, lv, mv, rfl, hM, ok, lb, hL, tt, ta, fun hn H1 k1 => ?_, fun r hr v H1 k1 d1 => kS r hr v H1 k1 d1⟩
    exact ⟨true, V.e, fun _ a ha => kE hn H1 k1, fun q => nomatch q⟩
end
end K51
end

section
set_option Elab.async false
set_option linter.all false
set_option maxRecDepth 100000
set_option maxHeartbeats 8000000
/-! the law's draws -/
namespace K51
open PySem PySem.Spec PyProof.Rows L2
section
variable {P : Program} {w : World} {K : PySem.W.Frag} {mg : PySem.Str → Option Value} {base : Heap}
/-- the state of the draws at a, over the list at c -/
def DSt (a c : Addr) (H : Hp) : Prop := ∃ (x pos mix : Int), H a = some (.lst [.int x, .int pos, .ref c, .int mix]) ∧ 0 ≤ pos
theorem DSt.noTup {H : Hp} {a c : Addr} (h : DSt a c H) : NoTup [a] H := let ⟨_, _, _, e, _⟩ := h; NoTup.one e
theorem DSt.kp {H H' : Hp} {a c : Addr} (h : DSt a c H) (k : Kp [] H H') : DSt a c H' := by
  obtain ⟨x, pos, mix, e, hp⟩ := h
  exact ⟨x, pos, mix, k.keep _ _ e (fun z => nomatch z) (fun ps z => by cases z), hp⟩
theorem DSt.other {H : Hp} {a c D : Addr} {o : HO} (h : DSt a c H) (hD : D ≠ a) : DSt a c (L2.upd H D o) := by
  obtain ⟨x, pos, mix, e, hp⟩ := h
  exact ⟨x, pos, mix, by rw [upd_ne (Ne.symm hD)]; exact e, hp⟩
theorem DSt.put {H : Hp} {a c : Addr} {ns : List Int} {ys : List V} (hc : SqL K H c (ns.map V.int)) (hn : c ≠ a) : SqL K (upd H a (.lst ys)) c (ns.map V.int) := by
  rcases hc with (h | ⟨o, h⟩) | h
  · exact .inl (.inl (by rw [upd_ne hn]; exact h))
  · exact .inl (.inr ⟨o, by rw [upd_ne hn]; exact h⟩)
  · exact .inr h
/-- several ways, one end -/
theorem joinS {G : Prop} {Fx : L2.St → Hp → Prop} {S : L2.St → Hp → Prop} (a : (∀ σ H', Fx σ H' → S σ H') → G) (b : ∀ σ H', Fx σ H' → S σ H') : G := a b
/-- _law_draw(state, limit) -/
def spDraw (K : PySem.W.Frag) : Sp := fun vs H Q _ => ∃ (a c : Addr) (ns : List Int) (l : Int), vs = [.ref a, .int l] ∧ 0 < l ∧ l < 1000 ∧ DSt a c H ∧ SqL K H c (ns.map V.int) ∧ c ≠ a ∧ ∀ d H', 0 ≤ d → d < l → Kp [a] H H' → DSt a c H' → Q (.int d) H'
abbrev nDraw : List PySem.Str := ["_law_state", "_law_limit", "_law_position", "_law_cell", "_law_mixed", "_law_digit"]
theorem sc_draw : FnScope nDraw ["_law_state", "_law_limit"] (defScope s_L_draw) := ⟨rfl, rfl, rfl, by decide +kernel, rfl, by decide +kernel, by decide +kernel⟩
theorem ok_draw {f : Addr} {fd : FuncData} (F : L2.Fun K "_law_draw" "_law_draw" s_L_draw f fd) (G : Gs mg) : FnOk P w K mg base CX0 1 f fd ["_law_state", "_law_limit"] (spDraw K) := by
  refine F.ok sc_draw (fun vs H Q E h => ?_) (fun cdv A outer s H vs Q E hr h => ?_)
  · obtain ⟨a, c, ns, l, rfl, _⟩ := h
    rfl
  · obtain ⟨a, c, ns, l, rfl, l0, l1, ⟨x, pos, mix, ea, hpos⟩, hcs, hca, k⟩ := h
    refine ⟨_, pss_cons (ps_if (pt_cmpR op_lt (pe_ix ix_list (pv 0) pe_int (fun _ _ => rfl)) (pv 1) (nomark _))
        (pss_cons (ps_set (i := 2) sc_draw.nd rfl (Or.inl rfl) (pe_ix ix_list (pv 0) pe_int (fun _ _ => rfl)))
        (pss_cons (ps_asg (pe_op op_add (pv 2) pe_int) (pg_sub (pv 0) pe_int set_list))
        (pss_cons (ps_set (i := 3) sc_draw.nd rfl (Or.inl rfl) pe_int)
        (pss_cons (ps_if (pt_cmpR op_lt (pv 2) (pe_callB call_len_seq (by rfl) G.len b_len (pa_cons (pe_ix ix_list (pv 0) pe_int (fun _ _ => rfl)) pa_nil)) (nomark _))
          (pss_one (ps_set (i := 3) sc_draw.nd rfl (Or.inl rfl) (pe_ix ix_list (pe_ix ix_list (pv 0) pe_int (fun _ _ => rfl)) (pv 2) (fun _ _ => rfl)))) pss_nil)
        (pss_one (ps_if (pt_cmpR op_ge (pv 3) (pe_op op_pow pe_int pe_int) (nomark _))
          (pss_one (ps_asg (pv 3) (pg_sub (pv 0) pe_int set_list)))
          (pss_cons (ps_asg (pe_op op_modN (pe_callTy call_int1 (by rfl) G.int b_int (pa_cons (pe_op op_mul (pe_op op_add (pe_op op_add (pe_op op_add (pe_ix ix_list (pv 0) pe_int (fun _ _ => rfl)) (pe_op op_modN (pe_callTy call_int1 (by rfl) G.int b_int (pa_cons (pv 3) pa_nil)) pe_int)) (pv 2)) pe_int) pe_int) pa_nil)) pe_int) (pg_sub (pv 0) pe_int set_list))
          (pss_cons (ps_set (i := 4) sc_draw.nd rfl (Or.inl rfl) (pe_op op_modN (pe_callTy call_int1 (by rfl) G.int b_int (pa_cons (pe_op op_add (pe_op op_mul (pe_ix ix_list (pv 0) pe_int (fun _ _ => rfl)) pe_int) pe_int) pa_nil)) pe_int))
          (pss_one (ps_asg (pe_op op_add (pe_op op_mul (pv 4) pe_int) (pe_op op_modN (pe_callTy call_int1 (by rfl) G.int b_int (pa_cons (pe_op op_add (pe_op op_mul (pv 4) pe_int) (pe_ix ix_list (pv 0) pe_int (fun _ _ => rfl))) pa_nil)) pe_int)) (pg_sub (pv 0) pe_int set_list))))))))))) pss_nil)
      (pss_cons (ps_set (i := 5) sc_draw.nd rfl (Or.inl rfl) (pe_op op_modN (pe_callTy call_int1 (by rfl) G.int b_int (pa_cons (pe_ix ix_list (pv 0) pe_int (fun _ _ => rfl)) pa_nil)) (pv 1)))
      (pss_cons (ps_asg (pe_op op_fdivN (pe_ix ix_list (pv 0) pe_int (fun _ _ => rfl)) (pv 1)) (pg_sub (pv 0) pe_int set_list))
      (pss_one (ps_ret (pv 5))))), ?_⟩
    let Fx : L2.St → Hp → Prop := fun σ H' => (∃ o2 o3 o4 o5, σ = [some (V.ref a), some (V.int l), o2, o3, o4, o5]) ∧ ∃ x' pos' mix' : Int, H' a = some (.lst [.int x', .int pos', .ref c, .int mix']) ∧ 0 ≤ pos' ∧ Kp [a] H H' ∧ SqL K H' c (ns.map V.int)
    have step : ∀ {H' : Hp} {ys : List V} {zs : List V}, H' a = some (.lst zs) → Kp [a] H H' → SqL K H' c (ns.map V.int) → Kp [a] H (upd H' a (.lst ys)) ∧ SqL K (upd H' a (.lst ys)) c (ns.map V.int) := fun {H' ys zs} e k1 h1 =>
      ⟨k1.put e (fun ps z => by cases z) (.inl (List.mem_singleton.mpr rfl)), DSt.put h1 hca⟩
    refine joinS (Fx := Fx) (S := ?S) ?a ?b
    case a =>
      intro fin
      refine ⟨_, rfl, a, _, _, _, rfl, rfl, SqL.of ea, rfl, _, rfl, _, _, rfl, rfl, _, rfl, ?_⟩
      by_cases lt : x < l
      case neg =>
        refine iteNo (decide_eq_false lt) ?_
        exact fin _ _ ⟨⟨_, _, _, _, rfl⟩, x, pos, mix, ea, hpos, Kp.refl, hcs⟩
      refine iteYes (decide_eq_true lt) ?_
      refine ⟨_, rfl, a, _, _, _, rfl, rfl, SqL.of ea, rfl, ?_⟩
      refine ⟨_, rfl, _, _, rfl, rfl, _, rfl, a, _, _, 1, rfl, rfl, ea, rfl, ?_⟩
      let H1 : Hp := upd H a (.lst [.int x, .int (pos + 1), .ref c, .int mix])
      obtain ⟨k1, c1⟩ := step (ys := [.int x, .int (pos + 1), .ref c, .int mix]) ea Kp.refl hcs
      have e1 : H1 a = some (.lst [.int x, .int (pos + 1), .ref c, .int mix]) := upd_same
      have k1 : Kp [a] H H1 := k1
      have c1 : SqL K H1 c (ns.map V.int) := c1
      -- what follows once the cell is known
      refine joinS (Fx := fun σ H' => (∃ cell : Int, σ = [some (V.ref a), some (V.int l), some (V.int pos), some (V.int cell), none, none]) ∧ H' = H1) (S := ?S2) ?c ?d
      case c =>
        intro fin2
        refine ⟨_, rfl, _, rfl, a, _, _, _, rfl, rfl, SqL.of e1, rfl, c, _, rfl, .inl c1, _, _, rfl, rfl, _, rfl, ?_⟩
        by_cases lt2 : pos < ((ns.map V.int).length : Int)
        · refine iteYes (decide_eq_true lt2) ?_
          rw [List.length_map] at lt2
          have hget : (ns.map V.int)[pos.toNat]? = some (V.int (ns.getD pos.toNat 0)) := by
            rw [List.getElem?_map, List.getElem?_eq_getElem (by omega), List.getD_eq_getElem?_getD, List.getElem?_eq_getElem (by omega)]; rfl
          have hat : atI (ns.map V.int) pos = some (V.int (ns.getD pos.toNat 0)) := by
            have := atI_nat hget
            rwa [Int.toNat_of_nonneg hpos] at this
          refine ⟨_, rfl, a, _, _, _, rfl, rfl, SqL.of e1, rfl, _, rfl, c, _, _, _, rfl, rfl, c1, hat, ?_⟩
          exact fin2 _ _ ⟨⟨_, rfl⟩, rfl⟩
        · refine iteNo (decide_eq_false lt2) ?_
          exact fin2 _ _ ⟨⟨_, rfl⟩, rfl⟩
      case d =>
        rintro σ H' ⟨⟨cell, rfl⟩, rfl⟩
        refine ⟨_, rfl, _, _, rfl, rfl, ⟨by decide, by decide, by decide⟩, _, _, rfl, rfl, _, rfl, ?_⟩
        by_cases big : cell ≥ (10 : Int) ^ (18 : Int).toNat
        · refine iteYes (decide_eq_true big) ?_
          refine ⟨_, rfl, _, rfl, a, _, _, 0, rfl, rfl, e1, rfl, ?_⟩
          obtain ⟨k2, c2⟩ := step (ys := [.int cell, .int (pos + 1), .ref c, .int mix]) e1 k1 c1
          exact fin _ _ ⟨⟨_, _, _, _, rfl⟩, cell, pos + 1, mix, upd_same, by omega, k2, c2⟩
        · refine iteNo (decide_eq_false big) ?_
          refine ⟨_, rfl, a, _, _, _, rfl, rfl, SqL.of e1, rfl, _, rfl, .inl ⟨_, rfl, _, _, rfl, rfl, (by show (2147483629 : Int) ≠ 0; decide), _, _, rfl, rfl, _, rfl, _, _, rfl, rfl, _, _, rfl, rfl, _, _, rfl, rfl, .inr ⟨by decide, by decide⟩,
            .inl ⟨_, rfl, _, _, rfl, rfl, (by show (2147483647 : Int) ≠ 0; decide), _, rfl, a, _, _, 3, rfl, rfl, e1, rfl, ?_⟩⟩⟩
          let m1 : Int := Int.fmod ((mix + cell.fmod 2147483629 + pos + 1) * 48271) 2147483647
          obtain ⟨k2, c2⟩ := step (ys := [.int x, .int (pos + 1), .ref c, .int m1]) e1 k1 c1
          have e2 : (upd H1 a (.lst [.int x, .int (pos + 1), .ref c, .int m1])) a = some (.lst [.int x, .int (pos + 1), .ref c, .int m1]) := upd_same
          refine ⟨_, rfl, a, _, _, _, rfl, rfl, SqL.of e2, rfl, _, _, rfl, rfl, .inr ⟨by decide, by decide⟩, _, _, rfl, rfl, .inl ⟨_, rfl, _, _, rfl, rfl, (by show (2147483629 : Int) ≠ 0; decide), ?_⟩⟩
          refine ⟨_, rfl, _, _, rfl, rfl, .inr ⟨by decide, by decide⟩, _, rfl, _, _, rfl, rfl, .inr ⟨by decide, by decide⟩, _, rfl, a, _, _, _, rfl, rfl, SqL.of e2, rfl, _, _, rfl, rfl, .inl ⟨_, rfl, _, _, rfl, rfl, (by show (2147483587 : Int) ≠ 0; decide), _, _, rfl, rfl, _, rfl, a, _, _, 0, rfl, rfl, e2, rfl, ?_⟩⟩
          obtain ⟨k3, c3⟩ := step (ys := ([.int x, .int (pos + 1), .ref c, .int m1] : List V).set 0 _) e2 k2 c2
          exact fin _ _ ⟨⟨_, _, _, _, rfl⟩, _, pos + 1, m1, upd_same, by omega, k3, c3⟩
    case b =>
      rintro σ H' ⟨⟨o2, o3, o4, o5, rfl⟩, x', pos', mix', e', hp', k', c'⟩
      refine ⟨_, rfl, a, _, _, _, rfl, rfl, SqL.of e', rfl, .inl ⟨_, rfl, _, rfl, _, _, rfl, rfl, by omega, ?_⟩⟩
      refine ⟨_, rfl, a, _, _, _, rfl, rfl, SqL.of e', rfl, _, rfl, _, _, rfl, rfl, ⟨by omega, by omega⟩, _, rfl, a, _, _, 0, rfl, rfl, e', rfl, ?_⟩
      obtain ⟨k2, c2⟩ := step (ys := [.int (x'.fdiv l), .int pos', .ref c, .int mix']) e' k' c'
      refine ⟨_, rfl, k _ _ (Int.fmod_nonneg_of_pos _ l0) (Int.fmod_lt_of_pos _ l0) k2 ⟨_, pos', mix', upd_same, hp'⟩⟩
end
end K51
end

section
set_option Elab.async false
set_option linter.all false
set_option maxRecDepth 100000
set_option maxHeartbeats 8000000
/-! labels and steps drawn -/
namespace K51
open PySem PySem.Spec PyProof.Rows L2
section
variable {P : Program} {w : World} {K : PySem.W.Frag} {mg : PySem.Str → Option Value} {base : Heap}
/-- the state of the draws stands: what a drawing def is given -/
def DIn (K : PySem.W.Frag) (H : Hp) (a c : Addr) (ns : List Int) : Prop := DSt a c H ∧ SqL K H c (ns.map V.int) ∧ c ≠ a
theorem DIn.kp {H H' : Hp} {a c : Addr} {ns : List Int} (h : DIn K H a c ns) (k : Kp [a] H H') (d : DSt a c H') : DIn K H' a c ns := ⟨d, k.lst (fun z => h.2.2 (List.mem_singleton.mp z)) h.2.1, h.2.2⟩
theorem DIn.ne {H : Hp} {a c D : Addr} {ns : List Int} (h : DIn K H a c ns) (hD : H D = none) : D ≠ a := fun z => by
  obtain ⟨_, _, _, e, _⟩ := h.1
  rw [z, e] at hD; cases hD
/-- a list of drawn data grows -/
def GrowD (K : PySem.W.Frag) (H : Hp) (a c D : Addr) (ds : List PyData) (H' : Hp) : Prop := Grow K [a] H D ds H' ∧ DSt a c H'
theorem GrowD.zero {H : Hp} {a c D : Addr} {ns : List Int} (h : DIn K H a c ns) (hD : H D = none) : GrowD K H a c D [] (upd H D (.lst [])) := ⟨Grow.zero hD, h.1.other (h.ne hD)⟩
theorem GrowD.step {H H' H4 : Hp} {a c D : Addr} {ns : List Int} {ds : List PyData} {d : PyData} {y : V} (h : DIn K H a c ns) (hD : H D = none) (g : GrowD K H a c D ds H') (k : Kp [a] H' H4) (d4 : DSt a c H4) (sd : solidAll ds = true) (hy : Dp K H4 y d) (sy : solid d = true) (hl : ds.length < 10000000) :
    ∃ acc, H4 D = some (.lst acc) ∧ acc.length < sizeLine ∧ GrowD K H a c D (ds ++ [d]) (upd H4 D (.lst (acc ++ [y]))) := by
  obtain ⟨acc, e, hl, g'⟩ := Grow.step hD (fun z => h.ne hD (List.mem_singleton.mp z)) g.2.noTup g.1 k sd hy sy hl
  exact ⟨acc, e, hl, g', d4.other (h.ne hD)⟩
/-- _law_labels(state) -/
def LabOk (L : Nat × Nat × Nat) : Prop := (1 ≤ L.1 ∧ L.1 ≤ 3) ∧ (1 ≤ L.2.1 ∧ L.2.1 ≤ 3) ∧ 1 ≤ L.2.2 ∧ L.2.2 ≤ 3
def spLabels (K : PySem.W.Frag) : Sp := fun vs H Q _ => ∃ (a c : Addr) (ns : List Int), vs = [.ref a] ∧ DIn K H a c ns ∧ ∀ L v H', LabOk L → Dp K H' v (lD L) → Kp [a] H H' → DSt a c H' → Q v H'
theorem sc_labels : FnScope ["_law_state", "_law_k"] ["_law_state"] (defScope s_L_labels) := ⟨rfl, rfl, rfl, by decide +kernel, rfl, by decide +kernel, by decide +kernel⟩
theorem ok_labels {f f1 : Addr} {fd fd1 : FuncData} (F : L2.Fun K "_law_labels" "_law_labels" s_L_labels f fd) (G : Gs mg) (Cd : Cal P w K mg base CX0 1 "_law_draw" ["_law_state", "_law_limit"] (spDraw K) f1 fd1) :
    FnOk P w K mg base CX0 2 f fd ["_law_state"] (spLabels K) := by
  refine F.ok sc_labels (fun vs H Q E h => ?_) (fun cdv A outer s H vs Q E hr h => ?_)
  · obtain ⟨a, c, ns, rfl, _⟩ := h
    rfl
  · obtain ⟨a, c, ns, rfl, hd, k⟩ := h
    refine ⟨_, pss_one (ps_ret (pe_callTy call_tuple_of (by rfl) G.tuple b_tuple (pa_cons (pe_lc (own := [("_law_k", 1)]) (g := gName 1) (tt := tYes) rfl sc_labels.nd
      (pi_range1 (by rfl) G.range (pa_cons pe_int pa_nil)) (blkOk_by (by kernel_rfl)) (fun _ _ _ _ _ => pg_name (i := 1) sc_labels.nd rfl (Or.inl rfl)) (fun _ _ _ _ _ => pts_nil)
      (fun _ _ _ _ _ => pe_op op_add pe_int (pe_call Cd.ok hr rfl Cd.g Cd.kp Cd.b .nil pass0 (pa_cons (pv 0) (pa_cons pe_int pa_nil))))) pa_nil))), ?_⟩
    refine ⟨3, rfl, by decide, by decide, fun D hD => ?_⟩
    refine lc_range (lo := 0) (n := 3) (fun i H' => ∃ xs : List Int, xs.length = i ∧ (∀ x ∈ xs, 1 ≤ x ∧ x ≤ 3) ∧ GrowD K H a c D (xs.map .int) H') ⟨[], rfl, (fun x hx => nomatch hx), GrowD.zero hd hD⟩ (fun i H' hi z => ⟨rfl, ?_⟩) fun H' z => ?_
    · obtain ⟨xs, hl, hb, g⟩ := z
      refine yesT ?_
      have dn := hd.kp g.1.kp g.2
      refine ⟨_, rfl, a, c, ns, 3, rfl, by decide, by decide, dn.1, dn.2.1, dn.2.2, fun d H4 d0 d3 k4 s4 => ?_⟩
      refine ⟨_, _, rfl, rfl, ?_⟩
      obtain ⟨acc, e, hlt, g'⟩ := GrowD.step (d := .int (1 + d)) hd hD g k4 s4 (ints_solid _) (Dp.int _) rfl (by rw [List.length_map]; omega)
      refine ⟨acc, e, hlt, xs ++ [1 + d], by rw [List.length_append, hl]; rfl, fun x hx => ?_, by rw [List.map_append]; exact g'⟩
      rcases List.mem_append.mp hx with z | z
      · exact hb x z
      · rw [List.mem_singleton.mp z]; omega
    · obtain ⟨xs, hl, hb, g⟩ := z
      obtain ⟨⟨acc, kD, eD, aD⟩, s1⟩ := g
      refine ⟨D, acc, rfl, .inl ⟨SqL.of eD, fun q hq => ?_⟩⟩
      obtain ⟨k2, d2⟩ := Grow.done (S := [a]) kD aD (ints_solid _) hq
      have hqa : q ≠ a := fun z => by
        obtain ⟨_, _, _, e, _⟩ := s1
        rw [z, e] at hq; cases hq
      match xs, hl with
      | [x, y, z], _ =>
        have b1 := hb x (by simp)
        have b2 := hb y (by simp)
        have b3 := hb z (by simp)
        refine k (x.toNat, y.toNat, z.toNat) _ _ ⟨⟨by show 1 ≤ x.toNat; omega, by show x.toNat ≤ 3; omega⟩, ⟨by show 1 ≤ y.toNat; omega, by show y.toNat ≤ 3; omega⟩, by show 1 ≤ z.toNat; omega, by show z.toNat ≤ 3; omega⟩ ?_ k2 (s1.other hqa)
        have e : lD (x.toNat, y.toNat, z.toNat) = .tuple ([x, y, z].map .int) := by
          show PyData.tuple [.int ((x.toNat : Nat) : Int), .int ((y.toNat : Nat) : Int), .int ((z.toNat : Nat) : Int)] = _
          rw [Int.toNat_of_nonneg (by omega), Int.toNat_of_nonneg (by omega), Int.toNat_of_nonneg (by omega)]; rfl
        rw [e]; exact d2
/-- _law_steps_of(state, size, limits) -/
def InL (row lims : List Int) : Prop := row.length = lims.length ∧ ∀ (i : Nat) (x l : Int), row[i]? = some x → lims[i]? = some l → 0 ≤ x ∧ x < l
def spSteps (K : PySem.W.Frag) : Sp := fun vs H Q _ => ∃ (a c : Addr) (ns : List Int) (n : Nat) (la : Addr) (lims : List Int), vs = [.ref a, .int n, .ref la] ∧ DIn K H a c ns ∧ 0 < n ∧ n < 100 ∧ H la = some (.lst (lims.map V.int)) ∧ la ≠ a ∧ (∀ l ∈ lims, 0 < l ∧ l < 100) ∧ lims.length ≤ 10 ∧
  ∀ (rows : List Row) v H', rows.length < n → (∀ row ∈ rows, InL row lims) → Dp K H' v (tD rows) → Kp [a] H H' → DSt a c H' → Q v H'
abbrev nSteps : List PySem.Str := ["_law_state", "_law_size", "_law_limits", "_law_k", "_law_limit"]
theorem sc_steps : FnScope nSteps ["_law_state", "_law_size", "_law_limits"] (defScope s_L_steps_of) := ⟨rfl, rfl, rfl, by decide +kernel, rfl, by decide +kernel, by decide +kernel⟩
theorem ok_steps {f f1 : Addr} {fd fd1 : FuncData} (F : L2.Fun K "_law_steps_of" "_law_steps_of" s_L_steps_of f fd) (G : Gs mg) (Cd : Cal P w K mg base CX0 1 "_law_draw" ["_law_state", "_law_limit"] (spDraw K) f1 fd1) :
    FnOk P w K mg base CX0 2 f fd ["_law_state", "_law_size", "_law_limits"] (spSteps K) := by
  refine F.ok sc_steps (fun vs H Q E h => ?_) (fun cdv A outer s H vs Q E hr h => ?_)
  · obtain ⟨a, c, ns, n, la, lims, rfl, _⟩ := h
    rfl
  · obtain ⟨a, c, ns, n, la, lims, rfl, hd, n0, n1, hla, hlaa, hlims, hll, k⟩ := h
    refine ⟨_, pss_one (ps_ret (pe_callTy call_tuple_of (by rfl) G.tuple b_tuple (pa_cons (pe_lc (own := [("_law_k", 3)]) (g := gName 3) (tt := tYes) rfl sc_steps.nd
      (pi_range1 (by rfl) G.range (pa_cons (pe_call Cd.ok hr rfl Cd.g Cd.kp Cd.b .nil pass0 (pa_cons (pv 0) (pa_cons (pv 1) pa_nil))) pa_nil)) (blkOk_by (by kernel_rfl)) (fun _ _ _ _ _ => pg_name (i := 3) sc_steps.nd rfl (Or.inl rfl)) (fun _ _ _ _ _ => pts_nil)
      (fun _ _ _ _ _ => pe_callTy (cr_tupleK K) (by rfl) G.tuple b_tuple (pa_cons (pe_lc (own := [("_law_limit", 4)]) (g := gName 4) (tt := tYes) rfl sc_steps.nd
        (pi_listK K (pv 2)) (blkOk_by (by kernel_rfl)) (fun _ _ _ _ _ => pg_name (i := 4) sc_steps.nd rfl (Or.inl rfl)) (fun _ _ _ _ _ => pts_nil)
        (fun _ _ _ _ _ => pe_call Cd.ok hr rfl Cd.g Cd.kp Cd.b .nil pass0 (pa_cons (pv 0) (pa_cons (pv 4) pa_nil)))) pa_nil))) pa_nil))), ?_⟩
    refine ⟨_, rfl, _, rfl, a, c, ns, n, rfl, by omega, by omega, hd.1, hd.2.1, hd.2.2, fun d H1 d0 dn k1 s1 => ?_⟩
    refine ⟨d, rfl, by omega, by omega, fun D hD => ?_⟩
    have hd1 := hd.kp k1 s1
    refine lc_range (lo := 0) (n := d.toNat) (fun i H' => ∃ rows : List Row, rows.length = i ∧ (∀ row ∈ rows, InL row lims) ∧ GrowD K H1 a c D (rows.map iD) H') ⟨[], rfl, (fun x hx => nomatch hx), GrowD.zero hd1 hD⟩ (fun i H' hi z => ⟨rfl, ?_⟩) fun H' z => ?_
    · obtain ⟨rows, hl, hb, g⟩ := z
      refine yesT ?_
      have kH' := k1.trans g.1.kp
      have laH : ∀ {H2 : Hp}, Kp [a] H H2 → SqL K H2 la (lims.map V.int) := fun k2 => k2.lst (fun z => hlaa (List.mem_singleton.mp z)) (SqL.of hla)
      have hd2 := hd1.kp g.1.kp g.2
      refine ⟨_, rfl, la, rfl, ⟨_, laH kH'⟩, fun D2 hD2 => ?_⟩
      refine lc_list (K := K) (xs := lims.map V.int) (fun j H2 => ∃ row : Row, InL row (lims.take j) ∧ GrowD K H' a c D2 (row.map .int) H2) ⟨[], ⟨rfl, fun i x l e _ => by simp at e⟩, GrowD.zero hd2 hD2⟩ (fun j H2 _ z => let ⟨_, _, g2⟩ := z; laH (kH'.trans g2.1.kp)) (fun j x H2 ej z => ⟨rfl, ?_⟩) fun H2 z => ?_
      · obtain ⟨row, hrow, g2⟩ := z
        rw [List.getElem?_map] at ej
        obtain ⟨l, el, rfl⟩ : ∃ l, lims[j]? = some l ∧ x = V.int l := by
          cases hr : lims[j]? with
          | none => rw [hr] at ej; cases ej
          | some l => rw [hr] at ej; exact ⟨l, rfl, (Option.some.inj ej).symm⟩
        have bl := hlims l (List.mem_of_getElem? el)
        have hjl := (List.getElem?_eq_some_iff.mp el).1
        refine yesT ?_
        have hd3 := hd2.kp g2.1.kp g2.2
        refine ⟨_, rfl, _, rfl, a, c, ns, l, rfl, bl.1, by omega, hd3.1, hd3.2.1, hd3.2.2, fun d4 H4 e0 e1 k4 s4 => ?_⟩
        have rl := hrow.1
        rw [List.length_take, Nat.min_eq_left (by omega)] at rl
        obtain ⟨acc, e, hlt, g'⟩ := GrowD.step (d := .int d4) hd2 hD2 g2 k4 s4 (ints_solid _) (Dp.int _) rfl (by rw [List.length_map]; omega)
        refine ⟨acc, e, hlt, row ++ [d4], ⟨by rw [List.length_append, rl, List.length_take]; simp; omega, fun i x l' ex el' => ?_⟩, by rw [List.map_append]; exact g'⟩
        rw [take_next el] at el'
        rcases Nat.lt_or_ge i j with ij | ij
        · rw [List.getElem?_append_left (by omega)] at ex
          rw [List.getElem?_append_left (by rw [List.length_take]; omega)] at el'
          exact hrow.2 i x l' ex el'
        · rw [List.getElem?_append_right (by omega), rl] at ex
          rw [List.getElem?_append_right (by rw [List.length_take]; omega), List.length_take, Nat.min_eq_left (by omega)] at el'
          have hi0 : i - j = 0 := by
            have := (List.getElem?_eq_some_iff.mp ex).1
            simp at this; omega
          rw [hi0] at ex el'
          simp only [List.getElem?_cons_zero, Option.some.injEq] at ex el'
          subst ex el'
          exact ⟨e0, e1⟩
      · rw [List.length_map] at z
        rw [List.take_length] at z
        obtain ⟨row, hrow, ⟨acc, kD2, eD2, aD2⟩, s2⟩ := z
        refine ⟨D2, acc, rfl, .inl ⟨SqL.of eD2, fun q hq => ?_⟩⟩
        obtain ⟨k3, d3⟩ := Grow.done (S := [a]) kD2 aD2 (ints_solid _) hq
        have hqa : q ≠ a := fun z => by
          obtain ⟨_, _, _, e, _⟩ := s2
          rw [z, e] at hq; cases hq
        obtain ⟨acc', e, hlt, g'⟩ := GrowD.step (d := iD row) hd1 hD g k3 (s2.other hqa) (rows_solid _) d3 (nums_solid _ (iD_nums _)) (by rw [List.length_map]; omega)
        refine ⟨acc', e, hlt, rows ++ [row], by rw [List.length_append, hl]; rfl, fun r hr => ?_, by rw [List.map_append]; exact g'⟩
        rcases List.mem_append.mp hr with z | z
        · exact hb r z
        · rw [List.mem_singleton.mp z]; exact hrow
    · obtain ⟨rows, hl, hb, ⟨acc, kD, eD, aD⟩, s2⟩ := z
      refine ⟨D, acc, rfl, .inl ⟨SqL.of eD, fun q hq => ?_⟩⟩
      obtain ⟨k3, d3⟩ := Grow.done (S := [a]) kD aD (rows_solid _) hq
      have hqa : q ≠ a := fun z => by
        obtain ⟨_, _, _, e, _⟩ := s2
        rw [z, e] at hq; cases hq
      exact k rows _ _ (by omega) hb d3 (k1.trans k3) (s2.other hqa)
end
end K51
end

section
set_option Elab.async false
set_option linter.all false
set_option maxRecDepth 100000
set_option maxHeartbeats 8000000
/-! the machine drawn -/
namespace K51
open PySem PySem.Spec PyProof.Rows L2
section
variable {P : Program} {w : World} {K : PySem.W.Frag} {mg : PySem.Str → Option Value} {base : Heap}
theorem GrowD.move {H H' H4 : Hp} {a c D : Addr} {ns : List Int} {ds : List PyData} (h : DIn K H a c ns) (hD : H D = none) (g : GrowD K H a c D ds H') (k : Kp [a] H' H4) (d4 : DSt a c H4) (sd : solidAll ds = true) : GrowD K H a c D ds H4 := by
  obtain ⟨⟨acc, kD, eD, aD⟩, s1⟩ := g
  exact ⟨⟨acc, kD.trans k, k.keep _ _ eD (fun z => h.ne hD (List.mem_singleton.mp z)) (fun ps z => by cases z), k.dps s1.noTup sd aD⟩, d4⟩
theorem DSt.fresh {H : Hp} {a c q : Addr} (h : DSt a c H) (hq : H q = none) : q ≠ a := fun z => by
  obtain ⟨_, _, _, e, _⟩ := h
  rw [z, e] at hq; cases hq
def tri (r : Row) : Int × Int × Int := (r.getD 0 0, r.getD 1 0, r.getD 2 0)
def quad (r : Row) : Int × Int × Int × Int := (r.getD 0 0, r.getD 1 0, r.getD 2 0, r.getD 3 0)
theorem rows_tri {rows : List Row} (h : ∀ r ∈ rows, r.length = 3) : tD rows = .tuple ((rows.map tri).map d3) := by
  unfold tD
  rw [List.map_map]
  congr 1
  refine List.map_congr_left fun r hr => ?_
  match r, h r hr with
  | [x, y, z], _ => rfl
theorem rows_quad {rows : List Row} (h : ∀ r ∈ rows, r.length = 4) : tD rows = .tuple ((rows.map quad).map d4) := by
  unfold tD
  rw [List.map_map]
  congr 1
  refine List.map_congr_left fun r hr => ?_
  match r, h r hr with
  | [x, y, z, u], _ => rfl
theorem InL.at_ {row lims : List Int} (h : InL row lims) {i : Nat} {l : Int} (e : lims[i]? = some l) : 0 ≤ row.getD i 0 ∧ row.getD i 0 < l := by
  have hi : i < row.length := by rw [h.1]; exact (List.getElem?_eq_some_iff.mp e).1
  have ex := List.getElem?_eq_getElem hi
  have := h.2 i _ l ex e
  rw [List.getD_eq_getElem?_getD, ex]
  exact this
/-- _law_machine(state, labels) -/
def spMachine (K : PySem.W.Frag) : Sp := fun vs H Q _ => ∃ (a c : Addr) (ns : List Int) (L : Nat × Nat × Nat) (lv : V), vs = [.ref a, lv] ∧ DIn K H a c ns ∧ LabOk L ∧ Dp K H lv (lD L) ∧
  ∀ M v H', M.Ok L → Dp K H' v (mD M) → Kp [a] H H' → DSt a c H' → Q v H'
abbrev nMachine : List PySem.Str := ["_law_state", "_law_labels_here", "_law_states", "_law_signs", "_law_firsts", "_law_lasts", "_law_letters", "_law_calls", "_law_returns", "_law_p"]
theorem sc_machine : FnScope nMachine ["_law_state", "_law_labels_here"] (defScope s_L_machine) := ⟨rfl, rfl, rfl, by decide +kernel, rfl, by decide +kernel, by decide +kernel⟩
theorem ok_machine {f f1 f2 : Addr} {fd fd1 fd2 : FuncData} (F : L2.Fun K "_law_machine" "_law_machine" s_L_machine f fd) (G : Gs mg) (Cd : Cal P w K mg base CX0 1 "_law_draw" ["_law_state", "_law_limit"] (spDraw K) f1 fd1)
    (Cs : Cal P w K mg base CX0 2 "_law_steps_of" ["_law_state", "_law_size", "_law_limits"] (spSteps K) f2 fd2) :
    FnOk P w K mg base CX0 3 f fd ["_law_state", "_law_labels_here"] (spMachine K) := by
  refine F.ok sc_machine (fun vs H Q E h => ?_) (fun cdv A outer s H vs Q E hr h => ?_)
  · obtain ⟨a, c, ns, L, lv, rfl, _⟩ := h
    rfl
  · obtain ⟨a, c, ns, L, lv, rfl, hd, lok, hL, k⟩ := h
    have hr1 : Room 1 _ := hr.mono (by decide)
    refine ⟨_, pss_cons (ps_set (i := 2) sc_machine.nd rfl (Or.inl rfl) (pe_op op_add pe_int (pe_call Cd.ok hr1 rfl Cd.g Cd.kp Cd.b .nil pass0 (pa_cons (pv 0) (pa_cons pe_int pa_nil)))))
      (pss_cons (ps_set (i := 3) sc_machine.nd rfl (Or.inl rfl) (pe_op op_add pe_int (pe_call Cd.ok hr1 rfl Cd.g Cd.kp Cd.b .nil pass0 (pa_cons (pv 0) (pa_cons pe_int pa_nil)))))
      (pss_cons (ps_set (i := 4) sc_machine.nd rfl (Or.inl rfl) (pe_callTy call_tuple_of (by rfl) G.tuple b_tuple (pa_cons (pe_lc (own := [("_law_p", 9)]) (g := gName 9) rfl sc_machine.nd
          (pi_range1 (by rfl) G.range (pa_cons (pv 2) pa_nil)) (blkOk_by (by kernel_rfl)) (fun _ _ _ _ _ => pg_name (i := 9) sc_machine.nd rfl (Or.inl rfl))
          (fun _ _ _ _ _ => pts_one (PW.pt (pw_or (pt_cmpR op_eq (pv 9) pe_int (nomark _)) (pw_or1 (pt_cmpR op_eq (pe_call Cd.ok hr1 rfl Cd.g Cd.kp Cd.b .nil pass0 (pa_cons (pv 0) (pa_cons pe_int pa_nil))) pe_int (nomark _))))))
          (fun _ _ _ _ _ => pv 9)) pa_nil)))
      (pss_cons (ps_set (i := 5) sc_machine.nd rfl (Or.inl rfl) (pe_callTy call_tuple_of (by rfl) G.tuple b_tuple (pa_cons (pe_lc (own := [("_law_p", 9)]) (g := gName 9) rfl sc_machine.nd
          (pi_range1 (by rfl) G.range (pa_cons (pv 2) pa_nil)) (blkOk_by (by kernel_rfl)) (fun _ _ _ _ _ => pg_name (i := 9) sc_machine.nd rfl (Or.inl rfl))
          (fun _ _ _ _ _ => pts_one (pt_cmpR op_eq (pe_call Cd.ok hr1 rfl Cd.g Cd.kp Cd.b .nil pass0 (pa_cons (pv 0) (pa_cons pe_int pa_nil))) pe_int (nomark _)))
          (fun _ _ _ _ _ => pv 9)) pa_nil)))
      (pss_cons (ps_set (i := 6) sc_machine.nd rfl (Or.inl rfl) (pe_call Cs.ok hr rfl Cs.g Cs.kp Cs.b .nil pass0 (pa_cons (pv 0) (pa_cons pe_int (pa_cons (pe_lst (pa_cons (pv 2) (pa_cons (pe_ix ix_dp (pv 1) pe_int (fun _ _ => rfl)) (pa_cons (pv 2) pa_nil)))) pa_nil)))))
      (pss_cons (ps_set (i := 7) sc_machine.nd rfl (Or.inl rfl) (pe_call Cs.ok hr rfl Cs.g Cs.kp Cs.b .nil pass0 (pa_cons (pv 0) (pa_cons pe_int (pa_cons (pe_lst (pa_cons (pv 2) (pa_cons (pe_ix ix_dp (pv 1) pe_int (fun _ _ => rfl)) (pa_cons (pv 2) (pa_cons (pv 3) pa_nil))))) pa_nil)))))
      (pss_cons (ps_set (i := 8) sc_machine.nd rfl (Or.inl rfl) (pe_call Cs.ok hr rfl Cs.g Cs.kp Cs.b .nil pass0 (pa_cons (pv 0) (pa_cons pe_int (pa_cons (pe_lst (pa_cons (pv 2) (pa_cons (pv 3) (pa_cons (pe_ix ix_dp (pv 1) pe_int (fun _ _ => rfl)) (pa_cons (pv 2) pa_nil))))) pa_nil)))))
      (pss_one (ps_ret (pe_tup (pa_cons (pv 2) (pa_cons (pv 4) (pa_cons (pv 6) (pa_cons (pv 7) (pa_cons (pv 8) (pa_cons (pv 5) pa_nil))))))))))))))), ?_⟩
    have lH : ∀ {H' : Hp}, Kp [a] H H' → Dp K H' lv (lD L) := fun k2 => k2.dp hd.1.noTup (nums_solid _ (lD_nums L)) hL
    refine ⟨_, rfl, a, c, ns, 3, rfl, by decide, by decide, hd.1, hd.2.1, hd.2.2, fun m0 H1 m00 m03 k1 s1 => ⟨_, _, rfl, rfl, ?_⟩⟩
    have hd1 := hd.kp k1 s1
    refine ⟨_, rfl, a, c, ns, 3, rfl, by decide, by decide, hd1.1, hd1.2.1, hd1.2.2, fun g0 H2 g00 g03 k2 s2 => ⟨_, _, rfl, rfl, ?_⟩⟩
    have hd2 := hd1.kp k2 s2
    have kH2 := k1.trans k2
    -- firsts
    refine ⟨_, rfl, 1 + m0, rfl, by omega, by omega, fun D hD => ?_⟩
    refine lc_range (lo := 0) (n := (1 + m0).toNat) (fun i H' => ∃ xs : List Int, xs.Pairwise (· < ·) ∧ (∀ x ∈ xs, 0 ≤ x ∧ x < i) ∧ GrowD K H2 a c D (xs.map .int) H') ⟨[], List.Pairwise.nil, (fun x hx => nomatch hx), GrowD.zero hd2 hD⟩ (fun i H' hi z => ⟨rfl, ?_⟩) fun H' z => ?_
    · obtain ⟨xs, hup, hb, g⟩ := z
      have hxl : xs.length ≤ i := up_len (m := i) hup hb
      have keep : ∀ {H4 : Hp}, Kp [a] H' H4 → DSt a c H4 → ∃ acc, H4 D = some (.lst acc) ∧ acc.length < sizeLine ∧ ∃ xs' : List Int, xs'.Pairwise (· < ·) ∧ (∀ x ∈ xs', 0 ≤ x ∧ x < ((i + 1 : Nat) : Int)) ∧ GrowD K H2 a c D (xs'.map .int) (upd H4 D (.lst (acc ++ [V.int (0 + (i : Int))]))) := fun {H4} k4 s4 => by
        obtain ⟨acc, e, hlt, g'⟩ := GrowD.step (d := .int (0 + (i : Int))) hd2 hD g k4 s4 (ints_solid _) (Dp.int _) rfl (by rw [List.length_map]; omega)
        refine ⟨acc, e, hlt, xs ++ [0 + (i : Int)], List.pairwise_append.mpr ⟨hup, List.pairwise_singleton _ _, fun x hx y hy => ?_⟩, fun x hx => ?_, by rw [List.map_append]; exact g'⟩
        · rw [List.mem_singleton.mp hy]; have := hb x hx; omega
        · rcases List.mem_append.mp hx with z | z
          · have := hb x z; omega
          · rw [List.mem_singleton.mp z]; omega
      refine ⟨_, rfl, rfl, _, rfl, ?_⟩
      by_cases c0 : (0 + (i : Int)) = 0
      · refine iteYes ((dec_V _ _).trans (decide_eq_true c0)) ?_
        refine iteYes rfl ?_
        refine ⟨_, rfl, ?_⟩
        exact keep Kp.refl g.2
      · refine iteNo ((dec_V _ _).trans (decide_eq_false c0)) ?_
        have hd3 := hd2.kp g.1.kp g.2
        refine ⟨_, rfl, a, c, ns, 4, rfl, by decide, by decide, hd3.1, hd3.2.1, hd3.2.2, fun d H4 _ _ k4 s4 => ?_⟩
        refine ⟨rfl, _, rfl, ?_⟩
        by_cases c1 : d = 1
        · refine iteYes ((dec_V _ _).trans (decide_eq_true c1)) ?_
          refine ⟨_, rfl, ?_⟩
          exact keep k4 s4
        · refine iteNo ((dec_V _ _).trans (decide_eq_false c1)) ?_
          exact ⟨xs, hup, fun x hx => by have := hb x hx; omega, GrowD.move hd2 hD g k4 s4 (ints_solid _)⟩
    · obtain ⟨fs, fup, fb, ⟨acc, kD, eD, aD⟩, s3⟩ := z
      refine ⟨D, acc, rfl, .inl ⟨SqL.of eD, fun q hq => ?_⟩⟩
      obtain ⟨k3, dFs⟩ := Grow.done (S := [a]) kD aD (ints_solid _) hq
      have s4 := s3.other (o := .tup acc) (s3.fresh hq)
      have kH := kH2.trans k3
      have hd4 := hd2.kp k3 s4
      generalize upd H' q (.tup acc) = H3 at k3 dFs s4 kH hd4
      -- lasts
      refine ⟨_, rfl, 1 + m0, rfl, by omega, by omega, fun D2 hD2 => ?_⟩
      refine lc_range (lo := 0) (n := (1 + m0).toNat) (fun i H' => ∃ xs : List Int, xs.Pairwise (· < ·) ∧ (∀ x ∈ xs, 0 ≤ x ∧ x < i) ∧ GrowD K H3 a c D2 (xs.map .int) H') ⟨[], List.Pairwise.nil, (fun x hx => nomatch hx), GrowD.zero hd4 hD2⟩ (fun i H' hi z => ⟨rfl, ?_⟩) fun H' z => ?_
      · obtain ⟨xs, hup, hb, g⟩ := z
        have hxl : xs.length ≤ i := up_len (m := i) hup hb
        have hd5 := hd4.kp g.1.kp g.2
        refine ⟨_, rfl, a, c, ns, 2, rfl, by decide, by decide, hd5.1, hd5.2.1, hd5.2.2, fun d H4 _ _ k4 s4 => ?_⟩
        refine ⟨rfl, _, rfl, ?_⟩
        by_cases c1 : d = 1
        · refine iteYes ((dec_V _ _).trans (decide_eq_true c1)) ?_
          refine ⟨_, rfl, ?_⟩
          obtain ⟨acc, e, hlt, g'⟩ := GrowD.step (d := .int (0 + (i : Int))) hd4 hD2 g k4 s4 (ints_solid _) (Dp.int _) rfl (by rw [List.length_map]; omega)
          refine ⟨acc, e, hlt, xs ++ [0 + (i : Int)], List.pairwise_append.mpr ⟨hup, List.pairwise_singleton _ _, fun x hx y hy => ?_⟩, fun x hx => ?_, by rw [List.map_append]; exact g'⟩
          · rw [List.mem_singleton.mp hy]; have := hb x hx; omega
          · rcases List.mem_append.mp hx with z | z
            · have := hb x z; omega
            · rw [List.mem_singleton.mp z]; omega
        · refine iteNo ((dec_V _ _).trans (decide_eq_false c1)) ?_
          exact ⟨xs, hup, fun x hx => by have := hb x hx; omega, GrowD.move hd4 hD2 g k4 s4 (ints_solid _)⟩
      · obtain ⟨ls, lup, lb, ⟨acc2, kD2, eD2, aD2⟩, s5⟩ := z
        refine ⟨D2, acc2, rfl, .inl ⟨SqL.of eD2, fun q2 hq2 => ?_⟩⟩
        obtain ⟨k5, dLs⟩ := Grow.done (S := [a]) kD2 aD2 (ints_solid _) hq2
        have s6 := s5.other (o := .tup acc2) (s5.fresh hq2)
        have kH5 := kH.trans k5
        have hd6 := hd4.kp k5 s6
        have dFs5 := k5.dp s4.noTup (nums_solid _ (iD_nums fs)) dFs
        generalize upd H' q2 (.tup acc2) = H5 at k5 dLs s6 kH5 hd6 dFs5
        obtain ⟨⟨la1, la2⟩, ⟨lb1, lb2⟩, lc1, lc2⟩ := lok
        -- letters
        have lst : ∀ {H6 : Hp} {q : Addr} {xs : List V}, DIn K H6 a c ns → H6 q = none → DIn K (upd H6 q (.lst xs)) a c ns := fun {H6 q xs} h hq => h.kp (Kp.new hq) (h.1.other (h.1.fresh hq))
        refine ⟨_, rfl, _, rfl, _, rfl, lDs L, 0, .int (L.1 : Int), lH kH5, rfl, rfl, fun u hu => ?_⟩
        obtain rfl := Dp.intI hu
        refine ⟨_, rfl, (by show 3 ≤ sizeLine; decide), fun q6 hq6 => ?_⟩
        refine ⟨a, c, ns, 7, q6, [1 + m0, (L.1 : Int), 1 + m0], rfl, lst hd6 hq6, by decide, by decide, upd_same, hd6.1.fresh hq6, (fun l hl => by simp only [List.mem_cons, List.not_mem_nil, or_false] at hl; rcases hl with rfl | rfl | rfl <;> omega), Nat.le_of_ble_eq_true rfl, fun rows1 v1 H6 n1 r1 d1 k6 s7 => ?_⟩
        have hd7 := (lst (xs := [V.int (1 + m0), V.int (L.1 : Int), V.int (1 + m0)]) hd6 hq6).kp k6 s7
        have k56 : Kp [a] H5 H6 := (Kp.new hq6).trans k6
        have kH6 := kH5.trans k56
        -- calls
        refine ⟨_, rfl, _, rfl, _, rfl, lDs L, 1, .int (L.2.1 : Int), lH kH6, rfl, rfl, fun u hu => ?_⟩
        obtain rfl := Dp.intI hu
        refine ⟨_, rfl, _, rfl, (by show 4 ≤ sizeLine; decide), fun q7 hq7 => ?_⟩
        refine ⟨a, c, ns, 6, q7, [1 + m0, (L.2.1 : Int), 1 + m0, 1 + g0], rfl, lst hd7 hq7, by decide, by decide, upd_same, hd7.1.fresh hq7, (fun l hl => by simp only [List.mem_cons, List.not_mem_nil, or_false] at hl; rcases hl with rfl | rfl | rfl | rfl <;> omega), Nat.le_of_ble_eq_true rfl, fun rows2 v2 H7 n2 r2 d2 k7 s8 => ?_⟩
        have hd8 := (lst (xs := [V.int (1 + m0), V.int (L.2.1 : Int), V.int (1 + m0), V.int (1 + g0)]) hd7 hq7).kp k7 s8
        have k67 : Kp [a] H6 H7 := (Kp.new hq7).trans k7
        have kH7 := kH6.trans k67
        -- returns
        refine ⟨_, rfl, _, rfl, _, rfl, _, rfl, lDs L, 2, .int (L.2.2 : Int), lH kH7, rfl, rfl, fun u hu => ?_⟩
        obtain rfl := Dp.intI hu
        refine ⟨_, rfl, (by show 4 ≤ sizeLine; decide), fun q8 hq8 => ?_⟩
        refine ⟨a, c, ns, 8, q8, [1 + m0, 1 + g0, (L.2.2 : Int), 1 + m0], rfl, lst hd8 hq8, by decide, by decide, upd_same, hd8.1.fresh hq8, (fun l hl => by simp only [List.mem_cons, List.not_mem_nil, or_false] at hl; rcases hl with rfl | rfl | rfl | rfl <;> omega), Nat.le_of_ble_eq_true rfl, fun rows3 v3 H8 n3 r3 d3' k8 s9 => ?_⟩
        have k78 : Kp [a] H7 H8 := (Kp.new hq8).trans k8
        have kH8 := kH7.trans k78
        refine ⟨_, rfl, _, rfl, _, rfl, _, rfl, _, rfl, _, rfl, (by show 6 ≤ sizeLine; decide), fun r hr => ?_⟩
        have kR : ∀ o, Kp [a] H8 (upd H8 r o) := fun o => Kp.new hr
        let M : Mach := ⟨(1 + m0).toNat, (1 + g0).toNat, fs, rows1.map tri, rows2.map quad, rows3.map quad, ls⟩
        have hm : (((1 + m0).toNat : Nat) : Int) = 1 + m0 := Int.toNat_of_nonneg (by omega)
        have hg : (((1 + g0).toNat : Nat) : Int) = 1 + g0 := Int.toNat_of_nonneg (by omega)
        have ok : M.Ok L := by
          refine ⟨by show 1 ≤ (1 + m0).toNat; omega, by show (1 + m0).toNat ≤ 3; omega, by show 1 ≤ (1 + g0).toNat; omega, by show (1 + g0).toNat ≤ 3; omega, fb, fup, lb, lup, fun t ht => ?_, fun t ht => ?_, fun t ht => ?_, ?_, ?_, ?_⟩
          · obtain ⟨row, hrow, rfl⟩ := List.mem_map.mp ht
            have h0 := (r1 row hrow).at_ (i := 0) rfl
            have h1 := (r1 row hrow).at_ (i := 1) rfl
            have h2 := (r1 row hrow).at_ (i := 2) rfl
            exact ⟨⟨h0.1, by show _ < (((1 + m0).toNat : Nat) : Int); rw [hm]; exact h0.2⟩, h1, ⟨h2.1, by show _ < (((1 + m0).toNat : Nat) : Int); rw [hm]; exact h2.2⟩⟩
          · obtain ⟨row, hrow, rfl⟩ := List.mem_map.mp ht
            have h0 := (r2 row hrow).at_ (i := 0) rfl
            have h1 := (r2 row hrow).at_ (i := 1) rfl
            have h2 := (r2 row hrow).at_ (i := 2) rfl
            have h3 := (r2 row hrow).at_ (i := 3) rfl
            exact ⟨⟨h0.1, by show _ < (((1 + m0).toNat : Nat) : Int); rw [hm]; exact h0.2⟩, h1, ⟨h2.1, by show _ < (((1 + m0).toNat : Nat) : Int); rw [hm]; exact h2.2⟩, ⟨h3.1, by show _ < (((1 + g0).toNat : Nat) : Int); rw [hg]; exact h3.2⟩⟩
          · obtain ⟨row, hrow, rfl⟩ := List.mem_map.mp ht
            have h0 := (r3 row hrow).at_ (i := 0) rfl
            have h1 := (r3 row hrow).at_ (i := 1) rfl
            have h2 := (r3 row hrow).at_ (i := 2) rfl
            have h3 := (r3 row hrow).at_ (i := 3) rfl
            exact ⟨⟨h0.1, by show _ < (((1 + m0).toNat : Nat) : Int); rw [hm]; exact h0.2⟩, ⟨h1.1, by show _ < (((1 + g0).toNat : Nat) : Int); rw [hg]; exact h1.2⟩, h2, ⟨h3.1, by show _ < (((1 + m0).toNat : Nat) : Int); rw [hm]; exact h3.2⟩⟩
          · show (rows1.map tri).length ≤ 7
            rw [List.length_map]; omega
          · show (rows2.map quad).length ≤ 7
            rw [List.length_map]; omega
          · show (rows3.map quad).length ≤ 7
            rw [List.length_map]; omega
        refine k M _ _ ok (Dp.tup (SqT.of upd_same) ?_) (kH8.trans (kR _)) (s9.other (s9.fresh hr))
        have k58 := (k56.trans k67).trans k78
        have e1 : Dp K H8 v1 (.tuple (M.lets.map d3)) := by
          have := (k67.trans k78).dp s7.noTup (nums_solid _ (tD_nums rows1)) d1
          rw [rows_tri fun row hrow => (r1 row hrow).1] at this
          exact this
        have e2 : Dp K H8 v2 (.tuple (M.calls.map d4)) := by
          have := k78.dp s8.noTup (nums_solid _ (tD_nums rows2)) d2
          rw [rows_quad fun row hrow => (r2 row hrow).1] at this
          exact this
        have e3 : Dp K H8 v3 (.tuple (M.rets.map d4)) := by
          have := d3'
          rw [rows_quad fun row hrow => (r3 row hrow).1] at this
          exact this
        have mv : ∀ {v : V} {d : PyData} {o : HO}, nums d = true → Dp K H8 v d → Dp K (upd H8 r o) v d := fun hn h => (Kp.new (S := []) hr).dp NoTup.nil (nums_solid _ hn) h
        have em : (V.int ((fun i j => i + j) 1 m0)) = V.int (1 + m0) := rfl
        refine .cons ?_ (.cons (mv (iD_nums fs) (k58.dp s6.noTup (nums_solid _ (iD_nums fs)) dFs5)) (.cons (mv (d3s_nums _) e1) (.cons (mv (d4s_nums _) e2) (.cons (mv (d4s_nums _) e3) (.cons (mv (iD_nums ls) (k58.dp s6.noTup (nums_solid _ (iD_nums ls)) dLs)) .nil)))))
        have z : Dp K (upd H8 r (.tup [V.int (1 + m0)])) (V.int (1 + m0)) (PyData.int (1 + m0)) := Dp.int _
        show Dp K _ (V.int (1 + m0)) (PyData.int (((1 + m0).toNat : Nat) : Int))
        rw [hm]
        exact Dp.int _
end
end K51
end

section
set_option Elab.async false
set_option linter.all false
set_option maxRecDepth 100000
set_option maxHeartbeats 8000000
/-! the law's own tables: behind, over, letter -/
namespace K51
open PySem PySem.Spec PyProof.Rows L2
section
variable {P : Program} {w : World} {K : PySem.W.Frag} {mg : PySem.Str → Option Value} {base : Heap}
/-- a list of ints at l -/
def IL (l : Addr) (ns : List Int) (H : Hp) : Prop := H l = some (.lst (ns.map V.int))
/-- _law_behind(one, two) -/
def spBehind (K : PySem.W.Frag) : Sp := fun vs H Q _ => ∃ (m : Nat) (x y : V) (t u : Tab), vs = [x, y] ∧ Dp K H x (tD t) ∧ Dp K H y (tD u) ∧ Good m t ∧ Good m u ∧ m ≤ 3 ∧
  ∀ v H', Kp [] H H' → Dp K H' v (tD (tJoin t u)) → Q v H'
abbrev nBehind : List PySem.Str := ["_law_one", "_law_two", "_law_made", "_law_row", "_law_found", "_law_r"]
theorem sc_behind : FnScope nBehind ["_law_one", "_law_two"] (defScope s_L_behind) := ⟨rfl, rfl, rfl, by decide +kernel, rfl, by decide +kernel, by decide +kernel⟩
theorem ok_behind {f : Addr} {fd : FuncData} (F : L2.Fun K "_law_behind" "_law_behind" s_L_behind f fd) (G : Gs mg) : FnOk P w K mg base CX0 1 f fd ["_law_one", "_law_two"] (spBehind K) := by
  refine F.ok sc_behind (fun vs H Q E h => ?_) (fun cdv A outer s H vs Q E hr h => ?_)
  · obtain ⟨m, x, y, t, u, rfl, _⟩ := h
    rfl
  · obtain ⟨m, x, y, t, u, rfl, hx, hy, gt, gu, h3, k⟩ := h
    refine ⟨_, pss_cons (ps_set (i := 2) sc_behind.nd rfl (Or.inl rfl) (pe_lst pa_nil))
      (pss_cons (ps_for PassesOwn.never rfl (pi_tup (pv 0)) (pg_name (i := 3) sc_behind.nd rfl (Or.inl rfl))
        (pss_cons (ps_set (i := 4) sc_behind.nd rfl (Or.inl rfl) (pe_lst pa_nil))
        (pss_cons (ps_for PassesOwn.never rfl (pi_tup (pv 3)) (pg_name (i := 5) sc_behind.nd rfl (Or.inl rfl))
          (pss_one (ps_set (i := 4) sc_behind.nd rfl (Or.inl rfl) (pe_op op_cat (pv 4) (pe_callTy call_list_of (by rfl) G.list b_list (pa_cons (pe_ix ix_dp (pv 1) (pv 5) (fun _ _ => rfl)) pa_nil))))))
        (pss_one (ps_expr (pe_bm PySem.F.plainAttrs_list PySem.F.slot_list_append PySem.F.type_list_append mt_append (pv 2)
          (pa_cons (pe_callTy call_tuple_of (by rfl) G.tuple b_tuple (pa_cons (pe_callB (cr_sortedSet rfl) (by rfl) G.sorted b_sorted (pa_cons (pe_callTy (cr_setOfI rfl) (by rfl) G.set b_set (pa_cons (pv 4) pa_nil)) pa_nil)) pa_nil)) pa_nil)))))))
      (pss_one (ps_ret (pe_callTy call_tuple_of (by rfl) G.tuple b_tuple (pa_cons (pv 2) pa_nil))))), ?_⟩
    refine ⟨by decide, fun l hl => ?_⟩
    obtain ⟨ax, xs, rfl, hqx, hdx⟩ := Dp.tupI hx
    have few : ∀ row ∈ t, ∀ l : List Int, (∀ r ∈ l, r ∈ row) → (l.flatMap fun r => getR u r).length ≤ l.length * 3 := fun row hrow l hs =>
      len_flat (n := 3) fun r hr => Nat.le_trans (gu.rowLen (getR_mem (by rw [gu.len]; exact gt.bd row hrow r (hs r hr)))) h3
    refine ⟨_, rfl, ax, rfl, ⟨xs, (Kp.new (S := []) hl).tup NoTup.nil hqx⟩, ?_⟩
    refine for_tup (K := K) (xs := xs) (fun i σ H' => (∃ o3 o4 o5, σ = [some (V.ref ax), some y, some (V.ref l), o3, o4, o5]) ∧ Grow K [] H l (((t.take i).map (joinRow u)).map iD) H') ⟨⟨none, none, none, rfl⟩, Grow.zero hl⟩ (fun i σ H' _ z => z.2.kp.tup NoTup.nil hqx) (fun i x' σ H' ei z => ?_) fun σ H' z => ?_
    · obtain ⟨⟨o3, o4, o5, rfl⟩, g⟩ := z
      have kH := g.kp
      obtain ⟨row, er, hx1⟩ := map_dp hdx ei
      have hrow : row ∈ t := List.mem_of_getElem? er
      refine ⟨by decide, fun fl hfl => ?_⟩
      have k1 : Kp [] H' (upd H' fl (.lst [])) := Kp.new hfl
      obtain ⟨ar, rs, rfl, hqr, hdr⟩ := Dp.tupI ((kH.trans k1).dp NoTup.nil (nums_solid _ (iD_nums row)) hx1)
      obtain rfl := DpAll.ints (ns := row) hdr
      have rl := gt.rowLen hrow
      refine ⟨_, rfl, ar, rfl, ⟨_, hqr⟩, ?_⟩
      refine for_tup (K := K) (xs := row.map V.int) (fun j σ H2 => (∃ fl o5, σ = [some (V.ref ax), some y, some (V.ref l), some (V.ref ar), some (V.ref fl), o5] ∧ IL fl ((row.take j).flatMap fun r => getR u r) H2) ∧ Kp [] H' H2)
        ⟨⟨fl, _, rfl, upd_same⟩, k1⟩ (fun j σ H2 _ z => by
          have hr' := kH.dp NoTup.nil (nums_solid _ (iD_nums row)) hx1
          obtain ⟨ar', rs', ee, hq', hd'⟩ := Dp.tupI hr'
          cases ee
          obtain rfl := DpAll.ints (ns := row) hd'
          exact z.2.tup NoTup.nil hq') (fun j x' σ H2 ej z => ?_) fun σ H2 z => ?_
      · obtain ⟨⟨fl2, o5, rfl, hIL⟩, k2⟩ := z
        rw [List.getElem?_map] at ej
        obtain ⟨r, ejr, rfl⟩ : ∃ r, row[j]? = some r ∧ x' = V.int r := by
          cases hr : row[j]? with
          | none => rw [hr] at ej; cases ej
          | some r => rw [hr] at ej; exact ⟨r, rfl, (Option.some.inj ej).symm⟩
        have hrS := gt.bd row hrow r (List.mem_of_getElem? ejr)
        obtain ⟨n, en⟩ : ∃ n : Nat, r = (n : Int) := Int.eq_ofNat_of_zero_le hrS.1
        have hy' := (kH.trans k2).dp NoTup.nil (nums_solid _ (tD_nums u)) hy
        refine ⟨_, rfl, _, rfl, _, rfl, u.map iD, n, iD (getR u r), hy', by rw [en], ?_, fun v hv => ?_⟩
        · have z3 := getR_some (t := u) (p := r) (by rw [gu.len]; exact hrS)
          rw [show r.toNat = n by rw [en]; rfl] at z3
          rw [List.getElem?_map, z3]; rfl
        obtain ⟨a1, ys, rfl, hq1, hd1⟩ := Dp.tupI hv
        obtain rfl := DpAll.ints (ns := getR u r) hd1
        refine ⟨a1, _, rfl, .inr hq1, fun l2 hl2 => ?_⟩
        have e1 : row.take (j + 1) = row.take j ++ [r] := take_next ejr
        have f1 := few row hrow (row.take j) (fun q hq => List.mem_of_mem_take hq)
        have f2 : (row.take j).length ≤ row.length := by rw [List.length_take]; omega
        have f3 := gu.rowLen (getR_mem (t := u) (p := r) (by rw [gu.len]; exact hrS))
        have hIL2 : (upd H2 l2 (.lst ((getR u r).map V.int))) fl2 = some (.lst (((row.take j).flatMap fun r => getR u r).map V.int)) := by
          rw [upd_ne (ne_of_none hIL hl2)]; exact hIL
        refine ⟨fl2, l2, _, _, rfl, rfl, hIL2, upd_same, ?_, fun p hp => ?_⟩
        · rw [List.length_map, List.length_map, sizeLine_eq]; omega
        · refine ⟨⟨p, _, rfl, ?_⟩, (k2.and hl2).and hp⟩
          show upd _ p _ p = _
          rw [upd_same, e1, List.flatMap_append, List.flatMap_cons, List.flatMap_nil, List.append_nil, List.map_append]
      · rw [List.length_map, List.take_length] at z
        obtain ⟨⟨fl2, o5, rfl, hIL⟩, k2⟩ := z
        obtain ⟨acc0, k0, e0, a0⟩ := g
        have f1 := few row hrow row (fun q hq => hq)
        have e0' : H2 l = some (.lst acc0) := k2.keep _ _ e0 (fun z => nomatch z) fun ps z => by cases z
        refine ⟨_, rfl, .inl ⟨rfl, _, SqL.of e0'⟩, _, rfl, fl2, _, rfl, SqL.of hIL, by unfold scanBound; omega, fun S F n hS hF hn => ?_⟩
        refine ⟨S, F, n, rfl, upd_same, by omega, fun ns q hns hmem _ hq => ?_⟩
        obtain rfl : ns = joinRow u row := ssort_eq hns fun x => (hmem x).trans (hF x)
        refine ⟨q, _, rfl, .inl ⟨SqL.of upd_same, fun r hr => ?_⟩⟩
        have g : Grow K [] H l (((t.take i).map (joinRow u)).map iD) H' := ⟨acc0, k0, e0, a0⟩
        have hlt : (t.take i).length ≤ t.length := by rw [List.length_take]; omega
        obtain ⟨acc, e5, hlt5, g5⟩ := Grow.step (S := []) (d := iD (joinRow u row)) hl (fun z => nomatch z) NoTup.nil g (((k2.and hS).and hq).and hr) (rows_solid _) (Dp.tup (SqT.of upd_same) (dpAll_ints _)) (nums_solid _ (iD_nums _)) (by rw [List.length_map, List.length_map]; have := gt.len; omega)
        refine ⟨l, acc, _, rfl, rfl, e5, hlt5, ⟨_, _, _, rfl⟩, ?_⟩
        rw [take_next er, List.map_append, List.map_append]
        exact g5
    · rw [show t.take xs.length = t by rw [DpAll.length hdx, List.length_map, List.take_length]] at z
      obtain ⟨⟨o3, o4, o5, rfl⟩, acc, kD, eD, aD⟩ := z
      refine ⟨_, rfl, l, acc, rfl, .inl ⟨SqL.of eD, fun q hq => ?_⟩⟩
      obtain ⟨k2, d2⟩ := Grow.done kD aD (rows_solid _) hq
      exact k _ _ k2 d2
end
end K51
end

section
set_option Elab.async false
set_option linter.all false
set_option maxRecDepth 100000
set_option maxHeartbeats 8000000
/-! the law's own tables: letter, over -/
namespace K51
open PySem PySem.Spec PyProof.Rows L2
/-- a list at l of m lists: the i-th has what the pairs ps have at i; all made since H0 -/
structure MM (H0 : Hp) (l : Addr) (m : Nat) (rs : List Addr) (ps : List (Int × Int)) (H : Hp) : Prop where
  kp : Kp [] H0 H
  at_ : H l = some (.lst (rs.map V.ref))
  len : rs.length = m
  nd : rs.Nodup
  row : ∀ (i : Nat) (r : Addr), rs[i]? = some r → H r = some (.lst ((pairsAt ps (i : Int)).map V.int)) ∧ H0 r = none ∧ r ≠ l
theorem pairsAt_snoc (ps : List (Int × Int)) (p q s : Int) : pairsAt (ps ++ [(p, q)]) s = pairsAt ps s ++ (if p = s then [q] else []) := by
  unfold pairsAt
  rw [List.filter_append, List.map_append, List.filter_cons, List.filter_nil]
  by_cases c : p = s
  · simp [c]
  · simp [c]
theorem MM.rowLen {H0 H : Hp} {l : Addr} {m : Nat} {rs : List Addr} {ps : List (Int × Int)} (h : MM H0 l m rs ps H) {i : Nat} : (pairsAt ps (i : Int)).length ≤ ps.length := by
  unfold pairsAt
  rw [List.length_map]; exact List.length_filter_le _ _
/-- one more -/
theorem MM.add {H0 H : Hp} {l : Addr} {m : Nat} {rs : List Addr} {ps : List (Int × Int)} (h : MM H0 l m rs ps H) {i : Nat} {r : Addr} (e : rs[i]? = some r) (q : Int) : MM H0 l m rs (ps ++ [(((i : Nat) : Int), q)]) (upd H r (.lst ((pairsAt ps (i : Int)).map V.int ++ [V.int q]))) := by
  obtain ⟨e1, e2, e3⟩ := h.row i r e
  refine ⟨h.kp.put e1 (fun ps z => by cases z) (.inr e2), by rw [upd_ne (Ne.symm e3)]; exact h.at_, h.len, h.nd, fun j r' e' => ?_⟩
  obtain ⟨f1, f2, f3⟩ := h.row j r' e'
  refine ⟨?_, f2, f3⟩
  by_cases c : j = i
  · subst c
    rw [e] at e'
    cases e'
    rw [upd_same, pairsAt_snoc, if_pos rfl, List.map_append]; rfl
  · have ne : r' ≠ r := fun z => by
      subst z
      exact c ((List.getElem?_inj (List.getElem?_eq_some_iff.mp e').1 h.nd).mp (e'.trans e.symm))
    rw [upd_ne ne, f1, pairsAt_snoc, if_neg (by omega), List.append_nil]
theorem MM.kp' {H0 H H' : Hp} {l : Addr} {m : Nat} {rs : List Addr} {ps : List (Int × Int)} (h : MM H0 l m rs ps H) (k : Kp [] H H') : MM H0 l m rs ps H' := by
  refine ⟨h.kp.trans k, k.keep _ _ h.at_ (fun z => nomatch z) (fun ps z => by cases z), h.len, h.nd, fun i r e => ?_⟩
  obtain ⟨a, b, c⟩ := h.row i r e
  exact ⟨k.keep _ _ a (fun z => nomatch z) (fun ps z => by cases z), b, c⟩
theorem MM.noTup {H0 H : Hp} {l : Addr} {m : Nat} {rs : List Addr} {ps : List (Int × Int)} (h : MM H0 l m rs ps H) : NoTup (l :: rs) H := fun p hp ys z => by
  have key : ∃ zs, H p = some (.lst zs) := by
    rcases List.mem_cons.mp hp with rfl | hp
    · exact ⟨_, h.at_⟩
    · obtain ⟨i, hi, e⟩ := List.getElem_of_mem hp
      exact ⟨_, (h.row i p (by rw [List.getElem?_eq_getElem hi, e])).1⟩
  obtain ⟨zs, e⟩ := key
  rcases z with z | ⟨o, z⟩ <;> (rw [e] at z; cases z)
section
variable {P : Program} {w : World} {K : PySem.W.Frag} {mg : PySem.Str → Option Value} {base : Heap}
/-- _law_letter(machine, a) -/
def spLetterL (K : PySem.W.Frag) : Sp := fun vs H Q _ => ∃ (M : Mach) (L : Nat × Nat × Nat) (mv : V) (a : Int), vs = [mv, .int a] ∧ M.Ok L ∧ Dp K H mv (mD M) ∧ ∀ v H', Kp [] H H' → Dp K H' v (tD (tLetter M a)) → Q v H'
abbrev nLetterL : List PySem.Str := ["_law_machine_here", "_law_a", "_law_made", "_law_step", "_law_p", "_law_row"]
theorem sc_letterL : FnScope nLetterL ["_law_machine_here", "_law_a"] (defScope s_L_letter) := ⟨rfl, rfl, rfl, by decide +kernel, rfl, by decide +kernel, by decide +kernel⟩
theorem ok_letterL {f : Addr} {fd : FuncData} (F : L2.Fun K "_law_letter" "_law_letter" s_L_letter f fd) (G : Gs mg) : FnOk P w K mg base CX0 1 f fd ["_law_machine_here", "_law_a"] (spLetterL K) := by
  refine F.ok sc_letterL (fun vs H Q E h => ?_) (fun cdv A outer s H vs Q E hr h => ?_)
  · obtain ⟨M, L, mv, a, rfl, _⟩ := h
    rfl
  · obtain ⟨M, L, mv, a, rfl, ok, hM, k⟩ := h
    refine ⟨_, pss_cons (ps_setLc (i := 2) (own := [("_law_p", 4)]) (g := gName 4) (tt := tYes) rfl sc_letterL.nd rfl rfl (sw_true rfl rfl rfl (by decide +kernel))
        (pi_range1 (by rfl) G.range (pa_cons (pe_ix ix_dp (pv 0) pe_int (fun _ _ => rfl)) pa_nil)) (blkOk_by (by kernel_rfl)) (fun _ _ _ _ _ => pg_name (i := 4) sc_letterL.nd rfl (Or.inl rfl)) (fun _ _ _ _ _ => pts_nil)
        (fun _ _ _ _ _ => pe_lst pa_nil))
      (pss_cons (ps_for PassesOwn.never rfl (pi_tup (pe_ix ix_dp (pv 0) pe_int (fun _ _ => rfl))) (pg_name (i := 3) sc_letterL.nd rfl (Or.inl rfl))
        (pss_one (ps_if (pt_cmpR op_eq (pe_ix ix_dp (pv 3) pe_int (fun _ _ => rfl)) (pv 1) (nomark _))
          (pss_one (ps_expr (pe_bm PySem.F.plainAttrs_list PySem.F.slot_list_append PySem.F.type_list_append mt_append (pe_ix ix_list (pv 2) (pe_ix ix_dp (pv 3) pe_int (fun _ _ => rfl)) (fun _ _ => rfl)) (pa_cons (pe_ix ix_dp (pv 3) pe_int (fun _ _ => rfl)) pa_nil)))) pss_nil)))
      (pss_one (ps_ret (pe_callTy call_tuple_of (by rfl) G.tuple b_tuple (pa_cons (pe_lc (own := [("_law_row", 5)]) (g := gName 5) (tt := tYes) rfl sc_letterL.nd (pi_list (pv 2)) (blkOk_by (by kernel_rfl)) (fun _ _ _ _ _ => pg_name (i := 5) sc_letterL.nd rfl (Or.inl rfl)) (fun _ _ _ _ _ => pts_nil)
        (fun _ _ _ _ _ => pe_callTy (cr_tupleK K) (by rfl) G.tuple b_tuple (pa_cons (pe_callB (cr_sortedSetK w rfl) (by rfl) G.sorted b_sorted (pa_cons (pe_callTy (cr_setOfIK K w rfl) (by rfl) G.set b_set (pa_cons (pv 5) pa_nil)) pa_nil)) pa_nil))) pa_nil))))), ?_⟩
    refine ⟨_, rfl, mDs M, 0, .int (M.m : Int), hM, rfl, rfl, fun u hu => ?_⟩
    obtain rfl := Dp.intI hu
    have m3 := ok.m3
    refine ⟨_, rfl, by omega, by omega, fun D hD => ?_⟩
    refine lc_range (lo := 0) (n := (M.m : Int).toNat) (fun i H' => ∃ rs, MM H D i rs [] H') ⟨[], Kp.new hD, upd_same, rfl, List.nodup_nil, fun i r e => by simp at e⟩ (fun i H' hi z => ⟨rfl, ?_⟩) fun H' z => ?_
    · obtain ⟨rs, h⟩ := z
      refine yesT ?_
      refine ⟨by decide, fun r hr => ?_⟩
      have eD : (upd H' r (.lst [])) D = some (.lst (rs.map V.ref)) := by rw [upd_ne (ne_of_none h.at_ hr)]; exact h.at_
      have hrl := h.len
      have hi3 : i < 3 := by omega
      have hrD : r ≠ D := fun z => by rw [z, h.at_] at hr; cases hr
      refine ⟨rs.map V.ref, eD, by rw [List.length_map, sizeLine_eq]; omega, rs ++ [r], (h.kp.and hr).put eD (fun ps z => by cases z) (.inr hD), by rw [upd_same, List.map_append]; rfl, by rw [List.length_append, hrl]; rfl, ?_, fun j q e => ?_⟩
      · refine List.nodup_append.mpr ⟨h.nd, by simp, fun x hx y hy => ?_⟩
        rw [List.mem_singleton.mp hy]
        intro z
        obtain ⟨j, hj, ej⟩ := List.getElem_of_mem hx
        have := (h.row j x (by rw [List.getElem?_eq_getElem hj, ej])).1
        rw [z, hr] at this
        cases this
      · rcases Nat.lt_or_ge j rs.length with c | c
        · rw [List.getElem?_append_left c] at e
          obtain ⟨a1, a2, a3⟩ := h.row j q e
          exact ⟨by rw [upd_ne a3, upd_ne (ne_of_none a1 hr)]; exact a1, a2, a3⟩
        · rw [List.getElem?_append_right c] at e
          have hj0 : j - rs.length = 0 := by
            have := (List.getElem?_eq_some_iff.mp e).1
            simp at this; omega
          rw [hj0] at e
          simp only [List.getElem?_cons_zero, Option.some.injEq] at e
          subst e
          exact ⟨by rw [upd_ne hrD, upd_same]; rfl, h.kp.back r hr, hrD⟩
    · rw [Int.toNat_natCast] at z
      obtain ⟨rs, h0⟩ := z
      have mH : ∀ {H2 : Hp}, Kp [] H H2 → Dp K H2 mv (mD M) := fun k2 => k2.dp NoTup.nil (nums_solid _ (mD_nums M)) hM
      refine ⟨_, rfl, mDs M, 2, .tuple (M.lets.map d3), mH h0.kp, rfl, rfl, fun u hu => ?_⟩
      obtain ⟨a0, xs, rfl, hq0, hx0⟩ := Dp.tupI hu
      have lenx := DpAll.length hx0
      rw [List.length_map] at lenx
      let lp : List (Int × Int × Int) → List (Int × Int) := fun l => (l.filter fun t => decide (t.2.1 = a)).map fun t => (t.1, t.2.2)
      have lpl : ∀ l, (lp l).length ≤ l.length := fun l => by
        show (List.map _ _).length ≤ _
        rw [List.length_map]; exact List.length_filter_le _ _
      refine ⟨a0, rfl, ⟨xs, hq0⟩, ?_⟩
      have hn0 : NoTup (D :: rs) H' := h0.noTup
      refine for_tup (K := K) (xs := xs) (fun i σ H2 => (∃ o3, σ = [some mv, some (V.int a), some (V.ref D), o3, none, none]) ∧ MM H D M.m rs (lp (M.lets.take i)) H2 ∧ Kp (D :: rs) H' H2) ⟨⟨none, rfl⟩, h0, Kp.refl⟩ (fun i σ H2 _ z => z.2.2.tup hn0 hq0) (fun i x σ H2 ei z => ?_) fun σ H2 z => ?_
      · obtain ⟨⟨o3, rfl⟩, h2, k2⟩ := z
        obtain ⟨⟨t1, t2, t3⟩, et, hx1⟩ := map_dp hx0 ei
        have hx2 : Dp K H2 x (.tuple [.int t1, .int t2, .int t3]) := k2.dp hn0 rfl hx1
        have e1 : M.lets.take (i + 1) = M.lets.take i ++ [(t1, t2, t3)] := take_next et
        refine ⟨_, rfl, _, 1, _, hx2, rfl, rfl, fun u hu => ?_⟩
        obtain rfl := Dp.intI hu
        refine ⟨_, rfl, rfl, _, rfl, ?_⟩
        by_cases c : t2 = a
        · refine iteYes ((dec_V _ _).trans (decide_eq_true c)) ?_
          obtain ⟨q1, _, q3⟩ := ok.lets _ (List.mem_of_getElem? et)
          obtain ⟨n, en⟩ : ∃ n : Nat, t1 = (n : Int) := Int.eq_ofNat_of_zero_le q1.1
          have hnm : n < M.m := by have := q1.2; rw [show (t1, t2, t3).1 = t1 from rfl, en] at this; omega
          obtain ⟨r, er⟩ : ∃ r, rs[n]? = some r := ⟨rs[n]'(by rw [h2.len]; exact hnm), List.getElem?_eq_getElem _⟩
          obtain ⟨r1, r2, r3⟩ := h2.row n r er
          refine ⟨_, rfl, _, rfl, _, 0, _, hx2, rfl, rfl, fun u hu => ?_⟩
          obtain rfl := Dp.intI hu
          refine ⟨D, _, _, V.ref r, rfl, rfl, SqL.of h2.at_, by rw [en]; exact atI_of (by rw [List.getElem?_map, er]; rfl), .inl ⟨rfl, _, SqL.of r1⟩, ?_⟩
          refine ⟨_, rfl, _, 2, _, hx2, rfl, rfl, fun u hu => ?_⟩
          obtain rfl := Dp.intI hu
          have hl1 := lpl (M.lets.take i)
          have hl2 : (M.lets.take i).length ≤ M.lets.length := by rw [List.length_take]; omega
          have hl3 := h2.rowLen (i := n)
          have hl4 := ok.nlets
          refine ⟨r, _, _, rfl, rfl, r1, by rw [List.length_map, sizeLine_eq]; omega, ⟨_, rfl⟩, ?_, ?_⟩
          · have e2 : lp (M.lets.take (i + 1)) = lp (M.lets.take i) ++ [(((n : Nat) : Int), t3)] := by
              rw [e1]
              show List.map _ (List.filter _ (M.lets.take i ++ [(t1, t2, t3)])) = _
              rw [List.filter_append, List.map_append, List.filter_cons, List.filter_nil]
              simp only [c, decide_true, if_true, List.map_cons, List.map_nil, en]
              rfl
            rw [e2]
            exact h2.add er t3
          · exact k2.put r1 (fun ps z => by cases z) (.inl (List.mem_cons_of_mem _ (List.mem_of_getElem? er)))
        · refine iteNo ((dec_V _ _).trans (decide_eq_false c)) ?_
          refine ⟨⟨_, rfl⟩, ?_, k2⟩
          have e2 : lp (M.lets.take (i + 1)) = lp (M.lets.take i) := by
            rw [e1]
            show List.map _ (List.filter _ (M.lets.take i ++ [(t1, t2, t3)])) = _
            rw [List.filter_append, List.filter_cons, List.filter_nil]
            simp only [c, decide_false, Bool.false_eq_true, if_false, List.append_nil]
            rfl
          rw [e2]; exact h2
      · obtain ⟨⟨o3, rfl⟩, h2, _⟩ := z
        rw [lenx, List.take_length] at h2
        have h2 : MM H D M.m rs (letPairs M a) H2 := h2
        have hl4 := ok.nlets
        have lpl2 : (letPairs M a).length ≤ 7 := Nat.le_trans (lpl M.lets) hl4
        have hrl := h2.len
        refine ⟨_, rfl, D, rfl, ⟨_, SqL.of h2.at_⟩, fun D2 hD2 => ?_⟩
        refine lc_list (K := K) (xs := rs.map V.ref) (fun i H3 => Grow K [] H2 D2 (((List.range i).map fun (s : Nat) => ssort (pairsAt (letPairs M a) (s : Int))).map iD) H3) (Grow.zero hD2) (fun i H3 _ g => SqL.of (h2.kp' g.kp).at_) (fun i x H3 ei g => ⟨rfl, ?_⟩) fun H3 g => ?_
        · refine yesT ?_
          rw [List.getElem?_map] at ei
          obtain ⟨r, er, rfl⟩ : ∃ r, rs[i]? = some r ∧ x = V.ref r := by
            cases hr : rs[i]? with
            | none => rw [hr] at ei; cases ei
            | some r => rw [hr] at ei; exact ⟨r, rfl, (Option.some.inj ei).symm⟩
          have hi := (List.getElem?_eq_some_iff.mp er).1
          have h3 := h2.kp' g.kp
          have hl3 := h3.rowLen (i := i)
          refine ⟨_, rfl, r, _, rfl, SqL.of (h3.row i r er).1, by unfold scanBound; omega, fun S F n hS hF hn => ?_⟩
          refine ⟨S, F, n, rfl, upd_same, by omega, fun ns q hns hmem _ hq => ?_⟩
          obtain rfl : ns = ssort (pairsAt (letPairs M a) (i : Int)) := ssort_eq hns fun x => (hmem x).trans (hF x)
          refine ⟨q, _, rfl, .inl ⟨SqL.of upd_same, fun q3 hq3 => ?_⟩⟩
          rw [rng_snoc, List.map_append]
          exact Grow.step (S := []) hD2 (fun z => nomatch z) NoTup.nil g (((Kp.new hS).and hq).and hq3) (rows_solid _) (Dp.tup (SqT.of upd_same) (dpAll_ints _)) (nums_solid _ (iD_nums _)) (by simp; omega)
        · rw [List.length_map, hrl] at g
          obtain ⟨acc, kD, eD, aD⟩ := g
          refine ⟨D2, acc, rfl, .inl ⟨SqL.of eD, fun q hq => ?_⟩⟩
          obtain ⟨k3, d3⟩ := Grow.done kD aD (rows_solid _) hq
          exact k _ _ (h2.kp.trans k3) d3
end
end K51
end

section
set_option Elab.async false
set_option linter.all false
set_option maxRecDepth 100000
set_option maxHeartbeats 8000000
/-! the law's own tables: over -/
namespace K51
open PySem PySem.Spec PyProof.Rows L2
section
variable {P : Program} {w : World} {K : PySem.W.Frag} {mg : PySem.Str → Option Value} {base : Heap}
/-- _law_over(machine, a, b, table) -/
def spOver (K : PySem.W.Frag) : Sp := fun vs H Q _ => ∃ (M : Mach) (L : Nat × Nat × Nat) (mv : V) (a b : Int) (x : V) (t : Tab), vs = [mv, .int a, .int b, x] ∧ M.Ok L ∧ Dp K H mv (mD M) ∧ Dp K H x (tD t) ∧ Good M.m t ∧ ∀ v H', Kp [] H H' → Dp K H' v (tD (tAround M a b t)) → Q v H'
abbrev nOver : List PySem.Str := ["_law_machine_here", "_law_a", "_law_b", "_law_table", "_law_made", "_law_step", "_law_last", "_law_p", "_law_row"]
theorem sc_over : FnScope nOver ["_law_machine_here", "_law_a", "_law_b", "_law_table"] (defScope s_L_over) := ⟨rfl, rfl, rfl, by decide +kernel, rfl, by decide +kernel, by decide +kernel⟩
theorem ok_over {f : Addr} {fd : FuncData} (F : L2.Fun K "_law_over" "_law_over" s_L_over f fd) (G : Gs mg) : FnOk P w K mg base CX0 1 f fd ["_law_machine_here", "_law_a", "_law_b", "_law_table"] (spOver K) := by
  refine F.ok sc_over (fun vs H Q E h => ?_) (fun cdv A outer s H vs Q E hr h => ?_)
  · obtain ⟨M, L, mv, a, b, x, t, rfl, _⟩ := h
    rfl
  · obtain ⟨M, L, mv, a, b, x, t, rfl, ok, hM, hx, gt, k⟩ := h
    refine ⟨_, pss_cons (ps_setLc (i := 4) (own := [("_law_p", 7)]) (g := gName 7) (tt := tYes) rfl sc_over.nd rfl rfl (sw_true rfl rfl rfl (by decide +kernel))
        (pi_range1 (by rfl) G.range (pa_cons (pe_ix ix_dp (pv 0) pe_int (fun _ _ => rfl)) pa_nil)) (blkOk_by (by kernel_rfl)) (fun _ _ _ _ _ => pg_name (i := 7) sc_over.nd rfl (Or.inl rfl)) (fun _ _ _ _ _ => pts_nil)
        (fun _ _ _ _ _ => pe_lst pa_nil))
      (pss_cons (ps_for PassesOwn.never rfl (pi_tup (pe_ix ix_dp (pv 0) pe_int (fun _ _ => rfl))) (pg_name (i := 5) sc_over.nd rfl (Or.inl rfl))
        (pss_one (ps_for PassesOwn.never rfl (pi_tup (pe_ix ix_dp (pv 0) pe_int (fun _ _ => rfl))) (pg_name (i := 6) sc_over.nd rfl (Or.inl rfl))
          (pss_one (ps_if (PW.pt (pw_and (pt_cmpR op_eq (pe_ix ix_dp (pv 5) pe_int (fun _ _ => rfl)) (pv 1) (nomark _)) (pw_and (pt_cmpR op_eq (pe_ix ix_dp (pv 6) pe_int (fun _ _ => rfl)) (pv 2) (nomark _)) (pw_and (pt_cmpR op_eq (pe_ix ix_dp (pv 5) pe_int (fun _ _ => rfl)) (pe_ix ix_dp (pv 6) pe_int (fun _ _ => rfl)) (nomark _))
              (pw_and1 (pt_cmpR op_in_seq (pe_ix ix_dp (pv 6) pe_int (fun _ _ => rfl)) (pe_ix ix_dp (pv 3) (pe_ix ix_dp (pv 5) pe_int (fun _ _ => rfl)) (fun _ _ => rfl)) (by rfl)))))))
            (pss_one (ps_expr (pe_bm PySem.F.plainAttrs_list PySem.F.slot_list_append PySem.F.type_list_append mt_append (pe_ix ix_list (pv 4) (pe_ix ix_dp (pv 5) pe_int (fun _ _ => rfl)) (fun _ _ => rfl)) (pa_cons (pe_ix ix_dp (pv 6) pe_int (fun _ _ => rfl)) pa_nil)))) pss_nil)))))
      (pss_one (ps_ret (pe_callTy call_tuple_of (by rfl) G.tuple b_tuple (pa_cons (pe_lc (own := [("_law_row", 8)]) (g := gName 8) (tt := tYes) rfl sc_over.nd (pi_list (pv 4)) (blkOk_by (by kernel_rfl)) (fun _ _ _ _ _ => pg_name (i := 8) sc_over.nd rfl (Or.inl rfl)) (fun _ _ _ _ _ => pts_nil)
        (fun _ _ _ _ _ => pe_callTy (cr_tupleK K) (by rfl) G.tuple b_tuple (pa_cons (pe_callB (cr_sortedSetK w rfl) (by rfl) G.sorted b_sorted (pa_cons (pe_callTy (cr_setOfIK K w rfl) (by rfl) G.set b_set (pa_cons (pv 8) pa_nil)) pa_nil)) pa_nil))) pa_nil))))), ?_⟩
    refine ⟨_, rfl, mDs M, 0, .int (M.m : Int), hM, rfl, rfl, fun u hu => ?_⟩
    obtain rfl := Dp.intI hu
    have m3 := ok.m3
    refine ⟨_, rfl, by omega, by omega, fun D hD => ?_⟩
    refine lc_range (lo := 0) (n := (M.m : Int).toNat) (fun i H' => ∃ rs, MM H D i rs [] H') ⟨[], Kp.new hD, upd_same, rfl, List.nodup_nil, fun i r e => by simp at e⟩ (fun i H' hi z => ⟨rfl, ?_⟩) fun H' z => ?_
    · obtain ⟨rs, h⟩ := z
      refine yesT ?_
      refine ⟨by decide, fun r hr => ?_⟩
      have eD : (upd H' r (.lst [])) D = some (.lst (rs.map V.ref)) := by rw [upd_ne (ne_of_none h.at_ hr)]; exact h.at_
      have hrl := h.len
      have hi3 : i < 3 := by omega
      have hrD : r ≠ D := fun z => by rw [z, h.at_] at hr; cases hr
      refine ⟨rs.map V.ref, eD, by rw [List.length_map, sizeLine_eq]; omega, rs ++ [r], (h.kp.and hr).put eD (fun ps z => by cases z) (.inr hD), by rw [upd_same, List.map_append]; rfl, by rw [List.length_append, hrl]; rfl, ?_, fun j q e => ?_⟩
      · refine List.nodup_append.mpr ⟨h.nd, by simp, fun x hx y hy => ?_⟩
        rw [List.mem_singleton.mp hy]
        intro z
        obtain ⟨j, hj, ej⟩ := List.getElem_of_mem hx
        have := (h.row j x (by rw [List.getElem?_eq_getElem hj, ej])).1
        rw [z, hr] at this
        cases this
      · rcases Nat.lt_or_ge j rs.length with c | c
        · rw [List.getElem?_append_left c] at e
          obtain ⟨a1, a2, a3⟩ := h.row j q e
          exact ⟨by rw [upd_ne a3, upd_ne (ne_of_none a1 hr)]; exact a1, a2, a3⟩
        · rw [List.getElem?_append_right c] at e
          have hj0 : j - rs.length = 0 := by
            have := (List.getElem?_eq_some_iff.mp e).1
            simp at this; omega
          rw [hj0] at e
          simp only [List.getElem?_cons_zero, Option.some.injEq] at e
          subst e
          exact ⟨by rw [upd_ne hrD, upd_same]; rfl, h.kp.back r hr, hrD⟩
    · rw [Int.toNat_natCast] at z
      obtain ⟨rs, h0⟩ := z
      have mH : ∀ {H2 : Hp}, Kp [] H H2 → Dp K H2 mv (mD M) := fun k2 => k2.dp NoTup.nil (nums_solid _ (mD_nums M)) hM
      have xH : ∀ {H2 : Hp}, Kp [] H H2 → Dp K H2 x (tD t) := fun k2 => k2.dp NoTup.nil (nums_solid _ (tD_nums t)) hx
      refine ⟨_, rfl, mDs M, 3, .tuple (M.calls.map d4), mH h0.kp, rfl, rfl, fun u hu => ?_⟩
      obtain ⟨a0, cs, rfl, hq0, hx0⟩ := Dp.tupI hu
      have lenc := DpAll.length hx0
      rw [List.length_map] at lenc
      let part : List (Int × Int × Int × Int) → List (Int × Int) := fun cs => cs.flatMap fun c => (M.rets.filter (fits a b t c)).map fun r => (c.1, r.2.2.2)
      have key : ∀ cs : List (Int × Int × Int × Int), (part cs).length ≤ cs.length * 7 := fun cs =>
        len_flat (n := 7) fun c _ => by
          rw [List.length_map]
          have h1 := List.length_filter_le (fits a b t c) M.rets
          have h2 := ok.nrets
          omega
      have hnc := ok.ncalls
      have hnr := ok.nrets
      have hn0 : NoTup (D :: rs) H' := h0.noTup
      refine ⟨a0, rfl, ⟨cs, hq0⟩, ?_⟩
      refine for_tup (K := K) (xs := cs) (fun i σ H2 => (∃ o5 o6, σ = [some mv, some (V.int a), some (V.int b), some x, some (V.ref D), o5, o6, none, none]) ∧ MM H D M.m rs (part (M.calls.take i)) H2 ∧ Kp (D :: rs) H' H2) ⟨⟨none, none, rfl⟩, h0, Kp.refl⟩ (fun i σ H2 _ z => z.2.2.tup hn0 hq0) (fun i y σ H2 ei z => ?_) fun σ H2 z => ?_
      · obtain ⟨⟨o5, o6, rfl⟩, h2, k2⟩ := z
        obtain ⟨⟨c1, c2, c3, c4⟩, ec, hy1⟩ := map_dp hx0 ei
        refine ⟨_, rfl, mDs M, 4, .tuple (M.rets.map d4), mH h2.kp, rfl, rfl, fun u hu => ?_⟩
        obtain ⟨ar, rs', rfl, hqr, hdr⟩ := Dp.tupI hu
        have lenr := DpAll.length hdr
        rw [List.length_map] at lenr
        have hn2 : NoTup (D :: rs) H2 := h2.noTup
        have hlc : (M.calls.take i).length ≤ M.calls.length := by rw [List.length_take]; omega
        have keyi := key (M.calls.take i)
        refine ⟨ar, rfl, ⟨rs', hqr⟩, ?_⟩
        refine for_tup (K := K) (xs := rs') (fun j σ H3 => (∃ o6, σ = [some mv, some (V.int a), some (V.int b), some x, some (V.ref D), some y, o6, none, none]) ∧ MM H D M.m rs (part (M.calls.take i) ++ ((M.rets.take j).filter (fits a b t (c1, c2, c3, c4))).map fun r => (c1, r.2.2.2)) H3 ∧ Kp (D :: rs) H2 H3)
          ⟨⟨_, rfl⟩, by rw [List.take_zero, List.filter_nil, List.map_nil, List.append_nil]; exact h2, Kp.refl⟩ (fun j σ H3 _ z => z.2.2.tup hn2 hqr) (fun j y' σ H3 ej z => ?_) fun σ H3 z => ?_
        · obtain ⟨⟨o6, rfl⟩, h3, k3⟩ := z
          obtain ⟨⟨r1, r2, r3, r4⟩, er, hr1⟩ := map_dp hdr ej
          have hc : Dp K H3 y (.tuple [.int c1, .int c2, .int c3, .int c4]) := (k2.trans k3).dp hn0 rfl hy1
          have hrr : Dp K H3 y' (.tuple [.int r1, .int r2, .int r3, .int r4]) := k3.dp hn2 rfl hr1
          have e1 : M.rets.take (j + 1) = M.rets.take j ++ [(r1, r2, r3, r4)] := take_next er
          have no : fits a b t (c1, c2, c3, c4) (r1, r2, r3, r4) = false → ∀ o6, (∃ o6', [some mv, some (V.int a), some (V.int b), some x, some (V.ref D), some y, o6, none, none] = [some mv, some (V.int a), some (V.int b), some x, some (V.ref D), some y, o6', none, none]) ∧ MM H D M.m rs (part (M.calls.take i) ++ ((M.rets.take (j + 1)).filter (fits a b t (c1, c2, c3, c4))).map fun r => (c1, r.2.2.2)) H3 ∧ Kp (D :: rs) H2 H3 := fun h o6 =>
            ⟨⟨_, rfl⟩, by rw [e1, List.filter_append, List.filter_cons, List.filter_nil, h, if_neg (by decide), List.append_nil]; exact h3, k3⟩
          refine ⟨_, rfl, _, 1, _, hc, rfl, rfl, fun u hu => ?_⟩
          obtain rfl := Dp.intI hu
          refine ⟨_, rfl, rfl, _, rfl, ?_⟩
          by_cases q1 : c2 = a
          case neg => exact iteNo ((dec_V _ _).trans (decide_eq_false q1)) (iteNo rfl (no (by simp [fits, q1]) _))
          refine iteYes ((dec_V _ _).trans (decide_eq_true q1)) ?_
          refine ⟨_, rfl, _, 2, _, hrr, rfl, rfl, fun u hu => ?_⟩
          obtain rfl := Dp.intI hu
          refine ⟨_, rfl, rfl, _, rfl, ?_⟩
          by_cases q2 : r3 = b
          case neg => exact iteNo ((dec_V _ _).trans (decide_eq_false q2)) (iteNo rfl (no (by simp [fits, q2]) _))
          refine iteYes ((dec_V _ _).trans (decide_eq_true q2)) ?_
          refine ⟨_, rfl, _, 3, _, hc, rfl, rfl, fun u hu => ?_⟩
          obtain rfl := Dp.intI hu
          refine ⟨_, rfl, _, 1, _, hrr, rfl, rfl, fun u hu => ?_⟩
          obtain rfl := Dp.intI hu
          refine ⟨rfl, _, rfl, ?_⟩
          by_cases q3 : c4 = r2
          case neg => exact iteNo ((dec_V _ _).trans (decide_eq_false q3)) (iteNo rfl (no (by simp [fits, Ne.symm q3]) _))
          refine iteYes ((dec_V _ _).trans (decide_eq_true q3)) ?_
          have okc := ok.calls _ (List.mem_of_getElem? ec)
          have hc3 : InS M.m c3 := okc.2.2.1
          obtain ⟨n, en⟩ : ∃ n : Nat, c3 = (n : Int) := Int.eq_ofNat_of_zero_le hc3.1
          refine ⟨_, rfl, _, 0, _, hrr, rfl, rfl, fun u hu => ?_⟩
          obtain rfl := Dp.intI hu
          refine ⟨_, rfl, _, rfl, _, 2, _, hc, rfl, rfl, fun u hu => ?_⟩
          obtain rfl := Dp.intI hu
          refine ⟨t.map iD, n, iD (getR t c3), xH h3.kp, by rw [en], ?_, fun u hu => ?_⟩
          · have z3 := getR_some (t := t) (p := c3) (by rw [gt.len]; exact hc3)
            rw [show c3.toNat = n by rw [en]; rfl] at z3
            rw [List.getElem?_map, z3]; rfl
          obtain ⟨a3, ys, rfl, hq3, hys3⟩ := Dp.tupI hu
          obtain rfl := DpAll.ints (ns := getR t c3) hys3
          refine ⟨a3, _, rfl, .inr hq3, rfl, flat_ints _, _, rfl, ?_⟩
          by_cases q4 : r1 ∈ getR t c3
          case neg => exact iteNo ((inV_int _ _).trans (decide_eq_false q4)) (no (by simp [fits, q4]) _)
          refine iteYes ((inV_int _ _).trans (decide_eq_true q4)) ?_
          have hc1 : InS M.m c1 := okc.1
          obtain ⟨n1, en1⟩ : ∃ n : Nat, c1 = (n : Int) := Int.eq_ofNat_of_zero_le hc1.1
          have hnm : n1 < M.m := by have := hc1.2; rw [en1] at this; omega
          obtain ⟨r, err⟩ : ∃ r, rs[n1]? = some r := ⟨rs[n1]'(by rw [h3.len]; exact hnm), List.getElem?_eq_getElem _⟩
          obtain ⟨p1, p2, p3⟩ := h3.row n1 r err
          refine ⟨_, rfl, _, rfl, _, 0, _, hc, rfl, rfl, fun u hu => ?_⟩
          obtain rfl := Dp.intI hu
          refine ⟨D, _, _, V.ref r, rfl, rfl, SqL.of h3.at_, by rw [en1]; exact atI_of (by rw [List.getElem?_map, err]; rfl), .inl ⟨rfl, _, SqL.of p1⟩, ?_⟩
          refine ⟨_, rfl, _, 3, _, hrr, rfl, rfl, fun u hu => ?_⟩
          obtain rfl := Dp.intI hu
          have hl3 := h3.rowLen (i := n1)
          rw [List.length_append, List.length_map] at hl3
          have hl5 := List.length_filter_le (fits a b t (c1, c2, c3, c4)) (M.rets.take j)
          have hl6 : (M.rets.take j).length ≤ M.rets.length := by rw [List.length_take]; omega
          refine ⟨r, _, _, rfl, rfl, p1, by rw [List.length_map, sizeLine_eq]; omega, ⟨_, rfl⟩, ?_, ?_⟩
          · rw [e1, List.filter_append, List.filter_cons, List.filter_nil, show fits a b t (c1, c2, c3, c4) (r1, r2, r3, r4) = true by simp [fits, q1, q2, q3, q4], if_pos rfl, snoc_map]
            have e9 : ((c1, (r1, r2, r3, r4).2.2.2) : Int × Int) = (((n1 : Nat) : Int), r4) := by rw [en1]
            rw [e9]
            exact h3.add err r4
          · exact k3.put p1 (fun ps z => by cases z) (.inl (List.mem_cons_of_mem _ (List.mem_of_getElem? err)))
        · obtain ⟨⟨o6, rfl⟩, h3, k3⟩ := z
          rw [lenr, List.take_length] at h3
          refine ⟨⟨_, _, rfl⟩, ?_, k2.trans k3⟩
          rw [show M.calls.take (i + 1) = M.calls.take i ++ [(c1, c2, c3, c4)] from take_next ec]
          show MM H D M.m rs (List.flatMap _ (M.calls.take i ++ [(c1, c2, c3, c4)])) H3
          rw [List.flatMap_append, List.flatMap_cons, List.flatMap_nil, List.append_nil]
          exact h3
      · obtain ⟨⟨o5, o6, rfl⟩, h2, _⟩ := z
        rw [lenc, List.take_length] at h2
        have lpl2 : (aroundPairs M a b t).length ≤ 49 := by
          have := key M.calls
          show (part M.calls).length ≤ 49
          omega
        have h2 : MM H D M.m rs (aroundPairs M a b t) H2 := h2
        have hrl := h2.len
        refine ⟨_, rfl, D, rfl, ⟨_, SqL.of h2.at_⟩, fun D2 hD2 => ?_⟩
        refine lc_list (K := K) (xs := rs.map V.ref) (fun i H3 => Grow K [] H2 D2 (((List.range i).map fun (s : Nat) => ssort (pairsAt (aroundPairs M a b t) (s : Int))).map iD) H3) (Grow.zero hD2) (fun i H3 _ g => SqL.of (h2.kp' g.kp).at_) (fun i x H3 ei g => ⟨rfl, ?_⟩) fun H3 g => ?_
        · refine yesT ?_
          rw [List.getElem?_map] at ei
          obtain ⟨r, er, rfl⟩ : ∃ r, rs[i]? = some r ∧ x = V.ref r := by
            cases hr : rs[i]? with
            | none => rw [hr] at ei; cases ei
            | some r => rw [hr] at ei; exact ⟨r, rfl, (Option.some.inj ei).symm⟩
          have hi := (List.getElem?_eq_some_iff.mp er).1
          have h3 := h2.kp' g.kp
          have hl3 := h3.rowLen (i := i)
          refine ⟨_, rfl, r, _, rfl, SqL.of (h3.row i r er).1, by unfold scanBound; omega, fun S F n hS hF hn => ?_⟩
          refine ⟨S, F, n, rfl, upd_same, by omega, fun ns q hns hmem _ hq => ?_⟩
          obtain rfl : ns = ssort (pairsAt (aroundPairs M a b t) (i : Int)) := ssort_eq hns fun x => (hmem x).trans (hF x)
          refine ⟨q, _, rfl, .inl ⟨SqL.of upd_same, fun q3 hq3 => ?_⟩⟩
          rw [rng_snoc, List.map_append]
          exact Grow.step (S := []) hD2 (fun z => nomatch z) NoTup.nil g (((Kp.new hS).and hq).and hq3) (rows_solid _) (Dp.tup (SqT.of upd_same) (dpAll_ints _)) (nums_solid _ (iD_nums _)) (by simp; omega)
        · rw [List.length_map, hrl] at g
          obtain ⟨acc, kD, eD, aD⟩ := g
          refine ⟨D2, acc, rfl, .inl ⟨SqL.of eD, fun q hq => ?_⟩⟩
          obtain ⟨k3, d3⟩ := Grow.done kD aD (rows_solid _) hq
          exact k _ _ (h2.kp.trans k3) d3
end
end K51
end

section
set_option Elab.async false
set_option linter.all false
set_option maxRecDepth 100000
set_option maxHeartbeats 8000000
/-! the law's tables -/
namespace K51
open PySem PySem.Spec PyProof.Rows L2
theorem tabs_shaped (f : List Tab) : SeqAt.shaped (.list (f.map tD)) = true := by
  unfold SeqAt.shaped
  have h1 : (PyData.list (f.map tD)).canLay0 = true := by
    rw [PyData.canLay0]
    exact numsAll_lay _ (numsAll_of fun d h => by obtain ⟨t, _, rfl⟩ := List.mem_map.mp h; exact tD_nums t)
  have h2 : (PyData.list (f.map tD)).depth ≤ 64 := by
    have := depthAll_of (ds := f.map tD) (n := 2) fun d h => by obtain ⟨t, _, rfl⟩ := List.mem_map.mp h; exact tD_depth t
    simp only [PyData.depth]; omega
  rw [h1, decide_eq_true h2]; rfl
theorem any_tabs (f : List Tab) (t : Tab) : ((f.map tD).any fun z => PyData.eqv z (tD t)) = decide (t ∈ f) := by
  rw [List.any_map, Bool.eq_iff_iff, List.any_eq_true, decide_eq_true_eq]
  constructor
  · rintro ⟨u, hu, e⟩
    have e : PyData.eqv (tD u) (tD t) = true := e
    rw [tD_eqv, decide_eq_true_eq] at e
    exact e ▸ hu
  · intro h
    refine ⟨t, h, ?_⟩
    show PyData.eqv (tD t) (tD t) = true
    rw [tD_eqv, decide_eq_true_eq]
theorem rounds_stop {M : Mach} {Lb : Nat × Nat × Nat} {n : Nat} {fs ts : List Tab} (h : (addAll fs ts).length ≤ 60) (e : (addAll fs ts).length = fs.length) : rounds M Lb (n + 1) fs ts false = some (addAll fs ts) := by
  show (if 60 < (addAll fs ts).length then none else if (!false && (addAll fs ts).length == fs.length) = true then some (addAll fs ts) else rounds M Lb n (addAll fs ts) (next M Lb (addAll fs ts)) false) = _
  rw [if_neg (by omega), if_pos (by simp [e])]
section
variable {P : Program} {w : World} {K : PySem.W.Frag} {mg : PySem.Str → Option Value} {base : Heap}
/-- _law_tables(labels, machine) -/
def spTables (K : PySem.W.Frag) : Sp := fun vs H Q _ => ∃ (M : Mach) (L : Nat × Nat × Nat) (lv mv : V), vs = [lv, mv] ∧ M.Ok L ∧ (L.1 ≤ 3 ∧ L.2.1 ≤ 3 ∧ L.2.2 ≤ 3) ∧ Dp K H mv (mD M) ∧ Dp K H lv (lD L) ∧
  (tables M L = none → ∀ H', Kp [] H H' → Q .non H') ∧ (∀ r, tables M L = some r → ∀ q acc H', Kp [] H H' → H q = none → H' q = some (.lst acc) → DpAll K H' acc (r.map tD) → Q (.ref q) H')
abbrev nTables : List PySem.Str := ["_law_labels_here", "_law_machine_here", "_law_found", "_law_made", "_law_k", "_law_fresh", "_law_table", "_law_one", "_law_a", "_law_b", "_law_p", "_law_two"]
theorem sc_tables : FnScope nTables ["_law_labels_here", "_law_machine_here"] (defScope s_L_tables) := ⟨rfl, rfl, rfl, by decide +kernel, rfl, by decide +kernel, by decide +kernel⟩
theorem ok_tables {f f1 f2 f3 : Addr} {fd fd1 fd2 fd3 : FuncData} (F : L2.Fun K "_law_tables" "_law_tables" s_L_tables f fd) (G : Gs mg) (Cl : Cal P w K mg base CX0 1 "_law_letter" ["_law_machine_here", "_law_a"] (spLetterL K) f1 fd1)
    (Cb : Cal P w K mg base CX0 1 "_law_behind" ["_law_one", "_law_two"] (spBehind K) f2 fd2) (Co : Cal P w K mg base CX0 1 "_law_over" ["_law_machine_here", "_law_a", "_law_b", "_law_table"] (spOver K) f3 fd3) :
    FnOk P w K mg base CX0 2 f fd ["_law_labels_here", "_law_machine_here"] (spTables K) := by
  refine F.ok sc_tables (fun vs H Q E h => ?_) (fun cdv A outer s H vs Q E hr h => ?_)
  · obtain ⟨M, L, lv, mv, rfl, _⟩ := h
    rfl
  · obtain ⟨M, L, lv, mv, rfl, ok, ⟨lb0, lb1, lb2⟩, hM, hL, kN, kS⟩ := h
    have hu65 : (A.deeper (envOfC "_law_tables" (defScope s_L_tables) s.heap.objs.size f cdv)).units + 65 < cLine := by have := hr.un; omega
    refine ⟨_, pss_cons (ps_set (i := 2) sc_tables.nd rfl (Or.inl rfl) (pe_lst (pa_cons (pe_callTy call_tuple_of (by rfl) G.tuple b_tuple (pa_cons (pe_lc (own := [("_law_p", 10)]) (g := gName 10) (tt := tYes) rfl sc_tables.nd
          (pi_range1 (by rfl) G.range (pa_cons (pe_ix ix_dp (pv 1) pe_int (fun _ _ => rfl)) pa_nil)) (blkOk_by (by kernel_rfl)) (fun _ _ _ _ _ => pg_name (i := 10) sc_tables.nd rfl (Or.inl rfl)) (fun _ _ _ _ _ => pts_nil) (fun _ _ _ _ _ => pe_tup (pa_cons (pv 10) pa_nil))) pa_nil)) pa_nil)))
      (pss_cons (ps_setLc (i := 3) (own := [("_law_a", 8)]) (g := gName 8) (tt := tYes) rfl sc_tables.nd rfl rfl (sw_true rfl rfl rfl (by decide +kernel))
          (pi_range1 (by rfl) G.range (pa_cons (pe_ix ix_dp (pv 0) pe_int (fun _ _ => rfl)) pa_nil)) (blkOk_by (by kernel_rfl)) (fun _ _ _ _ _ => pg_name (i := 8) sc_tables.nd rfl (Or.inl rfl)) (fun _ _ _ _ _ => pts_nil)
          (fun _ _ _ _ _ => pe_call Cl.ok hr rfl Cl.g Cl.kp Cl.b .nil pass0 (pa_cons (pv 1) (pa_cons (pv 8) pa_nil))))
      (pss_cons (ps_for PassesOwn.never rfl (pi_range1 (by rfl) G.range (pa_cons pe_int pa_nil)) (pg_name (i := 4) sc_tables.nd rfl (Or.inl rfl))
        (pss_cons (ps_set (i := 5) sc_tables.nd rfl (Or.inl rfl) pe_int)
        (pss_cons (ps_for PassesOwn.never rfl (pi_list (pv 3)) (pg_name (i := 6) sc_tables.nd rfl (Or.inl rfl))
          (pss_one (ps_if (pt_cmpR (op_notInD hu65) (pv 6) (pv 2) (by rfl))
            (pss_cons (ps_expr (pe_bm PySem.F.plainAttrs_list PySem.F.slot_list_append PySem.F.type_list_append mt_append (pv 2) (pa_cons (pv 6) pa_nil)))
            (pss_one (ps_set (i := 5) sc_tables.nd rfl (Or.inl rfl) (pe_op op_add (pv 5) pe_int)))) pss_nil)))
        (pss_cons (ps_if (pt_cmpR op_gt (pe_callB call_len_seq (by rfl) G.len b_len (pa_cons (pv 2) pa_nil)) pe_int (nomark _)) (pss_one (ps_ret pe_non)) pss_nil)
        (pss_cons (ps_if (PW.pt (pw_and (pt_cmpR op_gt (pv 4) pe_int (nomark _)) (pw_and1 (pt_cmpR op_eq (pv 5) pe_int (nomark _))))) (pss_one (ps_ret (pv 2))) pss_nil)
        (pss_cons (ps_set (i := 3) sc_tables.nd rfl (Or.inl rfl) (pe_lst pa_nil))
        (pss_cons (ps_for PassesOwn.never rfl (pi_list (pv 2)) (pg_name (i := 7) sc_tables.nd rfl (Or.inr rfl))
          (pss_one (ps_set (i := 3) sc_tables.nd rfl (Or.inl rfl) (pe_op op_cat (pv 3) (pe_lc (own := [("_law_two", 11)]) (g := gName 11) (tt := tYes) rfl sc_tables.nd (pi_list (pv 2)) (blkOk_by (by kernel_rfl)) (fun _ _ _ _ _ => pg_name (i := 11) sc_tables.nd rfl (Or.inl rfl)) (fun _ _ _ _ _ => pts_nil)
            (fun _ _ _ _ _ => pe_call Cb.ok hr rfl Cb.g Cb.kp Cb.b .nil pass0 (pa_cons (pv 7) (pa_cons (pv 11) pa_nil))))))))
        (pss_one (ps_for PassesOwn.never rfl (pi_range1 (by rfl) G.range (pa_cons (pe_ix ix_dp (pv 0) pe_int (fun _ _ => rfl)) pa_nil)) (pg_name (i := 8) sc_tables.nd rfl (Or.inr rfl))
          (pss_one (ps_for PassesOwn.never rfl (pi_range1 (by rfl) G.range (pa_cons (pe_ix ix_dp (pv 0) pe_int (fun _ _ => rfl)) pa_nil)) (pg_name (i := 9) sc_tables.nd rfl (Or.inr rfl))
            (pss_one (ps_set (i := 3) sc_tables.nd rfl (Or.inl rfl) (pe_op op_cat (pv 3) (pe_lc (own := [("_law_table", 6)]) (g := gName 6) (tt := tYes) rfl sc_tables.nd (pi_list (pv 2)) (blkOk_by (by kernel_rfl)) (fun _ _ _ _ _ => pg_name (i := 6) sc_tables.nd rfl (Or.inl rfl)) (fun _ _ _ _ _ => pts_nil)
              (fun _ _ _ _ _ => pe_call Co.ok hr rfl Co.g Co.kp Co.b .nil pass0 (pa_cons (pv 1) (pa_cons (pv 8) (pa_cons (pv 9) (pa_cons (pv 6) pa_nil))))))))))))))))))))
      (pss_one (ps_ret (pv 2))))), ?_⟩
    have m3 := ok.m3
    have mH : ∀ {H2 : Hp}, Kp [] H H2 → Dp K H2 mv (mD M) := fun k2 => k2.dp NoTup.nil (nums_solid _ (mD_nums M)) hM
    have lH : ∀ {H' : Hp}, Kp [] H H' → Dp K H' lv (lD L) := fun k2 => k2.dp NoTup.nil (nums_solid _ (lD_nums L)) hL
    -- found
    refine ⟨_, rfl, mDs M, 0, .int (M.m : Int), hM, rfl, rfl, fun u hu => ?_⟩
    obtain rfl := Dp.intI hu
    refine ⟨_, rfl, by omega, by omega, fun D hD => ?_⟩
    refine lc_range (lo := 0) (n := (M.m : Int).toNat) (fun i H' => Grow K [] H D (((List.range i).map fun (s : Nat) => [(s : Int)]).map iD) H') (Grow.zero hD) (fun i H' hi g => ⟨rfl, ?_⟩) fun H' g => ?_
    · refine yesT ?_
      refine ⟨_, rfl, (by show 1 ≤ sizeLine; decide), fun t ht => ?_⟩
      rw [List.range_succ, List.map_append, List.map_append]
      have kt := Kp.new (S := []) (o := .tup [V.int (0 + (i : Int))]) ht
      refine Grow.step hD (fun z => nomatch z) NoTup.nil g kt (rows_solid _) (Dp.tup (SqT.of upd_same) ?_) (nums_solid _ (iD_nums _)) (by simp; omega)
      rw [Int.zero_add]
      exact dpAll_ints [(i : Int)]
    rw [Int.toNat_natCast] at g
    obtain ⟨acc0, kD, eD, aD⟩ := g
    refine ⟨D, acc0, rfl, .inl ⟨SqL.of eD, fun q0 hq0 => ?_⟩⟩
    obtain ⟨k0, d0⟩ := Grow.done kD aD (rows_solid _) hq0
    have d0 : Dp K (upd H' q0 (.tup acc0)) (.ref q0) (tD (tEmpty M.m)) := d0
    generalize upd H' q0 (.tup acc0) = Hq at k0 d0
    refine ⟨(by show 1 ≤ sizeLine; decide), fun fl hfl => ?_⟩
    have hflH : H fl = none := k0.back fl hfl
    have g1 : Grow K [] H fl ([tEmpty M.m].map tD) (upd Hq fl (.lst [.ref q0])) := ⟨_, k0.and hfl, upd_same, .cons ((Kp.new (S := []) hfl).dp NoTup.nil (nums_solid _ (tD_nums _)) d0) .nil⟩
    generalize upd Hq fl (.lst [.ref q0]) = H1 at g1
    -- made
    refine ⟨_, rfl, lDs L, 0, .int (L.1 : Int), lH g1.kp, rfl, rfl, fun u hu => ?_⟩
    obtain rfl := Dp.intI hu
    refine ⟨_, rfl, by omega, by omega, fun D2 hD2 => ?_⟩
    refine lc_range (lo := 0) (n := (L.1 : Int).toNat) (fun i H' => Grow K [] H1 D2 (((List.range i).map fun (a : Nat) => tLetter M (a : Int)).map tD) H') (Grow.zero hD2) (fun i H' hi g => ⟨rfl, ?_⟩) fun H2 g => ?_
    · refine yesT ?_
      refine ⟨_, rfl, _, rfl, M, L, mv, _, rfl, ok, mH (g1.kp.trans g.kp), fun v H3 k3 d3 => ?_⟩
      rw [Int.zero_add] at d3
      rw [rng_snoc, List.map_append]
      exact Grow.step hD2 (fun z => nomatch z) NoTup.nil g k3 (tabs_solid _) d3 (nums_solid _ (tD_nums _)) (by simp; omega)
    rw [Int.toNat_natCast] at g
    obtain ⟨acc1, kD2, eD2, aD2⟩ := g
    have g2 : Grow K [] H fl ([tEmpty M.m].map tD) H2 := by
      obtain ⟨a, ka, ea, da⟩ := g1
      exact ⟨a, ka.trans kD2, kD2.keep _ _ ea (fun z => nomatch z) (fun ps z => by cases z), kD2.dps NoTup.nil (tabs_solid _) da⟩
    have hD2fl : D2 ≠ fl := fun z => by
      obtain ⟨a, ka, ea, da⟩ := g1
      rw [z, ea] at hD2; cases hD2
    refine ⟨70, rfl, by decide, by decide, ?_⟩
    let Pv : Nat → L2.St → Hp → Prop := fun k σ H' => ∃ (f ts : List Tab) (ml : Addr) (acc : List V) (o4 o5 o6 o7 o8 o9 : Option V), σ = [some lv, some mv, some (V.ref fl), some (V.ref ml), o4, o5, o6, o7, o8, o9, none, none] ∧ Grow K [] H fl (f.map tD) H' ∧ H' ml = some (.lst acc) ∧ DpAll K H' acc (ts.map tD) ∧ ml ≠ fl ∧
      tables M L = rounds M L (70 - k) f ts (decide (k = 0)) ∧ f.length ≤ 60 ∧ (∀ t ∈ f, Good M.m t) ∧ (∀ t ∈ ts, Good M.m t) ∧ ts.length ≤ 20000
    refine for_range (lo := 0) (n := 70) Pv ⟨[tEmpty M.m], letters M L, D2, acc1, none, none, none, none, none, none, rfl, g2, eD2, aD2, hD2fl, rfl, Nat.le_of_ble_eq_true rfl, fun t ht => by rw [List.mem_singleton.mp ht]; exact good_empty M.m, good_letters ok, by unfold letters; rw [List.length_map, List.length_range]; omega⟩ (fun k σ H3 hk z => ?_) fun σ H3 z => ?_
    · obtain ⟨f, ts, ml, acc, o4, o5, o6, o7, o8, o9, rfl, g3, e3, a3, mf, hT, hl60, gf, gts, tl⟩ := z
      have mS : ml ∉ ([fl] : List Addr) := fun z => mf (List.mem_singleton.mp z)
      have h3n : NoTup [fl] H3 := let ⟨a, _, e, _⟩ := g3; NoTup.one e
      have lacc := DpAll.length a3
      rw [List.length_map] at lacc
      have kH3 := g3.kp
      -- the new ones
      refine ⟨_, rfl, ml, rfl, ⟨acc, SqL.of e3⟩, ?_⟩
      refine for_list (K := K) (xs := acc) (fun i σ H4 => (∃ o6, σ = [some lv, some mv, some (V.ref fl), some (V.ref ml), some (V.int (0 + (k : Int))), some (V.int (((addAll f (ts.take i)).length : Int) - (f.length : Int))), o6, o7, o8, o9, none, none]) ∧ Grow K [] H fl ((addAll f (ts.take i)).map tD) H4 ∧ Kp [fl] H3 H4)
        ⟨⟨o6, by rw [List.take_zero]; show _ = [_, _, _, _, _, some (V.int ((f.length : Int) - (f.length : Int))), _, _, _, _, _, _]; rw [Int.sub_self]; rfl⟩, g3, Kp.refl⟩ (fun i σ H4 _ z => z.2.2.lst mS (SqL.of e3)) (fun i x σ H4 ei z => ?_) fun σ H4 z => ?_
      · obtain ⟨⟨o6, rfl⟩, g4, k4⟩ := z
        obtain ⟨t, et, hx⟩ := map_dp (k4.dps h3n (tabs_solid ts) a3) ei
        have e1 : addAll f (ts.take (i + 1)) = add1 (addAll f (ts.take i)) t := by rw [take_next et, addAll_snoc]
        obtain ⟨af4, kf4, ef4, df4⟩ := id g4
        refine ⟨_, rfl, _, rfl, tD t, (addAll f (ts.take i)).map tD, hx, Dp.lst (SqL.of ef4) df4, tD_shaped t, tabs_shaped _, _, rfl, ?_⟩
        by_cases hin : t ∈ addAll f (ts.take i)
        · refine iteNo (by rw [any_tabs, decide_eq_true hin]; rfl) ?_
          have e2 : addAll f (ts.take (i + 1)) = addAll f (ts.take i) := by rw [e1]; exact if_pos hin
          exact ⟨⟨some x, by rw [e2]; rfl⟩, by rw [e2]; exact g4, k4⟩
        · refine iteYes (by rw [any_tabs, decide_eq_false hin]; rfl) ?_
          have e2 : addAll f (ts.take (i + 1)) = addAll f (ts.take i) ++ [t] := by rw [e1]; exact if_neg hin
          have hle := len_addAll_le (ts.take i) f
          have hle2 : (ts.take i).length ≤ ts.length := by rw [List.length_take]; omega
          obtain ⟨af, ef, hlt, g5⟩ := Grow.step (S := []) (d := tD t) hflH (fun z => nomatch z) NoTup.nil g4 Kp.refl (tabs_solid _) hx (nums_solid _ (tD_nums t)) (by rw [List.length_map]; omega)
          refine ⟨_, rfl, .inl ⟨rfl, _, SqL.of ef⟩, _, rfl, fl, af, x, rfl, rfl, ef, hlt, ?_⟩
          refine ⟨_, rfl, _, _, rfl, rfl, ⟨some x, ?_⟩, ?_, ?_⟩
          · rw [e2, List.length_append, List.length_singleton]
            show _ = [_, _, _, _, _, some (V.int ((((addAll f (ts.take i)).length + 1 : Nat) : Int) - (f.length : Int))), _, _, _, _, _, _]
            rw [show (((addAll f (ts.take i)).length + 1 : Nat) : Int) - (f.length : Int) = ((addAll f (ts.take i)).length : Int) - (f.length : Int) + 1 by omega]
            rfl
          · rw [e2, List.map_append]; exact g5
          · exact k4.put ef (fun ps z => by cases z) (.inl (List.mem_singleton.mpr rfl))
      · rw [lacc, List.take_length] at z
        obtain ⟨⟨o6, rfl⟩, g4, k4⟩ := z
        have hge := len_addAll ts f
        have gf' := good_addAll gf gts
        obtain ⟨n, hn⟩ : ∃ n, 70 - k = n + 1 := ⟨69 - k, by omega⟩
        rw [hn] at hT
        obtain ⟨af4, kf4, ef4, df4⟩ := id g4
        have laf := DpAll.length df4
        rw [List.length_map] at laf
        refine ⟨_, rfl, fl, af4, rfl, .inl (SqL.of ef4), _, _, rfl, rfl, _, rfl, ?_⟩
        by_cases big : 60 < (addAll f ts).length
        · refine iteYes (decide_eq_true (by rw [laf]; omega)) ?_
          exact kN (by rw [hT]; exact rounds_none big) _ kf4
        refine iteNo (decide_eq_false (by rw [laf]; omega)) ?_
        have small : (addAll f ts).length ≤ 60 := by omega
        refine joinS (Fx := fun σ H5 => σ = [some lv, some mv, some (V.ref fl), some (V.ref ml), some (V.int (0 + (k : Int))), some (V.int (((addAll f ts).length : Int) - (f.length : Int))), o6, o7, o8, o9, none, none] ∧ H4 = H5 ∧ (decide (k = 0) = true ∨ f.length < (addAll f ts).length)) (S := ?S2) ?c ?d
        case c =>
          intro fin
          refine ⟨_, rfl, _, _, rfl, rfl, _, rfl, ?_⟩
          by_cases k0' : k = 0
          · refine iteNo (decide_eq_false (by omega)) ?_
            refine iteNo rfl ?_
            exact fin _ _ ⟨rfl, rfl, .inl (decide_eq_true k0')⟩
          refine iteYes (decide_eq_true (by omega)) ?_
          refine ⟨_, rfl, rfl, _, rfl, ?_⟩
          by_cases same : (addAll f ts).length = f.length
          · refine iteYes ((dec_V _ _).trans (decide_eq_true (by omega))) ?_
            have ht : tables M L = some (addAll f ts) := by
              rw [hT, decide_eq_false k0']; exact rounds_stop small same
            exact ⟨_, rfl, kS _ ht fl af4 H4 kf4 hflH ef4 df4⟩
          · refine iteNo ((dec_V _ _).trans (decide_eq_false (by omega))) ?_
            exact fin _ _ ⟨rfl, rfl, .inr (by omega)⟩
        case d =>
          rintro σ H5 ⟨rfl, rfl, grew⟩
          have go := rounds_go (M := M) (Lb := L) (n := n) small grew
          obtain ⟨ff, eff⟩ : ∃ ff, ff = addAll f ts := ⟨_, rfl⟩
          rw [← eff] at small gf' go df4 g4 laf
          let St2 : List Tab → Hp → Addr → Prop := fun ds H6 m6 => Kp [] H4 H6 ∧ m6 ≠ fl ∧ ∃ accm, H6 m6 = some (.lst accm) ∧ DpAll K H6 accm (ds.map tD)
          have catS : ∀ {ds es : List Tab} {H6 H7 : Hp} {m6 D : Addr}, St2 ds H6 m6 → H6 D = none → Grow K [] H6 D (es.map tD) H7 → ds.length ≤ 20000 → es.length ≤ 60 →
              ∃ xs zs, H7 m6 = some (.lst xs) ∧ H7 D = some (.lst zs) ∧ xs.length + zs.length ≤ sizeLine ∧ ∀ p, H7 p = none → St2 (ds ++ es) (upd H7 p (.lst (xs ++ zs))) p := fun {ds es H6 H7 m6 D} st hD g hl1 hl2 => by
            obtain ⟨k6, n6, accm, em, am⟩ := st
            obtain ⟨acce, ke, ee, ae⟩ := g
            have la := DpAll.length am
            have le := DpAll.length ae
            rw [List.length_map] at la le
            refine ⟨accm, acce, ke.keep _ _ em (fun z => nomatch z) (fun ps z => by cases z), ee, by rw [sizeLine_eq]; omega, fun p hp => ⟨(k6.trans ke).and hp, fun z => ?_, _, upd_same, ?_⟩⟩
            · have := (k6.trans ke).keep _ _ ef4 (fun z => nomatch z) (fun ps z => by cases z)
              rw [z, this] at hp; cases hp
            · rw [List.map_append]
              exact DpAll.append ((Kp.new (S := []) hp).dps NoTup.nil (tabs_solid _) (ke.dps NoTup.nil (tabs_solid _) am)) ((Kp.new (S := []) hp).dps NoTup.nil (tabs_solid _) ae)
          have flS : ∀ {H6 : Hp}, Kp [] H4 H6 → SqL K H6 fl af4 := fun k6 => SqL.of (k6.keep _ _ ef4 (fun z => nomatch z) fun ps z => by cases z)
          have ffS : ∀ {H6 : Hp}, Kp [] H4 H6 → DpAll K H6 af4 (ff.map tD) := fun k6 => k6.dps NoTup.nil (tabs_solid _) df4
          have jl : ∀ i, (((ff.take i).flatMap fun x => ff.map fun y => tJoin x y)).length ≤ 3600 := fun i => by
            have h1 := len_flat (f := fun x => ff.map fun y => tJoin x y) (n := 60) (l := ff.take i) fun x _ => by rw [List.length_map]; exact small
            have h2 : (ff.take i).length ≤ ff.length := by rw [List.length_take]; omega
            omega
          refine ⟨by decide, fun m0 hm0 => ?_⟩
          have st0 : St2 [] (upd H4 m0 (.lst [])) m0 := ⟨Kp.new hm0, fun z => (by rw [z, ef4] at hm0; cases hm0), [], upd_same, .nil⟩
          refine ⟨_, rfl, fl, rfl, ⟨af4, flS st0.1⟩, ?_⟩
          refine for_list (K := K) (xs := af4) (fun i σ H6 => ∃ m6 o7, σ = [some lv, some mv, some (V.ref fl), some (V.ref m6), some (V.int (0 + (k : Int))), some (V.int (((addAll f ts).length : Int) - (f.length : Int))), o6, o7, o8, o9, none, none] ∧ St2 ((ff.take i).flatMap fun x => ff.map fun y => tJoin x y) H6 m6)
            ⟨m0, o7, rfl, st0⟩ (fun i σ H6 _ z => let ⟨_, _, _, st⟩ := z; flS st.1) (fun i x σ H6 ei z => ?_) fun σ H6 z => ?_
          · obtain ⟨m6, o7, rfl, st⟩ := z
            obtain ⟨t, et, _⟩ := map_dp df4 ei
            have ht : t ∈ ff := List.mem_of_getElem? et
            refine ⟨_, rfl, _, rfl, fl, rfl, ⟨af4, flS st.1⟩, fun D3 hD3 => ?_⟩
            refine lc_list (K := K) (xs := af4) (fun j H7 => Grow K [] H6 D3 (((ff.take j).map fun y => tJoin t y).map tD) H7) (Grow.zero hD3) (fun j H7 _ g => flS (st.1.trans g.kp)) (fun j y H7 ej g => ⟨rfl, ?_⟩) fun H7 g => ?_
            · refine yesT ?_
              have k7 := st.1.trans g.kp
              obtain ⟨u, eu, hy⟩ := map_dp (ffS k7) ej
              obtain ⟨t', et', hx'⟩ := map_dp (ffS k7) ei
              obtain rfl : t' = t := by rw [et] at et'; exact (Option.some.inj et').symm
              refine ⟨_, rfl, _, rfl, M.m, x, y, t', u, rfl, hx', hy, gf' _ ht, gf' _ (List.mem_of_getElem? eu), ok.m3, fun v H8 k8 d8 => ?_⟩
              rw [take_next eu, List.map_append, List.map_append]
              exact Grow.step hD3 (fun z => nomatch z) NoTup.nil g k8 (tabs_solid _) d8 (nums_solid _ (tD_nums _)) (by simp; omega)
            · rw [laf, List.take_length] at g
              obtain ⟨xs, zs, e1, e2, hlen, hst⟩ := catS (es := ff.map fun y => tJoin t y) st hD3 g (Nat.le_trans (jl i) (by decide)) (by rw [List.length_map]; exact small)
              refine ⟨m6, D3, xs, zs, rfl, rfl, e1, e2, hlen, fun p hp => ⟨p, some x, rfl, ?_⟩⟩
              rw [take_next et, List.flatMap_append, List.flatMap_cons, List.flatMap_nil, List.append_nil]
              exact hst p hp
          · rw [laf, List.take_length] at z
            obtain ⟨m6, o7, rfl, st⟩ := z
            let B0 : List Tab := ff.flatMap fun x => ff.map fun y => tJoin x y
            have b0 : B0.length ≤ 3600 := by
              have := jl ff.length
              rw [List.take_length] at this
              exact this
            let R : Int → Int → Tab → Tab := fun a b x => tAround M a b x
            let rowB : Nat → List Tab := fun a => (List.range L.2.2).flatMap fun (b : Nat) => ff.map fun x => R (a : Int) (b : Int) x
            have rowl : ∀ a n, n ≤ 3 → ((List.range n).flatMap fun (b : Nat) => ff.map fun x => R (a : Int) (b : Int) x).length ≤ 180 := fun a n hn => by
              have h1 := len_flat (f := fun (b : Nat) => ff.map fun x => R (a : Int) (b : Int) x) (n := 60) (l := List.range n) fun x _ => by rw [List.length_map]; exact small
              rw [List.length_range] at h1
              omega
            have wl : ∀ n, n ≤ 3 → ((List.range n).flatMap rowB).length ≤ 540 := fun n hn => by
              have h1 := len_flat (f := rowB) (n := 180) (l := List.range n) fun x _ => rowl (x : Int) L.2.2 lb2
              rw [List.length_range] at h1
              omega
            refine ⟨_, rfl, lDs L, 1, .int (L.2.1 : Int), lH (kf4.trans st.1), rfl, rfl, fun u hu => ?_⟩
            obtain rfl := Dp.intI hu
            refine ⟨_, rfl, by omega, by omega, ?_⟩
            refine for_range (lo := 0) (n := (L.2.1 : Int).toNat) (fun a σ H7 => ∃ m7 o8 o9, σ = [some lv, some mv, some (V.ref fl), some (V.ref m7), some (V.int (0 + (k : Int))), some (V.int (((addAll f ts).length : Int) - (f.length : Int))), o6, o7, o8, o9, none, none] ∧ St2 (B0 ++ (List.range a).flatMap rowB) H7 m7)
              ⟨m6, o8, o9, rfl, by rw [List.range_zero, List.flatMap_nil, List.append_nil]; exact st⟩ (fun a σ H7 ha z => ?_) fun σ H7 z => ?_
            · obtain ⟨m7, o8, o9, rfl, st7⟩ := z
              rw [Int.toNat_natCast] at ha
              refine ⟨_, rfl, lDs L, 2, .int (L.2.2 : Int), lH (kf4.trans st7.1), rfl, rfl, fun u hu => ?_⟩
              obtain rfl := Dp.intI hu
              refine ⟨_, rfl, by omega, by omega, ?_⟩
              refine for_range (lo := 0) (n := (L.2.2 : Int).toNat) (fun b σ H8 => ∃ m8 o9, σ = [some lv, some mv, some (V.ref fl), some (V.ref m8), some (V.int (0 + (k : Int))), some (V.int (((addAll f ts).length : Int) - (f.length : Int))), o6, o7, some (V.int (0 + (a : Int))), o9, none, none] ∧ St2 ((B0 ++ (List.range a).flatMap rowB) ++ (List.range b).flatMap fun (b : Nat) => ff.map fun x => R (a : Int) (b : Int) x) H8 m8)
                ⟨m7, o9, rfl, by rw [List.range_zero, List.flatMap_nil, List.append_nil]; exact st7⟩ (fun b σ H8 hb z => ?_) fun σ H8 z => ?_
              · obtain ⟨m8, o9, rfl, st8⟩ := z
                rw [Int.toNat_natCast] at hb
                refine ⟨_, rfl, _, rfl, fl, rfl, ⟨af4, flS st8.1⟩, fun D4 hD4 => ?_⟩
                refine lc_list (K := K) (xs := af4) (fun j H9 => Grow K [] H8 D4 (((ff.take j).map fun x => R (a : Int) (b : Int) x).map tD) H9) (Grow.zero hD4) (fun j H9 _ g => flS (st8.1.trans g.kp)) (fun j x H9 ej g => ⟨rfl, ?_⟩) fun H9 g => ?_
                · refine yesT ?_
                  have k9 := st8.1.trans g.kp
                  obtain ⟨t, et, hx⟩ := map_dp (ffS k9) ej
                  refine ⟨_, rfl, _, rfl, _, rfl, _, rfl, M, L, mv, (a : Int), (b : Int), x, t, by rw [Int.zero_add (a : Int), Int.zero_add (b : Int)]; rfl, ok, mH (kf4.trans k9), hx, gf' _ (List.mem_of_getElem? et), fun v H10 k10 d10 => ?_⟩
                  rw [take_next et, List.map_append, List.map_append]
                  exact Grow.step hD4 (fun z => nomatch z) NoTup.nil g k10 (tabs_solid _) d10 (nums_solid _ (tD_nums _)) (by simp; omega)
                · rw [laf, List.take_length] at g
                  have h1 := wl a (by omega)
                  have h2 := rowl (a : Int) b (by omega)
                  obtain ⟨xs, zs, e1, e2, hlen, hst⟩ := catS (es := ff.map fun x => R (a : Int) (b : Int) x) st8 hD4 g (by rw [List.length_append, List.length_append]; omega) (by rw [List.length_map]; exact small)
                  refine ⟨m8, D4, xs, zs, rfl, rfl, e1, e2, hlen, fun p hp => ⟨p, some (V.int (0 + (b : Int))), rfl, ?_⟩⟩
                  rw [List.range_succ, List.flatMap_append, List.flatMap_cons, List.flatMap_nil, List.append_nil, ← List.append_assoc]
                  exact hst p hp
              · rw [Int.toNat_natCast] at z
                obtain ⟨m8, o9, rfl, st8⟩ := z
                refine ⟨m8, _, _, rfl, ?_⟩
                rw [List.range_succ, List.flatMap_append, List.flatMap_cons, List.flatMap_nil, List.append_nil, ← List.append_assoc]
                exact st8
            · rw [Int.toNat_natCast] at z
              obtain ⟨m7, o8, o9, rfl, k7, n7, acc7, e7, a7⟩ := z
              have g7 : Grow K [] H fl (ff.map tD) H7 := ⟨af4, kf4.trans k7, k7.keep _ _ ef4 (fun z => nomatch z) (fun ps z => by cases z), ffS k7⟩
              have hT2 : tables M L = rounds M L (70 - (k + 1)) ff (next M L ff) (decide (k + 1 = 0)) := by
                rw [hT, go, show 70 - (k + 1) = n by omega, decide_eq_false (by omega), eff]
              exact ⟨ff, next M L ff, m7, acc7, _, _, _, _, _, _, rfl, g7, e7, a7, n7, hT2, small, gf', good_next ok gf', len_next ⟨lb1, lb2⟩ small⟩
    · obtain ⟨f, ts, ml, acc, o4, o5, o6, o7, o8, o9, rfl, ⟨accf, kf, ef, af⟩, e3, a3, mf, hT, hl60, gf, gts, tl⟩ := z
      exact ⟨_, rfl, kS f hT fl accf H3 kf hflH ef af⟩
end
end K51
end

section
set_option Elab.async false
set_option linter.all false
set_option maxRecDepth 100000
set_option maxHeartbeats 4000000
/-! enumerate(tuple) -/
namespace K51
open PySem PySem.Spec PyProof.Rows L2
open PySem.AutoSeq1 (wpAny_loadPart')
theorem meets_enumT {v : Value} {o : Obj} {H : Heap → Prop} (B : Begins v o H) :
    Meets (Builtin.«enumerate.__new__» ⟨[.type "enumerate", v], []⟩) (fun _ R s => H s.heap ∧
      R (.ok (.ret (.ref (s.heap.push o).objs.size))) { s with heap := (s.heap.push o).push { cls := .type "enumerate", data := .fields #[.none, .bool false, .ref s.heap.objs.size, rawInt 0, .none, .none] } }) :=
  .of_wp fun prog w A R s h => by
    obtain ⟨hp, g, d, tk, os⟩ := s
    obtain ⟨h1, h⟩ := h
    have hsub := sub_enumerate
    have q1 : ∀ {A' : Around} {E : Value → Shared → Prop} {Q : Value → Shared → Prop}, Q (.ref hp.objs.size) ⟨hp.push o, g, d, tk, os⟩ → wpAny (model prog w) A' (pyIter v) Q E ⟨hp, g, d, tk, os⟩ :=
      fun q => B.iter prog w _ _ ⟨hp, g, d, tk, os⟩ _ h1 q
    wp_walk using q1
    refine wpAny_stack_any fun st => wpAny_pure ?_
    split
    · rename_i c _ _ _ _ _
      cases (c == Value.type "enumerate")
      · wp_walk using q1
        exact ⟨_, rfl, h⟩
      · wp_walk using q1
        exact ⟨_, rfl, h⟩
    · wp_walk using q1
      exact ⟨_, rfl, h⟩
section
variable {prog : Program} {w : World} {A : Around} {E : Value → Shared → Prop} {s : Shared}
theorem enumT_begins {v : Value} {o : Obj} {H : Heap → Prop} {Q : Value → Shared → Prop} (B : Begins v o H) (h1 : H s.heap)
    (h : ∀ h', IsEnum h' (s.heap.objs.size + 1) s.heap.objs.size 0 .none → h'.get? s.heap.objs.size = some o → h'.objs.size = s.heap.objs.size + 2 →
      (∀ b o, s.heap.get? b = some o → h'.get? b = some o) → Q (.ref (s.heap.objs.size + 1)) { s with heap := h' }) :
    wpAny (model prog w) A (call (.type "enumerate") [v]) Q E s := by
  refine callType_new F.called_enumerate (by decide) (F.typeCall_enumerate_1 _) (F.newCall_enumerate_1 _) (fun obj => F.args_object_init_2 obj _) F.entry_enumerate_new
    (meets_enumT B) ⟨h1, ?_⟩
  have hz : (s.heap.push o).objs.size = s.heap.objs.size + 1 := Heap.size_push ..
  show _ ∧ _
  rw [hz]
  have he : IsEnum ((s.heap.push o).push { cls := .type "enumerate", data := .fields #[.none, .bool false, .ref s.heap.objs.size, rawInt 0, .none, .none] }) (s.heap.objs.size + 1) s.heap.objs.size 0 .none := by
    have := Heap.get?_push_size (s.heap.push o) (o := { cls := .type "enumerate", data := .fields #[.none, .bool false, .ref s.heap.objs.size, rawInt 0, .none, .none] }) rfl
    rw [hz] at this; exact this
  refine ⟨⟨_, he, rfl⟩, h _ he (Heap.get?_push_of_some _ (Heap.get?_push_size _ B.free)) (by rw [Heap.size_push, hz]) fun b o x => Heap.get?_push_of_some _ (Heap.get?_push_of_some _ x)⟩
end
/-- the tuple at a, each item in a new pair -/
def ItE (K : PySem.W.Frag) (a : Addr) : It :=
  ⟨fun i H => ∃ (xs : List V) (x : V), SqT K H a xs ∧ xs[i]? = some x, fun i H v H' => ∃ T x, v = .ref T ∧ H T = none ∧ H' = upd H T (.tup [.int (i : Nat), x]) ∧ ∀ xs, SqT K H a xs → xs[i]? = some x, fun i H => ∃ xs : List V, SqT K H a xs ∧ xs.length ≤ i⟩
theorem turn_enumT {P : Program} {w : World} {K : PySem.W.Frag} {elts : List Expr} {kk : Nat} {tpos : Pos} (a e it : Addr) :
    Turn P w K (.Tuple elts kk tpos) (ItE K a) [e, it] e (fun i h => (∃ old, IsEnum h e it ((i : Nat) : Int) old) ∧ h.IsTupleIter it a i ∧ e ≠ it ∧ a ≠ e ∧ a ≠ it) where
  mem := by simp
  obj := fun i h st b hb => by
    obtain ⟨⟨old, he⟩, ⟨o, ho, hc, hd⟩, _⟩ := st
    have e' : b = e ∨ b = it := by simpa using hb
    rcases e' with z | z
    · rw [z]; exact ⟨_, he, fun v q => nomatch q⟩
    · rw [z]; exact ⟨o, ho, fun v q => by rw [hd] at q; cases q⟩
  keep := fun i h h' st k => let ⟨⟨old, he⟩, hi, hne⟩ := st; ⟨⟨old, k e (by simp) _ he⟩, hi.at fun o q => k it (by simp) o q, hne⟩
  item := by
    intro X hP hw hK hc i pins s σ H E I hf st hg
    subst hP hw hK
    obtain ⟨⟨old, he⟩, hit, hne, hae, hai⟩ := st
    obtain ⟨xs, x, hq, hx⟩ := hg
    obtain ⟨its, rv, p, hz⟩ := I.tuple hq
    obtain ⟨u, hu, ru⟩ := rv.get hx
    have hel : e < s.heap.objs.size := Heap.lt_size he
    have hil : it < s.heap.objs.size := by obtain ⟨_, q, _⟩ := hit; exact Heap.lt_size q
    have ht : s.heap.IsTuple a its.toArray := p
    have hlt : i < its.toArray.size := (Array.getElem?_eq_some_iff.mp (show its.toArray[i]? = some u by simpa using hu)).1
    refine wpAny_pyNext_enum_itemC (c := ((i : Nat) : Int)) (Draws.tuple (prog := X.prog) (w := X.w) (A := X.A.in1) (I.ok.hd hc) it a hai its.toArray) he ⟨hit, ht⟩ hlt hne (by simp [hne, Ne.symm hae]) fun x' h' tk hPx ho hst' hT hsz hk => ?_
    have ex : x' = u := by
      have z : its.toArray[i]? = some x' := hPx
      have z2 : its.toArray[i]? = some u := by simpa using hu
      exact Option.some.inj (z.symm.trans z2)
    subst ex
    obtain ⟨hit', ht'⟩ := hst'
    refine ⟨_, rfl, wpAny_letOwnedTupleGo_enum (s := { s with heap := h', toks := tk + 1 }) ho fun h'' he' sb => ?_⟩
    have hT2 : h''.get? s.heap.objs.size = some { cls := .type "tuple", data := .seq #[.int i tk, x'] } := (sb.2 _ (Nat.ne_of_gt hel)).trans hT
    have new : ObjOk X.prog X.w (upd H s.heap.objs.size (.tup [.int (i : Nat), x])) h'' s.heap.objs.size (.tup [.int (i : Nat), x]) :=
      ⟨by show 2 ≤ sizeLine; decide, [.int i tk, x'], .cons ⟨_, rfl⟩ (.cons ru .nil), ⟨_, hT2, rfl, _, rfl⟩⟩
    have I1 : Inv X pins σ (upd H s.heap.objs.size (.tup [.int (i : Nat), x])) { s with heap := h'', toks := tk + 1 } :=
      I.turnedNew (ch := [e, it]) (fun b ob hb q => (sb.2 b (fun z => hb (by simp [z]))).trans (hk b ob (fun z => hb (by simp [z])) (fun z => hb (by simp [z])) q)) hf (Nat.le_refl _) new
    refine ⟨.ref s.heap.objs.size, _, I1, rfl, ⟨_, x, rfl, I.hok.fresh (Nat.le_refl _), rfl, fun ys hy => by rw [I.tuple_inj hy hq]; exact hx⟩, ⟨⟨x', ?_⟩, hit'.at fun o q => (sb.2 it (Ne.symm hne)).trans q, hne, hae, hai⟩, fun b hb => ?_⟩
    · have e1 : ((i + 1 : Nat) : Int) = (i : Int) + 1 := by omega
      rw [e1]; exact he'
    · have hb' : b < s.heap.objs.size := by
        have e' : b = e ∨ b = it := by simpa using hb
        rcases e' with z | z
        · rw [z]; exact hel
        · rw [z]; exact hil
      rw [upd_ne (Nat.ne_of_lt hb')]
      exact (hf b hb).1
  done := by
    intro X hP hw hK hc i pins s σ H E I hf st hg
    subst hP hw hK
    obtain ⟨⟨old, he⟩, hit, hne, hae, hai⟩ := st
    obtain ⟨xs, hq, hx⟩ := hg
    obtain ⟨its, rv, p, hz⟩ := I.tuple hq
    obtain ⟨f0, f1, f2, f3, f4, f5⟩ := hf it (by simp)
    have hl := rv.length
    have ht : s.heap.IsTuple a its.toArray := p
    have hT : s.TypeIs (.ref e) "enumerate" := ⟨_, he, rfl⟩
    unfold pyNext
    refine wpAny_bind (wpAny_attempt (wpAny_callSpecial?_slot (name := Str.ofString "__next__") hT F.slot_enumerate_next
      (wpAny_call_entry F.slot_enumerate_next hT F.entry_enumerate_next ?_ (F.args_enumerate_next_1 _))))
    show wpAny _ _ (field (.ref e) 2 >>= _) _ _ _
    refine wpAny_bind (wpAny_field he rfl (x := .ref it) rfl ?_)
    refine wpAny_bind (PySem.wpAny_nextOf_tuple_end (I.ok.hd hc) hit ht (by simp; omega) fun h' x eb hx' => ?_)
    obtain ⟨o, ho, hcc⟩ := hx'
    refine wpAny_bind (wpAny_isInstance (T := "StopIteration") (b := true) ⟨o, ho, hcc⟩ isSubtype_stop ?_)
    exact wpAny_pure ⟨rfl, I.turned (t' := s.toks) (fun b o hb q => eb b o hb q) f0 f1 f3 f4 f5⟩
  self := fun A i s Q E st h => let ⟨⟨_, he⟩, _⟩ := st; wpAny_pyIter_enum he h
def iEnumT (K : PySem.W.Frag) (ta : TA) : TI := fun σ H R => ta σ H fun vs H1 => ∃ a xs, vs = [.ref a] ∧ SqT K H1 a xs ∧ R (ItE K a) H1
theorem pi_enumT {X : Cx} {e : Expr} {ta : TA} {p pos tpos : Pos} {elts : List Expr} {kk : Nat} (hg : Gl X "enumerate") (hm : X.mg "enumerate" = none) (ha : PA X [e] ta) (hs : starEach [e] X.env = [(false, eval e X.env)] := by rfl) :
    PI X (.Tuple elts kk tpos) (.Call (.Name "enumerate" p) [e] [] pos) (iEnumT X.K ta) := by
  refine ⟨fun pins s σ H R I h => ?_⟩
  refine Call_ (ld_blt I hg hm b_enumerate (PyProof.Rows.callWith_type1 (thn (ha.run pos pins s σ H _ I h) fun us s1 ⟨vs, H1, I1, r1, q1⟩ => ?_) hs rfl))
  obtain ⟨a, xs, ex, hq, q⟩ := q1
  subst ex
  cases r1 with
  | cons r rr =>
    cases rr
    cases r
    obtain ⟨its, rv, p', hz⟩ := I1.tuple hq
    have ht : s1.heap.IsTuple a its.toArray := p'
    have hal : a < s1.heap.objs.size := by obtain ⟨_, z, _⟩ := ht; exact Heap.lt_size z
    refine enumT_begins (begins_tuple a its.toArray) ht fun h' he hit hsz hk => wpAny_pyIter_enum he ?_
    have I2 : Inv X pins σ H1 { s1 with heap := h' } := I1.kept (t' := s1.toks) hk
    refine ⟨s1.heap.objs.size + 1, [s1.heap.objs.size + 1, s1.heap.objs.size], _, _, H1, rfl, I2, turn_enumT a (s1.heap.objs.size + 1) s1.heap.objs.size, ⟨⟨.none, he⟩, ⟨_, hit, rfl, rfl⟩, Nat.succ_ne_self _, Nat.ne_of_lt (Nat.lt_succ_of_lt hal), Nat.ne_of_lt hal⟩, fun b hb => ?_, q⟩
    have e' : b = s1.heap.objs.size + 1 ∨ b = s1.heap.objs.size := by simpa using hb
    have hle : s1.heap.objs.size ≤ b := by
      rcases e' with z | z
      · rw [z]; exact Nat.le_add_right _ _
      · rw [z]; exact Nat.le_refl _
    exact I1.fpOk hle (I1.hok.fresh hle)
theorem walk_enumT {K : PySem.W.Frag} {a : Addr} {xs : List V} : Walk (ItE K a) xs.length (fun H => SqT K H a xs) (YPair (fun i => some (.int (i : Nat))) (fun i => xs[i]?)) := by
  refine ⟨fun i _ hi q => ⟨xs, xs[i], q, by simp [hi]⟩, fun _ q => ⟨xs, q, Nat.le_refl _⟩, fun i H v H' _ q y => ?_⟩
  obtain ⟨T, x, h1, h2, h3, h4⟩ := y
  exact ⟨T, .int (i : Nat), x, h1, h2, h3, rfl, h4 xs q⟩
end K51
end

section
set_option Elab.async false
set_option linter.all false
set_option maxRecDepth 100000
set_option maxHeartbeats 8000000
/-! readers: is_value, is_row, is_ascending -/
namespace K51
open PySem PySem.Spec PyProof.Rows L2
section
variable {P : Program} {w : World} {K : PySem.W.Frag} {mg : PySem.Str → Option Value} {base : Heap}
theorem room_gen {k : Nat} {X : Cx} {scope : Scope} {s : Shared} {H : Hp} {C : Addr} {code : Value} {fp : List Addr} {pn : List (Addr × Obj)} (hr : Room (k + 1) X.A) : Room k (GCx X scope s H C code fp pn).A :=
  ⟨hr.hd, by have := hr.dp; show X.A.depth + 1 + 3 * k + 5 < _; omega, by have := hr.un; show X.A.units + 1 + 1 + 3 + 16 * k + 200 < _; omega⟩
/-- the reader -/
def RAt (K : PySem.W.Frag) (H : Hp) (v : V) (M : Mach) (L : Nat × Nat × Nat) (f : List Tab) : Prop := Dp K H v (rD M L f)
theorem RAt.kp {H H' : Hp} {v : V} {M : Mach} {L : Nat × Nat × Nat} {f : List Tab} (h : RAt K H v M L f) (k : Kp [] H H') : RAt K H' v M L f := k.dp NoTup.nil (nums_solid _ (rD_nums M L f)) h
/-- is_value(reader, value): in the range -/
def spIsV (K : PySem.W.Frag) : Sp := fun vs H Q _ => ∃ (M : Mach) (L : Nat × Nat × Nat) (f : List Tab) (rv : V) (v : Int), vs = [rv, .int v] ∧ RAt K H rv M L f ∧ Q (.bl (decide (0 ≤ v) && decide (v < f.length))) H
theorem sc_isv : FnScope ["reader", "value"] ["reader", "value"] (defScope s_is_value) := ⟨rfl, rfl, rfl, by decide +kernel, rfl, by decide +kernel, by decide +kernel⟩
theorem ok_isv {f : Addr} {fd : FuncData} (F : L2.Fun K "is_value" "is_value" s_is_value f fd) (G : Gs mg) : FnOk P w K mg base CX0 1 f fd ["reader", "value"] (spIsV K) := by
  refine F.ok sc_isv (fun vs H Q E h => ?_) (fun cdv A outer s H vs Q E hr h => ?_)
  · obtain ⟨M, L, ff, rv, v, rfl, _⟩ := h
    rfl
  · obtain ⟨M, L, ff, rv, v, rfl, hR, k⟩ := h
    refine ⟨_, pss_one (ps_ret (pe_chain op_le op_lt pe_int (pv 1) (pe_callB call_len_seq (by rfl) G.len b_len (pa_cons (pe_ix ix_dp (pv 0) pe_int (fun _ _ => rfl)) pa_nil)))), ?_⟩
    refine ⟨_, rfl, ⟨_, _, rfl, rfl, _, rfl, ?_⟩⟩
    by_cases c : 0 ≤ v
    · refine iteYes (decide_eq_true c) ?_
      refine ⟨_, rfl, rDs M L ff, 3, tD (rMul ff), hR, rfl, rfl, fun u hu => ?_⟩
      obtain ⟨a, xs, rfl, hq, ha⟩ := Dp.tupI hu
      have hl := DpAll.length ha
      refine ⟨a, xs, rfl, .inr hq, _, _, rfl, rfl, ?_⟩
      rw [List.length_map, rMul, List.length_map] at hl
      rw [hl]
      rw [decide_eq_true c, Bool.true_and] at k
      exact k
    · refine iteNo (decide_eq_false c) ?_
      rw [decide_eq_false c, Bool.false_and] at k
      exact k
/-- is_row(reader, row): for a row of values -/
def spIsR (K : PySem.W.Frag) (Pt : Addr) : Sp := fun vs H Q _ => ∃ (M : Mach) (L : Nat × Nat × Nat) (f : List Tab) (rv row : V) (ns : List Int), vs = [rv, row] ∧ RAt K H rv M L f ∧ Dp K H row (iD ns) ∧ ns.length = f.length ∧ (∀ n ∈ ns, InS f.length n) ∧ GxR.TabG H Pt ∧ f.length ≤ 60 ∧
  ∀ H', Kp [] H H' → Q (.bl true) H'
abbrev nIsR : List PySem.Str := ["reader", "row", "value"]
theorem sc_isr : FnScope nIsR ["reader", "row"] (defScope s_is_row) := ⟨rfl, rfl, rfl, by decide +kernel, rfl, by decide +kernel, by decide +kernel⟩
theorem ok_isr {f c Pt f1 : Addr} {fd fd1 : FuncData} (F : L2.Fun K "is_row" "is_row" s_is_row f fd) (hcd : fd.code = .ref c) (TB : GxR.TabB base mg c Pt) (G : Gs mg) (Cv : Cal P w K mg base CX0 1 "is_value" ["reader", "value"] (spIsV K) f1 fd1) :
    FnOk P w K mg base CX0 3 f fd ["reader", "row"] (spIsR K Pt) := by
  refine okC F hcd sc_isr (fun vs H Q E h => ?_) (fun A outer s H vs Q E hr h => ?_)
  · obtain ⟨M, L, ff, rv, row, ns, rfl, _⟩ := h
    rfl
  · obtain ⟨M, L, ff, rv, row, ns, rfl, hR, hrow, hlen, hin, tg, hf, k⟩ := h
    refine ⟨_, pss_one (ps_ret (pe_and (pe_cmpR op_eq (pe_callB call_len_seq (by rfl) G.len b_len (pa_cons (pv 1) pa_nil)) (pe_callB call_len_seq (by rfl) G.len b_len (pa_cons (pe_ix ix_dp (pv 0) pe_int (fun _ _ => rfl)) pa_nil)) (by rfl))
      (pe_one (pe_all1 (own := [("value", 2)]) (g := gName 2) hr rfl (by rfl) G.all TB rfl (gscp rfl rfl (by decide +kernel) (by decide +kernel)) sc_isr.nd
        (blkOk_by (by kernel_rfl)) (pi_tup (pv 1)) (fun _ _ _ _ _ _ => pg_name (i := 2) sc_isr.nd rfl (Or.inl rfl))
        (fun _ _ _ _ _ _ => pe_call Cv.ok (room_gen hr) rfl Cv.g Cv.kp Cv.b .nil pass0 (pa_cons (pv 0) (pa_cons (pv 2) pa_nil))))))), ?_⟩
    obtain ⟨a, xs, rfl, hq, ha⟩ := Dp.tupI hrow
    obtain rfl := DpAll.ints (ns := ns) ha
    refine ⟨_, rfl, a, _, rfl, .inr hq, _, rfl, rDs M L ff, 3, tD (rMul ff), hR, rfl, rfl, fun u hu => ?_⟩
    obtain ⟨a2, xs2, rfl, hq2, ha2⟩ := Dp.tupI hu
    have hl2 := DpAll.length ha2
    rw [List.length_map, rMul, List.length_map] at hl2
    refine ⟨a2, xs2, rfl, .inr hq2, rfl, _, rfl, ?_⟩
    refine iteYes ((dec_V _ _).trans (decide_eq_true (by rw [List.length_map, hl2, hlen]))) ?_
    refine ⟨_, rfl, a, rfl, ⟨_, hq⟩, tg, fun H2 tb => ?_⟩
    have kT : Kp [] H H2 := Kp.tabbed tg tb
    refine loopG_tup (K := K) (xs := ns.map V.int) (fun i H' => H' = H2) rfl (fun i H' _ z => by rw [z]; exact kT.tup NoTup.nil hq) (fun i x H' ei z => ?_) (fun H' z => by rw [z]; exact k H2 kT) gName_mono ?_
    · subst z
      rw [List.getElem?_map] at ei
      obtain ⟨n, en, rfl⟩ : ∃ n, ns[i]? = some n ∧ x = V.int n := by
        cases hr : ns[i]? with
        | none => rw [hr] at ei; cases ei
        | some r => rw [hr] at ei; exact ⟨r, rfl, (Option.some.inj ei).symm⟩
      have hn := hin n (List.mem_of_getElem? en)
      refine ⟨rfl, _, rfl, _, rfl, M, L, ff, rv, n, rfl, hR.kp kT, true, ?_, (fun z => nomatch z), fun _ => rfl⟩
      rw [decide_eq_true hn.1, decide_eq_true hn.2]; rfl
    · rintro σ' H9 Q9 Q9' hQ ⟨v, e, v0, e0, M', L', f', rv', n', c1, c2, c3⟩
      exact ⟨v, e, v0, e0, M', L', f', rv', n', c1, c2, hQ _ _ c3⟩
/-- is_ascending(row): for a row that ascends -/
def spAsc (K : PySem.W.Frag) (Pt : Addr) : Sp := fun vs H Q _ => ∃ (row : V) (ns : List Int), vs = [row] ∧ Dp K H row (iD ns) ∧ ns.Pairwise (· < ·) ∧ ns.length ≤ 60 ∧ GxR.TabG H Pt ∧ ∀ H', Kp [] H H' → Q (.bl true) H'
theorem sc_asc : FnScope ["row", "k"] ["row"] (defScope s_is_ascending) := ⟨rfl, rfl, rfl, by decide +kernel, rfl, by decide +kernel, by decide +kernel⟩
theorem ok_asc {f c Pt : Addr} {fd : FuncData} (F : L2.Fun K "is_ascending" "is_ascending" s_is_ascending f fd) (hcd : fd.code = .ref c) (TB : GxR.TabB base mg c Pt) (G : Gs mg) :
    FnOk P w K mg base CX0 2 f fd ["row"] (spAsc K Pt) := by
  refine okC F hcd sc_asc (fun vs H Q E h => ?_) (fun A outer s H vs Q E hr h => ?_)
  · obtain ⟨row, ns, rfl, _⟩ := h
    rfl
  · obtain ⟨row, ns, rfl, hrow, hup, hl60, tg, k⟩ := h
    refine ⟨_, pss_one (ps_ret (pe_all1 (own := [("k", 1)]) (g := gName 1) hr rfl (by rfl) G.all TB rfl (gscp rfl rfl (by decide +kernel) (by decide +kernel)) sc_asc.nd
        (blkOk_by (by kernel_rfl)) (pi_range1 (by rfl) G.range (pa_cons (pe_op op_sub (pe_callB call_len_seq (by rfl) G.len b_len (pa_cons (pv 0) pa_nil)) pe_int) pa_nil)) (fun _ _ _ _ _ _ => pg_name (i := 1) sc_asc.nd rfl (Or.inl rfl))
        (fun _ _ _ _ _ _ => pe_cmpR op_lt (pe_ix (ix_dpK K) (pv 0) (pv 1) (fun _ _ => rfl)) (pe_ix (ix_dpK K) (pv 0) (pe_op op_add (pv 1) pe_int) (fun _ _ => rfl)) (by rfl)))), ?_⟩
    obtain ⟨a, xs, rfl, hq, ha⟩ := Dp.tupI hrow
    obtain rfl := DpAll.ints (ns := ns) ha
    refine ⟨_, rfl, a, _, rfl, .inr hq, _, _, rfl, rfl, _, rfl, ?_, ?_, tg, fun H2 tb => ?_⟩
    · rw [List.length_map]; omega
    · rw [List.length_map]; omega
    have kT : Kp [] H H2 := Kp.tabbed tg tb
    refine loopG_range (lo := 0) (fun i H' => H' = H2) rfl (fun i H' hi z => ?_) (fun H' z => by rw [z]; exact k H2 kT) gName_mono ?_
    · subst z
      rw [List.length_map] at hi
      have h1 : i + 1 < ns.length := by omega
      have h0 : i < ns.length := by omega
      have e0 : (ns.map PyData.int)[i]? = some (.int ns[i]) := by rw [List.getElem?_map, List.getElem?_eq_getElem h0]; rfl
      have e1 : (ns.map PyData.int)[i + 1]? = some (.int ns[i + 1]) := by rw [List.getElem?_map, List.getElem?_eq_getElem h1]; rfl
      have hR : Dp K H' (.ref a) (iD ns) := kT.dp NoTup.nil (nums_solid _ (iD_nums ns)) hrow
      refine ⟨rfl, _, rfl, _, rfl, _, i, _, hR, by rw [Int.zero_add], e0, fun u hu => ?_⟩
      obtain rfl := Dp.intI hu
      refine ⟨_, rfl, _, rfl, _, _, rfl, rfl, _, i + 1, _, hR, by rw [Int.zero_add]; rfl, e1, fun u hu => ?_⟩
      obtain rfl := Dp.intI hu
      refine ⟨_, _, rfl, rfl, true, ?_, (fun z => nomatch z), fun _ => rfl⟩
      show V.bl (decide (ns[i] < ns[i + 1])) = V.bl true
      rw [decide_eq_true (List.pairwise_iff_getElem.mp hup i (i + 1) h0 h1 (by omega))]
    · rintro σ' H9 Q9 Q9' hQ ⟨v, e, v1, e1, ds, n, d, b1, b2, b3, b4⟩
      exact ⟨v, e, v1, e1, ds, n, d, b1, b2, b3, fun u hu => let ⟨v2, e2, v3, e3, i, j, e4, e5, ds2, n2, d2, c1, c2, c3, c4⟩ := b4 u hu; ⟨v2, e2, v3, e3, i, j, e4, e5, ds2, n2, d2, c1, c2, c3, fun u2 hu2 => let ⟨i2, j2, g1, g2, g3⟩ := c4 u2 hu2; ⟨i2, j2, g1, g2, hQ _ _ g3⟩⟩⟩
end
end K51
end

section
set_option Elab.async false
set_option linter.all false
set_option maxRecDepth 100000
set_option maxHeartbeats 8000000
/-! readers: wrong_wrap -/
namespace K51
open PySem PySem.Spec PyProof.Rows L2
theorem row_in {M : Mach} {L : Nat × Nat × Nat} {f : List Tab} {g : Tab → Tab} (h : ∀ x ∈ f, g x ∈ f) : (f.map fun x => (ixN f (g x) : Int)).length = f.length ∧ ∀ n ∈ (f.map fun x => (ixN f (g x) : Int)), InS f.length n := by
  refine ⟨by rw [List.length_map], fun n hn => ?_⟩
  obtain ⟨x, hx, rfl⟩ := List.mem_map.mp hn
  have := ix_lt (h x hx)
  exact ⟨by omega, by omega⟩
section
variable {P : Program} {w : World} {K : PySem.W.Frag} {mg : PySem.Str → Option Value} {base : Heap}
/-- wrong_wrap(reader): none -/
def spWW (K : PySem.W.Frag) (Pt : Addr) : Sp := fun vs H Q _ => ∃ (M : Mach) (L : Nat × Nat × Nat) (f : List Tab) (rv : V), vs = [rv] ∧ RAt K H rv M L f ∧ Clos M L f ∧ (L.1 ≤ 3 ∧ L.2.1 ≤ 3 ∧ L.2.2 ≤ 3) ∧ f.length ≤ 60 ∧ GxR.TabG H Pt ∧ ∀ H', Kp [] H H' → Q .non H'
abbrev nWW : List PySem.Str := ["reader", "labels", "wrap", "a", "b"]
theorem sc_ww : FnScope nWW ["reader"] (defScope s_wrong_wrap) := ⟨rfl, rfl, rfl, by decide +kernel, rfl, by decide +kernel, by decide +kernel⟩
theorem ok_ww {f Pt f1 : Addr} {fd fd1 : FuncData} (F : L2.Fun K "wrong_wrap" "wrong_wrap" s_wrong_wrap f fd) (G : Gs mg) (Cr : Cal P w K mg base CX0 3 "is_row" ["reader", "row"] (spIsR K Pt) f1 fd1) :
    FnOk P w K mg base CX0 4 f fd ["reader"] (spWW K Pt) := by
  refine F.ok sc_ww (fun vs H Q E h => ?_) (fun cdv A outer s H vs Q E hr h => ?_)
  · obtain ⟨M, L, ff, rv, rfl, _⟩ := h
    rfl
  · obtain ⟨M, L, ff, rv, rfl, hR, hc, ⟨lb0, lb1, lb2⟩, hf, tg, k⟩ := h
    refine ⟨_, pss_cons (ps_par (i := 1) (j := 2) rfl sc_ww.nd rfl rfl (by decide) rfl rfl (pa_cons (pe_ix ix_dp (pv 0) pe_int (fun _ _ => rfl)) (pa_cons (pe_ix ix_dp (pv 0) pe_int (fun _ _ => rfl)) pa_nil)) (by rfl))
      (pss_cons (ps_for PassesOwn.never rfl (pi_range1 (by rfl) G.range (pa_cons (pe_ix ix_dp (pv 1) pe_int (fun _ _ => rfl)) pa_nil)) (pg_name (i := 3) sc_ww.nd rfl (Or.inl rfl))
        (pss_cons (ps_if (pt_cmpR op_ge (pv 3) (pe_callB call_len_seq (by rfl) G.len b_len (pa_cons (pv 2) pa_nil)) (by rfl)) pss_never pss_nil)
        (pss_cons (ps_for PassesOwn.never rfl (pi_range1 (by rfl) G.range (pa_cons (pe_ix ix_dp (pv 1) pe_int (fun _ _ => rfl)) pa_nil)) (pg_name (i := 4) sc_ww.nd rfl (Or.inl rfl))
          (pss_one (ps_if (PW.pt (pw_or (pt_cmpR op_ge (pv 4) (pe_callB call_len_seq (by rfl) G.len b_len (pa_cons (pe_ix ix_dp (pv 2) (pv 3) (fun _ _ => rfl)) pa_nil)) (by rfl))
              (pw_or1 (pt_not (pt_val (pe_call Cr.ok hr rfl Cr.g Cr.kp Cr.b .nil pass0 (pa_cons (pv 0) (pa_cons (pe_ix ix_dp (pe_ix ix_dp (pv 2) (pv 3) (fun _ _ => rfl)) (pv 4) (fun _ _ => rfl)) pa_nil))))))))
            pss_never pss_nil)))
        (pss_one (ps_if (pt_cmpR op_ne (pe_callB call_len_seq (by rfl) G.len b_len (pa_cons (pe_ix ix_dp (pv 2) (pv 3) (fun _ _ => rfl)) pa_nil)) (pe_ix ix_dp (pv 1) pe_int (fun _ _ => rfl)) (by rfl)) pss_never pss_nil)))))
      (pss_cons (ps_if (pt_cmpR op_gt (pe_callB call_len_seq (by rfl) G.len b_len (pa_cons (pv 2) pa_nil)) (pe_ix ix_dp (pv 1) pe_int (fun _ _ => rfl)) (by rfl)) pss_never pss_nil)
      (pss_one (ps_ret pe_non)))), ?_⟩
    refine ⟨_, rfl, rDs M L ff, 0, lD L, hR, rfl, rfl, fun lv hL => ?_⟩
    refine ⟨_, rfl, rDs M L ff, 4, t3D (rWrap M L ff), hR, rfl, rfl, fun wv hW => ?_⟩
    have lH : ∀ {H' : Hp}, Kp [] H H' → Dp K H' lv (lD L) := fun k2 => k2.dp NoTup.nil (nums_solid _ (lD_nums L)) hL
    obtain ⟨aw, ws, rfl, hqw, haw⟩ := Dp.tupI hW
    have hlw := DpAll.length haw
    rw [List.length_map, rWrap, List.length_map, List.length_range] at hlw
    have wH : ∀ {H' : Hp}, Kp [] H H' → Dp K H' (.ref aw) (t3D (rWrap M L ff)) := fun k2 => k2.dp NoTup.nil (nums_solid _ (t3D_nums _)) hW
    have wS : ∀ {H' : Hp}, Kp [] H H' → SqT K H' aw ws := fun k2 => k2.tup NoTup.nil hqw
    let T2 : Nat → Tab := fun a => (List.range L.2.2).map fun (b : Nat) => ff.map fun x => (ixN ff (tAround M (a : Int) (b : Int) x) : Int)
    have w1 : ∀ {a : Nat}, a < L.2.1 → (rWrap M L ff)[a]? = some (T2 a) := fun {a} h => by
      show ((List.range L.2.1).map _)[a]? = _
      rw [List.getElem?_map, List.getElem?_range h]; rfl
    have w1D : ∀ {a : Nat}, a < L.2.1 → ((rWrap M L ff).map tD)[a]? = some (tD (T2 a)) := fun {a} h => by rw [List.getElem?_map, w1 h]; rfl
    have w2D : ∀ {a b : Nat}, b < L.2.2 → ((T2 a).map iD)[b]? = some (iD (ff.map fun x => (ixN ff (tAround M (a : Int) (b : Int) x) : Int))) := fun {a b} h => by
      show (((List.range L.2.2).map _).map iD)[b]? = _
      rw [List.getElem?_map, List.getElem?_map, List.getElem?_range h]; rfl
    refine ⟨_, _, rfl, ?_⟩
    refine ⟨_, rfl, lDs L, 1, .int (L.2.1 : Int), hL, rfl, rfl, fun u hu => ?_⟩
    obtain rfl := Dp.intI hu
    refine ⟨_, rfl, by omega, by omega, ?_⟩
    refine for_range (lo := 0) (n := (L.2.1 : Int).toNat) (fun a σ H' => (∃ o3 o4, σ = [some rv, some lv, some (V.ref aw), o3, o4]) ∧ Kp [] H H') ⟨⟨none, none, rfl⟩, Kp.refl⟩ (fun a σ H1 ha z => ?_) fun σ H1 z => ?_
    · obtain ⟨⟨o3, o4, rfl⟩, k1⟩ := z
      rw [Int.toNat_natCast] at ha
      refine ⟨_, rfl, _, rfl, aw, ws, rfl, .inr (wS k1), _, _, rfl, rfl, _, rfl, ?_⟩
      refine iteNo (decide_eq_false (by rw [hlw]; omega)) ?_
      refine ⟨_, rfl, lDs L, 2, .int (L.2.2 : Int), lH k1, rfl, rfl, fun u hu => ?_⟩
      obtain rfl := Dp.intI hu
      refine ⟨_, rfl, by omega, by omega, ?_⟩
      refine for_range (lo := 0) (n := (L.2.2 : Int).toNat) (fun b σ H' => (∃ o4, σ = [some rv, some lv, some (V.ref aw), some (V.int (0 + (a : Int))), o4]) ∧ Kp [] H H') ⟨⟨_, rfl⟩, k1⟩ (fun b σ H2 hb z => ?_) fun σ H2 z => ?_
      · obtain ⟨⟨o4, rfl⟩, k2⟩ := z
        rw [Int.toNat_natCast] at hb
        refine ⟨_, rfl, _, rfl, _, rfl, _, a, tD (T2 a), wH k2, by rw [Int.zero_add], w1D ha, fun u hu => ?_⟩
        obtain ⟨a2, xs2, rfl, hq2, ha2⟩ := Dp.tupI hu
        have hl2 := DpAll.length ha2
        rw [List.length_map, List.length_map, List.length_range] at hl2
        refine ⟨a2, xs2, rfl, .inr hq2, _, _, rfl, rfl, _, rfl, ?_⟩
        refine iteNo (decide_eq_false (by rw [hl2]; omega)) ?_
        refine ⟨_, rfl, _, rfl, _, rfl, _, a, tD (T2 a), wH k2, by rw [Int.zero_add], w1D ha, fun u hu => ?_⟩
        refine ⟨_, rfl, _, b, _, hu, by rw [Int.zero_add], w2D hb, fun u2 hu2 => ?_⟩
        obtain ⟨e1, e2⟩ := row_in (M := M) (L := L) (f := ff) (g := fun x => tAround M (a : Int) (b : Int) x) fun x hx => around_in hc (L := L) ⟨by omega, by omega⟩ ⟨by omega, by omega⟩ hx
        refine ⟨M, L, ff, rv, u2, _, rfl, hR.kp k2, hu2, e1, e2, k2.tabs Pt tg, hf, fun H3 k3 => ?_⟩
        refine ⟨_, rfl, ?_⟩
        exact iteNo rfl ⟨⟨_, rfl⟩, k2.trans k3⟩
      · obtain ⟨⟨o4, rfl⟩, k2⟩ := z
        refine ⟨_, rfl, _, rfl, _, a, tD (T2 a), wH k2, by rw [Int.zero_add], w1D ha, fun u hu => ?_⟩
        obtain ⟨a2, xs2, rfl, hq2, ha2⟩ := Dp.tupI hu
        have hl2 := DpAll.length ha2
        rw [List.length_map, List.length_map, List.length_range] at hl2
        refine ⟨a2, xs2, rfl, .inr hq2, _, rfl, lDs L, 2, .int (L.2.2 : Int), lH k2, rfl, rfl, fun u hu => ?_⟩
        obtain rfl := Dp.intI hu
        refine ⟨rfl, _, rfl, ?_⟩
        exact iteNo (by rw [hl2]; simp) ⟨⟨_, _, rfl⟩, k2⟩
    · obtain ⟨⟨o3, o4, rfl⟩, k1⟩ := z
      refine ⟨_, rfl, aw, ws, rfl, .inr (wS k1), _, rfl, lDs L, 1, .int (L.2.1 : Int), lH k1, rfl, rfl, fun u hu => ?_⟩
      obtain rfl := Dp.intI hu
      refine ⟨_, _, rfl, rfl, _, rfl, ?_⟩
      refine iteNo (decide_eq_false (by rw [hlw]; omega)) ?_
      exact k H1 k1
end
end K51
end

section
set_option Elab.async false
set_option linter.all false
set_option maxRecDepth 100000
set_option maxHeartbeats 8000000
/-! readers: shape_fault -/
namespace K51
open PySem PySem.Spec PyProof.Rows L2
section
variable {P : Program} {w : World} {K : PySem.W.Frag} {mg : PySem.Str → Option Value} {base : Heap}
/-- shape_fault(reader): none -/
def spSF (K : PySem.W.Frag) (Pr Ps Pa : Addr) : Sp := fun vs H Q _ => ∃ (M : Mach) (L : Nat × Nat × Nat) (f : List Tab) (rv : V), vs = [rv] ∧ RAt K H rv M L f ∧ Clos M L f ∧ LabOk L ∧ f.length ≤ 60 ∧ GxR.TabG H Pr ∧ GxR.TabG H Ps ∧ GxR.TabG H Pa ∧ ∀ H', Kp [] H H' → Q .non H'
abbrev nSF : List PySem.Str := ["reader", "labels", "empty", "letters", "mul", "_", "accepted", "x", "row", "wrong", "count", "value"]
theorem sc_sf : FnScope nSF ["reader"] (defScope s_shape_fault) := ⟨rfl, rfl, rfl, by decide +kernel, rfl, by decide +kernel, by decide +kernel⟩
theorem ok_sf {f c Pr Ps Pa f1 f2 f3 f4 : Addr} {fd fd1 fd2 fd3 fd4 : FuncData} {t24 t60 : Tok} (F : L2.Fun K "shape_fault" "shape_fault" s_shape_fault f fd) (hcd : fd.code = .ref c) (TB : GxR.TabB base mg c Ps) (G : Gs mg) (g24 : mg "MOST_LABELS" = some (.int 24 t24)) (g60 : mg "MOST_VALUES_readers" = some (.int 60 t60))
    (Cv : Cal P w K mg base CX0 1 "is_value" ["reader", "value"] (spIsV K) f1 fd1) (Cr : Cal P w K mg base CX0 3 "is_row" ["reader", "row"] (spIsR K Pr) f2 fd2) (Ca : Cal P w K mg base CX0 2 "is_ascending" ["row"] (spAsc K Pa) f3 fd3) (Cw : Cal P w K mg base CX0 4 "wrong_wrap" ["reader"] (spWW K Pr) f4 fd4) :
    FnOk P w K mg base CX0 5 f fd ["reader"] (spSF K Pr Ps Pa) := by
  refine okC F hcd sc_sf (fun vs H Q E h => ?_) (fun A outer s H vs Q E hr h => ?_)
  · obtain ⟨M, L, ff, rv, rfl, _⟩ := h
    rfl
  · obtain ⟨M, L, ff, rv, rfl, hR, hc, ⟨⟨la0, la1⟩, ⟨lb0, lb1⟩, lc0, lc1⟩, hf, tr, ts, ta, k⟩ := h
    refine ⟨_, pss_cons (ps_asg (pv 0) (pg_tup rfl (pgs_cons (pg_name (i := 1) sc_sf.nd rfl (Or.inl rfl)) (pgs_cons (pg_name (i := 2) sc_sf.nd rfl (Or.inl rfl)) (pgs_cons (pg_name (i := 3) sc_sf.nd rfl (Or.inl rfl)) (pgs_cons (pg_name (i := 4) sc_sf.nd rfl (Or.inl rfl)) (pgs_cons (pg_name (i := 5) sc_sf.nd rfl (Or.inl rfl)) (pgs_cons (pg_name (i := 6) sc_sf.nd rfl (Or.inl rfl)) pgs_nil))))))))
      (pss_cons (ps_if (PW.pt (pw_or (pt_cmpR op_ne (pe_callB call_len_seq (by rfl) G.len b_len (pa_cons (pv 1) pa_nil)) pe_int (by rfl))
          (pw_or1 (pt_not (pt_val (pe_all1 (own := [("count", 10)]) (g := gName 10) hr rfl (by rfl) G.all TB rfl (gscp rfl rfl (by decide +kernel) (by decide +kernel)) sc_sf.nd
            (blkOk_by (by kernel_rfl)) (pi_tup (pv 1)) (fun _ _ _ _ _ _ => pg_name (i := 10) sc_sf.nd rfl (Or.inl rfl))
            (fun _ _ _ _ _ _ => pe_chain op_le op_le pe_int (pv 10) (pe_glob (v := .int 24) rfl g24 ⟨_, rfl⟩)))))))) pss_never pss_nil)
      (pss_cons (ps_if (pt_not (pt_chain op_le op_le pe_int (pe_callB call_len_seq (by rfl) G.len b_len (pa_cons (pv 4) pa_nil)) (pe_glob (v := .int 60) rfl g60 ⟨_, rfl⟩))) pss_never pss_nil)
      (pss_cons (ps_if (pt_not (pt_val (pe_call Cv.ok (hr.mono (by decide)) rfl Cv.g Cv.kp Cv.b .nil pass0 (pa_cons (pv 0) (pa_cons (pv 2) pa_nil))))) pss_never pss_nil)
      (pss_cons (ps_if (PW.pt (pw_or (pt_cmpR op_ne (pe_callB call_len_seq (by rfl) G.len b_len (pa_cons (pv 3) pa_nil)) (pe_ix ix_dp (pv 1) pe_int (fun _ _ => rfl)) (by rfl))
          (pw_or1 (pt_not (pt_val (pe_all1 (own := [("value", 11)]) (g := gName 11) hr rfl (by rfl) G.all TB rfl (gscp rfl rfl (by decide +kernel) (by decide +kernel)) sc_sf.nd
            (blkOk_by (by kernel_rfl)) (pi_tup (pv 3)) (fun _ _ _ _ _ _ => pg_name (i := 11) sc_sf.nd rfl (Or.inl rfl))
            (fun _ _ _ _ _ _ => pe_call Cv.ok ((room_gen hr).mono (by decide)) rfl Cv.g Cv.kp Cv.b .nil pass0 (pa_cons (pv 0) (pa_cons (pv 11) pa_nil))))))))) pss_never pss_nil)
      (pss_cons (ps_for PassesOwn.never rfl (pi_enumT (by rfl) G.enumerate (pa_cons (pv 4) pa_nil)) (pg_tup rfl (pgs_cons (pg_name (i := 7) sc_sf.nd rfl (Or.inl rfl)) (pgs_cons (pg_name (i := 8) sc_sf.nd rfl (Or.inl rfl)) pgs_nil)))
        (pss_one (ps_if (pt_not (pt_val (pe_call Cr.ok (hr.mono (by decide)) rfl Cr.g Cr.kp Cr.b .nil pass0 (pa_cons (pv 0) (pa_cons (pv 8) pa_nil))))) pss_never pss_nil)))
      (pss_cons (ps_set (i := 9) sc_sf.nd rfl (Or.inl rfl) (pe_call Cw.ok hr rfl Cw.g Cw.kp Cw.b .nil pass0 (pa_cons (pv 0) pa_nil)))
      (pss_cons (ps_if (pt_cmpR op_notN (pv 9) pe_non (by rfl)) pss_never pss_nil)
      (pss_cons (ps_if (PW.pt (pw_or (pt_not (pt_val (pe_all1 (own := [("value", 11)]) (g := gName 11) hr rfl (by rfl) G.all TB rfl (gscp rfl rfl (by decide +kernel) (by decide +kernel)) sc_sf.nd
            (blkOk_by (by kernel_rfl)) (pi_tup (pv 6)) (fun _ _ _ _ _ _ => pg_name (i := 11) sc_sf.nd rfl (Or.inl rfl))
            (fun _ _ _ _ _ _ => pe_call Cv.ok ((room_gen hr).mono (by decide)) rfl Cv.g Cv.kp Cv.b .nil pass0 (pa_cons (pv 0) (pa_cons (pv 11) pa_nil))))))
          (pw_or1 (pt_not (pt_val (pe_call Ca.ok (hr.mono (by decide)) rfl Ca.g Ca.kp Ca.b .nil pass0 (pa_cons (pv 6) pa_nil))))))) pss_never pss_nil)
      (pss_one (ps_ret pe_non)))))))))), ?_⟩
    obtain ⟨ar, rs, rfl, hqr, hdr⟩ := Dp.tupI hR
    have hdr' : DpAll K H rs [lD L, .int 0, iD (rLet M L ff), tD (rMul ff), t3D (rWrap M L ff), iD (rAcc M ff)] := hdr
    cases hdr' with | cons hL hdr' =>
    cases hdr' with | cons hE hdr' =>
    cases hdr' with | cons hS hdr' =>
    cases hdr' with | cons hMu hdr' =>
    cases hdr' with | cons hWr hdr' =>
    cases hdr' with | cons hAc hdr' =>
    cases hdr'
    rename_i lv ev sv mv wv av
    obtain rfl := Dp.intI hE
    obtain ⟨al, ls, rfl, hql, hal⟩ := Dp.tupI hL
    have hal' : DpAll K H ls ([(L.1 : Int), (L.2.1 : Int), (L.2.2 : Int)].map PyData.int) := hal
    obtain rfl := DpAll.ints hal'
    obtain ⟨as_, ss, rfl, hqs, has⟩ := Dp.tupI hS
    obtain rfl := DpAll.ints (ns := rLet M L ff) has
    obtain ⟨am, ms, rfl, hqm, ham⟩ := Dp.tupI hMu
    have hlm := DpAll.length ham
    rw [List.length_map, rMul, List.length_map] at hlm
    obtain ⟨aa, as2, rfl, hqa, haa⟩ := Dp.tupI hAc
    obtain rfl := DpAll.ints (ns := rAcc M ff) haa
    have mt : ∀ (E : XK) (σ : L2.St) (H : Hp) (Q Q' : V → Hp → Prop), (∀ v H, Q v H → Q' v H) → tCall (spIsV K) [] E (tCons (tVar 0) (tCons (tVar 11) tNil)) σ H Q → tCall (spIsV K) [] E (tCons (tVar 0) (tCons (tVar 11) tNil)) σ H Q' := by
      rintro E' σ' H9 Q9 Q9' hQ ⟨v, e, v0, e0, M', L', f', rv', n', c1, c2, c3⟩
      exact ⟨v, e, v0, e0, M', L', f', rv', n', c1, c2, hQ _ _ c3⟩
    have len60 : 1 ≤ ff.length := by
      have := (zero_in hc)
      have := this.2
      omega
    refine ⟨_, rfl, ar, _, rfl, hqr, rfl, _, _, rfl, _, _, rfl, _, _, rfl, _, _, rfl, _, _, rfl, _, _, rfl, rfl, ?_⟩
    -- labels
    refine ⟨_, rfl, al, _, rfl, .inr hql, rfl, _, rfl, ?_⟩
    refine iteNo rfl ?_
    refine ⟨_, rfl, al, rfl, ⟨_, hql⟩, ts, fun H1 tb1 => ?_⟩
    have k1 : Kp [] H H1 := Kp.tabbed ts tb1
    refine loopG_tup (K := K) (xs := [(L.1 : Int), (L.2.1 : Int), (L.2.2 : Int)].map V.int) (fun i H' => H' = H1) rfl (fun i H' _ z => by rw [z]; exact k1.tup NoTup.nil hql) (fun i x H' ei z => ?_) (fun H' z => ?_) gName_mono ?_
    · subst z
      have hx : ∃ n : Int, x = .int n ∧ 1 ≤ n ∧ n ≤ 3 := by
        obtain ⟨n, hn, rfl⟩ := List.mem_map.mp (List.mem_of_getElem? ei)
        refine ⟨n, rfl, ?_⟩
        simp only [List.mem_cons, List.not_mem_nil, or_false] at hn
        rcases hn with rfl | rfl | rfl <;> constructor <;> omega
      obtain ⟨n, rfl, n1, n3⟩ := hx
      refine ⟨rfl, _, rfl, _, _, rfl, rfl, _, rfl, ?_⟩
      refine iteYes (decide_eq_true n1) ?_
      refine ⟨_, _, rfl, rfl, true, ?_, (fun z => nomatch z), fun _ => rfl⟩
      show V.bl (decide (n ≤ 24)) = V.bl true
      rw [decide_eq_true (by omega)]
    case refine_3 =>
      rintro σ' H9 Q9 Q9' hQ ⟨v, e, i, j, e1, e2, k0, e3, z⟩
      refine ⟨v, e, i, j, e1, e2, k0, e3, ?_⟩
      by_cases c : k0 = true
      · rw [if_pos c] at z ⊢
        obtain ⟨i', j', g1, g2, g3⟩ := z
        exact ⟨i', j', g1, g2, hQ _ _ g3⟩
      · rw [if_neg c] at z ⊢
        exact hQ _ _ z
    obtain rfl := z
    refine ⟨_, rfl, ?_⟩
    refine iteNo rfl ?_
    -- values
    refine ⟨_, rfl, am, ms, rfl, .inr (k1.tup NoTup.nil hqm), _, _, rfl, rfl, _, rfl, ?_⟩
    refine iteYes (decide_eq_true (by rw [hlm]; omega)) ?_
    refine ⟨_, _, rfl, rfl, _, rfl, ?_⟩
    refine iteNo (by rw [decide_eq_true (show ((ms.length : Nat) : Int) ≤ 60 by rw [hlm]; omega)]; rfl) ?_
    -- the empty one
    refine ⟨_, rfl, _, rfl, M, L, ff, _, 0, rfl, hR.kp k1, _, rfl, ?_⟩
    refine iteNo (by rw [decide_eq_true (show (0 : Int) ≤ 0 by omega), decide_eq_true (show (0 : Int) < (ff.length : Int) by omega)]; rfl) ?_
    -- letters
    have lenS : ((rLet M L ff).map V.int).length = L.1 := by rw [List.length_map, rLet, List.length_map, List.length_range]
    refine ⟨_, rfl, as_, _, rfl, .inr (k1.tup NoTup.nil hqs), _, rfl, lDs L, 0, .int (L.1 : Int), k1.dp NoTup.nil (nums_solid _ (lD_nums L)) hL, rfl, rfl, fun u hu => ?_⟩
    obtain rfl := Dp.intI hu
    refine ⟨rfl, _, rfl, ?_⟩
    refine iteNo (by rw [lenS]; simp) ?_
    refine ⟨_, rfl, as_, rfl, ⟨_, k1.tup NoTup.nil hqs⟩, k1.tabs Ps ts, fun H2 tb2 => ?_⟩
    have k2 : Kp [] H H2 := k1.trans (Kp.tabbed (k1.tabs Ps ts) tb2)
    refine loopG_tup (K := K) (xs := (rLet M L ff).map V.int) (fun i H' => H' = H2) rfl (fun i H' _ z => by rw [z]; exact k2.tup NoTup.nil hqs) (fun i x H' ei z => ?_) (fun H' z => ?_) gName_mono (mt _)
    · subst z
      obtain ⟨n, hn, rfl⟩ := List.mem_map.mp (List.mem_of_getElem? ei)
      have hn' : InS ff.length n := by
        obtain ⟨a, ha, rfl⟩ := List.mem_map.mp hn
        have ha' := List.mem_range.mp ha
        have := ix_lt (letter_in hc (a := (a : Int)) ⟨by omega, by omega⟩)
        exact ⟨by omega, by omega⟩
      refine ⟨rfl, _, rfl, _, rfl, M, L, ff, _, n, rfl, hR.kp k2, true, ?_, (fun z => nomatch z), fun _ => rfl⟩
      rw [decide_eq_true hn'.1, decide_eq_true hn'.2]; rfl
    obtain rfl := z
    refine ⟨_, rfl, ?_⟩
    refine iteNo rfl ?_
    -- mul
    refine ⟨_, rfl, am, ms, rfl, k2.tup NoTup.nil hqm, ?_⟩
    refine for_it (walk_enumT (K := K) (a := am) (xs := ms)) (fun i σ H4 => (∃ o7 o8, σ = [some (V.ref ar), some (V.ref al), some (V.int 0), some (V.ref as_), some (V.ref am), some wv, some (V.ref aa), o7, o8, none, none, none]) ∧ Kp [] H H4)
      ⟨⟨none, none, rfl⟩, k2⟩ (fun i σ H4 _ z => z.2.tup NoTup.nil hqm) (fun i x σ H3 H4 hlt z y => ?_) fun σ H3 z => ?_
    · obtain ⟨⟨o7, o8, rfl⟩, k3⟩ := z
      obtain ⟨Tp, x1, x2, rfl, hTp, rfl, ex1, ex2⟩ := y
      cases ex1
      have k4 := k3.and (o := .tup [.int (i : Nat), x2]) hTp
      have hMu4 : DpAll K (upd H3 Tp (.tup [.int (i : Nat), x2])) ms ((rMul ff).map iD) := k4.dps NoTup.nil (rows_solid _) ham
      obtain ⟨r, er, hx⟩ := map_dp hMu4 ex2
      refine ⟨Tp, _, rfl, SqT.of upd_same, rfl, _, _, rfl, _, _, rfl, rfl, ?_⟩
      have hrow : r.length = ff.length ∧ ∀ n ∈ r, InS ff.length n := by
        obtain ⟨t, ht, rfl⟩ := List.mem_map.mp (List.mem_of_getElem? er)
        exact row_in (M := M) (L := L) (f := ff) (g := fun y => tJoin t y) fun y hy => join_in hc ht hy
      refine ⟨_, rfl, _, rfl, M, L, ff, _, x2, r, rfl, hR.kp k4, hx, hrow.1, hrow.2, k4.tabs Pr tr, hf, fun H5 k5 => ?_⟩
      refine ⟨_, rfl, ?_⟩
      exact iteNo rfl ⟨⟨_, _, rfl⟩, k4.trans k5⟩
    obtain ⟨⟨o7, o8, rfl⟩, k3⟩ := z
    -- wrap
    refine ⟨_, rfl, M, L, ff, _, rfl, hR.kp k3, hc, ⟨by omega, by omega, by omega⟩, hf, k3.tabs Pr tr, fun H4 k4 => ?_⟩
    have k4 := k3.trans k4
    refine ⟨_, rfl, rfl, _, rfl, ?_⟩
    refine iteNo rfl ?_
    -- accepted
    refine ⟨_, rfl, aa, rfl, ⟨_, k4.tup NoTup.nil hqa⟩, k4.tabs Ps ts, fun H5 tb5 => ?_⟩
    have k5 : Kp [] H H5 := k4.trans (Kp.tabbed (k4.tabs Ps ts) tb5)
    refine loopG_tup (K := K) (xs := (rAcc M ff).map V.int) (fun i H' => H' = H5) rfl (fun i H' _ z => by rw [z]; exact k5.tup NoTup.nil hqa) (fun i x H' ei z => ?_) (fun H' z => ?_) gName_mono (mt _)
    · subst z
      obtain ⟨n, hn, rfl⟩ := List.mem_map.mp (List.mem_of_getElem? ei)
      have hn' := (mem_acc.mp hn).1
      refine ⟨rfl, _, rfl, _, rfl, M, L, ff, _, n, rfl, hR.kp k5, true, ?_, (fun z => nomatch z), fun _ => rfl⟩
      rw [decide_eq_true hn'.1, decide_eq_true hn'.2]; rfl
    obtain rfl := z
    refine ⟨_, rfl, ?_⟩
    refine iteNo rfl ?_
    refine ⟨_, rfl, _, rAcc M ff, rfl, k5.dp NoTup.nil (nums_solid _ (iD_nums _)) hAc, acc_up, ?_, k5.tabs Pa ta, fun H6 k6 => ?_⟩
    · have h1 : (rAcc M ff).length ≤ ff.length := by
        rw [rAcc, List.length_map]
        have := List.length_filter_le (fun (i : Nat) => tAcc M (at_ ff (i : Int))) (List.range ff.length)
        rw [List.length_range] at this
        exact this
      omega
    refine ⟨_, rfl, ?_⟩
    refine iteNo rfl ?_
    exact k H6 (k5.trans k6)
end
end K51
end

section
set_option Elab.async false
set_option linter.all false
set_option maxRecDepth 100000
set_option maxHeartbeats 8000000
/-! readers: fault -/
namespace K51
open PySem PySem.Spec PyProof.Rows L2
section
variable {K : PySem.W.Frag} {H : Hp} {f : List Tab}
theorem len_row {x : Int} (hx : InS f.length x) : ((rMul f).getD x.toNat []).length = f.length := by
  have h1 := hx.1
  have h2 := hx.2
  have hl : x.toNat < (rMul f).length := by rw [rMul, List.length_map]; omega
  rw [List.getD_eq_getElem?_getD, List.getElem?_eq_getElem hl, Option.getD_some]
  simp only [rMul, List.getElem_map, List.length_map]
theorem mul_row {mv : V} {x : Int} {Q : VK} (hx : InS f.length x) (hM : Dp K H mv (tD (rMul f))) (q : ∀ u, Dp K H u (iD ((rMul f).getD x.toNat [])) → Q u H) : rIxD K mv (.int x) H Q := by
  have h1 := hx.1
  have h2 := hx.2
  have hl : x.toNat < (rMul f).length := by rw [rMul, List.length_map]; omega
  refine ⟨(rMul f).map iD, x.toNat, iD ((rMul f).getD x.toNat []), hM, by rw [Int.toNat_of_nonneg h1], ?_, q⟩
  rw [List.getElem?_map, List.getD_eq_getElem?_getD, List.getElem?_eq_getElem hl]; rfl
theorem row_at {u : V} {row : List Int} {y : Int} {Q : VK} (hy : InS row.length y) (hu : Dp K H u (iD row)) (q : Q (.int (row.getD y.toNat 0)) H) : rIxD K u (.int y) H Q := by
  have h1 := hy.1
  have h2 := hy.2
  have hl : y.toNat < row.length := by omega
  refine ⟨row.map .int, y.toNat, .int (row.getD y.toNat 0), hu, by rw [Int.toNat_of_nonneg h1], ?_, fun v hv => by rw [Dp.intI hv]; exact q⟩
  rw [List.getElem?_map, List.getD_eq_getElem?_getD, List.getElem?_eq_getElem hl]; rfl
theorem mul_at {u : V} {x y : Int} {Q : VK} (hx : InS f.length x) (hy : InS f.length y) (hu : Dp K H u (iD ((rMul f).getD x.toNat []))) (q : Q (.int (get2 (rMul f) x y)) H) : rIxD K u (.int y) H Q :=
  row_at (by rw [len_row hx]; exact hy) hu q
end
section
variable {P : Program} {w : World} {K : PySem.W.Frag} {mg : PySem.Str → Option Value} {base : Heap}
/-- fault(reader): none -/
def spFault (K : PySem.W.Frag) (Pr Ps Pa : Addr) : Sp := fun vs H Q _ => ∃ (M : Mach) (L : Nat × Nat × Nat) (f : List Tab) (rv : V), vs = [rv] ∧ RAt K H rv M L f ∧ Clos M L f ∧ LabOk L ∧ f.length ≤ 60 ∧ GxR.TabG H Pr ∧ GxR.TabG H Ps ∧ GxR.TabG H Pa ∧ ∀ H', Kp [] H H' → Q .non H'
abbrev nFault : List PySem.Str := ["reader", "found", "empty", "mul", "x", "y", "z"]
theorem sc_fault : FnScope nFault ["reader"] (defScope s_fault) := ⟨rfl, rfl, rfl, by decide +kernel, rfl, by decide +kernel, by decide +kernel⟩
theorem ok_fault {f Pr Ps Pa f1 : Addr} {fd fd1 : FuncData} (F : L2.Fun K "fault" "fault" s_fault f fd) (G : Gs mg) (Cs : Cal P w K mg base CX0 5 "shape_fault" ["reader"] (spSF K Pr Ps Pa) f1 fd1) :
    FnOk P w K mg base CX0 6 f fd ["reader"] (spFault K Pr Ps Pa) := by
  refine F.ok sc_fault (fun vs H Q E h => ?_) (fun cdv A outer s H vs Q E hr h => ?_)
  · obtain ⟨M, L, ff, rv, rfl, _⟩ := h
    rfl
  · obtain ⟨M, L, ff, rv, rfl, hR, hc, lo, hf, tr, ts, ta, k⟩ := h
    refine ⟨_, pss_cons (ps_set (i := 1) sc_fault.nd rfl (Or.inl rfl) (pe_call Cs.ok hr rfl Cs.g Cs.kp Cs.b .nil pass0 (pa_cons (pv 0) pa_nil)))
      (pss_cons (ps_if (pt_cmpR op_notN (pv 1) pe_non (by rfl)) pss_never pss_nil)
      (pss_cons (ps_par (i := 2) (j := 3) rfl sc_fault.nd rfl rfl (by decide) rfl rfl (pa_cons (pe_ix ix_dp (pv 0) pe_int (fun _ _ => rfl)) (pa_cons (pe_ix ix_dp (pv 0) pe_int (fun _ _ => rfl)) pa_nil)) (by rfl))
      (pss_cons (ps_for PassesOwn.never rfl (pi_range1 (by rfl) G.range (pa_cons (pe_callB call_len_seq (by rfl) G.len b_len (pa_cons (pv 3) pa_nil)) pa_nil)) (pg_name (i := 4) sc_fault.nd rfl (Or.inl rfl))
        (pss_one (ps_if (PW.pt (pw_or (pt_cmpR op_ne (pe_ix ix_dp (pe_ix ix_dp (pv 3) (pv 2) (fun _ _ => rfl)) (pv 4) (fun _ _ => rfl)) (pv 4) (by rfl)) (pw_or1 (pt_cmpR op_ne (pe_ix ix_dp (pe_ix ix_dp (pv 3) (pv 4) (fun _ _ => rfl)) (pv 2) (fun _ _ => rfl)) (pv 4) (by rfl))))) pss_never pss_nil)))
      (pss_cons (ps_for PassesOwn.never rfl (pi_range1 (by rfl) G.range (pa_cons (pe_callB call_len_seq (by rfl) G.len b_len (pa_cons (pv 3) pa_nil)) pa_nil)) (pg_name (i := 4) sc_fault.nd rfl (Or.inl rfl))
        (pss_one (ps_for PassesOwn.never rfl (pi_range1 (by rfl) G.range (pa_cons (pe_callB call_len_seq (by rfl) G.len b_len (pa_cons (pv 3) pa_nil)) pa_nil)) (pg_name (i := 5) sc_fault.nd rfl (Or.inl rfl))
          (pss_one (ps_for PassesOwn.never rfl (pi_range1 (by rfl) G.range (pa_cons (pe_callB call_len_seq (by rfl) G.len b_len (pa_cons (pv 3) pa_nil)) pa_nil)) (pg_name (i := 6) sc_fault.nd rfl (Or.inl rfl))
            (pss_one (ps_if (pt_cmpR op_ne (pe_ix ix_dp (pe_ix ix_dp (pv 3) (pe_ix ix_dp (pe_ix ix_dp (pv 3) (pv 4) (fun _ _ => rfl)) (pv 5) (fun _ _ => rfl)) (fun _ _ => rfl)) (pv 6) (fun _ _ => rfl))
              (pe_ix ix_dp (pe_ix ix_dp (pv 3) (pv 4) (fun _ _ => rfl)) (pe_ix ix_dp (pe_ix ix_dp (pv 3) (pv 5) (fun _ _ => rfl)) (pv 6) (fun _ _ => rfl)) (fun _ _ => rfl)) (by rfl)) pss_never pss_nil)))))))
      (pss_one (ps_ret pe_non)))))), ?_⟩
    refine ⟨_, rfl, M, L, ff, rv, rfl, hR, hc, lo, hf, tr, ts, ta, fun H1 k1 => ?_⟩
    refine ⟨_, rfl, rfl, _, rfl, ?_⟩
    refine iteNo rfl ?_
    refine ⟨_, rfl, rDs M L ff, 1, .int 0, hR.kp k1, rfl, rfl, fun u hu => ?_⟩
    obtain rfl := Dp.intI hu
    refine ⟨_, rfl, rDs M L ff, 3, tD (rMul ff), hR.kp k1, rfl, rfl, fun mv hM => ?_⟩
    obtain ⟨am, ms, rfl, hqm, ham⟩ := Dp.tupI hM
    have hlm := DpAll.length ham
    rw [List.length_map, rMul, List.length_map] at hlm
    refine ⟨_, _, rfl, ?_⟩
    have z0 := zero_in hc
    have tn : ((ms.length : Nat) : Int).toNat = ff.length := by rw [hlm, Int.toNat_natCast]
    have inR : ∀ {i : Nat}, i < ((ms.length : Nat) : Int).toNat → InS ff.length (0 + (i : Int)) := fun {i} h => ⟨by omega, by omega⟩
    refine ⟨_, rfl, am, ms, rfl, .inr hqm, ?_⟩
    refine ⟨_, rfl, by omega, by omega, ?_⟩
    refine for_range (lo := 0) (n := ((ms.length : Nat) : Int).toNat) (fun i σ H' => (∃ o4, σ = [some rv, some .non, some (V.int 0), some (V.ref am), o4, none, none]) ∧ H' = H1) ⟨⟨none, rfl⟩, rfl⟩ (fun i σ H2 hi z => ?_) fun σ H2 z => ?_
    · obtain ⟨⟨o4, rfl⟩, rfl⟩ := z
      have hx := inR hi
      refine ⟨_, rfl, _, rfl, mul_row z0 hM fun u hu => ?_⟩
      refine ⟨_, rfl, mul_at z0 hx hu ?_⟩
      refine ⟨_, rfl, rfl, _, rfl, ?_⟩
      rw [unit_l hc hx]
      refine iteNo (by simp) ?_
      refine ⟨_, rfl, _, rfl, mul_row hx hM fun u hu => ?_⟩
      refine ⟨_, rfl, mul_at hx z0 hu ?_⟩
      refine ⟨_, rfl, rfl, _, rfl, ?_⟩
      rw [unit_r hc hx]
      exact iteNo (by simp) ⟨⟨_, rfl⟩, rfl⟩
    obtain ⟨⟨o4, rfl⟩, rfl⟩ := z
    refine ⟨_, rfl, am, ms, rfl, .inr hqm, ?_⟩
    refine ⟨_, rfl, by omega, by omega, ?_⟩
    refine for_range (lo := 0) (n := ((ms.length : Nat) : Int).toNat) (fun i σ H' => (∃ o4 o5 o6, σ = [some rv, some .non, some (V.int 0), some (V.ref am), o4, o5, o6]) ∧ H' = H2) ⟨⟨_, none, none, rfl⟩, rfl⟩ (fun i σ H3 hi z => ?_) fun σ H3 z => ?_
    · obtain ⟨⟨o4, o5, o6, rfl⟩, rfl⟩ := z
      have hx := inR hi
      refine ⟨_, rfl, am, ms, rfl, .inr hqm, ?_⟩
      refine ⟨_, rfl, by omega, by omega, ?_⟩
      refine for_range (lo := 0) (n := ((ms.length : Nat) : Int).toNat) (fun j σ H' => (∃ o5 o6, σ = [some rv, some .non, some (V.int 0), some (V.ref am), some (V.int (0 + (i : Int))), o5, o6]) ∧ H' = H3) ⟨⟨_, _, rfl⟩, rfl⟩ (fun j σ H4 hj z => ?_) fun σ H4 z => ?_
      · obtain ⟨⟨o5, o6, rfl⟩, rfl⟩ := z
        have hy := inR hj
        refine ⟨_, rfl, am, ms, rfl, .inr hqm, ?_⟩
        refine ⟨_, rfl, by omega, by omega, ?_⟩
        refine for_range (lo := 0) (n := ((ms.length : Nat) : Int).toNat) (fun l σ H' => (∃ o6, σ = [some rv, some .non, some (V.int 0), some (V.ref am), some (V.int (0 + (i : Int))), some (V.int (0 + (j : Int))), o6]) ∧ H' = H4) ⟨⟨_, rfl⟩, rfl⟩ (fun l σ H5 hl z => ?_) fun σ H5 z => ?_
        · obtain ⟨⟨o6, rfl⟩, rfl⟩ := z
          have hz := inR hl
          refine ⟨_, rfl, _, rfl, _, rfl, mul_row hx hM fun u hu => ?_⟩
          refine ⟨_, rfl, mul_at hx hy hu ?_⟩
          refine mul_row (mul_in hc hx hy) hM fun u hu => ?_
          refine ⟨_, rfl, mul_at (mul_in hc hx hy) hz hu ?_⟩
          refine ⟨_, rfl, _, rfl, mul_row hx hM fun u hu => ?_⟩
          refine ⟨_, rfl, _, rfl, mul_row hy hM fun u2 hu2 => ?_⟩
          refine ⟨_, rfl, mul_at hy hz hu2 ?_⟩
          refine mul_at hx (mul_in hc hy hz) hu ?_
          refine ⟨rfl, _, rfl, ?_⟩
          rw [mul_assoc hc hx hy hz]
          exact iteNo (by simp) ⟨⟨_, rfl⟩, rfl⟩
        · obtain ⟨⟨o6, rfl⟩, rfl⟩ := z
          exact ⟨⟨_, _, rfl⟩, rfl⟩
      · obtain ⟨⟨o5, o6, rfl⟩, rfl⟩ := z
        exact ⟨⟨_, _, _, rfl⟩, rfl⟩
    · obtain ⟨⟨o4, o5, o6, rfl⟩, rfl⟩ := z
      exact k _ k1
end
end K51
end

section
set_option Elab.async false
set_option linter.all false
set_option maxRecDepth 100000
set_option maxHeartbeats 8000000
/-! readers: check_labels, value_behind, value, accepts -/
namespace K51
open PySem PySem.Spec PyProof.Rows L2
/-! ### texts as data -/
def kS : Kind → PySem.Str
  | .letter => "letter"
  | .call => "call"
  | .ret => "return"
def kN : Kind → Nat
  | .letter => 0
  | .call => 1
  | .ret => 2
abbrev kNames : List PySem.Str := ["letter", "call", "return"]
def pD (p : Place) : PyData := .tuple [.str (kS p.1), .int p.2]
def labN (L : Nat × Nat × Nat) : Kind → Nat
  | .letter => L.1
  | .call => L.2.1
  | .ret => L.2.2
def LabIn (L : Nat × Nat × Nat) (p : Place) : Prop := InS (labN L p.1) p.2
theorem okT_lab {L : Nat × Nat × Nat} : ∀ {row : List Place} {d : Nat}, okT L d row → ∀ p ∈ row, LabIn L p
  | [], _, _, p, hp => nomatch hp
  | (.letter, a) :: r, d, h, p, hp => by
    rcases List.mem_cons.mp hp with rfl | hp
    · exact h.1
    · exact okT_lab h.2 p hp
  | (.call, a) :: r, d, h, p, hp => by
    rcases List.mem_cons.mp hp with rfl | hp
    · exact h.1
    · exact okT_lab h.2 p hp
  | (.ret, a) :: r, 0, h, p, hp => h.elim
  | (.ret, a) :: r, d + 1, h, p, hp => by
    rcases List.mem_cons.mp hp with rfl | hp
    · exact h.1
    · exact okT_lab h.2 p hp
theorem ps_solid (row : List Place) : solidAll (row.map pD) = true := solidAll_of fun d h => by obtain ⟨p, _, rfl⟩ := List.mem_map.mp h; rfl
theorem dpAll_snocI {K : PySem.W.Frag} {H : Hp} : ∀ {xs : List V} {A : List PyData} {d : PyData}, DpAll K H xs (A ++ [d]) → ∃ ys y, xs = ys ++ [y] ∧ DpAll K H ys A ∧ Dp K H y d
  | xs, [], d, h => by
    cases h with
    | cons h1 t => cases t; exact ⟨[], _, rfl, .nil, h1⟩
  | xs, a :: A, d, h => by
    have h' : DpAll K H xs (a :: (A ++ [d])) := h
    cases h' with
    | cons h1 t =>
      obtain ⟨ys, y, rfl, h2, h3⟩ := dpAll_snocI t
      exact ⟨_ :: ys, y, rfl, .cons h1 h2, h3⟩
/-- the names of the kinds -/
structure Kinds (K : PySem.W.Frag) (mg : PySem.Str → Option Value) (a : Addr) : Prop where
  g : mg "KINDS" = some (.ref a)
  sq : ∀ H, SqT K H a (kNames.map V.str)
  ty : ∃ o, K.lookup a = some o ∧ o.cls = .type "tuple" ∧ o.dict = none
theorem kN_at (k : Kind) : kNames[kN k]? = some (kS k) := by cases k <;> rfl
theorem kN_no (k : Kind) : ∀ m, m < kN k → kNames[m]? ≠ some (kS k) := by
  cases k
  · intro m h; exact absurd h (Nat.not_lt_zero m)
  · intro m h
    have : m = 0 := by have : m < 1 := h; omega
    subst this; decide +kernel
  · intro m h
    have h : m < 2 := h
    have : m = 0 ∨ m = 1 := by omega
    rcases this with rfl | rfl <;> decide +kernel
section
variable {P : Program} {w : World} {K : PySem.W.Frag} {mg : PySem.Str → Option Value} {base : Heap}
/-- check_labels(reader, text): none -/
def spChk (K : PySem.W.Frag) : Sp := fun vs H Q _ => ∃ (M : Mach) (L : Nat × Nat × Nat) (f : List Tab) (rv : V) (tl : Addr) (acc : List V) (row : List Place), vs = [rv, .ref tl] ∧ RAt K H rv M L f ∧ SqL K H tl acc ∧ DpAll K H acc (row.map pD) ∧ (∀ p ∈ row, LabIn L p) ∧ ∀ H', Kp [] H H' → Q .non H'
abbrev nChk : List PySem.Str := ["reader", "text", "number", "place"]
theorem sc_chk : FnScope nChk ["reader", "text"] (defScope s_check_labels) := ⟨rfl, rfl, rfl, by decide +kernel, rfl, by decide +kernel, by decide +kernel⟩
theorem ok_chk {f pk : Addr} {fd : FuncData} (F : L2.Fun K "check_labels" "check_labels" s_check_labels f fd) (G : Gs mg) (Kn : Kinds K mg pk) : FnOk P w K mg base CX0 1 f fd ["reader", "text"] (spChk K) := by
  refine F.ok sc_chk (fun vs H Q E h => ?_) (fun cdv A outer s H vs Q E hr h => ?_)
  · obtain ⟨M, L, ff, rv, tl, acc, row, rfl, _⟩ := h
    rfl
  · obtain ⟨M, L, ff, rv, tl, acc, row, rfl, hR, hl, ha, hlab, k⟩ := h
    refine ⟨_, pss_one (ps_for PassesOwn.never rfl (pi_enum (by rfl) G.enumerate (pa_cons (pv 1) pa_nil)) (pg_tup rfl (pgs_cons (pg_name (i := 2) sc_chk.nd rfl (Or.inl rfl)) (pgs_cons (pg_name (i := 3) sc_chk.nd rfl (Or.inl rfl)) pgs_nil)))
      (pss_one (ps_if (pt_not (pt_chain op_le op_lt pe_int (pe_ix ix_dp (pv 3) pe_int (fun _ _ => rfl)) (pe_ix ix_dp (pe_ix ix_dp (pv 0) pe_int (fun _ _ => rfl))
          (pe_bm PySem.F.plainAttrs_tuple PySem.F.slot_tuple_index PySem.F.type_tuple_index mt_tup_index (pe_glob (v := .ref pk) rfl Kn.g rfl) (pa_cons (pe_ix ix_dp (pv 3) pe_int (fun _ _ => rfl)) pa_nil)) (fun _ _ => rfl)))) pss_never pss_nil))), ?_⟩
    refine ⟨_, rfl, tl, acc, rfl, hl, ?_⟩
    refine for_it (walk_enum (K := K) (a := tl) (xs := acc)) (fun i σ H' => (∃ o2 o3, σ = [some rv, some (V.ref tl), o2, o3]) ∧ Kp [] H H') ⟨⟨none, none, rfl⟩, Kp.refl⟩ (fun i σ H' _ z => z.2.lst (fun z => nomatch z) hl) (fun i x σ H1 H2 hlt z y => ?_) fun σ H' z => ?_
    · obtain ⟨⟨o2, o3, rfl⟩, k1⟩ := z
      obtain ⟨Tp, x1, x2, rfl, hTp, rfl, ex1, ex2⟩ := y
      cases ex1
      have k2 := k1.and (o := .tup [.int (i : Nat), x2]) hTp
      have ha2 : DpAll K (upd H1 Tp (.tup [.int (i : Nat), x2])) acc (row.map pD) := k2.dps NoTup.nil (ps_solid row) ha
      obtain ⟨⟨kk, a⟩, ep, hx⟩ := map_dp ha2 ex2
      have hin := hlab _ (List.mem_of_getElem? ep)
      refine ⟨Tp, _, rfl, SqT.of upd_same, rfl, _, _, rfl, _, _, rfl, rfl, ?_⟩
      have hx : Dp K (upd H1 Tp (.tup [.int (i : Nat), x2])) x2 (.tuple [.str (kS kk), .int a]) := hx
      refine ⟨_, rfl, _, 1, _, hx, rfl, rfl, fun u hu => ?_⟩
      obtain rfl := Dp.intI hu
      refine ⟨_, _, rfl, rfl, _, rfl, ?_⟩
      refine iteYes (decide_eq_true hin.1) ?_
      refine ⟨_, rfl, rDs M L ff, 0, lD L, hR.kp k2, rfl, rfl, fun u hu => ?_⟩
      refine ⟨.inr (.inl ⟨rfl, Kn.ty⟩), _, rfl, _, 0, _, hx, rfl, rfl, fun u2 hu2 => ?_⟩
      obtain rfl := Dp.strI hu2
      refine ⟨pk, kNames, kS kk, kN kk, rfl, rfl, Kn.sq _, kN_at kk, kN_no kk, ?_⟩
      refine ⟨lDs L, kN kk, .int (labN L kk : Int), hu, rfl, by cases kk <;> rfl, fun u3 hu3 => ?_⟩
      obtain rfl := Dp.intI hu3
      refine ⟨_, _, rfl, rfl, _, rfl, ?_⟩
      exact iteNo (by rw [decide_eq_true hin.2]; rfl) ⟨⟨_, _, rfl⟩, k2⟩
    · obtain ⟨⟨o2, o3, rfl⟩, k1⟩ := z
      exact k _ k1
theorem ds_at {α : Type} {g : α → PyData} {l : List α} {dflt : α} {H : Hp} {v : V} {x : Int} {Q : VK} (hx : InS l.length x) (hM : Dp K H v (.tuple (l.map g))) (q : ∀ u, Dp K H u (g (l.getD x.toNat dflt)) → Q u H) : rIxD K v (.int x) H Q := by
  have h1 := hx.1
  have h2 := hx.2
  have hl : x.toNat < l.length := by omega
  refine ⟨l.map g, x.toNat, g (l.getD x.toNat dflt), hM, by rw [Int.toNat_of_nonneg h1], ?_, q⟩
  rw [List.getElem?_map, List.getD_eq_getElem?_getD, List.getElem?_eq_getElem hl]; rfl
theorem len_let {M : Mach} {L : Nat × Nat × Nat} {f : List Tab} : (rLet M L f).length = L.1 := by rw [rLet, List.length_map, List.length_range]
theorem len_w1 {M : Mach} {L : Nat × Nat × Nat} {f : List Tab} : (rWrap M L f).length = L.2.1 := by rw [rWrap, List.length_map, List.length_range]
theorem w_get {M : Mach} {L : Nat × Nat × Nat} {f : List Tab} {a : Int} (ha : InS L.2.1 a) : (rWrap M L f).getD a.toNat [] = (List.range L.2.2).map fun (b : Nat) => f.map fun x => (ixN f (tAround M ((a.toNat : Nat) : Int) (b : Int) x) : Int) := by
  have h1 := ha.1
  have h2 := ha.2
  rw [List.getD_eq_getElem?_getD, rWrap, List.getElem?_map, List.getElem?_range (by omega)]; rfl
theorem len_w2 {M : Mach} {L : Nat × Nat × Nat} {f : List Tab} {a : Int} (ha : InS L.2.1 a) : ((rWrap M L f).getD a.toNat []).length = L.2.2 := by
  rw [w_get ha, List.length_map, List.length_range]
theorem len_w3 {M : Mach} {L : Nat × Nat × Nat} {f : List Tab} {a b : Int} (ha : InS L.2.1 a) (hb : InS L.2.2 b) : (((rWrap M L f).getD a.toNat []).getD b.toNat []).length = f.length := by
  have h1 := hb.1
  have h2 := hb.2
  rw [w_get ha, List.getD_eq_getElem?_getD, List.getElem?_map, List.getElem?_range (by omega)]
  exact List.length_map _
theorem drop_next {α : Type} {l : List α} {i : Nat} {x : α} (h : l[i]? = some x) : l.drop i = x :: l.drop (i + 1) := by
  obtain ⟨hi, e⟩ := List.getElem?_eq_some_iff.mp h
  rw [List.drop_eq_getElem_cons hi, e]
theorem vrun_snoc (M : Mach) (L : Nat × Nat × Nat) (f : List Tab) (s : Int × List (Int × Int)) (l : List Place) (p : Place) : vrun M L f s (l ++ [p]) = vstep M L f (vrun M L f s l) p := by
  unfold vrun; rw [List.foldl_append]; rfl
theorem dec_S (x y : PySem.Str) : decide (V.str x = V.str y) = decide (x = y) := by
  by_cases c : x = y
  · rw [decide_eq_true c, decide_eq_true (by rw [c])]
  · rw [decide_eq_false c, decide_eq_false fun z => c (by injection z)]
/-- value_behind(reader, start, text) -/
def spVB (K : PySem.W.Frag) : Sp := fun vs H Q _ => ∃ (M : Mach) (L : Nat × Nat × Nat) (f : List Tab) (rv : V) (tl : Addr) (acc : List V) (row : List Place), vs = [rv, .int 0, .ref tl] ∧ RAt K H rv M L f ∧ M.Ok L ∧ Clos M L f ∧ SqL K H tl acc ∧ DpAll K H acc (row.map pD) ∧ okT L 0 row ∧ row.length ≤ 100 ∧
  ∀ H', Kp [] H H' → Q (.int (vrun M L f (0, []) row).1) H'
abbrev nVB : List PySem.Str := ["reader", "start", "text", "_", "empty", "letters", "mul", "wrap", "value_now", "opened", "kind", "label", "ahead", "call"]
theorem sc_vb : FnScope nVB ["reader", "start", "text"] (defScope s_value_behind) := ⟨rfl, rfl, rfl, by decide +kernel, rfl, by decide +kernel, by decide +kernel⟩
theorem ok_vb {f f1 : Addr} {fd fd1 : FuncData} (F : L2.Fun K "value_behind" "value_behind" s_value_behind f fd) (Cc : Cal P w K mg base CX0 1 "check_labels" ["reader", "text"] (spChk K) f1 fd1) :
    FnOk P w K mg base CX0 2 f fd ["reader", "start", "text"] (spVB K) := by
  refine F.ok sc_vb (fun vs H Q E h => ?_) (fun cdv A outer s H vs Q E hr h => ?_)
  · obtain ⟨M, L, ff, rv, tl, acc, row, rfl, _⟩ := h
    rfl
  · obtain ⟨M, L, ff, rv, tl, acc, row, rfl, hR, ok, hc, hl, ha, ht, hn, k⟩ := h
    refine ⟨_, pss_cons (ps_expr (pe_call Cc.ok hr rfl Cc.g Cc.kp Cc.b .nil pass0 (pa_cons (pv 0) (pa_cons (pv 2) pa_nil))))
      (pss_cons (ps_asg (pv 0) (pg_tup rfl (pgs_cons (pg_name (i := 3) sc_vb.nd rfl (Or.inl rfl)) (pgs_cons (pg_name (i := 4) sc_vb.nd rfl (Or.inl rfl)) (pgs_cons (pg_name (i := 5) sc_vb.nd rfl (Or.inl rfl)) (pgs_cons (pg_name (i := 6) sc_vb.nd rfl (Or.inl rfl)) (pgs_cons (pg_name (i := 7) sc_vb.nd rfl (Or.inl rfl)) (pgs_cons (pg_name (i := 3) sc_vb.nd rfl (Or.inl rfl)) pgs_nil))))))))
      (pss_cons (ps_set (i := 8) sc_vb.nd rfl (Or.inl rfl) (pv 1))
      (pss_cons (ps_set (i := 9) sc_vb.nd rfl (Or.inl rfl) (pe_lst pa_nil))
      (pss_cons (ps_for PassesOwn.never rfl (pi_list (pv 2)) (pg_tup rfl (pgs_cons (pg_name (i := 10) sc_vb.nd rfl (Or.inl rfl)) (pgs_cons (pg_name (i := 11) sc_vb.nd rfl (Or.inl rfl)) pgs_nil)))
        (pss_one (ps_if (pt_cmpR op_eq (pv 10) pe_str (by rfl))
          (pss_one (ps_set (i := 8) sc_vb.nd rfl (Or.inl rfl) (pe_ix ix_dp (pe_ix ix_dp (pv 6) (pv 8) (fun _ _ => rfl)) (pe_ix ix_dp (pv 5) (pv 11) (fun _ _ => rfl)) (fun _ _ => rfl))))
          (pss_one (ps_if (pt_cmpR op_eq (pv 10) pe_str (by rfl))
            (pss_cons (ps_expr (pe_bm PySem.F.plainAttrs_list PySem.F.slot_list_append PySem.F.type_list_append mt_append (pv 9) (pa_cons (pe_tup (pa_cons (pv 8) (pa_cons (pv 11) pa_nil))) pa_nil)))
            (pss_one (ps_set (i := 8) sc_vb.nd rfl (Or.inl rfl) (pv 4))))
            (pss_cons (ps_asg (pe_bm0 PySem.F.plainAttrs_list PySem.F.slot_list_pop PySem.F.type_list_pop mt_pop (pv 9)) (pg_tup rfl (pgs_cons (pg_name (i := 12) sc_vb.nd rfl (Or.inl rfl)) (pgs_cons (pg_name (i := 13) sc_vb.nd rfl (Or.inl rfl)) pgs_nil))))
            (pss_one (ps_set (i := 8) sc_vb.nd rfl (Or.inl rfl) (pe_ix ix_dp (pe_ix ix_dp (pv 6) (pv 12) (fun _ _ => rfl)) (pe_ix ix_dp (pe_ix ix_dp (pe_ix ix_dp (pv 7) (pv 13) (fun _ _ => rfl)) (pv 11) (fun _ _ => rfl)) (pv 8) (fun _ _ => rfl)) (fun _ _ => rfl)))))))))
          )
      (pss_one (ps_ret (pv 8))))))), ?_⟩
    refine ⟨_, rfl, _, rfl, M, L, ff, rv, tl, acc, row, rfl, hR, hl, ha, okT_lab ht, fun H1 k1 => ?_⟩
    obtain ⟨ar, rs, rfl, hqr, hdr⟩ := Dp.tupI hR
    have hdr' : DpAll K H rs [lD L, .int 0, iD (rLet M L ff), tD (rMul ff), t3D (rWrap M L ff), iD (rAcc M ff)] := hdr
    cases hdr' with | cons hL hdr' =>
    cases hdr' with | cons hE hdr' =>
    cases hdr' with | cons hS hdr' =>
    cases hdr' with | cons hMu hdr' =>
    cases hdr' with | cons hWr hdr' =>
    cases hdr' with | cons hAc hdr' =>
    cases hdr'
    rename_i lv ev sv mv wv av
    obtain rfl := Dp.intI hE
    have sH : ∀ {H' : Hp}, Kp [] H H' → Dp K H' sv (iD (rLet M L ff)) := fun k2 => k2.dp NoTup.nil (nums_solid _ (iD_nums _)) hS
    have mH : ∀ {H' : Hp}, Kp [] H H' → Dp K H' mv (tD (rMul ff)) := fun k2 => k2.dp NoTup.nil (nums_solid _ (tD_nums _)) hMu
    have wH : ∀ {H' : Hp}, Kp [] H H' → Dp K H' wv (t3D (rWrap M L ff)) := fun k2 => k2.dp NoTup.nil (nums_solid _ (t3D_nums _)) hWr
    refine ⟨_, rfl, ar, _, rfl, k1.tup NoTup.nil hqr, rfl, _, _, rfl, _, _, rfl, _, _, rfl, _, _, rfl, _, _, rfl, _, _, rfl, rfl, ?_⟩
    refine ⟨_, rfl, ?_⟩
    refine ⟨by decide, fun D hD => ?_⟩
    have hDH : H D = none := k1.back D hD
    have lacc := DpAll.length ha
    rw [List.length_map] at lacc
    refine ⟨_, rfl, tl, rfl, ⟨acc, (k1.and hD).lst (fun z => nomatch z) hl⟩, ?_⟩
    have g0 : Grow K [] H D [] (upd H1 D (.lst [])) := ⟨[], k1.and hD, upd_same, .nil⟩
    let Pv : Nat → L2.St → Hp → Prop := fun i σ H' => ∃ (v : Int) (op : List (Int × Int)), vrun M L ff (0, []) (row.take i) = (v, op) ∧ (∃ o10 o11 o12 o13, σ = [some (V.ref ar), some (V.int 0), some (V.ref tl), some av, some (V.int 0), some sv, some mv, some wv, some (V.int v), some (V.ref D), o10, o11, o12, o13]) ∧
      Grow K [] H D (op.reverse.map d2) H' ∧ VOk L ff (v, op) ∧ okT L op.length (row.drop i) ∧ op.length ≤ i
    refine for_list (K := K) (xs := acc) Pv ⟨0, [], rfl, ⟨none, none, none, none, rfl⟩, g0, ⟨zero_in hc, fun p hp => nomatch hp⟩, ht, Nat.le_refl _⟩ (fun i σ H' _ z => ?_) (fun i x σ H2 ei z => ?_) fun σ H2 z => ?_
    · obtain ⟨v, op, _, _, ⟨_, k2, _⟩, _⟩ := z
      exact k2.lst (fun z => nomatch z) hl
    · obtain ⟨v, op, ev, ⟨o10, o11, o12, o13, rfl⟩, g, hv, ho, hlen⟩ := z
      have k2 := g.kp
      obtain ⟨⟨kk, a⟩, ep, hx⟩ := map_dp (k2.dps NoTup.nil (ps_solid row) ha) ei
      have hi : i < row.length := (List.getElem?_eq_some_iff.mp ep).1
      have hx : Dp K H2 x (.tuple [.str (kS kk), .int a]) := hx
      obtain ⟨ax, xs, rfl, hqx, hax⟩ := Dp.tupI hx
      cases hax with | cons hk1 hax =>
      cases hax with | cons hk2 hax =>
      cases hax
      obtain rfl := Dp.strI hk1
      obtain rfl := Dp.intI hk2
      rw [drop_next ep] at ho
      obtain ⟨d', hv', hd', ho', _⟩ := step_ok ok hc hv rfl ho
      have ev' : vrun M L ff (0, []) (row.take (i + 1)) = vstep M L ff (v, op) (kk, a) := by rw [take_next ep, vrun_snoc, ev]
      have hin : InS (labN L kk) a := okT_lab ho _ List.mem_cons_self
      refine ⟨ax, _, rfl, hqx, rfl, _, _, rfl, _, _, rfl, rfl, ?_⟩
      refine ⟨_, rfl, rfl, _, rfl, ?_⟩
      cases kk with
      | letter =>
        refine iteYes rfl ?_
        refine ⟨_, rfl, _, rfl, mul_row hv.v (mH k2) fun u hu => ?_⟩
        refine ⟨_, rfl, _, rfl, row_at (by rw [len_let]; exact hin) (sH k2) ?_⟩
        refine mul_at hv.v (let_in hc hin) hu ?_
        rw [hd'.symm] at ho'
        exact ⟨_, _, ev', ⟨_, _, _, _, rfl⟩, g, hv', ho', by show op.length ≤ i + 1; omega⟩
      | call =>
        refine iteNo rfl ?_
        refine ⟨_, rfl, rfl, _, rfl, ?_⟩
        refine iteYes rfl ?_
        obtain ⟨acc2, k3, e3, a3⟩ := id g
        refine ⟨_, rfl, .inl ⟨rfl, _, SqL.of e3⟩, _, rfl, _, rfl, (by show 2 ≤ sizeLine; decide), fun t ht => ?_⟩
        obtain ⟨acc', e', hlt, g'⟩ := Grow.step (S := []) (d := d2 (v, a)) hDH (fun z => nomatch z) NoTup.nil g (Kp.new (o := .tup [V.int v, V.int a]) ht) (d2_solid _) (Dp.tup (SqT.of upd_same) (.cons (.int v) (.cons (.int a) .nil))) rfl (by rw [List.length_map, List.length_reverse]; omega)
        refine ⟨D, acc', _, rfl, rfl, e', hlt, ?_⟩
        refine ⟨_, rfl, ?_⟩
        rw [hd'.symm] at ho'
        refine ⟨_, _, ev', ⟨_, _, _, _, rfl⟩, ?_, hv', ho', by show op.length + 1 ≤ i + 1; omega⟩
        show Grow K [] H D (((v, a) :: op).reverse.map d2) _
        rw [List.reverse_cons, List.map_append]
        exact g'
      | ret =>
        refine iteNo rfl ?_
        refine ⟨_, rfl, rfl, _, rfl, ?_⟩
        refine iteNo rfl ?_
        cases op with
        | nil => exact ho.elim
        | cons q op =>
          obtain ⟨v0, l⟩ := q
          have hq := hv.op (v0, l) List.mem_cons_self
          obtain ⟨acc2, k3, e3, a3⟩ := id g
          rw [List.reverse_cons, List.map_append] at a3
          obtain ⟨ys, y, rfl, h1, h2⟩ := dpAll_snocI a3
          have h2 : Dp K H2 y (.tuple [.int v0, .int l]) := h2
          obtain ⟨ay, xs, rfl, hqy, hay⟩ := Dp.tupI h2
          cases hay with | cons hk3 hay =>
          cases hay with | cons hk4 hay =>
          cases hay
          obtain rfl := Dp.intI hk3
          obtain rfl := Dp.intI hk4
          refine ⟨_, rfl, .inl ⟨rfl, _, SqL.of e3⟩, D, _, V.ref ay, rfl, rfl, e3, (by rw [List.length_append, List.length_singleton, Nat.add_sub_cancel, List.getElem?_append_right (Nat.le_refl _), Nat.sub_self]; rfl), ?_⟩
          rw [List.dropLast_concat]
          have kP : Kp [] H (upd H2 D (.lst ys)) := k3.put e3 (fun ps z => by cases z) (.inr hDH)
          have kD : Kp [D] H2 (upd H2 D (.lst ys)) := Kp.refl.put e3 (fun ps z => by cases z) (.inl (List.mem_singleton.mpr rfl))
          have g' : Grow K [] H D (op.reverse.map d2) (upd H2 D (.lst ys)) := ⟨ys, kP, upd_same, kD.dps (NoTup.one e3) (d2_solid _) h1⟩
          refine ⟨ay, _, rfl, kD.tup (NoTup.one e3) hqy, rfl, _, _, rfl, _, _, rfl, rfl, ?_⟩
          refine ⟨_, rfl, _, rfl, mul_row hq.1 (mH kP) fun u hu => ?_⟩
          refine ⟨_, rfl, _, rfl, ds_at (dflt := []) (by rw [len_w1]; exact hq.2) (wH kP) fun u2 hu2 => ?_⟩
          refine ⟨_, rfl, ds_at (dflt := []) (by rw [len_w2 hq.2]; exact hin) hu2 fun u3 hu3 => ?_⟩
          refine ⟨_, rfl, row_at (by rw [len_w3 hq.2 hin]; exact hv.v) hu3 ?_⟩
          refine mul_at hq.1 (wrap_in hc hq.2 hin hv.v) hu ?_
          rw [hd'.symm] at ho'
          exact ⟨_, _, ev', ⟨_, _, _, _, rfl⟩, g', hv', ho', by have : op.length + 1 ≤ i := hlen; show op.length ≤ i + 1; omega⟩
    · obtain ⟨v, op, ev, ⟨o10, o11, o12, o13, rfl⟩, g, hv, ho, hlen⟩ := z
      rw [lacc, List.take_length] at ev
      have := k H2 g.kp
      rw [ev] at this
      exact ⟨_, rfl, this⟩
/-- value(reader, text) -/
def spVal (K : PySem.W.Frag) : Sp := fun vs H Q _ => ∃ (M : Mach) (L : Nat × Nat × Nat) (f : List Tab) (rv : V) (tl : Addr) (acc : List V) (row : List Place), vs = [rv, .ref tl] ∧ RAt K H rv M L f ∧ M.Ok L ∧ Clos M L f ∧ SqL K H tl acc ∧ DpAll K H acc (row.map pD) ∧ okT L 0 row ∧ row.length ≤ 100 ∧
  ∀ H', Kp [] H H' → Q (.int (vrun M L f (0, []) row).1) H'
theorem sc_val : FnScope ["reader", "text"] ["reader", "text"] (defScope s_value) := ⟨rfl, rfl, rfl, by decide +kernel, rfl, by decide +kernel, by decide +kernel⟩
theorem ok_val {f f1 : Addr} {fd fd1 : FuncData} (F : L2.Fun K "value" "value" s_value f fd) (Cb : Cal P w K mg base CX0 2 "value_behind" ["reader", "start", "text"] (spVB K) f1 fd1) :
    FnOk P w K mg base CX0 3 f fd ["reader", "text"] (spVal K) := by
  refine F.ok sc_val (fun vs H Q E h => ?_) (fun cdv A outer s H vs Q E hr h => ?_)
  · obtain ⟨M, L, ff, rv, tl, acc, row, rfl, _⟩ := h
    rfl
  · obtain ⟨M, L, ff, rv, tl, acc, row, rfl, hR, ok, hc, hl, ha, ht, hn, k⟩ := h
    refine ⟨_, pss_one (ps_ret (pe_call Cb.ok hr rfl Cb.g Cb.kp Cb.b .nil pass0 (pa_cons (pv 0) (pa_cons (pe_ix ix_dp (pv 0) pe_int (fun _ _ => rfl)) (pa_cons (pv 1) pa_nil))))), ?_⟩
    refine ⟨_, rfl, _, rfl, rDs M L ff, 1, .int 0, hR, rfl, rfl, fun u hu => ?_⟩
    obtain rfl := Dp.intI hu
    exact ⟨_, rfl, M, L, ff, rv, tl, acc, row, rfl, hR, ok, hc, hl, ha, ht, hn, k⟩
/-- accepts(reader, text) -/
def spAccepts (K : PySem.W.Frag) : Sp := fun vs H Q _ => ∃ (M : Mach) (L : Nat × Nat × Nat) (f : List Tab) (rv : V) (tl : Addr) (acc : List V) (row : List Place), vs = [rv, .ref tl] ∧ RAt K H rv M L f ∧ M.Ok L ∧ Clos M L f ∧ SqL K H tl acc ∧ DpAll K H acc (row.map pD) ∧ okT L 0 row ∧ row.length ≤ 100 ∧
  ∀ H', Kp [] H H' → Q (.bl (decide ((vrun M L f (0, []) row).1 ∈ rAcc M f))) H'
theorem sc_accepts : FnScope ["reader", "text"] ["reader", "text"] (defScope s_accepts) := ⟨rfl, rfl, rfl, by decide +kernel, rfl, by decide +kernel, by decide +kernel⟩
theorem ok_accepts {f f1 : Addr} {fd fd1 : FuncData} (F : L2.Fun K "accepts" "accepts" s_accepts f fd) (Cv : Cal P w K mg base CX0 3 "value" ["reader", "text"] (spVal K) f1 fd1) :
    FnOk P w K mg base CX0 4 f fd ["reader", "text"] (spAccepts K) := by
  refine F.ok sc_accepts (fun vs H Q E h => ?_) (fun cdv A outer s H vs Q E hr h => ?_)
  · obtain ⟨M, L, ff, rv, tl, acc, row, rfl, _⟩ := h
    rfl
  · obtain ⟨M, L, ff, rv, tl, acc, row, rfl, hR, ok, hc, hl, ha, ht, hn, k⟩ := h
    refine ⟨_, pss_one (ps_ret (pe_cmpR op_in_seq (pe_call Cv.ok hr rfl Cv.g Cv.kp Cv.b .nil pass0 (pa_cons (pv 0) (pa_cons (pv 1) pa_nil))) (pe_ix ix_dp (pv 0) pe_int (fun _ _ => rfl)) (by rfl))), ?_⟩
    refine ⟨_, rfl, _, rfl, M, L, ff, rv, tl, acc, row, rfl, hR, ok, hc, hl, ha, ht, hn, fun H1 k1 => ?_⟩
    refine ⟨_, rfl, rDs M L ff, 5, iD (rAcc M ff), hR.kp k1, rfl, rfl, fun u hu => ?_⟩
    obtain ⟨a2, xs2, rfl, hq2, ha2⟩ := Dp.tupI hu
    obtain rfl := DpAll.ints (ns := rAcc M ff) ha2
    refine ⟨a2, _, rfl, .inr hq2, rfl, flat_ints _, ?_⟩
    rw [inV_int]
    exact k H1 k1
end
end K51
end

section
set_option Elab.async false
set_option linter.all false
set_option maxRecDepth 100000
set_option maxHeartbeats 8000000
/-! the law's text -/
namespace K51
open PySem PySem.Spec PyProof.Rows L2
/-- a text so far: d calls are open -/
def PartT (L : Nat × Nat × Nat) (row : List Place) (d : Nat) : Prop := ∀ tail, okT L d tail → okT L 0 (row ++ tail)
theorem PartT.letter {L : Nat × Nat × Nat} {row : List Place} {d : Nat} {a : Int} (h : PartT L row d) (ha : InS L.1 a) : PartT L (row ++ [(.letter, a)]) d := fun tail ht => by
  rw [List.append_assoc]; exact h _ ⟨ha, ht⟩
theorem PartT.call {L : Nat × Nat × Nat} {row : List Place} {d : Nat} {a : Int} (h : PartT L row d) (ha : InS L.2.1 a) : PartT L (row ++ [(.call, a)]) (d + 1) := fun tail ht => by
  rw [List.append_assoc]; exact h _ ⟨ha, ht⟩
theorem PartT.ret {L : Nat × Nat × Nat} {row : List Place} {d : Nat} {a : Int} (h : PartT L row (d + 1)) (ha : InS L.2.2 a) : PartT L (row ++ [(.ret, a)]) d := fun tail ht => by
  rw [List.append_assoc]; exact h _ ⟨ha, ht⟩
theorem okT_rets {L : Nat × Nat × Nat} : ∀ {bs : List Int}, (∀ b ∈ bs, InS L.2.2 b) → okT L bs.length (bs.map fun b => (Kind.ret, b))
  | [], _ => rfl
  | b :: bs, h => ⟨h b List.mem_cons_self, okT_rets fun x hx => h x (List.mem_cons_of_mem _ hx)⟩
theorem ncalls_append : ∀ (r t : List Place), ncalls (r ++ t) = ncalls r + ncalls t
  | [], t => by simp [ncalls]
  | (.letter, _) :: r, t => by show ncalls (r ++ t) = ncalls r + _; exact ncalls_append r t
  | (.ret, _) :: r, t => by show ncalls (r ++ t) = ncalls r + _; exact ncalls_append r t
  | (.call, _) :: r, t => by show ncalls (r ++ t) + 1 = ncalls r + 1 + _; rw [ncalls_append r t]; omega
theorem ncalls_rets : ∀ (bs : List Int), ncalls (bs.map fun b => (Kind.ret, b)) = 0
  | [] => rfl
  | _ :: bs => ncalls_rets bs
theorem ncalls_le : ∀ (r : List Place), ncalls r ≤ r.length
  | [] => Nat.le_refl _
  | (.letter, _) :: r => Nat.le_succ_of_le (ncalls_le r)
  | (.ret, _) :: r => Nat.le_succ_of_le (ncalls_le r)
  | (.call, _) :: r => Nat.succ_le_succ (ncalls_le r)
section
variable {P : Program} {w : World} {K : PySem.W.Frag} {mg : PySem.Str → Option Value} {base : Heap}
/-- _law_text(state, labels, 9) -/
def spText (K : PySem.W.Frag) : Sp := fun vs H Q _ => ∃ (a c : Addr) (ns : List Int) (lv : V) (L : Nat × Nat × Nat), vs = [.ref a, lv, .int 9] ∧ DIn K H a c ns ∧ Dp K H lv (lD L) ∧ LabOk L ∧
  ∀ (row : List Place) p acc H', okT L 0 row → row.length ≤ 18 → ncalls row ≤ 9 → Kp [a] H H' → DSt a c H' → H p = none → H' p = some (.lst acc) → DpAll K H' acc (row.map pD) → Q (.ref p) H'
abbrev nText : List PySem.Str := ["_law_state", "_law_labels_here", "_law_most", "_law_row", "_law_opened", "_law_k", "_law_kind"]
theorem sc_text : FnScope nText ["_law_state", "_law_labels_here", "_law_most"] (defScope s_L_text) := ⟨rfl, rfl, rfl, by decide +kernel, rfl, by decide +kernel, by decide +kernel⟩
theorem ok_text {f f1 : Addr} {fd fd1 : FuncData} (F : L2.Fun K "_law_text" "_law_text" s_L_text f fd) (G : Gs mg) (Cd : Cal P w K mg base CX0 1 "_law_draw" ["_law_state", "_law_limit"] (spDraw K) f1 fd1) :
    FnOk P w K mg base CX0 2 f fd ["_law_state", "_law_labels_here", "_law_most"] (spText K) := by
  refine F.ok sc_text (fun vs H Q E h => ?_) (fun cdv A outer s H vs Q E hr h => ?_)
  · obtain ⟨a, c, ns, lv, L, rfl, _⟩ := h
    rfl
  · obtain ⟨a, c, ns, lv, L, rfl, hd, hL, ⟨⟨la0, la1⟩, ⟨lb0, lb1⟩, lc0, lc1⟩, k⟩ := h
    refine ⟨_, pss_cons (ps_set (i := 3) sc_text.nd rfl (Or.inl rfl) (pe_lst pa_nil))
      (pss_cons (ps_set (i := 4) sc_text.nd rfl (Or.inl rfl) pe_int)
      (pss_cons (ps_for PassesOwn.never rfl (pi_range1 (by rfl) G.range (pa_cons (pe_call Cd.ok hr rfl Cd.g Cd.kp Cd.b .nil pass0 (pa_cons (pv 0) (pa_cons (pe_op op_add (pv 2) pe_int) pa_nil))) pa_nil)) (pg_name (i := 5) sc_text.nd rfl (Or.inl rfl))
        (pss_cons (ps_set (i := 6) sc_text.nd rfl (Or.inl rfl) (pe_call Cd.ok hr rfl Cd.g Cd.kp Cd.b .nil pass0 (pa_cons (pv 0) (pa_cons pe_int pa_nil))))
        (pss_one (ps_if (PW.pt (pw_and (pt_cmpR op_eq (pv 6) pe_int (nomark _)) (pw_and1 (pt_cmpR op_gt (pv 4) pe_int (nomark _)))))
          (pss_cons (ps_expr (pe_bm PySem.F.plainAttrs_list PySem.F.slot_list_append PySem.F.type_list_append mt_append (pv 3) (pa_cons (pe_tup (pa_cons pe_str (pa_cons (pe_call Cd.ok hr rfl Cd.g Cd.kp Cd.b .nil pass0 (pa_cons (pv 0) (pa_cons (pe_ix ix_dp (pv 1) pe_int (fun _ _ => rfl)) pa_nil))) pa_nil))) pa_nil)))
          (pss_one (ps_set (i := 4) sc_text.nd rfl (Or.inl rfl) (pe_op op_sub (pv 4) pe_int))))
          (pss_one (ps_if (pt_cmpR op_eq (pv 6) pe_int (nomark _))
            (pss_cons (ps_expr (pe_bm PySem.F.plainAttrs_list PySem.F.slot_list_append PySem.F.type_list_append mt_append (pv 3) (pa_cons (pe_tup (pa_cons pe_str (pa_cons (pe_call Cd.ok hr rfl Cd.g Cd.kp Cd.b .nil pass0 (pa_cons (pv 0) (pa_cons (pe_ix ix_dp (pv 1) pe_int (fun _ _ => rfl)) pa_nil))) pa_nil))) pa_nil)))
            (pss_one (ps_set (i := 4) sc_text.nd rfl (Or.inl rfl) (pe_op op_add (pv 4) pe_int))))
            (pss_one (ps_expr (pe_bm PySem.F.plainAttrs_list PySem.F.slot_list_append PySem.F.type_list_append mt_append (pv 3) (pa_cons (pe_tup (pa_cons pe_str (pa_cons (pe_call Cd.ok hr rfl Cd.g Cd.kp Cd.b .nil pass0 (pa_cons (pv 0) (pa_cons (pe_ix ix_dp (pv 1) pe_int (fun _ _ => rfl)) pa_nil))) pa_nil))) pa_nil))))))))))
      (pss_one (ps_ret (pe_op op_cat (pv 3) (pe_lc (own := [("_law_k", 5)]) (g := gName 5) (tt := tYes) rfl sc_text.nd
          (pi_range1 (by rfl) G.range (pa_cons (pv 4) pa_nil)) (blkOk_by (by kernel_rfl)) (fun _ _ _ _ _ => pg_name (i := 5) sc_text.nd rfl (Or.inl rfl)) (fun _ _ _ _ _ => pts_nil)
          (fun _ _ _ _ _ => pe_tup (pa_cons pe_str (pa_cons (pe_call Cd.ok hr rfl Cd.g Cd.kp Cd.b .nil pass0 (pa_cons (pv 0) (pa_cons (pe_ix (ix_dpK K) (pv 1) pe_int (fun _ _ => rfl)) pa_nil))) pa_nil))))))))), ?_⟩
    have noS : ∀ {H' : Hp}, Kp [a] H H' → Dp K H' lv (lD L) := fun k2 => k2.dp hd.1.noTup (nums_solid _ (lD_nums L)) hL
    refine ⟨by decide, fun D hD => ?_⟩
    have hDa := hd.ne hD
    have g0 := GrowD.zero hd hD
    generalize upd H D (.lst []) = H1 at g0
    have dn1 := hd.kp g0.1.kp g0.2
    refine ⟨_, rfl, _, rfl, _, _, rfl, rfl, a, c, ns, 10, rfl, by decide, by decide, dn1.1, dn1.2.1, dn1.2.2, fun n H2 n0 n9 k2 s2 => ?_⟩
    have thru : ∀ {ds : List PyData} {Ha Hb : Hp}, GrowD K H a c D ds Ha → Kp [a] Ha Hb → DSt a c Hb → solidAll ds = true → GrowD K H a c D ds Hb := fun {ds Ha Hb} g kk sb sd => by
      obtain ⟨acc, kh, e, da⟩ := g.1
      exact ⟨⟨acc, kh.trans kk, kk.keep _ _ e (fun z => hDa (List.mem_singleton.mp z)) (fun ps z => by cases z), kk.dps g.2.noTup sd da⟩, sb⟩
    have app : ∀ {row : List Place} {Ha Hb : Hp} {t : Addr} {kk : Kind} {b : Int}, GrowD K H a c D (row.map pD) Ha → Kp [a] Ha Hb → DSt a c Hb → Hb t = none → row.length ≤ 100 →
        ∃ acc, (upd Hb t (.tup [.str (kS kk), .int b])) D = some (.lst acc) ∧ acc.length < sizeLine ∧ GrowD K H a c D ((row ++ [(kk, b)]).map pD) (upd (upd Hb t (.tup [.str (kS kk), .int b])) D (.lst (acc ++ [.ref t]))) := fun {row Ha Hb t kk b} g kb sb ht hl => by
      have hta : t ≠ a := fun z => by
        obtain ⟨_, _, _, e, _⟩ := sb
        rw [z, e] at ht; cases ht
      rw [List.map_append]
      exact GrowD.step (d := pD (kk, b)) hd hD g (kb.and ht) (sb.other hta) (ps_solid row) (Dp.tup (SqT.of upd_same) (.cons (.str _) (.cons (.int b) .nil))) rfl (by rw [List.length_map]; omega)
    refine ⟨n, rfl, by omega, by omega, ?_⟩
    let Pv : Nat → L2.St → Hp → Prop := fun i σ H' => ∃ (row : List Place) (d : Nat) (o5 o6 : Option V), σ = [some (V.ref a), some lv, some (V.int 9), some (V.ref D), some (V.int (d : Int)), o5, o6] ∧ GrowD K H a c D (row.map pD) H' ∧ PartT L row d ∧ row.length = i ∧ d ≤ i
    refine for_range (lo := 0) (n := n.toNat) Pv ⟨[], 0, none, none, rfl, thru g0 k2 s2 rfl, fun tail ht => ht, rfl, Nat.le_refl _⟩ (fun i σ H3 hi z => ?_) fun σ H3 z => ?_
    · obtain ⟨row, d, o5, o6, rfl, g, hp, hlen, hd9⟩ := z
      have dn3 := hd.kp g.1.kp g.2
      refine ⟨_, rfl, a, c, ns, 4, rfl, by decide, by decide, dn3.1, dn3.2.1, dn3.2.2, fun kd H4 kd0 kd4 k4 s4 => ?_⟩
      have g4 := thru g k4 s4 (ps_solid row)
      have dn4 := hd.kp g4.1.kp g4.2
      obtain ⟨acc4, _, e4, _⟩ := id g4.1
      have l4 := noS g4.1.kp
      refine joinS (Fx := fun σ H' => H' = H4 ∧ (∃ o5, σ = [some (V.ref a), some lv, some (V.int 9), some (V.ref D), some (V.int (d : Int)), o5, some (V.int kd)]) ∧ ¬ (kd = 3 ∧ 0 < d)) (S := ?S) ?A ?B
      case A =>
        intro fin
        refine ⟨_, rfl, rfl, _, rfl, ?_⟩
        by_cases c3 : kd = 3
        · refine iteYes ((dec_V _ _).trans (decide_eq_true c3)) ?_
          refine ⟨_, rfl, _, _, rfl, rfl, _, rfl, ?_⟩
          by_cases cd : 0 < d
          · refine iteYes (decide_eq_true (by omega)) ?_
            refine ⟨_, rfl, .inl ⟨rfl, _, SqL.of e4⟩, _, rfl, _, rfl, lDs L, 2, .int (L.2.2 : Int), l4, rfl, rfl, fun u hu => ?_⟩
            obtain rfl := Dp.intI hu
            refine ⟨a, c, ns, (L.2.2 : Int), rfl, by omega, by omega, dn4.1, dn4.2.1, dn4.2.2, fun b H5 b0 b1 k5 s5 => ?_⟩
            refine ⟨(by show 2 ≤ sizeLine; decide), fun t ht => ?_⟩
            obtain ⟨acc, e, hlt, g'⟩ := app (kk := .ret) (b := b) g4 k5 s5 ht (by omega)
            refine ⟨D, acc, _, rfl, rfl, e, hlt, ?_⟩
            have hp1 : PartT L row ((d - 1) + 1) := by rw [show d - 1 + 1 = d by omega]; exact hp
            refine ⟨_, rfl, _, _, rfl, rfl, row ++ [(.ret, b)], d - 1, some (V.int (0 + (i : Int))), some (V.int kd), ?_, g', hp1.ret ⟨b0, b1⟩, by rw [List.length_append, hlen]; rfl, by omega⟩
            rw [show ((d - 1 : Nat) : Int) = (d : Int) - 1 by omega]; rfl
          · refine iteNo (decide_eq_false (by omega)) ?_
            exact fin _ _ ⟨rfl, ⟨_, rfl⟩, fun z => cd z.2⟩
        · refine iteNo ((dec_V _ _).trans (decide_eq_false c3)) ?_
          exact fin _ _ ⟨rfl, ⟨_, rfl⟩, fun z => c3 z.1⟩
      case B =>
        rintro σ H' ⟨rfl, ⟨o5, rfl⟩, nret⟩
        refine ⟨_, rfl, rfl, _, rfl, ?_⟩
        by_cases c2 : kd = 2
        · refine iteYes ((dec_V _ _).trans (decide_eq_true c2)) ?_
          refine ⟨_, rfl, .inl ⟨rfl, _, SqL.of e4⟩, _, rfl, _, rfl, lDs L, 1, .int (L.2.1 : Int), l4, rfl, rfl, fun u hu => ?_⟩
          obtain rfl := Dp.intI hu
          refine ⟨a, c, ns, (L.2.1 : Int), rfl, by omega, by omega, dn4.1, dn4.2.1, dn4.2.2, fun b H5 b0 b1 k5 s5 => ?_⟩
          refine ⟨(by show 2 ≤ sizeLine; decide), fun t ht => ?_⟩
          obtain ⟨acc, e, hlt, g'⟩ := app (kk := .call) (b := b) g4 k5 s5 ht (by omega)
          refine ⟨D, acc, _, rfl, rfl, e, hlt, ?_⟩
          exact ⟨_, rfl, _, _, rfl, rfl, row ++ [(.call, b)], d + 1, _, _, rfl, g', hp.call ⟨b0, b1⟩, by rw [List.length_append, hlen]; rfl, by omega⟩
        · refine iteNo ((dec_V _ _).trans (decide_eq_false c2)) ?_
          refine ⟨_, rfl, .inl ⟨rfl, _, SqL.of e4⟩, _, rfl, _, rfl, lDs L, 0, .int (L.1 : Int), l4, rfl, rfl, fun u hu => ?_⟩
          obtain rfl := Dp.intI hu
          refine ⟨a, c, ns, (L.1 : Int), rfl, by omega, by omega, dn4.1, dn4.2.1, dn4.2.2, fun b H5 b0 b1 k5 s5 => ?_⟩
          refine ⟨(by show 2 ≤ sizeLine; decide), fun t ht => ?_⟩
          obtain ⟨acc, e, hlt, g'⟩ := app (kk := .letter) (b := b) g4 k5 s5 ht (by omega)
          refine ⟨D, acc, _, rfl, rfl, e, hlt, ?_⟩
          exact ⟨row ++ [(.letter, b)], d, _, _, rfl, g', hp.letter ⟨b0, b1⟩, by rw [List.length_append, hlen]; rfl, by omega⟩
    · obtain ⟨row, d, o5, o6, rfl, g, hp, hlen, hd9⟩ := z
      have hd9' : d ≤ 9 := by omega
      have dn3 := hd.kp g.1.kp g.2
      refine ⟨_, rfl, _, rfl, _, rfl, by omega, by omega, fun D2 hD2 => ?_⟩
      refine lc_range (lo := 0) (n := (d : Int).toNat) (fun i H' => ∃ bs : List Int, bs.length = i ∧ (∀ b ∈ bs, InS L.2.2 b) ∧ GrowD K H3 a c D2 ((bs.map fun b => (Kind.ret, b)).map pD) H') ⟨[], rfl, (fun x hx => nomatch hx), GrowD.zero dn3 hD2⟩ (fun i H' hi z => ⟨rfl, ?_⟩) fun H' z => ?_
      · obtain ⟨bs, hl, hb, g2⟩ := z
        refine yesT ?_
        have dn4 := dn3.kp g2.1.kp g2.2
        refine ⟨_, rfl, _, rfl, lDs L, 2, .int (L.2.2 : Int), noS (g.1.kp.trans g2.1.kp), rfl, rfl, fun u hu => ?_⟩
        obtain rfl := Dp.intI hu
        refine ⟨a, c, ns, (L.2.2 : Int), rfl, by omega, by omega, dn4.1, dn4.2.1, dn4.2.2, fun b H5 b0 b1 k5 s5 => ?_⟩
        refine ⟨(by show 2 ≤ sizeLine; decide), fun t ht => ?_⟩
        have hta : t ≠ a := fun z => by
          obtain ⟨_, _, _, e, _⟩ := s5
          rw [z, e] at ht; cases ht
        obtain ⟨acc, e, hlt, g'⟩ := GrowD.step (d := pD (.ret, b)) dn3 hD2 g2 (k5.and ht) (s5.other hta) (ps_solid _) (Dp.tup (SqT.of upd_same) (.cons (.str _) (.cons (.int b) .nil))) rfl (by rw [List.length_map, List.length_map]; omega)
        refine ⟨acc, e, hlt, bs ++ [b], by rw [List.length_append, hl]; rfl, fun x hx => ?_, by rw [List.map_append, List.map_append]; exact g'⟩
        rcases List.mem_append.mp hx with z | z
        · exact hb x z
        · rw [List.mem_singleton.mp z]; exact ⟨b0, b1⟩
      · rw [Int.toNat_natCast] at z
        obtain ⟨bs, hl, hb, ⟨acc2, kD2, eD2, aD2⟩, s2⟩ := z
        obtain ⟨acc1, kD1, eD1, aD1⟩ := id g.1
        have hDm : D ∉ ([a] : List Addr) := fun z => hDa (List.mem_singleton.mp z)
        have l1 := DpAll.length aD1
        have l2 := DpAll.length aD2
        rw [List.length_map] at l1 l2
        rw [List.length_map] at l2
        refine ⟨D, D2, acc1, acc2, rfl, rfl, kD2.keep _ _ eD1 hDm (fun ps z => by cases z), eD2, by rw [sizeLine_eq]; omega, fun p hp' => ?_⟩
        have kall := (kD1.trans kD2).and (o := .lst (acc1 ++ acc2)) hp'
        have hpa : p ≠ a := fun z => by
          obtain ⟨_, _, _, e, _⟩ := s2
          rw [z, e] at hp'; cases hp'
        have n1 := ncalls_le row
        refine k (row ++ bs.map fun b => (Kind.ret, b)) p _ _ (hp _ (by rw [← hl]; exact okT_rets hb)) (by rw [List.length_append, List.length_map]; omega) (by rw [ncalls_append, ncalls_rets]; omega) kall (s2.other hpa) ((kD1.trans kD2).back p hp') upd_same ?_
        rw [List.map_append]
        refine DpAll.append ?_ ?_
        · exact (Kp.new (S := []) hp').dps NoTup.nil (ps_solid row) (kD2.dps g.2.noTup (ps_solid row) aD1)
        · exact (Kp.new (S := []) hp').dps NoTup.nil (ps_solid _) aD2
end
end K51
end

section
set_option Elab.async false
set_option linter.all false
set_option maxRecDepth 100000
set_option maxHeartbeats 8000000
/-! the law's moves -/
namespace K51
open PySem PySem.Spec PyProof.Rows L2
def mvL (M : Mach) (a q : Int) (st : List Int) (l : List (Int × Int × Int)) : List Cf := (l.filter fun t => decide (t.1 = q) && decide (t.2.1 = a)).map fun t => (t.2.2, st)
def mvC (M : Mach) (a q : Int) (st : List Int) (l : List (Int × Int × Int × Int)) : List Cf := (l.filter fun t => decide (t.1 = q) && decide (t.2.1 = a)).map fun t => (t.2.2.1, st ++ [t.2.2.2])
def mvR (M : Mach) (b q : Int) (st : List Int) (l : List (Int × Int × Int × Int)) : List Cf := (l.filter fun t => decide (t.1 = q) && (decide (st.getLast? = some t.2.1) && decide (t.2.2.1 = b))).map fun t => (t.2.2.2, st.dropLast)
def moves (M : Mach) (pl : Place) (q : Int) (st : List Int) : List Cf := match pl with
  | (.letter, a) => mvL M a q st M.lets
  | (.call, a) => mvC M a q st M.calls
  | (.ret, b) => mvR M b q st M.rets
theorem mem_moves {M : Mach} {pl : Place} {q : Int} {st : List Int} {c : Cf} : c ∈ moves M pl q st ↔ Mv M pl (q, st) c := by
  obtain ⟨c1, c2⟩ := c
  obtain ⟨k, a⟩ := pl
  cases k with
  | letter =>
    show (c1, c2) ∈ mvL M a q st M.lets ↔ (q, a, c1) ∈ M.lets ∧ c2 = st
    simp only [mvL, List.mem_map, List.mem_filter, Bool.and_eq_true, decide_eq_true_eq]
    constructor
    · rintro ⟨⟨t1, t2, t3⟩, ⟨h, h1, h2⟩, e⟩
      simp only at h1 h2 e
      subst h1 h2
      cases e
      exact ⟨h, rfl⟩
    · rintro ⟨h, rfl⟩
      exact ⟨(q, a, c1), ⟨h, rfl, rfl⟩, rfl⟩
  | call =>
    show (c1, c2) ∈ mvC M a q st M.calls ↔ ∃ g, (q, a, c1, g) ∈ M.calls ∧ c2 = st ++ [g]
    simp only [mvC, List.mem_map, List.mem_filter, Bool.and_eq_true, decide_eq_true_eq]
    constructor
    · rintro ⟨⟨t1, t2, t3, t4⟩, ⟨h, h1, h2⟩, e⟩
      simp only at h1 h2 e
      subst h1 h2
      cases e
      exact ⟨t4, h, rfl⟩
    · rintro ⟨g, h, rfl⟩
      exact ⟨(q, a, c1, g), ⟨h, rfl, rfl⟩, rfl⟩
  | ret =>
    show (c1, c2) ∈ mvR M a q st M.rets ↔ ∃ g, (q, g, a, c1) ∈ M.rets ∧ st = c2 ++ [g]
    simp only [mvR, List.mem_map, List.mem_filter, Bool.and_eq_true, decide_eq_true_eq]
    constructor
    · rintro ⟨⟨t1, t2, t3, t4⟩, ⟨h, h1, h2, h3⟩, e⟩
      simp only at h1 h2 h3 e
      subst h1 h3
      cases e
      refine ⟨t2, h, ?_⟩
      obtain ⟨ys, rfl⟩ := List.getLast?_eq_some_iff.mp h2
      rw [List.dropLast_concat]
    · rintro ⟨g, h, rfl⟩
      exact ⟨(q, g, a, c1), ⟨h, rfl, by simp, rfl⟩, by rw [List.dropLast_concat]⟩
theorem dc_nums (c : Cf) : nums (dc c) = true := by
  show (true && (numsAll (c.2.map .int) && true)) = true
  rw [nums_ints]; rfl
theorem dcs_solid (l : List Cf) : solidAll (l.map dc) = true := solidAll_of fun d h => by obtain ⟨c, _, rfl⟩ := List.mem_map.mp h; exact nums_solid _ (dc_nums c)
theorem iD_shaped (xs : List Int) : SeqAt.shaped (iD xs) = true := shaped_of (iD_nums xs) (by have := iD_depth xs; omega)
theorem iD_eqv (t u : List Int) : PyData.eqv (iD t) (iD u) = decide (t = u) := by
  have h := nums_eqv (iD t) (iD u) (iD_nums t) (iD_nums u)
  by_cases c : t = u
  · rw [decide_eq_true c]; exact h.mpr (by rw [c])
  · rw [decide_eq_false c]
    cases e : PyData.eqv (iD t) (iD u) with
    | false => rfl
    | true => exact absurd (iD_inj (h.mp e)) c
theorem Grow.thru {K : PySem.W.Frag} {H H1 H2 : Hp} {D : Addr} {ds : List PyData} (g : Grow K [] H D ds H1) (k : Kp [] H1 H2) (sd : solidAll ds = true) : Grow K [] H D ds H2 := by
  obtain ⟨acc, k1, e, a⟩ := g
  exact ⟨acc, k1.trans k, k.keep _ _ e (fun z => nomatch z) (fun ps z => by cases z), k.dps NoTup.nil sd a⟩
theorem filter_snoc {α : Type} {l : List α} {p : α → Bool} {t : α} : (l ++ [t]).filter p = l.filter p ++ (if p t = true then [t] else []) := by
  rw [List.filter_append, List.filter_cons, List.filter_nil]
theorem iD2 {x y u v : Int} : [x, y] = [u, v] ↔ x = u ∧ y = v := by simp
theorem iD3 {x y z u v w : Int} : [x, y, z] = [u, v, w] ↔ x = u ∧ y = v ∧ z = w := by simp
section
variable {K : PySem.W.Frag} {H : Hp}
theorem sl_head {v : V} {xs : List Int} {n : Nat} {Q : VK} (h : Dp K H v (iD xs)) (hn : n < xs.length) (q : ∀ p H', Kp [] H H' → Dp K H' (.ref p) (iD (xs.take n)) → Q (.ref p) H') : rSlA K v none (some (n : Int)) H Q := by
  obtain ⟨a, vs, rfl, hq, hd⟩ := Dp.tupI h
  obtain rfl := DpAll.ints (ns := xs) hd
  have e1 : HT.sIx (xs.map V.int).length (xs.map V.int).length (some (n : Int)) = n := by rw [HT.sIx_nat, List.length_map]; omega
  refine ⟨a, _, rfl, hq, fun z => ?_, fun _ p hp => ?_⟩
  · have z2 := z.2
    rw [e1, List.length_map] at z2
    omega
  · have e2 : cutV (xs.map V.int) none (some (n : Int)) = (xs.take n).map V.int := by
      unfold cutV
      rw [e1, HT.sIx_none, List.drop_zero, Nat.sub_zero, List.map_take]
    rw [e2]
    exact q p _ (Kp.new hp) (.tup (SqT.of upd_same) (dpAll_ints _))
theorem sl_last {v : V} {xs : List Int} {Q : VK} (h : Dp K H v (iD xs)) (hn : xs ≠ []) (q : ∀ p H', Kp [] H H' → Dp K H' (.ref p) (iD xs.dropLast) → Q (.ref p) H') : rSlA K v none (some (-1)) H Q := by
  obtain ⟨a, vs, rfl, hq, hd⟩ := Dp.tupI h
  obtain rfl := DpAll.ints (ns := xs) hd
  have hl : 0 < xs.length := List.length_pos_iff.mpr hn
  have e1 : HT.sIx (xs.map V.int).length (xs.map V.int).length (some (-1)) = xs.length - 1 := by
    show (if (-1 : Int) < 0 then ((-1 : Int) + ((xs.map V.int).length : Int)).toNat else min (-1 : Int).toNat (xs.map V.int).length) = _
    rw [if_pos (by decide), List.length_map]; omega
  refine ⟨a, _, rfl, hq, fun z => ?_, fun _ p hp => ?_⟩
  · have z2 := z.2
    rw [e1, List.length_map] at z2
    omega
  · have e2 : cutV (xs.map V.int) none (some (-1)) = xs.dropLast.map V.int := by
      unfold cutV
      rw [e1, HT.sIx_none, List.drop_zero, Nat.sub_zero, ← List.map_take, List.dropLast_eq_take]
    rw [e2]
    exact q p _ (Kp.new hp) (.tup (SqT.of upd_same) (dpAll_ints _))
theorem at_last {v : V} {xs : List Int} {g : Int} {Q : VK} (h : Dp K H v (iD xs)) (hg : xs.getLast? = some g) (q : Q (.int g) H) : rIxT K v (.int (-1)) H Q := by
  obtain ⟨a, vs, rfl, hq, hd⟩ := Dp.tupI h
  obtain rfl := DpAll.ints (ns := xs) hd
  obtain ⟨ys, rfl⟩ := List.getLast?_eq_some_iff.mp hg
  refine ⟨a, _, -1, .int g, rfl, rfl, hq, ?_, q⟩
  rw [List.map_append]
  exact atI_last _ _
theorem cat_one {v : V} {xs : List Int} {g : Int} {p : Addr} {Q : VK} (h : Dp K H v (iD xs)) (hx : xs.length ≤ 1000) (hg : Dp K H (.ref p) (iD [g])) (q : ∀ p H', Kp [] H H' → Dp K H' (.ref p) (iD (xs ++ [g])) → Q (.ref p) H') : rCatA K v (.ref p) H Q := by
  obtain ⟨a, vs, rfl, hq, hd⟩ := Dp.tupI h
  obtain rfl := DpAll.ints (ns := xs) hd
  obtain ⟨b, us, e, hq2, hd2⟩ := Dp.tupI hg
  cases e
  obtain rfl := DpAll.ints (ns := [g]) hd2
  refine ⟨a, _, _, _, rfl, rfl, hq, hq2, by rw [List.length_map, sizeLine_eq]; show xs.length + 1 ≤ _; omega, fun e => ?_, (fun _ e => nomatch e), fun _ _ p hp => ?_⟩
  · have : xs = [] := List.map_eq_nil_iff.mp e
    subst this
    exact q _ H Kp.refl hg
  · refine q p _ (Kp.new hp) (.tup (SqT.of upd_same) ?_)
    rw [List.map_append]
    exact DpAll.append (dpAll_ints _) (dpAll_ints [g])
end
section
variable {P : Program} {w : World} {K : PySem.W.Frag} {mg : PySem.Str → Option Value} {base : Heap}
/-- _law_moves(machine, place, state, stack) -/
def spMoves (K : PySem.W.Frag) : Sp := fun vs H Q _ => ∃ (M : Mach) (L : Nat × Nat × Nat) (mv plv : V) (pl : Place) (q : Int) (sa : Addr) (st : List Int), vs = [mv, plv, .int q, .ref sa] ∧ M.Ok L ∧ Dp K H mv (mD M) ∧ Dp K H plv (pD pl) ∧ Dp K H (.ref sa) (iD st) ∧ st.length ≤ 100 ∧
  ∀ p acc H', Kp [] H H' → H p = none → H' p = some (.lst acc) → DpAll K H' acc ((moves M pl q st).map dc) → Q (.ref p) H'
abbrev nMoves : List PySem.Str := ["_law_machine_here", "_law_place", "_law_state", "_law_stack", "_law_found", "_law_step"]
theorem sc_moves : FnScope nMoves ["_law_machine_here", "_law_place", "_law_state", "_law_stack"] (defScope s_L_moves) := ⟨rfl, rfl, rfl, by decide +kernel, rfl, by decide +kernel, by decide +kernel⟩
theorem ok_moves {f : Addr} {fd : FuncData} (F : L2.Fun K "_law_moves" "_law_moves" s_L_moves f fd) (G : Gs mg) : FnOk P w K mg base CX0 1 f fd ["_law_machine_here", "_law_place", "_law_state", "_law_stack"] (spMoves K) := by
  refine F.ok sc_moves (fun vs H Q E h => ?_) (fun cdv A outer s H vs Q E hr h => ?_)
  · obtain ⟨M, L, mv, plv, pl, q, sa, st, rfl, _⟩ := h
    rfl
  · obtain ⟨M, L, mv, plv, pl, q, sa, st, rfl, ok, hM, hP, hS, hst, k⟩ := h
    have hu64 : (A.deeper (envOfC "_law_moves" (defScope s_L_moves) s.heap.objs.size f cdv)).units + 64 < cLine := by have := hr.un; omega
    refine ⟨_, pss_cons (ps_set (i := 4) sc_moves.nd rfl (Or.inl rfl) (pe_lst pa_nil))
      (pss_cons (ps_if (pt_cmpR op_eq (pe_ix ix_dp (pv 1) pe_int (fun _ _ => rfl)) pe_str (by rfl))
        (pss_one (ps_for PassesOwn.never rfl (pi_tup (pe_ix ix_dp (pv 0) pe_int (fun _ _ => rfl))) (pg_name (i := 5) sc_moves.nd rfl (Or.inl rfl))
          (pss_one (ps_if (pt_cmpR (op_eqD hu64) (pe_slice sl_tupA (pv 5) po_none (po_some pe_int)) (pe_tup (pa_cons (pv 2) (pa_cons (pe_ix ix_dp (pv 1) pe_int (fun _ _ => rfl)) pa_nil))) (by rfl))
            (pss_one (ps_expr (pe_bm PySem.F.plainAttrs_list PySem.F.slot_list_append PySem.F.type_list_append mt_append (pv 4) (pa_cons (pe_tup (pa_cons (pe_ix ix_dp (pv 5) pe_int (fun _ _ => rfl)) (pa_cons (pv 3) pa_nil))) pa_nil)))) pss_nil))))
        (pss_one (ps_if (pt_cmpR op_eq (pe_ix ix_dp (pv 1) pe_int (fun _ _ => rfl)) pe_str (by rfl))
          (pss_one (ps_for PassesOwn.never rfl (pi_tup (pe_ix ix_dp (pv 0) pe_int (fun _ _ => rfl))) (pg_name (i := 5) sc_moves.nd rfl (Or.inl rfl))
            (pss_one (ps_if (pt_cmpR (op_eqD hu64) (pe_slice sl_tupA (pv 5) po_none (po_some pe_int)) (pe_tup (pa_cons (pv 2) (pa_cons (pe_ix ix_dp (pv 1) pe_int (fun _ _ => rfl)) pa_nil))) (by rfl))
              (pss_one (ps_expr (pe_bm PySem.F.plainAttrs_list PySem.F.slot_list_append PySem.F.type_list_append mt_append (pv 4) (pa_cons (pe_tup (pa_cons (pe_ix ix_dp (pv 5) pe_int (fun _ _ => rfl)) (pa_cons (pe_op op_catA (pv 3) (pe_tup (pa_cons (pe_ix ix_dp (pv 5) pe_int (fun _ _ => rfl)) pa_nil))) pa_nil))) pa_nil)))) pss_nil))))
          (pss_one (ps_for PassesOwn.never rfl (pi_tup (pe_ix ix_dp (pv 0) pe_int (fun _ _ => rfl))) (pg_name (i := 5) sc_moves.nd rfl (Or.inl rfl))
            (pss_one (ps_if (PW.pt (pw_and (pt_cmpR op_gt (pe_callB call_len_seq (by rfl) G.len b_len (pa_cons (pv 3) pa_nil)) pe_int (nomark _)) (pw_and1 (pt_cmpR (op_eqD hu64) (pe_slice sl_tupA (pv 5) po_none (po_some pe_int)) (pe_tup (pa_cons (pv 2) (pa_cons (pe_ix ix_tup (pv 3) (pe_un un_neg pe_int) (fun _ _ => rfl)) (pa_cons (pe_ix ix_dp (pv 1) pe_int (fun _ _ => rfl)) pa_nil)))) (by rfl)))))
              (pss_one (ps_expr (pe_bm PySem.F.plainAttrs_list PySem.F.slot_list_append PySem.F.type_list_append mt_append (pv 4) (pa_cons (pe_tup (pa_cons (pe_ix ix_dp (pv 5) pe_int (fun _ _ => rfl)) (pa_cons (pe_slice sl_tupA (pv 3) po_none (po_some (pe_un un_neg pe_int))) pa_nil))) pa_nil)))) pss_nil)))))))
      (pss_one (ps_ret (pv 4)))), ?_⟩
    refine ⟨by decide, fun D hD => ?_⟩
    have kD := Kp.new (S := []) (o := .lst []) hD
    have g0 : Grow K [] H D [] (upd H D (.lst [])) := Grow.zero hD
    have e1 : (upd H D (.lst [])) D = some (.lst []) := upd_same
    generalize upd H D (.lst []) = H1 at g0 kD e1
    have mH : ∀ {H2 : Hp}, Kp [] H H2 → Dp K H2 mv (mD M) := fun k2 => k2.dp NoTup.nil (nums_solid _ (mD_nums M)) hM
    have sH : ∀ {H2 : Hp}, Kp [] H H2 → Dp K H2 (.ref sa) (iD st) := fun k2 => k2.dp NoTup.nil (nums_solid _ (iD_nums st)) hS
    obtain ⟨kk, a⟩ := pl
    have pH : ∀ {H2 : Hp}, Kp [] H H2 → Dp K H2 plv (.tuple [.str (kS kk), .int a]) := fun k2 => k2.dp NoTup.nil rfl hP
    have nl := ok.nlets
    have nc := ok.ncalls
    have nr := ok.nrets
    have dne : D ∈ ([D] : List Addr) := List.mem_singleton.mpr rfl
    refine ⟨_, rfl, _, 0, _, pH kD, rfl, rfl, fun u hu => ?_⟩
    obtain rfl := Dp.strI hu
    refine ⟨rfl, _, rfl, ?_⟩
    cases kk with
    | letter =>
      refine iteYes rfl ?_
      refine ⟨_, rfl, mDs M, 2, .tuple (M.lets.map d3), mH kD, rfl, rfl, fun u hu => ?_⟩
      obtain ⟨ac, cs, rfl, hqc, hdc⟩ := Dp.tupI hu
      refine ⟨ac, rfl, ⟨_, hqc⟩, ?_⟩
      have lc := DpAll.length hdc
      rw [List.length_map] at lc
      refine for_tup (K := K) (xs := cs) (fun i σ H' => (∃ o5, σ = [some mv, some plv, some (V.int q), some (V.ref sa), some (V.ref D), o5]) ∧ Kp [D] H1 H' ∧ Grow K [] H D ((mvL M a q st (M.lets.take i)).map dc) H') ⟨⟨none, rfl⟩, Kp.refl, g0⟩ (fun i σ H' _ z => z.2.1.tup (NoTup.one e1) hqc) (fun i y σ H2 ei z => ?_) fun σ H2 z => ?_
      · obtain ⟨⟨o5, rfl⟩, k2, g⟩ := z
        obtain ⟨⟨t1, t2, t3⟩, et, hy⟩ := map_dp (k2.dps (NoTup.one e1) (numsAll_solid _ (d3s_nums M.lets)) hdc) ei
        have hy : Dp K H2 y (iD [t1, t2, t3]) := hy
        have hi := (List.getElem?_eq_some_iff.mp et).1
        have lm : (mvL M a q st (M.lets.take i)).length ≤ 100 := by
          unfold mvL
          rw [List.length_map]
          refine Nat.le_trans (List.length_filter_le _ _) ?_
          rw [List.length_take]; omega
        refine ⟨_, rfl, _, rfl, sl_head (n := 2) hy (show 2 < 3 by decide) fun p1 H3 k3 h3 => ?_⟩
        have kH3 := g.kp.trans k3
        refine ⟨_, rfl, _, rfl, _, 1, _, pH kH3, rfl, rfl, fun u hu => ?_⟩
        obtain rfl := Dp.intI hu
        refine ⟨(by show 2 ≤ sizeLine; decide), fun p2 hp2 => ?_⟩
        have k4 := k3.and (o := .tup [.int q, .int a]) hp2
        have g4 := g.thru k4 (dcs_solid _)
        have h4 := (Kp.new (S := []) (o := .tup [.int q, .int a]) hp2).dp NoTup.nil (nums_solid _ (iD_nums _)) h3
        refine ⟨iD [t1, t2], iD [q, a], h4, .tup (SqT.of upd_same) (dpAll_ints [q, a]), iD_shaped _, iD_shaped _, _, rfl, ?_⟩
        generalize upd H3 p2 (.tup [.int q, .int a]) = H4 at k4 g4 h4
        have hy4 := k4.dp NoTup.nil (nums_solid _ (iD_nums _)) hy
        by_cases c : [t1, t2] = [q, a]
        · refine iteYes (by rw [iD_eqv]; exact decide_eq_true c) ?_
          obtain ⟨acc4, _, e4, _⟩ := id g4
          have e : mvL M a q st (M.lets.take (i + 1)) = mvL M a q st (M.lets.take i) ++ [(t3, st)] := by
            rw [take_next et]
            unfold mvL
            rw [filter_snoc, if_pos (by rw [Bool.and_eq_true, decide_eq_true_eq, decide_eq_true_eq]; exact iD2.mp c), List.map_append]; rfl
          refine ⟨_, rfl, .inl ⟨rfl, _, SqL.of e4⟩, _, rfl, _, 2, _, hy4, rfl, rfl, fun u hu => ?_⟩
          obtain rfl := Dp.intI hu
          refine ⟨_, rfl, (by show 2 ≤ sizeLine; decide), fun t ht => ?_⟩
          obtain ⟨acc', e', hlt, g'⟩ := Grow.step (S := []) (d := dc (t3, st)) hD (fun z => nomatch z) NoTup.nil g4 (Kp.new (o := .tup [V.int t3, V.ref sa]) ht) (dcs_solid _) (Dp.tup (SqT.of upd_same) (.cons (.int t3) (.cons (sH (g4.kp.and ht)) .nil))) (nums_solid _ (dc_nums _)) (by rw [List.length_map]; omega)
          refine ⟨D, acc', _, rfl, rfl, e', hlt, ⟨_, rfl⟩, ((k2.trans k4.wide).and ht).put e' (fun ps z => by cases z) (.inl dne), ?_⟩
          rw [e, List.map_append]; exact g'
        · refine iteNo (by rw [iD_eqv]; exact decide_eq_false c) ?_
          have e : mvL M a q st (M.lets.take (i + 1)) = mvL M a q st (M.lets.take i) := by
            rw [take_next et]
            unfold mvL
            rw [filter_snoc, if_neg (fun z => by rw [Bool.and_eq_true, decide_eq_true_eq, decide_eq_true_eq] at z; exact c (iD2.mpr z)), List.append_nil]
          refine ⟨⟨_, rfl⟩, k2.trans k4.wide, ?_⟩
          rw [e]; exact g4
      · obtain ⟨⟨o5, rfl⟩, k2, g⟩ := z
        rw [lc, List.take_length] at g
        obtain ⟨acc, kf, ef, af⟩ := g
        exact ⟨_, rfl, k D acc H2 kf hD ef af⟩
    | call =>
      refine iteNo rfl ?_
      refine ⟨_, rfl, _, 0, _, pH kD, rfl, rfl, fun u hu => ?_⟩
      obtain rfl := Dp.strI hu
      refine ⟨rfl, _, rfl, ?_⟩
      refine iteYes rfl ?_
      refine ⟨_, rfl, mDs M, 3, .tuple (M.calls.map d4), mH kD, rfl, rfl, fun u hu => ?_⟩
      obtain ⟨ac, cs, rfl, hqc, hdc⟩ := Dp.tupI hu
      refine ⟨ac, rfl, ⟨_, hqc⟩, ?_⟩
      have lc := DpAll.length hdc
      rw [List.length_map] at lc
      refine for_tup (K := K) (xs := cs) (fun i σ H' => (∃ o5, σ = [some mv, some plv, some (V.int q), some (V.ref sa), some (V.ref D), o5]) ∧ Kp [D] H1 H' ∧ Grow K [] H D ((mvC M a q st (M.calls.take i)).map dc) H') ⟨⟨none, rfl⟩, Kp.refl, g0⟩ (fun i σ H' _ z => z.2.1.tup (NoTup.one e1) hqc) (fun i y σ H2 ei z => ?_) fun σ H2 z => ?_
      · obtain ⟨⟨o5, rfl⟩, k2, g⟩ := z
        obtain ⟨⟨t1, t2, t3, t4⟩, et, hy⟩ := map_dp (k2.dps (NoTup.one e1) (numsAll_solid _ (d4s_nums M.calls)) hdc) ei
        have hy : Dp K H2 y (iD [t1, t2, t3, t4]) := hy
        have hi := (List.getElem?_eq_some_iff.mp et).1
        have lm : (mvC M a q st (M.calls.take i)).length ≤ 100 := by
          unfold mvC
          rw [List.length_map]
          refine Nat.le_trans (List.length_filter_le _ _) ?_
          rw [List.length_take]; omega
        refine ⟨_, rfl, _, rfl, sl_head (n := 2) hy (show 2 < 4 by decide) fun p1 H3 k3 h3 => ?_⟩
        have kH3 := g.kp.trans k3
        refine ⟨_, rfl, _, rfl, _, 1, _, pH kH3, rfl, rfl, fun u hu => ?_⟩
        obtain rfl := Dp.intI hu
        refine ⟨(by show 2 ≤ sizeLine; decide), fun p2 hp2 => ?_⟩
        have k4 := k3.and (o := .tup [.int q, .int a]) hp2
        have g4 := g.thru k4 (dcs_solid _)
        have h4 := (Kp.new (S := []) (o := .tup [.int q, .int a]) hp2).dp NoTup.nil (nums_solid _ (iD_nums _)) h3
        refine ⟨iD [t1, t2], iD [q, a], h4, .tup (SqT.of upd_same) (dpAll_ints [q, a]), iD_shaped _, iD_shaped _, _, rfl, ?_⟩
        generalize upd H3 p2 (.tup [.int q, .int a]) = H4 at k4 g4 h4
        have hy4 := k4.dp NoTup.nil (nums_solid _ (iD_nums _)) hy
        by_cases c : [t1, t2] = [q, a]
        · refine iteYes (by rw [iD_eqv]; exact decide_eq_true c) ?_
          obtain ⟨acc4, _, e4, _⟩ := id g4
          have e : mvC M a q st (M.calls.take (i + 1)) = mvC M a q st (M.calls.take i) ++ [(t3, st ++ [t4])] := by
            rw [take_next et]
            unfold mvC
            rw [filter_snoc, if_pos (by rw [Bool.and_eq_true, decide_eq_true_eq, decide_eq_true_eq]; exact iD2.mp c), List.map_append]; rfl
          refine ⟨_, rfl, .inl ⟨rfl, _, SqL.of e4⟩, _, rfl, _, 2, _, hy4, rfl, rfl, fun u hu => ?_⟩
          obtain rfl := Dp.intI hu
          refine ⟨_, rfl, _, rfl, _, 3, _, hy4, rfl, rfl, fun u hu => ?_⟩
          obtain rfl := Dp.intI hu
          refine ⟨(by show 1 ≤ sizeLine; decide), fun t5 ht5 => ?_⟩
          refine cat_one (xs := st) (g := t4) (sH (g4.kp.and ht5)) (by omega) (.tup (SqT.of upd_same) (dpAll_ints [t4])) fun p6 H6 k6 h6 => ?_
          refine ⟨(by show 2 ≤ sizeLine; decide), fun t ht => ?_⟩
          have k46 := (Kp.new (S := []) (o := .tup [V.int t4]) ht5).trans k6
          have g6 := g4.thru k46 (dcs_solid _)
          obtain ⟨acc', e', hlt, g'⟩ := Grow.step (S := []) (d := dc (t3, st ++ [t4])) hD (fun z => nomatch z) NoTup.nil g6 (Kp.new (o := .tup [V.int t3, V.ref p6]) ht) (dcs_solid _) (Dp.tup (SqT.of upd_same) (.cons (.int t3) (.cons ((Kp.new (S := []) ht).dp NoTup.nil (nums_solid _ (iD_nums _)) h6) .nil))) (nums_solid _ (dc_nums _)) (by rw [List.length_map]; omega)
          refine ⟨D, acc', _, rfl, rfl, e', hlt, ⟨_, rfl⟩, (((k2.trans k4.wide).trans k46.wide).and ht).put e' (fun ps z => by cases z) (.inl dne), ?_⟩
          rw [e, List.map_append]; exact g'
        · refine iteNo (by rw [iD_eqv]; exact decide_eq_false c) ?_
          have e : mvC M a q st (M.calls.take (i + 1)) = mvC M a q st (M.calls.take i) := by
            rw [take_next et]
            unfold mvC
            rw [filter_snoc, if_neg (fun z => by rw [Bool.and_eq_true, decide_eq_true_eq, decide_eq_true_eq] at z; exact c (iD2.mpr z)), List.append_nil]
          refine ⟨⟨_, rfl⟩, k2.trans k4.wide, ?_⟩
          rw [e]; exact g4
      · obtain ⟨⟨o5, rfl⟩, k2, g⟩ := z
        rw [lc, List.take_length] at g
        obtain ⟨acc, kf, ef, af⟩ := g
        exact ⟨_, rfl, k D acc H2 kf hD ef af⟩
    | ret =>
      refine iteNo rfl ?_
      refine ⟨_, rfl, _, 0, _, pH kD, rfl, rfl, fun u hu => ?_⟩
      obtain rfl := Dp.strI hu
      refine ⟨rfl, _, rfl, ?_⟩
      refine iteNo rfl ?_
      refine ⟨_, rfl, mDs M, 4, .tuple (M.rets.map d4), mH kD, rfl, rfl, fun u hu => ?_⟩
      obtain ⟨ac, cs, rfl, hqc, hdc⟩ := Dp.tupI hu
      refine ⟨ac, rfl, ⟨_, hqc⟩, ?_⟩
      have lc := DpAll.length hdc
      rw [List.length_map] at lc
      refine for_tup (K := K) (xs := cs) (fun i σ H' => (∃ o5, σ = [some mv, some plv, some (V.int q), some (V.ref sa), some (V.ref D), o5]) ∧ Kp [D] H1 H' ∧ Grow K [] H D ((mvR M a q st (M.rets.take i)).map dc) H') ⟨⟨none, rfl⟩, Kp.refl, g0⟩ (fun i σ H' _ z => z.2.1.tup (NoTup.one e1) hqc) (fun i y σ H2 ei z => ?_) fun σ H2 z => ?_
      · obtain ⟨⟨o5, rfl⟩, k2, g⟩ := z
        obtain ⟨⟨t1, t2, t3, t4⟩, et, hy⟩ := map_dp (k2.dps (NoTup.one e1) (numsAll_solid _ (d4s_nums M.rets)) hdc) ei
        have hy : Dp K H2 y (iD [t1, t2, t3, t4]) := hy
        have hi := (List.getElem?_eq_some_iff.mp et).1
        have lm : (mvR M a q st (M.rets.take i)).length ≤ 100 := by
          unfold mvR
          rw [List.length_map]
          refine Nat.le_trans (List.length_filter_le _ _) ?_
          rw [List.length_take]; omega
        obtain ⟨sa', ss, es, hqs, hds⟩ := Dp.tupI (sH g.kp)
        cases es
        have lss := DpAll.length hds
        rw [List.length_map] at lss
        refine ⟨_, rfl, sa, ss, rfl, .inr hqs, _, _, rfl, rfl, _, rfl, ?_⟩
        have noR : st.getLast? ≠ some t2 ∨ ¬ (t1 = q ∧ t3 = a) → mvR M a q st (M.rets.take (i + 1)) = mvR M a q st (M.rets.take i) := fun h => by
          rw [take_next et]
          unfold mvR
          rw [filter_snoc, if_neg, List.append_nil]
          intro z
          simp only [Bool.and_eq_true, decide_eq_true_eq] at z
          rcases h with h | h
          · exact h z.2.1
          · exact h ⟨z.1, z.2.2⟩
        by_cases c0 : st = []
        · refine iteNo (decide_eq_false (by rw [lss, c0]; simp)) ?_
          refine iteNo rfl ?_
          refine ⟨⟨_, rfl⟩, k2, ?_⟩
          rw [noR (.inl (by rw [c0]; simp))]; exact g
        refine iteYes (decide_eq_true (by have := List.length_pos_iff.mpr c0; rw [lss]; omega)) ?_
        obtain ⟨g0', hg0⟩ : ∃ g, st.getLast? = some g := ⟨_, List.getLast?_eq_some_getLast c0⟩
        refine ⟨_, rfl, _, rfl, sl_head (n := 3) hy (show 3 < 4 by decide) fun p1 H3 k3 h3 => ?_⟩
        have kH3 := g.kp.trans k3
        refine ⟨_, rfl, _, rfl, 1, rfl, at_last (sH kH3) hg0 ?_⟩
        refine ⟨_, rfl, _, 1, _, pH kH3, rfl, rfl, fun u hu => ?_⟩
        obtain rfl := Dp.intI hu
        refine ⟨(by show 3 ≤ sizeLine; decide), fun p2 hp2 => ?_⟩
        have k4 := k3.and (o := .tup [.int q, .int g0', .int a]) hp2
        have g4 := g.thru k4 (dcs_solid _)
        have h4 := (Kp.new (S := []) (o := .tup [.int q, .int g0', .int a]) hp2).dp NoTup.nil (nums_solid _ (iD_nums _)) h3
        refine ⟨iD [t1, t2, t3], iD [q, g0', a], h4, .tup (SqT.of upd_same) (dpAll_ints [q, g0', a]), iD_shaped _, iD_shaped _, _, rfl, ?_⟩
        generalize upd H3 p2 (.tup [.int q, .int g0', .int a]) = H4 at k4 g4 h4
        have hy4 := k4.dp NoTup.nil (nums_solid _ (iD_nums _)) hy
        by_cases c : [t1, t2, t3] = [q, g0', a]
        · refine iteYes (by rw [iD_eqv]; exact decide_eq_true c) ?_
          obtain ⟨c1, c2, c3⟩ := iD3.mp c
          obtain ⟨acc4, _, e4, _⟩ := id g4
          have e : mvR M a q st (M.rets.take (i + 1)) = mvR M a q st (M.rets.take i) ++ [(t4, st.dropLast)] := by
            rw [take_next et]
            unfold mvR
            rw [filter_snoc, if_pos (by simp only [Bool.and_eq_true, decide_eq_true_eq]; exact ⟨c1, by rw [hg0, c2], c3⟩), List.map_append]; rfl
          refine ⟨_, rfl, .inl ⟨rfl, _, SqL.of e4⟩, _, rfl, _, 3, _, hy4, rfl, rfl, fun u hu => ?_⟩
          obtain rfl := Dp.intI hu
          refine ⟨_, rfl, 1, rfl, _, rfl, sl_last (sH g4.kp) c0 fun p6 H6 k6 h6 => ?_⟩
          refine ⟨(by show 2 ≤ sizeLine; decide), fun t ht => ?_⟩
          have g6 := g4.thru k6 (dcs_solid _)
          obtain ⟨acc', e', hlt, g'⟩ := Grow.step (S := []) (d := dc (t4, st.dropLast)) hD (fun z => nomatch z) NoTup.nil g6 (Kp.new (o := .tup [V.int t4, V.ref p6]) ht) (dcs_solid _) (Dp.tup (SqT.of upd_same) (.cons (.int t4) (.cons ((Kp.new (S := []) ht).dp NoTup.nil (nums_solid _ (iD_nums _)) h6) .nil))) (nums_solid _ (dc_nums _)) (by rw [List.length_map]; omega)
          refine ⟨D, acc', _, rfl, rfl, e', hlt, ⟨_, rfl⟩, (((k2.trans k4.wide).trans k6.wide).and ht).put e' (fun ps z => by cases z) (.inl dne), ?_⟩
          rw [e, List.map_append]; exact g'
        · refine iteNo (by rw [iD_eqv]; exact decide_eq_false c) ?_
          refine ⟨⟨_, rfl⟩, k2.trans k4.wide, ?_⟩
          rw [noR ?_]
          · exact g4
          · by_cases c2 : st.getLast? = some t2
            · refine .inr fun z => c ?_
              rw [hg0] at c2
              rw [z.1, z.2, Option.some.inj c2]
            · exact .inl c2
      · obtain ⟨⟨o5, rfl⟩, k2, g⟩ := z
        rw [lc, List.take_length] at g
        obtain ⟨acc, kf, ef, af⟩ := g
        exact ⟨_, rfl, k D acc H2 kf hD ef af⟩
end
end K51
end

section
set_option Elab.async false
set_option linter.all false
set_option maxRecDepth 100000
set_option maxHeartbeats 8000000
/-! the law's runs -/
namespace K51
open PySem PySem.Spec PyProof.Rows L2
theorem len_moves {M : Mach} {L : Nat × Nat × Nat} (ok : M.Ok L) (pl : Place) (q : Int) (st : List Int) : (moves M pl q st).length ≤ 7 := by
  have nl := ok.nlets
  have nc := ok.ncalls
  have nr := ok.nrets
  obtain ⟨k, a⟩ := pl
  cases k with
  | letter =>
    show (mvL M a q st M.lets).length ≤ 7
    unfold mvL
    rw [List.length_map]
    exact Nat.le_trans (List.length_filter_le _ _) nl
  | call =>
    show (mvC M a q st M.calls).length ≤ 7
    unfold mvC
    rw [List.length_map]
    exact Nat.le_trans (List.length_filter_le _ _) nc
  | ret =>
    show (mvR M a q st M.rets).length ≤ 7
    unfold mvR
    rw [List.length_map]
    exact Nat.le_trans (List.length_filter_le _ _) nr
theorem crun_snoc (M : Mach) (S : Cfg → Prop) (l : List Place) (p : Place) : crun M S (l ++ [p]) = cstep M (crun M S l) p := by
  unfold crun; rw [List.foldl_append]; rfl
theorem cf_in {M : Mach} {L : Nat × Nat × Nat} (ok : M.Ok L) {d : Nat} {c : Cf} (h : CfOk M d c) : InD d c := by
  have m3 := ok.m3
  have s3 := ok.s3
  exact ⟨⟨h.q.1, by have := h.q.2; omega⟩, h.len, fun x hx => ⟨(h.sg x hx).1, by have := (h.sg x hx).2; omega⟩⟩
theorem nd_of_up {l : List Int} (h : l.Pairwise (· < ·)) : l.Nodup := h.imp fun {a b} (hab : a < b) (e : a = b) => by omega
section
variable {K : PySem.W.Frag} {H : Hp}
theorem dp_cf {v : V} {c : Cf} (h : Dp K H v (dc c)) : ∃ a, v = .ref a ∧ CfAt K H a c := by
  obtain ⟨a, xs, rfl, hq, hd⟩ := Dp.tupI h
  cases hd with | cons h1 hd =>
  cases hd with | cons h2 hd =>
  cases hd
  obtain rfl := Dp.intI h1
  obtain ⟨b, ys, rfl, hq2, hd2⟩ := Dp.tupI h2
  obtain rfl := DpAll.ints hd2
  exact ⟨a, rfl, b, hq, hq2⟩
theorem cf_dp {a : Addr} {c : Cf} (h : CfAt K H a c) : Dp K H (.ref a) (dc c) := by
  obtain ⟨b, h1, h2⟩ := h
  exact .tup h1 (.cons (.int _) (.cons (.tup h2 (dpAll_ints _)) .nil))
theorem cfs_of : ∀ {acc : List V} {cs : List Cf}, DpAll K H acc (cs.map dc) → ∃ ks : List (Addr × Cf), acc = (ks.map fun p => V.ref p.1) ∧ ks.map (·.2) = cs ∧ ∀ p ∈ ks, CfAt K H p.1 p.2
  | acc, [], h => by cases h; exact ⟨[], rfl, rfl, fun p hp => nomatch hp⟩
  | acc, c :: cs, h => by
    have h' : DpAll K H acc (dc c :: cs.map dc) := h
    cases h' with
    | cons h1 t =>
      obtain ⟨a, rfl, ha⟩ := dp_cf h1
      obtain ⟨ks, rfl, e2, hk⟩ := cfs_of t
      refine ⟨(a, c) :: ks, rfl, by rw [List.map_cons, e2], fun p hp => ?_⟩
      rcases List.mem_cons.mp hp with rfl | hp
      · exact ha
      · exact hk p hp
theorem cfs_dp : ∀ {ks : List (Addr × Cf)}, (∀ p ∈ ks, CfAt K H p.1 p.2) → DpAll K H (ks.map fun p => V.ref p.1) ((ks.map (·.2)).map dc)
  | [], _ => .nil
  | p :: ks, h => .cons (cf_dp (h p List.mem_cons_self)) (cfs_dp fun q hq => h q (List.mem_cons_of_mem _ hq))
theorem CfAt.kp {H' : Hp} {a : Addr} {c : Cf} (h : CfAt K H a c) (k : Kp [] H H') : CfAt K H' a c := by
  obtain ⟨b, h1, h2⟩ := h
  exact ⟨b, k.tup NoTup.nil h1, k.tup NoTup.nil h2⟩
end
section
variable {X : Cx}
def rSetC (K : PySem.W.Frag) (w : World) : List V → Hp → VK → Prop := fun xs H Q => ∃ d, d ≤ 9 ∧ rSetOfC K w (DomC d) xs H Q
theorem cr_setC (AP : ∀ d, d ≤ 9 → Apart X.w (DomC d)) (hc : X.calm = true) (hu : X.A.units + 64 < cLine) : CallR X (.type "set") (rSetC X.K X.w) := by
  intro pins s σ H xs us Q I r h
  obtain ⟨d, hd, h⟩ := h
  exact cr_setOfC (AP d hd) hc hu pins s σ H xs us Q I r h
def rSortC (K : PySem.W.Frag) (w : World) : List V → Hp → VK → Prop := fun xs H Q => ∃ d, rSortedC K w (DomC d) xs H Q
theorem cr_sortC (hc : X.calm = true) (hu : X.A.units + 64 < cLine) : CallR X (.builtin "sorted") (rSortC X.K X.w) := by
  intro pins s σ H xs us Q I r h
  obtain ⟨d, h⟩ := h
  exact cr_sortedC hc hu pins s σ H xs us Q I r h
end
section
variable {P : Program} {w : World} {K : PySem.W.Frag} {mg : PySem.Str → Option Value} {base : Heap}
/-- _law_runs(machine, row) -/
def spRuns (K : PySem.W.Frag) : Sp := fun vs H Q _ => ∃ (M : Mach) (L : Nat × Nat × Nat) (mv : V) (rl : Addr) (racc : List V) (row : List Place), vs = [mv, .ref rl] ∧ M.Ok L ∧ Dp K H mv (mD M) ∧ SqL K H rl racc ∧ DpAll K H racc (row.map pD) ∧ okT L 0 row ∧ row.length ≤ 100 ∧ ncalls row ≤ 9 ∧
  ∀ p xs n acc (cs : List Cf) H', Kp [] H H' → H' p = some (.lst (xs ++ [.ref n])) → H' n = some (.lst acc) → DpAll K H' acc (cs.map dc) → (∀ c, c ∈ cs ↔ crun M (cfirst M) row c) → cs.length ≤ 59049 → Q (.ref p) H'
abbrev nRuns : List PySem.Str := ["_law_machine_here", "_law_row", "_law_now", "_law_found", "_law_place", "_law_after", "_law_one", "_law_p"]
theorem sc_runs : FnScope nRuns ["_law_machine_here", "_law_row"] (defScope s_L_runs) := ⟨rfl, rfl, rfl, by decide +kernel, rfl, by decide +kernel, by decide +kernel⟩
theorem ok_runs {f f1 : Addr} {fd fd1 : FuncData} (AP : ∀ d, d ≤ 9 → Apart w (DomC d)) (F : L2.Fun K "_law_runs" "_law_runs" s_L_runs f fd) (G : Gs mg) (Cm : Cal P w K mg base CX0 1 "_law_moves" ["_law_machine_here", "_law_place", "_law_state", "_law_stack"] (spMoves K) f1 fd1) :
    FnOk P w K mg base CX0 2 f fd ["_law_machine_here", "_law_row"] (spRuns K) := by
  refine F.ok sc_runs (fun vs H Q E h => ?_) (fun cdv A outer s H vs Q E hr h => ?_)
  · obtain ⟨M, L, mv, rl, racc, row, rfl, _⟩ := h
    rfl
  · obtain ⟨M, L, mv, rl, racc, row, rfl, ok, hM, hrl, hra, ht, hrow, hnc, k⟩ := h
    have hu64 : (A.deeper (envOfC "_law_runs" (defScope s_L_runs) s.heap.objs.size f cdv)).units + 64 < cLine := by have := hr.un; omega
    refine ⟨_, pss_cons (ps_setLc (i := 2) (own := [("_law_p", 7)]) (g := gName 7) (tt := tYes) rfl sc_runs.nd rfl rfl (sw_true rfl rfl rfl (by decide +kernel))
        (pi_tup (pe_ix ix_dp (pv 0) pe_int (fun _ _ => rfl))) (blkOk_by (by kernel_rfl)) (fun _ _ _ _ _ => pg_name (i := 7) sc_runs.nd rfl (Or.inl rfl)) (fun _ _ _ _ _ => pts_nil)
        (fun _ _ _ _ _ => pe_tup (pa_cons (pv 7) (pa_cons (pe_tup pa_nil) pa_nil))))
      (pss_cons (ps_set (i := 3) sc_runs.nd rfl (Or.inl rfl) (pe_lst (pa_cons (pv 2) pa_nil)))
      (pss_cons (ps_for PassesOwn.never rfl (pi_list (pv 1)) (pg_name (i := 4) sc_runs.nd rfl (Or.inl rfl))
        (pss_cons (ps_set (i := 5) sc_runs.nd rfl (Or.inl rfl) (pe_lst pa_nil))
        (pss_cons (ps_for PassesOwn.never rfl (pi_list (pv 2)) (pg_name (i := 6) sc_runs.nd rfl (Or.inl rfl))
          (pss_one (ps_set (i := 5) sc_runs.nd rfl (Or.inl rfl) (pe_op op_cat (pv 5) (pe_call Cm.ok hr rfl Cm.g Cm.kp Cm.b .nil pass0 (pa_cons (pv 0) (pa_cons (pv 4) (pa_cons (pe_ix ix_dp (pv 6) pe_int (fun _ _ => rfl)) (pa_cons (pe_ix ix_dp (pv 6) pe_int (fun _ _ => rfl)) pa_nil)))))))))
        (pss_cons (ps_set (i := 2) sc_runs.nd rfl (Or.inl rfl) (pe_callB (cr_sortC rfl hu64) (by rfl) G.sorted b_sorted (pa_cons (pe_callTy (cr_setC AP rfl hu64) (by rfl) G.set b_set (pa_cons (pv 5) pa_nil)) pa_nil)))
        (pss_one (ps_expr (pe_bm PySem.F.plainAttrs_list PySem.F.slot_list_append PySem.F.type_list_append mt_append (pv 3) (pa_cons (pv 2) pa_nil))))))))
      (pss_one (ps_ret (pv 3))))), ?_⟩
    have mH : ∀ {H2 : Hp}, Kp [] H H2 → Dp K H2 mv (mD M) := fun k2 => k2.dp NoTup.nil (nums_solid _ (mD_nums M)) hM
    have m3 := ok.m3
    -- the first ones
    refine ⟨_, rfl, mDs M, 1, iD M.firsts, hM, rfl, rfl, fun u hu => ?_⟩
    obtain ⟨af, fs, rfl, hqf, hdf⟩ := Dp.tupI hu
    obtain rfl := DpAll.ints (ns := M.firsts) hdf
    refine ⟨af, rfl, ⟨_, hqf⟩, fun n0 hn0 => ?_⟩
    have nd0 : (M.firsts.map fun p => ((p, []) : Cf)).Nodup := by
      refine List.pairwise_map.mpr ((nd_of_up ok.fnd).imp fun {a b} hne e => hne ?_)
      exact (Prod.mk.inj e).1
    have ok0 : ∀ c ∈ (M.firsts.map fun p => ((p, []) : Cf)), CfOk M 0 c := fun c hc => by
      obtain ⟨p, hp, rfl⟩ := List.mem_map.mp hc
      exact cfok_first ok _ ⟨hp, rfl⟩
    have len0 := cfgs_few ok nd0 ok0
    rw [List.length_map] at len0
    refine lc_tup (K := K) (xs := M.firsts.map V.int) (fun i H' => Grow K [] H n0 (((M.firsts.take i).map fun p => ((p, []) : Cf)).map dc) H') (Grow.zero hn0) (fun i H' _ g => g.kp.tup NoTup.nil hqf) (fun i x H' ei g => ⟨rfl, ?_⟩) fun H1 g => ?_
    · rw [List.getElem?_map] at ei
      obtain ⟨r, er, rfl⟩ : ∃ r, M.firsts[i]? = some r ∧ x = V.int r := by
        cases hr : M.firsts[i]? with
        | none => rw [hr] at ei; cases ei
        | some r => rw [hr] at ei; exact ⟨r, rfl, (Option.some.inj ei).symm⟩
      refine yesT ?_
      refine ⟨_, rfl, (by show 0 ≤ sizeLine; decide), fun e he => ⟨(by show 2 ≤ sizeLine; decide), fun t ht => ?_⟩⟩
      have ke := Kp.new (S := []) (o := .tup []) he
      have kt := Kp.new (S := []) (o := .tup [V.int r, V.ref e]) ht
      rw [take_next er, List.map_append, List.map_append]
      exact Grow.step (d := dc (r, [])) hn0 (fun z => nomatch z) NoTup.nil g (ke.trans kt) (dcs_solid _) (Dp.tup (SqT.of upd_same) (.cons (.int r) (.cons (.tup (kt.tup NoTup.nil (SqT.of upd_same)) .nil) .nil))) (nums_solid _ (dc_nums _)) (by
        rw [List.length_map, List.length_map]
        have : (M.firsts.take i).length ≤ M.firsts.length := by rw [List.length_take]; omega
        omega)
    rw [List.length_map, List.take_length] at g
    obtain ⟨acc0, k0, e0, a0⟩ := g
    refine ⟨_, rfl, (by show 1 ≤ sizeLine; decide), fun D hD => ?_⟩
    have hDH : H D = none := k0.back D hD
    have hn0D : n0 ≠ D := fun z => by rw [← z, e0] at hD; cases hD
    have lra := DpAll.length hra
    rw [List.length_map] at lra
    let Pv : Nat → L2.St → Hp → Prop := fun i σ H' => ∃ (n : Addr) (acc : List V) (cs : List Cf) (d : Nat) (xs : List V) (o4 o5 o6 : Option V), σ = [some mv, some (V.ref rl), some (V.ref n), some (V.ref D), o4, o5, o6, none] ∧
      Kp [] H H' ∧ H' D = some (.lst (xs ++ [.ref n])) ∧ xs.length = i ∧ H' n = some (.lst acc) ∧ DpAll K H' acc (cs.map dc) ∧ cs.Nodup ∧ (∀ c, c ∈ cs ↔ crun M (cfirst M) (row.take i) c) ∧ (∀ c ∈ cs, CfOk M d c) ∧ okT L d (row.drop i) ∧ d ≤ ncalls (row.take i)
    have few : ∀ {d : Nat} {cs : List Cf}, d ≤ 9 → cs.Nodup → (∀ c ∈ cs, CfOk M d c) → cs.length ≤ 59049 := fun {d cs} hd hn hc => by
      have h1 := cfgs_few ok hn hc
      have h2 : 3 ^ (d + 1) ≤ 3 ^ 10 := Nat.pow_le_pow_right (by decide) (by omega)
      have h3 : (3 : Nat) ^ 10 = 59049 := by decide
      omega
    have ncT : ∀ i, ncalls (row.take i) ≤ 9 := fun i => by
      have h1 := ncalls_append (row.take i) (row.drop i)
      rw [List.take_append_drop] at h1
      omega
    refine ⟨_, rfl, rl, rfl, ⟨racc, (k0.and hD).lst (fun z => nomatch z) hrl⟩, ?_⟩
    refine for_list (K := K) (xs := racc) Pv ⟨n0, acc0, _, 0, [], none, none, none, rfl, k0.and hD, upd_same, rfl, by rw [upd_ne hn0D]; exact e0, (Kp.new (S := []) hD).dps NoTup.nil (dcs_solid _) a0, nd0, fun c => ?_, ok0, ht, Nat.zero_le _⟩ (fun i σ H' _ z => ?_) (fun i x σ H2 ei z => ?_) fun σ H2 z => ?_
    · constructor
      · intro hc
        obtain ⟨p, hp, rfl⟩ := List.mem_map.mp hc
        exact ⟨hp, rfl⟩
      · rintro ⟨h1, h2⟩
        exact List.mem_map.mpr ⟨c.1, h1, Prod.ext rfl h2.symm⟩
    · obtain ⟨n, acc, cs, d, xs, o4, o5, o6, _, k2, _⟩ := z
      exact k2.lst (fun z => nomatch z) hrl
    · obtain ⟨n, acc, cs, d, xs, o4, o5, o6, rfl, k2, eD, hxs, en, ha, hnd, hmem, hcf, hok, hd9⟩ := z
      obtain ⟨pl, ep, hx⟩ := map_dp (k2.dps NoTup.nil (ps_solid row) hra) ei
      rw [drop_next ep] at hok
      have hdd := Nat.le_trans hd9 (ncT i)
      have hl := few hdd hnd hcf
      have lacc := DpAll.length ha
      rw [List.length_map] at lacc
      refine ⟨(by show 0 ≤ sizeLine; decide), fun m0 hm0 => ?_⟩
      let St2 : List Cf → Hp → Addr → Prop := fun as H6 m6 => Kp [] H2 H6 ∧ ∃ accm, H6 m6 = some (.lst accm) ∧ DpAll K H6 accm (as.map dc)
      have st0 : St2 [] (upd H2 m0 (.lst [])) m0 := ⟨Kp.new hm0, [], upd_same, .nil⟩
      have nS : ∀ {H6 : Hp}, Kp [] H2 H6 → SqL K H6 n acc := fun k6 => SqL.of (k6.keep _ _ en (fun z => nomatch z) fun ps z => by cases z)
      refine ⟨_, rfl, n, rfl, ⟨acc, nS (Kp.new hm0)⟩, ?_⟩
      refine for_list (K := K) (xs := acc) (fun j σ H6 => ∃ m6 o6, σ = [some mv, some (V.ref rl), some (V.ref n), some (V.ref D), some x, some (V.ref m6), o6, none] ∧ St2 ((cs.take j).flatMap fun c => moves M pl c.1 c.2) H6 m6) ⟨m0, o6, rfl, st0⟩ (fun j σ H6 _ z => let ⟨_, _, _, st⟩ := z; nS st.1) (fun j y σ H6 ej z => ?_) fun σ H6 z => ?_
      · obtain ⟨m6, o6, rfl, k6, accm, em, am⟩ := z
        obtain ⟨c, ec, hy⟩ := map_dp (k6.dps NoTup.nil (dcs_solid cs) ha) ej
        have hy : Dp K H6 y (.tuple [.int c.1, iD c.2]) := hy
        have hj := (List.getElem?_eq_some_iff.mp ec).1
        refine ⟨_, rfl, _, rfl, _, rfl, _, rfl, _, 0, _, hy, rfl, rfl, fun u hu => ?_⟩
        obtain rfl := Dp.intI hu
        refine ⟨_, rfl, _, 1, _, hy, rfl, rfl, fun u hu => ?_⟩
        obtain ⟨sa, ss, rfl, hqs, hds⟩ := Dp.tupI hu
        have hc1 := hcf c (List.mem_of_getElem? ec)
        refine ⟨M, L, mv, x, pl, c.1, sa, c.2, rfl, ok, mH (k2.trans k6), k6.dp NoTup.nil rfl hx, hu, by rw [hc1.len]; omega, fun p accp H7 k7 hp ep7 ap7 => ?_⟩
        have l1 := DpAll.length am
        have l2 := DpAll.length ap7
        rw [List.length_map] at l1 l2
        have l3 := len_moves ok pl c.1 c.2
        have l4 := len_flat (f := fun c : Cf => moves M pl c.1 c.2) (n := 7) (l := cs.take j) fun c _ => len_moves ok pl c.1 c.2
        have l5 : (cs.take j).length ≤ cs.length := by rw [List.length_take]; omega
        refine ⟨m6, p, accm, accp, rfl, rfl, k7.keep _ _ em (fun z => nomatch z) (fun ps z => by cases z), ep7, by rw [sizeLine_eq]; omega, fun p8 hp8 => ?_⟩
        refine ⟨p8, some y, rfl, (k6.trans k7).and hp8, _, upd_same, ?_⟩
        rw [take_next ec, List.flatMap_append, List.flatMap_cons, List.flatMap_nil, List.append_nil, List.map_append]
        exact DpAll.append ((Kp.new (S := []) hp8).dps NoTup.nil (dcs_solid _) (k7.dps NoTup.nil (dcs_solid _) am)) ((Kp.new (S := []) hp8).dps NoTup.nil (dcs_solid _) ap7)
      · rw [lacc, List.take_length] at z
        obtain ⟨m6, o6, rfl, k6, accm, em, am⟩ := z
        obtain ⟨d', hok', hd', hmv⟩ := cfok_step ok hok
        have l4 := len_flat (f := fun c : Cf => moves M pl c.1 c.2) (n := 7) (l := cs) fun c _ => len_moves ok pl c.1 c.2
        obtain ⟨as, eas⟩ : ∃ as, as = cs.flatMap fun c : Cf => moves M pl c.1 c.2 := ⟨_, rfl⟩
        rw [← eas] at am l4
        have mas : ∀ c', c' ∈ as ↔ ∃ c ∈ cs, Mv M pl c c' := fun c' => by
          rw [eas, List.mem_flatMap]
          exact ⟨fun ⟨c, h1, h2⟩ => ⟨c, h1, mem_moves.mp h2⟩, fun ⟨c, h1, h2⟩ => ⟨c, h1, mem_moves.mpr h2⟩⟩
        have cas : ∀ c' ∈ as, CfOk M d' c' := fun c' h => by
          obtain ⟨c, h1, h2⟩ := (mas c').mp h
          exact hmv c c' (hcf c h1) h2
        have hd9' : d' ≤ ncalls (row.take (i + 1)) := by
          rw [take_next ep, ncalls_append]
          rcases hd' with z | ⟨z, zc⟩ | z
          · omega
          · obtain ⟨kk, a⟩ := pl
            have zc : kk = .call := zc
            subst zc
            show d' ≤ ncalls (row.take i) + 1
            omega
          · omega
        have hdd' := Nat.le_trans hd9' (ncT (i + 1))
        obtain ⟨ks, rfl, e2, hks⟩ := cfs_of am
        have lks : ks.length = as.length := by rw [← e2, List.length_map]
        refine ⟨_, rfl, d', hdd', m6, ks, rfl, SqL.of em, fun p hp => ⟨hks p hp, p.2, rfl, cf_in ok (cas _ (by rw [← e2]; exact List.mem_map.mpr ⟨p, hp, rfl⟩))⟩, by unfold mostN; omega, fun sa Ls hsa hs1 hs2 hs3 hs4 => ?_⟩
        have ks7 := Kp.new (S := []) (o := CfSO w (DomC d') sa Ls) hsa
        refine ⟨d', sa, Ls, rfl, upd_same, fun p hp => (hks p (hs1 p hp)).kp ks7, fun L' p hperm hp => ?_⟩
        have hp : (upd H6 sa (CfSO w (DomC d') sa Ls)) p = none := hp
        have k8 := ks7.and (o := .lst (L'.map fun q => V.ref q.1)) hp
        have eD6 : (upd (upd H6 sa (CfSO w (DomC d') sa Ls)) p (.lst (L'.map fun q => V.ref q.1))) D = some (.lst (xs ++ [.ref n])) := (k6.trans k8).keep _ _ eD (fun z => nomatch z) fun ps z => by cases z
        have hpD : p ≠ D := fun z => by
          have := (k6.trans ks7).keep _ _ eD (fun z => nomatch z) fun ps z => by cases z
          rw [z, this] at hp; cases hp
        have hL' : ∀ q ∈ L', CfAt K (upd (upd H6 sa (CfSO w (DomC d') sa Ls)) p (.lst (L'.map fun q => V.ref q.1))) q.1 q.2 := fun q hq => (hks q (hs1 q (hperm.mem_iff.mp hq))).kp k8
        have dL' := cfs_dp hL'
        refine ⟨_, rfl, .inl ⟨rfl, _, SqL.of eD6⟩, _, rfl, D, xs ++ [V.ref n], V.ref p, rfl, rfl, eD6, ?_, ?_⟩
        · rw [List.length_append, List.length_singleton, hxs, sizeLine_eq]
          have := (List.getElem?_eq_some_iff.mp ep).1
          omega
        · refine ⟨p, _, L'.map (·.2), d', xs ++ [V.ref n], _, _, _, rfl, ((k2.trans k6).trans k8).put eD6 (fun ps z => by cases z) (.inr hDH), upd_same, by rw [List.length_append, hxs]; rfl, by rw [upd_ne hpD, upd_same], put_dps eD6 (dcs_solid _) dL', ?_, fun c => ?_, fun c hc => ?_, hok', hd9'⟩
          · exact (hperm.map (·.2)).nodup_iff.mpr hs3
          · rw [take_next ep, crun_snoc]
            have e3 : c ∈ L'.map (·.2) ↔ c ∈ as := by
              rw [(hperm.map (·.2)).mem_iff, ← e2]
              constructor
              · intro h
                obtain ⟨q, hq, rfl⟩ := List.mem_map.mp h
                exact List.mem_map.mpr ⟨q, hs1 q hq, rfl⟩
              · intro h
                obtain ⟨q, hq, rfl⟩ := List.mem_map.mp h
                exact hs2 q hq
            rw [e3, mas]
            exact ⟨fun ⟨c0, h1, h2⟩ => ⟨c0, (hmem c0).mp h1, h2⟩, fun ⟨c0, h1, h2⟩ => ⟨c0, (hmem c0).mpr h1, h2⟩⟩
          · obtain ⟨q, hq, rfl⟩ := List.mem_map.mp hc
            refine cas _ ?_
            rw [← e2]
            exact List.mem_map.mpr ⟨q, hs1 q (hperm.mem_iff.mp hq), rfl⟩
    · obtain ⟨n, acc, cs, d, xs, o4, o5, o6, rfl, k2, eD, hxs, en, ha, hnd, hmem, hcf, hok, hd9⟩ := z
      rw [lra, List.take_length] at hmem
      exact ⟨_, rfl, k D xs n acc cs H2 k2 eD en ha hmem (few (Nat.le_trans hd9 (ncT _)) hnd hcf)⟩
end
end K51
end

section
set_option Elab.async false
set_option linter.all false
set_option maxRecDepth 100000
set_option maxHeartbeats 8000000
/-! what the law's machine takes -/
namespace K51
open PySem PySem.Spec PyProof.Rows L2
section
variable {X : Cx} (K : PySem.W.Frag)
theorem op_eqDK (hu : X.A.units + 64 < cLine) (hK : X.K = K := by rfl) : OpR X (compareOp .Eq) (rEqD K) := by subst hK; exact op_eqD hu
end
section
variable {P : Program} {w : World} {K : PySem.W.Frag} {mg : PySem.Str → Option Value} {base : Heap}
def takes (M : Mach) (c : Cf) : Bool := decide (c.2 = []) && decide (c.1 ∈ M.lasts)
/-- _law_took(machine, row) -/
def spTook (K : PySem.W.Frag) : Sp := fun vs H Q _ => ∃ (M : Mach) (L : Nat × Nat × Nat) (mv : V) (rl : Addr) (racc : List V) (row : List Place), vs = [mv, .ref rl] ∧ M.Ok L ∧ Dp K H mv (mD M) ∧ SqL K H rl racc ∧ DpAll K H racc (row.map pD) ∧ okT L 0 row ∧ row.length ≤ 100 ∧ ncalls row ≤ 9 ∧
  ∀ b H', Kp [] H H' → (b = true ↔ ∃ x, crun M (cfirst M) row x ∧ x.2 = [] ∧ x.1 ∈ M.lasts) → Q (.bl b) H'
abbrev nTook : List PySem.Str := ["_law_machine_here", "_law_row", "_law_one"]
theorem sc_took : FnScope nTook ["_law_machine_here", "_law_row"] (defScope s_L_took) := ⟨rfl, rfl, rfl, by decide +kernel, rfl, by decide +kernel, by decide +kernel⟩
theorem ok_took {f f1 : Addr} {fd fd1 : FuncData} (F : L2.Fun K "_law_took" "_law_took" s_L_took f fd) (G : Gs mg) (Cr : Cal P w K mg base CX0 2 "_law_runs" ["_law_machine_here", "_law_row"] (spRuns K) f1 fd1) :
    FnOk P w K mg base CX0 3 f fd ["_law_machine_here", "_law_row"] (spTook K) := by
  refine F.ok sc_took (fun vs H Q E h => ?_) (fun cdv A outer s H vs Q E hr h => ?_)
  · obtain ⟨M, L, mv, rl, racc, row, rfl, _⟩ := h
    rfl
  · obtain ⟨M, L, mv, rl, racc, row, rfl, ok, hM, hrl, hra, ht, hrow, hnc, k⟩ := h
    have hu64 : (A.deeper (envOfC "_law_took" (defScope s_L_took) s.heap.objs.size f cdv)).units + 64 < cLine := by have := hr.un; omega
    refine ⟨_, pss_one (ps_ret (pe_cmpR op_gt (pe_callB call_len_seq (by rfl) G.len b_len (pa_cons (pe_lc (own := [("_law_one", 2)]) (g := gName 2) rfl sc_took.nd
        (pi_list (pe_ix ix_list (pe_call Cr.ok hr rfl Cr.g Cr.kp Cr.b .nil pass0 (pa_cons (pv 0) (pa_cons (pv 1) pa_nil))) (pe_un un_neg pe_int) (fun _ _ => rfl))) (blkOk_by (by kernel_rfl)) (fun _ _ _ _ _ => pg_name (i := 2) sc_took.nd rfl (Or.inl rfl))
        (fun _ _ _ _ _ => pts_one (PW.pt (pw_and (pt_cmpR (op_eqDK K hu64) (pe_ix (ix_dpK K) (pv 2) pe_int (fun _ _ => rfl)) (pe_tup pa_nil) (by rfl)) (pw_and1 (pt_cmpR (op_in_seqK K) (pe_ix (ix_dpK K) (pv 2) pe_int (fun _ _ => rfl)) (pe_ix (ix_dpK K) (pv 0) pe_int (fun _ _ => rfl)) (by rfl))))))
        (fun _ _ _ _ _ => pv 2)) pa_nil)) pe_int (by rfl))), ?_⟩
    refine ⟨_, rfl, _, rfl, M, L, mv, rl, racc, row, rfl, ok, hM, hrl, hra, ht, hrow, hnc, fun p xs n acc cs H1 k1 ep en ha hmem hlen => ?_⟩
    refine ⟨1, rfl, p, _, -1, V.ref n, rfl, rfl, SqL.of ep, atI_last _ _, ?_⟩
    have lacc := DpAll.length ha
    rw [List.length_map] at lacc
    have nS : ∀ {H6 : Hp}, Kp [] H1 H6 → SqL K H6 n acc := fun k6 => SqL.of (k6.keep _ _ en (fun z => nomatch z) fun ps z => by cases z)
    refine ⟨n, rfl, ⟨acc, SqL.of en⟩, fun D hD => ?_⟩
    refine lc_list (K := K) (xs := acc) (fun j H' => Grow K [] H1 D (((cs.take j).filter (takes M)).map dc) H') (Grow.zero hD) (fun j H' _ g => nS g.kp) (fun j y H' ej g => ⟨rfl, ?_⟩) fun H2 g => ?_
    · obtain ⟨c, ec, hy⟩ := map_dp (g.kp.dps NoTup.nil (dcs_solid cs) ha) ej
      have hj := (List.getElem?_eq_some_iff.mp ec).1
      have hy' : Dp K H' y (.tuple [.int c.1, iD c.2]) := hy
      have hlf : ((cs.take j).filter (takes M)).length ≤ 59049 := by
        refine Nat.le_trans (List.length_filter_le _ _) ?_
        rw [List.length_take]; omega
      have no : ∀ {H4 : Hp}, Kp [] H' H4 → takes M c = false → Grow K [] H1 D (((cs.take (j + 1)).filter (takes M)).map dc) H4 := fun {H4} k4 h => by
        rw [take_next ec, filter_snoc, h, if_neg (by decide), List.append_nil]
        exact g.thru k4 (dcs_solid _)
      refine ⟨_, rfl, _, 1, _, hy', rfl, rfl, fun u hu => ?_⟩
      refine ⟨(by show 0 ≤ sizeLine; decide), fun e he => ?_⟩
      have ke := Kp.new (S := []) (o := .tup []) he
      refine ⟨iD c.2, iD [], ke.dp NoTup.nil (nums_solid _ (iD_nums _)) hu, .tup (SqT.of upd_same) .nil, iD_shaped _, iD_shaped _, _, rfl, ?_⟩
      by_cases c2 : c.2 = []
      · refine iteYes (by rw [iD_eqv]; exact decide_eq_true c2) ?_
        have hy2 := ke.dp NoTup.nil (nums_solid _ (dc_nums c)) hy
        have hy2 : Dp K _ y (.tuple [.int c.1, iD c.2]) := hy2
        refine ⟨_, rfl, _, 0, _, hy2, rfl, rfl, fun u hu => ?_⟩
        obtain rfl := Dp.intI hu
        refine ⟨_, rfl, mDs M, 5, iD M.lasts, (k1.trans (g.kp.trans ke)).dp NoTup.nil (nums_solid _ (mD_nums M)) hM, rfl, rfl, fun u hu => ?_⟩
        obtain ⟨a2, xs2, rfl, hq2, ha2⟩ := Dp.tupI hu
        obtain rfl := DpAll.ints (ns := M.lasts) ha2
        refine ⟨a2, _, rfl, .inr hq2, rfl, flat_ints _, _, rfl, ?_⟩
        by_cases c3 : c.1 ∈ M.lasts
        · refine iteYes (by rw [inV_int]; exact decide_eq_true c3) ?_
          have yes : takes M c = true := by unfold takes; rw [decide_eq_true c2, decide_eq_true c3]; rfl
          rw [take_next ec, filter_snoc, yes, if_pos rfl, List.map_append]
          exact ⟨_, rfl, Grow.step (d := dc c) hD (fun z => nomatch z) NoTup.nil g ke (dcs_solid _) hy2 (nums_solid _ (dc_nums _)) (by rw [List.length_map]; omega)⟩
        · refine iteNo (by rw [inV_int]; exact decide_eq_false c3) ?_
          exact no ke (by unfold takes; rw [decide_eq_false c3, Bool.and_false])
      · refine iteNo (by rw [iD_eqv]; exact decide_eq_false c2) ?_
        exact no ke (by unfold takes; rw [decide_eq_false c2, Bool.false_and])
    · rw [lacc, List.take_length] at g
      obtain ⟨acc2, k2, e2, a2⟩ := g
      have l2 := DpAll.length a2
      rw [List.length_map] at l2
      refine ⟨D, acc2, rfl, .inl (SqL.of e2), _, _, rfl, rfl, k _ _ (k1.trans k2) ?_⟩
      rw [decide_eq_true_eq, l2]
      constructor
      · intro h
        obtain ⟨c, hc⟩ : ∃ c, c ∈ cs.filter (takes M) := by
          cases h0 : cs.filter (takes M) with
          | nil => rw [h0] at h; simp at h
          | cons c t => exact ⟨c, List.mem_cons_self⟩
        obtain ⟨h1, h2⟩ := List.mem_filter.mp hc
        unfold takes at h2
        rw [Bool.and_eq_true, decide_eq_true_eq, decide_eq_true_eq] at h2
        exact ⟨c, (hmem c).mp h1, h2⟩
      · rintro ⟨c, h1, h2, h3⟩
        have hc : c ∈ cs.filter (takes M) := List.mem_filter.mpr ⟨(hmem c).mpr h1, by unfold takes; rw [decide_eq_true h2, decide_eq_true h3]; rfl⟩
        have := List.length_pos_of_mem hc
        omega
end
end K51
end

section
set_option Elab.async false
set_option linter.all false
set_option maxRecDepth 100000
set_option maxHeartbeats 8000000
/-! the law -/
namespace K51
open PySem PySem.Spec PyProof.Rows L2
section
variable {X : Cx} (K : PySem.W.Frag)
theorem mt_indexDK (hu : X.A.units + 65 < cLine) (hK : X.K = K := by rfl) : MtR X "list.index" (rIndexD K) := by subst hK; exact mt_indexD hu
theorem pe_bmK {o e : Expr} {es : List Expr} {to : TE} {t : TA} {name : PySem.Str} {apos cpos : Pos} {T id : String} {r : V → List V → Hp → VK → Prop} (pa : PlainAttrs T) (slot : Slot T name id) (hty : typeOf (.builtin id) = pure (.type "method_descriptor")) (hm : MtR X id r) (ho : PE X o to) (ha : PA X (e :: es) t) (hK : X.K = K := by rfl)
    (hbase : attributeBase o name X.env (eval o X.env) = eval o X.env := by rfl)
    (hfew : ((backTo cpos (starEach (e :: es) X.env)).all (fun x => !x.1) && (backToKw cpos (keywordEach [] X.env)).all (fun x => x.1.isSome)
      && decide ((e :: es).length + ([] : List Keyword).length + (if ([] : List Keyword).isEmpty then 0 else 1) < 30)) = true := by rfl)
    (hline : (apos.endLine == cpos.line) = true := by rfl) (hs : starEach (e :: es) X.env = (false, eval e X.env) :: starEach es X.env := by rfl) (hplain : (backTo cpos (starEach es X.env)).any (·.1) = false := by rfl) :
    PE X (.Call (.Attribute o name apos) (e :: es) [] cpos) (tBM K T r to t) := by subst hK; exact pe_bm pa slot hty hm ho ha hbase hfew hline hs hplain
end
section
variable {P : Program} {w : World} {K : PySem.W.Frag} {mg : PySem.Str → Option Value} {base : Heap}
theorem tNilI {σ : L2.St} {H : Hp} {Q : List V → Hp → Prop} (h : Q [] H) : tNil σ H Q := h
theorem idx_ok {f : List Tab} {t : Tab} {H : Hp} {p : Addr} {acc : List V} {y : V} {Q : VK} (hf : f.Nodup) (h : t ∈ f) (e : SqL K H p acc) (ha : DpAll K H acc (f.map tD)) (hy : Dp K H y (tD t)) (q : Q (.int (ixN f t : Nat)) H) : rIndexD K (.ref p) [y] H Q := by
  have hl := ix_lt h
  have e1 : f[ixN f t]? = some t := by rw [List.getElem?_eq_getElem hl]; exact congrArg some (List.getElem_idxOf hl)
  refine ⟨p, y, tD t, f.map tD, ixN f t, tD t, rfl, rfl, Dp.lst e ha, hy, tabs_shaped f, tD_shaped t, by rw [List.getElem?_map, e1]; rfl, by rw [tD_eqv]; exact decide_eq_true rfl, fun m z' hm hz => ?_, q⟩
  rw [List.getElem?_map] at hz
  cases hu : f[m]? with
  | none => rw [hu] at hz; cases hz
  | some u =>
    rw [hu] at hz
    have hz : tD u = z' := Option.some.inj hz
    subst hz
    rw [tD_eqv]
    refine decide_eq_false fun c => ?_
    subst c
    have : m = ixN f u := (List.getElem?_inj (List.getElem?_eq_some_iff.mp hu).1 hf).mp (hu.trans e1.symm)
    omega
/-- law(script): yes -/
def spLaw (K : PySem.W.Frag) (Pt Pa Pr Ps Pc : Addr) : Sp := fun vs H Q _ => ∃ (sc : Addr) (ns : List Int), vs = [.ref sc] ∧ SqL K H sc (ns.map V.int) ∧ GxR.TabG H Pt ∧ GxR.TabG H Pa ∧ GxR.TabG H Pr ∧ GxR.TabG H Ps ∧ GxR.TabG H Pc ∧ ∀ H', Q (.bl true) H'
abbrev nLaw : List PySem.Str := ["_law_script", "_law_state", "_law_labels_here", "_law_machine_here", "_law_actual", "_law_found", "_law_letters", "_law_k", "_law_row", "_law_a", "_law_two", "_law_one"]
theorem sc_law : FnScope nLaw ["_law_script"] (defScope s_law) := ⟨rfl, rfl, rfl, by decide +kernel, rfl, by decide +kernel, by decide +kernel⟩
theorem ok_law {f Pt Pa Pr Ps Pc f1 f2 f3 f4 f5 f6 f7 f8 f9 f10 : Addr} {fd fd1 fd2 fd3 fd4 fd5 fd6 fd7 fd8 fd9 fd10 : FuncData} (F : L2.Fun K "law" "law" s_law f fd) (G : Gs mg)
    (Cla : Cal P w K mg base CX0 2 "_law_labels" ["_law_state"] (spLabels K) f1 fd1) (Cma : Cal P w K mg base CX0 3 "_law_machine" ["_law_state", "_law_labels_here"] (spMachine K) f2 fd2)
    (Cto : Cal P w K mg base CX0 7 "_law_told" ["_law_labels_here", "_law_machine_here"] (spTold K Pt Pa) f3 fd3) (Cta : Cal P w K mg base CX0 2 "_law_tables" ["_law_labels_here", "_law_machine_here"] (spTables K) f4 fd4)
    (Cle : Cal P w K mg base CX0 1 "_law_letter" ["_law_machine_here", "_law_a"] (spLetterL K) f5 fd5) (Cbe : Cal P w K mg base CX0 1 "_law_behind" ["_law_one", "_law_two"] (spBehind K) f6 fd6)
    (Cfa : Cal P w K mg base CX0 6 "fault" ["reader"] (spFault K Pr Ps Pc) f7 fd7) (Cte : Cal P w K mg base CX0 2 "_law_text" ["_law_state", "_law_labels_here", "_law_most"] (spText K) f8 fd8)
    (Cac : Cal P w K mg base CX0 4 "accepts" ["reader", "text"] (spAccepts K) f9 fd9) (Ctk : Cal P w K mg base CX0 3 "_law_took" ["_law_machine_here", "_law_row"] (spTook K) f10 fd10) :
    FnOk P w K mg base CX0 8 f fd ["_law_script"] (spLaw K Pt Pa Pr Ps Pc) := by
  refine F.ok sc_law (fun vs H Q E h => ?_) (fun cdv A outer s H vs Q E hr h => ?_)
  · obtain ⟨sc, ns, rfl, _⟩ := h
    rfl
  · obtain ⟨sc, ns, rfl, hsc, tt, ta, tr, ts, tc, k⟩ := h
    have hu65 : (A.deeper (envOfC "law" (defScope s_law) s.heap.objs.size f cdv)).units + 65 < cLine := by have := hr.un; omega
    have hu64 : (A.deeper (envOfC "law" (defScope s_law) s.heap.objs.size f cdv)).units + 64 < cLine := by have := hr.un; omega
    refine ⟨_, pss_cons (ps_set (i := 1) sc_law.nd rfl (Or.inl rfl) (pe_lst (pa_cons pe_int (pa_cons pe_int (pa_cons (pe_callTy call_list_of (by rfl) G.list b_list (pa_cons (pv 0) pa_nil)) (pa_cons pe_int pa_nil))))))
      (pss_cons (ps_set (i := 2) sc_law.nd rfl (Or.inl rfl) (pe_call Cla.ok (hr.mono (by decide)) rfl Cla.g Cla.kp Cla.b .nil pass0 (pa_cons (pv 1) pa_nil)))
      (pss_cons (ps_set (i := 3) sc_law.nd rfl (Or.inr rfl) (pe_call Cma.ok (hr.mono (by decide)) rfl Cma.g Cma.kp Cma.b .nil pass0 (pa_cons (pv 1) (pa_cons (pv 2) pa_nil))))
      (pss_cons (ps_set (i := 4) sc_law.nd rfl (Or.inl rfl) (pe_call Cto.ok hr rfl Cto.g Cto.kp Cto.b .nil pass0 (pa_cons (pv 2) (pa_cons (pv 3) pa_nil))))
      (pss_cons (ps_set (i := 5) sc_law.nd rfl (Or.inr rfl) (pe_call Cta.ok (hr.mono (by decide)) rfl Cta.g Cta.kp Cta.b .nil pass0 (pa_cons (pv 2) (pa_cons (pv 3) pa_nil))))
      (pss_cons (ps_if (PW.pt (pw_or (pt_cmpR op_isN (pv 5) pe_non (nomark _)) (pw_or1 (pt_cmpR op_isN (pv 4) pe_non (nomark _)))))
        (pss_one (ps_ret (pe_and (pe_cmpR op_isN (pv 5) pe_non (nomark _)) (pe_one (pe_cmpR op_isN (pv 4) pe_non (nomark _)))))) pss_nil)
      (pss_cons (ps_set (i := 6) sc_law.nd rfl (Or.inl rfl) (pe_callTy call_tuple_of (by rfl) G.tuple b_tuple (pa_cons (pe_lc (own := [("_law_a", 9)]) (g := gName 9) (tt := tYes) rfl sc_law.nd
          (pi_range1 (by rfl) G.range (pa_cons (pe_ix ix_dp (pv 2) pe_int (fun _ _ => rfl)) pa_nil)) (blkOk_by (by kernel_rfl)) (fun _ _ _ _ _ => pg_name (i := 9) sc_law.nd rfl (Or.inl rfl)) (fun _ _ _ _ _ => pts_nil)
          (fun _ _ _ _ _ => pe_bmK K PySem.F.plainAttrs_list PySem.F.slot_list_index PySem.F.type_list_index (mt_indexDK K hu65) (pv 5) (pa_cons (pe_call Cle.ok (hr.mono (by decide)) rfl Cle.g Cle.kp Cle.b .nil pass0 (pa_cons (pv 3) (pa_cons (pv 9) pa_nil))) pa_nil))) pa_nil)))
      (pss_cons (ps_if (PW.pt (pw_or (pt_cmpR (op_neD hu64) (pe_ix ix_dp (pv 4) pe_int (fun _ _ => rfl)) (pv 2) (by rfl)) (pw_or (pt_cmpR op_ne (pe_ix ix_dp (pv 4) pe_int (fun _ _ => rfl)) pe_int (by rfl)) (pw_or1 (pt_cmpR (op_neD hu64) (pe_ix ix_dp (pv 4) pe_int (fun _ _ => rfl)) (pv 6) (by rfl))))))
        pss_never pss_nil)
      (pss_cons (ps_if (pt_cmpR (op_neD hu64) (pe_ix ix_dp (pv 4) pe_int (fun _ _ => rfl)) (pe_callTy call_tuple_of (by rfl) G.tuple b_tuple (pa_cons (pe_lc (own := [("_law_one", 11), ("_law_two", 10)]) (g := gName 11) (tt := tYes) rfl sc_law.nd
            (pi_list (pv 5)) (blkOk_by (by kernel_rfl)) (fun _ _ _ _ _ => pg_name (i := 11) sc_law.nd rfl (Or.inr rfl)) (fun _ _ _ _ _ => pts_nil)
            (fun _ _ _ _ _ => pe_callTy (cr_tupleK K) (by rfl) G.tuple b_tuple (pa_cons (pe_lc (own := [("_law_two", 10)]) (g := gName 10) (tt := tYes) rfl sc_law.nd
              (pi_listK K (pv 5)) (blkOk_by (by kernel_rfl)) (fun _ _ _ _ _ => pg_name (i := 10) sc_law.nd rfl (Or.inl rfl)) (fun _ _ _ _ _ => pts_nil)
              (fun _ _ _ _ _ => pe_bmK K PySem.F.plainAttrs_list PySem.F.slot_list_index PySem.F.type_list_index (mt_indexDK K hu65) (pv 5) (pa_cons (pe_call Cbe.ok (hr.mono (by decide)) rfl Cbe.g Cbe.kp Cbe.b .nil pass0 (pa_cons (pv 11) (pa_cons (pv 10) pa_nil))) pa_nil))) pa_nil))) pa_nil)) (by rfl))
        pss_never pss_nil)
      (pss_cons (ps_if (PW.pt (pw_and (pt_cmpR op_lt (pe_callB call_len_seq (by rfl) G.len b_len (pa_cons (pv 5) pa_nil)) pe_int (nomark _)) (pw_and1 (pt_cmpR op_notN (pe_call Cfa.ok (hr.mono (by decide)) rfl Cfa.g Cfa.kp Cfa.b .nil pass0 (pa_cons (pv 4) pa_nil)) pe_non (nomark _)))))
        pss_never pss_nil)
      (pss_cons (ps_for PassesOwn.never rfl (pi_range1 (by rfl) G.range (pa_cons pe_int pa_nil)) (pg_name (i := 7) sc_law.nd rfl (Or.inl rfl))
        (pss_cons (ps_set (i := 8) sc_law.nd rfl (Or.inl rfl) (pe_call Cte.ok (hr.mono (by decide)) rfl Cte.g Cte.kp Cte.b .nil pass0 (pa_cons (pv 1) (pa_cons (pv 2) (pa_cons pe_int pa_nil)))))
        (pss_one (ps_if (pt_cmpR op_ne (pe_call Cac.ok (hr.mono (by decide)) rfl Cac.g Cac.kp Cac.b .nil pass0 (pa_cons (pv 4) (pa_cons (pe_callTy call_list_of (by rfl) G.list b_list (pa_cons (pv 8) pa_nil)) pa_nil)))
          (pe_call Ctk.ok (hr.mono (by decide)) rfl Ctk.g Ctk.kp Ctk.b .nil pass0 (pa_cons (pv 3) (pa_cons (pv 8) pa_nil))) (by rfl)) pss_never pss_nil))))
      (pss_one (ps_ret pe_bl)))))))))))), ?_⟩
    refine ⟨_, rfl, sc, _, rfl, .inl hsc, fun c hc => ?_⟩
    refine ⟨(by show 4 ≤ sizeLine; decide), fun a ha => ?_⟩
    have k1 : Kp [] H (upd (upd H c (.lst (ns.map V.int))) a (.lst [.int 0, .int 0, .ref c, .int 1])) := (Kp.new (S := []) hc).and ha
    have hca : c ≠ a := Ne.symm (upd_none ha).2
    have dn1 : DIn K (upd (upd H c (.lst (ns.map V.int))) a (.lst [.int 0, .int 0, .ref c, .int 1])) a c ns := ⟨⟨0, 0, 1, upd_same, by omega⟩, SqL.of (by rw [upd_ne hca, upd_same]), hca⟩
    generalize upd (upd H c (.lst (ns.map V.int))) a (.lst [.int 0, .int 0, .ref c, .int 1]) = H1 at k1 dn1
    refine ⟨_, rfl, a, c, ns, rfl, dn1, fun L lv H2 lok hL k2 s2 => ?_⟩
    have dn2 := dn1.kp k2 s2
    refine ⟨_, rfl, _, rfl, a, c, ns, L, lv, rfl, dn2, lok, hL, fun M mv H3 ok hM k3 s3 => ?_⟩
    have dn3 := dn2.kp k3 s3
    have hL3 : Dp K H3 lv (lD L) := k3.dp s2.noTup (nums_solid _ (lD_nums L)) hL
    have tb3 : ∀ {P : Addr}, GxR.TabG H P → GxR.TabG H3 P := fun h => k3.tabs _ (k2.tabs _ (k1.tabs _ h))
    have lb : L.1 ≤ 3 ∧ L.2.1 ≤ 3 ∧ L.2.2 ≤ 3 := ⟨lok.1.2, lok.2.1.2, lok.2.2.2⟩
    refine ⟨_, rfl, _, rfl, M, L, lv, mv, rfl, hM, ok, lb, hL3, tb3 tt, tb3 ta, fun hn H4 k4 => ?_, fun r hr4 rv H4 k4 d4 => ?_⟩
    · have hM4 : Dp K H4 mv (mD M) := k4.dp NoTup.nil (nums_solid _ (mD_nums M)) hM
      have hL4 : Dp K H4 lv (lD L) := k4.dp NoTup.nil (nums_solid _ (lD_nums L)) hL3
      refine ⟨_, rfl, _, rfl, M, L, lv, mv, rfl, ok, lb, hM4, hL4, fun _ H5 k5 => ?_, fun r hr5 => ?_⟩
      · refine ⟨_, rfl, rfl, _, rfl, ?_⟩
        refine iteYes (decide_eq_true rfl) ?_
        refine iteYes rfl ?_
        refine ⟨_, rfl, rfl, _, rfl, ?_⟩
        refine iteYes (decide_eq_true rfl) ?_
        refine ⟨_, rfl, rfl, ?_⟩
        rw [decide_eq_true (show (V.non = V.non) from rfl)]
        exact k H5
      · rw [hn] at hr5; cases hr5
    · have hM4 : Dp K H4 mv (mD M) := k4.dp NoTup.nil (nums_solid _ (mD_nums M)) hM
      have hL4 : Dp K H4 lv (lD L) := k4.dp NoTup.nil (nums_solid _ (lD_nums L)) hL3
      have hcl := tables_clos ok hr4
      refine ⟨_, rfl, _, rfl, M, L, lv, mv, rfl, ok, lb, hM4, hL4, fun hn => ?_, fun r' hr5 q acc H5 k5 hq eq aq => ?_⟩
      · rw [hn] at hr4; cases hr4
      obtain rfl : r' = r := by rw [hr4] at hr5; exact (Option.some.inj hr5).symm
      have hR5 : RAt K H5 rv M L r' := k5.dp NoTup.nil (nums_solid _ (rD_nums M L r')) d4
      have lacc := DpAll.length aq
      rw [List.length_map] at lacc
      have dn5 := (dn3.kp k4.wide (s3.kp k4)).kp k5.wide ((s3.kp k4).kp k5)
      have k45 := k4.trans k5
      have tb5 : ∀ {P : Addr}, GxR.TabG H P → GxR.TabG H5 P := fun h => k45.tabs _ (tb3 h)
      have hM5 : Dp K H5 mv (mD M) := k45.dp NoTup.nil (nums_solid _ (mD_nums M)) hM
      have hL5 : Dp K H5 lv (lD L) := k45.dp NoTup.nil (nums_solid _ (lD_nums L)) hL3
      clear hM4 hL4 hL hL3 hM
      refine ⟨_, rfl, rfl, _, rfl, ?_⟩
      refine iteNo (decide_eq_false fun z => nomatch z) ?_
      obtain ⟨ar, rs, erv, _, _⟩ := Dp.tupI hR5
      refine ⟨_, rfl, rfl, _, rfl, ?_⟩
      refine iteNo (by rw [erv]; rfl) ?_
      have hn9 := hcl.nd
      have h60 := hcl.len
      have qH : ∀ {H' : Hp}, Kp [] H5 H' → SqL K H' q acc := fun k6 => SqL.of (k6.keep _ _ eq (fun z => nomatch z) fun ps z => by cases z)
      have aH : ∀ {H' : Hp}, Kp [] H5 H' → DpAll K H' acc (r'.map tD) := fun k6 => k6.dps NoTup.nil (tabs_solid _) aq
      have mH : ∀ {H' : Hp}, Kp [] H5 H' → Dp K H' mv (mD M) := fun k6 => k6.dp NoTup.nil (nums_solid _ (mD_nums M)) hM5
      have lH : ∀ {H' : Hp}, Kp [] H5 H' → Dp K H' lv (lD L) := fun k6 => k6.dp NoTup.nil (nums_solid _ (lD_nums L)) hL5
      -- letters
      refine ⟨_, rfl, lDs L, 0, .int (L.1 : Int), hL5, rfl, rfl, fun u hu => ?_⟩
      obtain rfl := Dp.intI hu
      refine ⟨_, rfl, by omega, by omega, fun D hD => ?_⟩
      refine lc_range (lo := 0) (n := (L.1 : Int).toNat) (fun i H' => Grow K [] H5 D (((List.range i).map fun (a : Nat) => (ixN r' (tLetter M (a : Int)) : Int)).map .int) H') (Grow.zero hD) (fun i H' hi g => ⟨rfl, ?_⟩) fun H6 g => ?_
      · refine yesT ?_
        refine ⟨_, rfl, .inl ⟨rfl, acc, qH g.kp⟩, _, rfl, _, rfl, M, L, mv, _, rfl, ok, mH g.kp, fun v H' k6 d6 => ?_⟩
        rw [Int.zero_add] at d6
        have k7 := g.kp.trans k6
        refine tNilI ?_
        show rIndexD K (.ref q) [v] H' _
        refine idx_ok hn9 (letter_in hcl ⟨by omega, by omega⟩) (qH k7) (aH k7) d6 ?_
        rw [rng_snoc, List.map_append]
        exact Grow.step (d := .int _) hD (fun z => nomatch z) NoTup.nil g k6 (ints_solid _) (Dp.int _) rfl (by simp; omega)
      rw [Int.toNat_natCast] at g
      obtain ⟨acc6, k6, e6, a6⟩ := g
      refine ⟨D, acc6, rfl, .inl ⟨SqL.of e6, fun p6 hp6 => ?_⟩⟩
      obtain ⟨k7, d7⟩ := Grow.done k6 a6 (ints_solid _) hp6
      have d7 : Dp K (upd H6 p6 (.tup acc6)) (.ref p6) (iD (rLet M L r')) := d7
      generalize upd H6 p6 (.tup acc6) = H7 at k7 d7
      have hR7 := hR5.kp k7
      have self : ∀ {d : PyData}, nums d = true → (!PyData.eqv d d) = false := fun {d} h => by rw [(nums_eqv d d h h).mpr rfl]; rfl
      refine ⟨_, rfl, rDs M L r', 0, lD L, hR7, rfl, rfl, fun u hu => ?_⟩
      refine ⟨_, rfl, lD L, lD L, hu, lH k7, iD_shaped [(L.1 : Int), (L.2.1 : Int), (L.2.2 : Int)], iD_shaped [(L.1 : Int), (L.2.1 : Int), (L.2.2 : Int)], _, rfl, ?_⟩
      refine iteNo (self (lD_nums L)) ?_
      refine ⟨_, rfl, rDs M L r', 1, .int 0, hR7, rfl, rfl, fun u hu => ?_⟩
      obtain rfl := Dp.intI hu
      refine ⟨rfl, _, rfl, ?_⟩
      refine iteNo rfl ?_
      refine ⟨_, rfl, rDs M L r', 2, iD (rLet M L r'), hR7, rfl, rfl, fun u hu => ?_⟩
      refine ⟨_, rfl, _, _, hu, d7, iD_shaped _, iD_shaped _, _, rfl, ?_⟩
      refine iteNo (self (iD_nums _)) ?_
      -- mul
      refine ⟨_, rfl, rDs M L r', 3, tD (rMul r'), hR7, rfl, rfl, fun um hum => ?_⟩
      have rl : ∀ i, ((r'.take i).map fun x => r'.map fun y => (ixN r' (tJoin x y) : Int)).length ≤ 60 := fun i => by rw [List.length_map, List.length_take]; omega
      refine ⟨_, rfl, q, rfl, ⟨acc, qH k7⟩, fun D2 hD2 => ?_⟩
      refine lc_list (K := K) (xs := acc) (fun i H' => Grow K [] H7 D2 (((r'.take i).map fun x => r'.map fun y => (ixN r' (tJoin x y) : Int)).map iD) H') (Grow.zero hD2) (fun i H' _ g => qH (k7.trans g.kp)) (fun i x H8 ei g => ⟨rfl, ?_⟩) fun H8 g => ?_
      · refine yesT ?_
        have k8 := k7.trans g.kp
        obtain ⟨t, et, hx⟩ := map_dp (aH k8) ei
        have ht : t ∈ r' := List.mem_of_getElem? et
        refine ⟨_, rfl, q, rfl, ⟨acc, qH k8⟩, fun D3 hD3 => ?_⟩
        refine lc_list (K := K) (xs := acc) (fun j H' => Grow K [] H8 D3 (((r'.take j).map fun y => (ixN r' (tJoin t y) : Int)).map .int) H') (Grow.zero hD3) (fun j H' _ g => qH (k8.trans g.kp)) (fun j y H' ej g3 => ⟨rfl, ?_⟩) fun H9 g3 => ?_
        · refine yesT ?_
          have k9 := k8.trans g3.kp
          obtain ⟨u, eu, hy⟩ := map_dp (aH k9) ej
          have hu : u ∈ r' := List.mem_of_getElem? eu
          obtain ⟨t', et', hx'⟩ := map_dp (aH k9) ei
          obtain rfl : t' = t := by rw [et] at et'; exact (Option.some.inj et').symm
          refine ⟨_, rfl, .inl ⟨rfl, acc, qH k9⟩, _, rfl, _, rfl, M.m, x, y, t', u, rfl, hx', hy, hcl.good _ ht, hcl.good _ hu, ok.m3, fun v H10 k10 d10 => ?_⟩
          have k11 := k9.trans k10
          refine tNilI ?_
          show rIndexD K (.ref q) [v] H10 _
          refine idx_ok hn9 (join_in hcl ht hu) (qH k11) (aH k11) d10 ?_
          rw [take_next eu, List.map_append, List.map_append]
          exact Grow.step (d := .int _) hD3 (fun z => nomatch z) NoTup.nil g3 k10 (ints_solid _) (Dp.int _) rfl (by rw [List.length_map, List.length_map, List.length_take]; omega)
        · rw [lacc, List.take_length] at g3
          obtain ⟨acc9, k9, e9, a9⟩ := g3
          refine ⟨D3, acc9, rfl, .inl ⟨SqL.of e9, fun p9 hp9 => ?_⟩⟩
          obtain ⟨k10, d10⟩ := Grow.done k9 a9 (ints_solid _) hp9
          rw [take_next et, List.map_append, List.map_append]
          exact Grow.step (d := iD _) hD2 (fun z => nomatch z) NoTup.nil g k10 (rows_solid _) d10 (nums_solid _ (iD_nums _)) (by rw [List.length_map]; have := rl i; omega)
      rw [lacc, List.take_length] at g
      obtain ⟨acc8, k8, e8, a8⟩ := g
      refine ⟨D2, acc8, rfl, .inl ⟨SqL.of e8, fun p8 hp8 => ?_⟩⟩
      obtain ⟨k9, d9⟩ := Grow.done k8 a8 (rows_solid _) hp8
      have d9 : Dp K (upd H8 p8 (.tup acc8)) (.ref p8) (tD (rMul r')) := d9
      refine ⟨tD (rMul r'), tD (rMul r'), k9.dp NoTup.nil (nums_solid _ (tD_nums _)) hum, d9, tD_shaped _, tD_shaped _, _, rfl, ?_⟩
      refine iteNo (self (tD_nums _)) ?_
      generalize upd H8 p8 (.tup acc8) = H9 at k9
      have k59 := k7.trans k9
      clear d9
      have hR9 := hR5.kp k59
      have tb9 : ∀ {P : Addr}, GxR.TabG H P → GxR.TabG H9 P := fun h => k59.tabs _ (tb5 h)
      have dn9 := dn5.kp k59.wide (dn5.1.kp k59)
      refine joinS (Fx := fun σ H' => Kp [] H9 H' ∧ σ = [some (V.ref sc), some (V.ref a), some lv, some mv, some rv, some (V.ref q), some (V.ref p6), none, none, none, none, none]) (S := ?S) ?A ?B
      case A =>
        intro fin
        refine ⟨_, rfl, q, acc, rfl, .inl (qH k59), _, _, rfl, rfl, _, rfl, ?_⟩
        by_cases c12 : ((acc.length : Nat) : Int) < 12
        · refine iteYes (decide_eq_true c12) ?_
          refine ⟨_, rfl, M, L, r', rv, rfl, hR9, hcl, lok, h60, tb9 tr, tb9 ts, tb9 tc, fun H10 k10 => ?_⟩
          refine ⟨rfl, _, rfl, ?_⟩
          refine iteNo rfl ?_
          exact fin _ _ ⟨k10, rfl⟩
        · refine iteNo (decide_eq_false c12) ?_
          refine iteNo rfl ?_
          exact fin _ _ ⟨Kp.refl, rfl⟩
      case B =>
        rintro σ H10 ⟨k10, rfl⟩
        have k510 := k59.trans k10
        have dn10 := dn9.kp k10.wide (dn9.1.kp k10)
        have sn10 := dn10.1.noTup
        refine ⟨4, rfl, by decide, by decide, ?_⟩
        refine for_range (lo := 0) (n := (4 : Int).toNat) (fun i σ H' => (∃ o7 o8, σ = [some (V.ref sc), some (V.ref a), some lv, some mv, some rv, some (V.ref q), some (V.ref p6), o7, o8, none, none, none]) ∧ Kp [a] H10 H' ∧ DSt a c H') ⟨⟨none, none, rfl⟩, Kp.refl, dn10.1⟩ (fun i σ H11 hi z => ?_) fun σ H11 z => ?_
        · obtain ⟨⟨o7, o8, rfl⟩, k11, s11⟩ := z
          have dn11 := dn10.kp k11 s11
          have l11 : Dp K H11 lv (lD L) := k11.dp sn10 (nums_solid _ (lD_nums L)) (lH k510)
          have m11 : Dp K H11 mv (mD M) := k11.dp sn10 (nums_solid _ (mD_nums M)) (mH k510)
          have r11 : RAt K H11 rv M L r' := k11.dp sn10 (nums_solid _ (rD_nums M L r')) (hR5.kp k510)
          refine ⟨_, rfl, _, rfl, a, c, ns, lv, L, rfl, dn11, l11, lok, fun row p racc H12 ht hrow hnc k12 s12 hp ep ap => ?_⟩
          have m12 : Dp K H12 mv (mD M) := k12.dp s11.noTup (nums_solid _ (mD_nums M)) m11
          have r12 : RAt K H12 rv M L r' := k12.dp s11.noTup (nums_solid _ (rD_nums M L r')) r11
          refine ⟨_, rfl, _, rfl, p, racc, rfl, .inl (SqL.of ep), fun l hl => ?_⟩
          have kl := Kp.new (S := []) (o := .lst racc) hl
          refine ⟨M, L, r', rv, l, racc, row, rfl, r12.kp kl, ok, hcl, SqL.of upd_same, kl.dps NoTup.nil (ps_solid row) ap, ht, by omega, fun H13 k13 => ?_⟩
          have k14 := kl.trans k13
          refine ⟨_, rfl, _, rfl, M, L, mv, p, racc, row, rfl, ok, k14.dp NoTup.nil (nums_solid _ (mD_nums M)) m12, k14.lst (fun z => nomatch z) (SqL.of ep), k14.dps NoTup.nil (ps_solid row) ap, ht, by omega, hnc, fun b H15 k15 hb => ?_⟩
          have e : decide ((vrun M L r' (0, []) row).1 ∈ rAcc M r') = b := by
            rw [Bool.eq_iff_iff, decide_eq_true_eq, hb]
            exact accepts_takes ok hcl ht
          refine ⟨rfl, _, rfl, ?_⟩
          rw [e]
          refine iteNo (by simp) ?_
          exact ⟨⟨_, _, rfl⟩, k11.trans (k12.trans (k14.trans k15).wide), s12.kp (k14.trans k15)⟩
        · obtain ⟨⟨o7, o8, rfl⟩, k11, s11⟩ := z
          exact k _
end
end K51
end

section
set_option Elab.async false
set_option linter.all false
set_option maxRecDepth 100000
set_option maxHeartbeats 8000000
/-! the head's facts, every promise joined, the law -/
namespace K51
open PySem PySem.Spec PyProof.Rows L2
section
variable {P : Program} {w : World} {K : PySem.W.Frag} {h : Heap} {mg : PySem.Str → Option Value}
theorem got (c : He.SaysD fa fn K) (i : Nat) {d : He.DefD} {st : Stmt} {f : Addr} {x q : PySem.Str} (hi : fn[i]? = some d) (hx : d.name = x) (hq : d.qual = q) (hp : d.params = defArgs st) (hb : d.body = defBody st) (hs : d.scope = defScope st) (h1 : d.dfl = []) (h2 : d.kwd = []) (hf : He.fAd K d.at_ = f) :
    ∃ fd, L2.Fun K x q st f fd ∧ fd.code = .ref (He.cT K d.at_).1 := by
  obtain ⟨fd, F⟩ := c.def_ i (d := d) hi
  obtain ⟨oc, od, dV, kV, doc, pm, an, cdv, ct, osl, e, l, cd, hd, hk⟩ := F.ex
  have e1 : d.dvs K = [] := by unfold He.DefD.dvs; rw [h1]; rfl
  rw [e1] at hd
  have e2 : dV = .none := by
    rcases hd with ⟨_, z⟩ | ⟨z, _⟩
    · exact z
    · exact absurd rfl z
  obtain ⟨cc, ec⟩ := He.codeIn_ref cd
  have ecode : fd.code = .ref cc := by rw [e]; exact ec
  have ecT : (He.cT K d.at_).1 = cc := He.codeOf_eq l ecode
  refine ⟨fd, ⟨⟨oc, od, kV, doc, pm, an, cdv, ct, osl, ?_, ?_, ?_⟩, ?_⟩, by rw [ecT]; exact ecode⟩
  · rw [e, e2, hx, hq, hp, hb, hs]
  · rw [← hf]; exact l
  · rw [← hq]; exact cd
  · rw [← hf]; exact F.kp
theorem tabX {base : Heap} {a b : Addr} (t : LamX.TabB base mg a b) : GxR.TabB base mg a b := ⟨t.code, t.bm, t.gP⟩
theorem gs_of (X : K.In h) (G : h.Ns mainGlobals mg) (c : He.SaysD fa fn K) : Gs mg := ⟨
He.free_ok X G (c.fact 32 (f := .free "range") rfl),
  He.free_ok X G (c.fact 33 (f := .free "len") rfl),
  He.free_ok X G (c.fact 34 (f := .free "list") rfl),
  He.free_ok X G (c.fact 35 (f := .free "tuple") rfl),
  He.free_ok X G (c.fact 36 (f := .free "sorted") rfl),
  He.free_ok X G (c.fact 37 (f := .free "set") rfl),
  He.free_ok X G (c.fact 38 (f := .free "any") rfl),
  He.free_ok X G (c.fact 39 (f := .free "all") rfl),
  He.free_ok X G (c.fact 40 (f := .free "enumerate") rfl),
  He.free_ok X G (c.fact 41 (f := .free "int") rfl)⟩
theorem tcls_of (X : K.In h) (G : h.Ns mainGlobals mg) (c : He.SaysD fa fn K) : TCls K mg (He.ga K "Tables") := ⟨He.cls_ok (c.fact 45 (f := .cls "Tables") rfl), He.noat_ok (c.fact 46 (f := .noat "Tables" "machine") rfl), He.glo_ok X G (c.fact 29 (f := .glo "Tables") rfl)⟩
theorem tmv_of (X : K.In h) (G : h.Ns mainGlobals mg) (c : He.SaysD fa fn K) (m : ex K = true) : TMV K mg (He.ga K "TooManyValues") := by
  unfold ex at m
  simp only [Bool.and_eq_true, decide_eq_true_eq] at m
  obtain ⟨⟨⟨⟨m1, m2⟩, m3⟩, _⟩, _⟩ := m
  exact ⟨He.glo_ok X G (c.fact 30 (f := .glo "TooManyValues") rfl), m1, He.keep_ok (c.fact 55 (f := .keep "TooManyValues") rfl), m2, m3, He.exm_ok (c.fact 54 (f := .exm "TooManyValues" "TooManyValues" true) rfl)⟩
theorem kinds_of (X : K.In h) (G : h.Ns mainGlobals mg) (c : He.SaysD fa fn K) (m : ex K = true) : Kinds K mg (He.ga K "KINDS") := by
  unfold ex at m
  simp only [Bool.and_eq_true, decide_eq_true_eq] at m
  obtain ⟨⟨_, m4⟩, m5⟩ := m
  refine ⟨He.glo_ok X G (c.fact 31 (f := .glo "KINDS") rfl), fun H => He.tupB_ok m4 H, ?_⟩
  unfold tupPlain at m5
  split at m5
  · rename_i c dt sl q
    exact ⟨_, q, congrArg Value.type (of_decide_eq_true m5), rfl⟩
  · cases m5
theorem law_at {f : Addr} (X : K.In h) (G : h.Ns mainGlobals mg) (hfa : mg ("law" : PySem.Str) = some (.ref f)) (cx : He.SaysX fa fn [] tf ex w h K) :
    LamX.LawAtS PySem.Challenge.rw_archway_k51_whole_readers_of_machines w K CX0 8 63 "_law_script" mg f h := by
  have c : He.SaysD fa fn K := cx.t.d
  have e := hfa.symm.trans (He.glo_ok X G (c.fact 28 (f := .glo "law") rfl))
  cases e
  have GS := gs_of X G c
  have TC := tcls_of X G c
  have TV := tmv_of X G c cx.more
  have KN := kinds_of X G c cx.more
  have MK := He.mkr_ok (c.fact 47 (f := .mkr "Tables") rfl)
  obtain ⟨t60v, g60v⟩ := He.int_ok X G (c.fact 42 (f := .int "MOST_VALUES_values" 60) rfl)
  obtain ⟨t24, g24⟩ := He.int_ok X G (c.fact 43 (f := .int "MOST_LABELS" 24) rfl)
  obtain ⟨t60r, g60r⟩ := He.int_ok X G (c.fact 44 (f := .int "MOST_VALUES_readers" 60) rfl)
  obtain ⟨fd_next_values, F_next_values, e_next_values⟩ := got c 0 (d := d_next_values) (st := s_next_values) (f := He.ga K "next_values") (x := "next_values") (q := "next_values") rfl rfl rfl rfl rfl rfl rfl rfl rfl
  obtain ⟨fd_collect, F_collect, e_collect⟩ := got c 1 (d := d_collect) (st := s_collect) (f := He.ga K "collect") (x := "collect") (q := "collect") rfl rfl rfl rfl rfl rfl rfl rfl rfl
  obtain ⟨fd_tabled, F_tabled, e_tabled⟩ := got c 2 (d := d_tabled) (st := s_tabled) (f := He.ga K "tabled") (x := "tabled") (q := "tabled") rfl rfl rfl rfl rfl rfl rfl rfl rfl
  obtain ⟨fd_made_reader, F_made_reader, e_made_reader⟩ := got c 3 (d := d_made_reader) (st := s_made_reader) (f := He.ga K "made_reader") (x := "made_reader") (q := "made_reader") rfl rfl rfl rfl rfl rfl rfl rfl rfl
  obtain ⟨fd_init, F_init, e_init⟩ := got c 4 (d := d_Tables_init) (st := s_Tables_init) (f := He.ma K (He.ga K "Tables") "__init__") (x := "__init__") (q := "Tables.__init__") rfl rfl rfl rfl rfl rfl rfl rfl rfl
  obtain ⟨fd_pairs, F_pairs, e_pairs⟩ := got c 5 (d := d_Tables_from_pairs) (st := s_Tables_from_pairs) (f := He.ma K (He.ga K "Tables") "from_pairs") (x := "from_pairs") (q := "Tables.from_pairs") rfl rfl rfl rfl rfl rfl rfl rfl rfl
  obtain ⟨fd_empty, F_empty, e_empty⟩ := got c 6 (d := d_Tables_empty) (st := s_Tables_empty) (f := He.ma K (He.ga K "Tables") "empty") (x := "empty") (q := "Tables.empty") rfl rfl rfl rfl rfl rfl rfl rfl rfl
  obtain ⟨fd_letter, F_letter, e_letter⟩ := got c 7 (d := d_Tables_letter) (st := s_Tables_letter) (f := He.ma K (He.ga K "Tables") "letter") (x := "letter") (q := "Tables.letter") rfl rfl rfl rfl rfl rfl rfl rfl rfl
  obtain ⟨fd_join, F_join, e_join⟩ := got c 8 (d := d_Tables_join) (st := s_Tables_join) (f := He.ma K (He.ga K "Tables") "join") (x := "join") (q := "Tables.join") rfl rfl rfl rfl rfl rfl rfl rfl rfl
  obtain ⟨fd_around, F_around, e_around⟩ := got c 9 (d := d_Tables_around) (st := s_Tables_around) (f := He.ma K (He.ga K "Tables") "around") (x := "around") (q := "Tables.around") rfl rfl rfl rfl rfl rfl rfl rfl rfl
  obtain ⟨fd_acc, F_acc, e_acc⟩ := got c 10 (d := d_Tables_is_accepted) (st := s_Tables_is_accepted) (f := He.ma K (He.ga K "Tables") "is_accepted") (x := "is_accepted") (q := "Tables.is_accepted") rfl rfl rfl rfl rfl rfl rfl rfl rfl
  obtain ⟨fd_machine_reader, F_machine_reader, e_machine_reader⟩ := got c 11 (d := d_machine_reader) (st := s_machine_reader) (f := He.ga K "machine_reader") (x := "machine_reader") (q := "machine_reader") rfl rfl rfl rfl rfl rfl rfl rfl rfl
  obtain ⟨fd_isv, F_isv, e_isv⟩ := got c 12 (d := d_is_value) (st := s_is_value) (f := He.ga K "is_value") (x := "is_value") (q := "is_value") rfl rfl rfl rfl rfl rfl rfl rfl rfl
  obtain ⟨fd_ww, F_ww, e_ww⟩ := got c 13 (d := d_wrong_wrap) (st := s_wrong_wrap) (f := He.ga K "wrong_wrap") (x := "wrong_wrap") (q := "wrong_wrap") rfl rfl rfl rfl rfl rfl rfl rfl rfl
  obtain ⟨fd_isr, F_isr, e_isr⟩ := got c 14 (d := d_is_row) (st := s_is_row) (f := He.ga K "is_row") (x := "is_row") (q := "is_row") rfl rfl rfl rfl rfl rfl rfl rfl rfl
  obtain ⟨fd_sf, F_sf, e_sf⟩ := got c 15 (d := d_shape_fault) (st := s_shape_fault) (f := He.ga K "shape_fault") (x := "shape_fault") (q := "shape_fault") rfl rfl rfl rfl rfl rfl rfl rfl rfl
  obtain ⟨fd_asc, F_asc, e_asc⟩ := got c 16 (d := d_is_ascending) (st := s_is_ascending) (f := He.ga K "is_ascending") (x := "is_ascending") (q := "is_ascending") rfl rfl rfl rfl rfl rfl rfl rfl rfl
  obtain ⟨fd_fault, F_fault, e_fault⟩ := got c 17 (d := d_fault) (st := s_fault) (f := He.ga K "fault") (x := "fault") (q := "fault") rfl rfl rfl rfl rfl rfl rfl rfl rfl
  obtain ⟨fd_chk, F_chk, e_chk⟩ := got c 18 (d := d_check_labels) (st := s_check_labels) (f := He.ga K "check_labels") (x := "check_labels") (q := "check_labels") rfl rfl rfl rfl rfl rfl rfl rfl rfl
  obtain ⟨fd_vb, F_vb, e_vb⟩ := got c 19 (d := d_value_behind) (st := s_value_behind) (f := He.ga K "value_behind") (x := "value_behind") (q := "value_behind") rfl rfl rfl rfl rfl rfl rfl rfl rfl
  obtain ⟨fd_val, F_val, e_val⟩ := got c 20 (d := d_value) (st := s_value) (f := He.ga K "value") (x := "value") (q := "value") rfl rfl rfl rfl rfl rfl rfl rfl rfl
  obtain ⟨fd_accepts, F_accepts, e_accepts⟩ := got c 21 (d := d_accepts) (st := s_accepts) (f := He.ga K "accepts") (x := "accepts") (q := "accepts") rfl rfl rfl rfl rfl rfl rfl rfl rfl
  obtain ⟨fd_draw, F_draw, e_draw⟩ := got c 22 (d := d_L_draw) (st := s_L_draw) (f := He.ga K "_law_draw") (x := "_law_draw") (q := "_law_draw") rfl rfl rfl rfl rfl rfl rfl rfl rfl
  obtain ⟨fd_labels, F_labels, e_labels⟩ := got c 23 (d := d_L_labels) (st := s_L_labels) (f := He.ga K "_law_labels") (x := "_law_labels") (q := "_law_labels") rfl rfl rfl rfl rfl rfl rfl rfl rfl
  obtain ⟨fd_text, F_text, e_text⟩ := got c 24 (d := d_L_text) (st := s_L_text) (f := He.ga K "_law_text") (x := "_law_text") (q := "_law_text") rfl rfl rfl rfl rfl rfl rfl rfl rfl
  obtain ⟨fd_steps, F_steps, e_steps⟩ := got c 25 (d := d_L_steps_of) (st := s_L_steps_of) (f := He.ga K "_law_steps_of") (x := "_law_steps_of") (q := "_law_steps_of") rfl rfl rfl rfl rfl rfl rfl rfl rfl
  obtain ⟨fd_machine, F_machine, e_machine⟩ := got c 26 (d := d_L_machine) (st := s_L_machine) (f := He.ga K "_law_machine") (x := "_law_machine") (q := "_law_machine") rfl rfl rfl rfl rfl rfl rfl rfl rfl
  obtain ⟨fd_moves, F_moves, e_moves⟩ := got c 27 (d := d_L_moves) (st := s_L_moves) (f := He.ga K "_law_moves") (x := "_law_moves") (q := "_law_moves") rfl rfl rfl rfl rfl rfl rfl rfl rfl
  obtain ⟨fd_runs, F_runs, e_runs⟩ := got c 28 (d := d_L_runs) (st := s_L_runs) (f := He.ga K "_law_runs") (x := "_law_runs") (q := "_law_runs") rfl rfl rfl rfl rfl rfl rfl rfl rfl
  obtain ⟨fd_took, F_took, e_took⟩ := got c 29 (d := d_L_took) (st := s_L_took) (f := He.ga K "_law_took") (x := "_law_took") (q := "_law_took") rfl rfl rfl rfl rfl rfl rfl rfl rfl
  obtain ⟨fd_told, F_told, e_told⟩ := got c 30 (d := d_L_told) (st := s_L_told) (f := He.ga K "_law_told") (x := "_law_told") (q := "_law_told") rfl rfl rfl rfl rfl rfl rfl rfl rfl
  obtain ⟨fd_behind, F_behind, e_behind⟩ := got c 31 (d := d_L_behind) (st := s_L_behind) (f := He.ga K "_law_behind") (x := "_law_behind") (q := "_law_behind") rfl rfl rfl rfl rfl rfl rfl rfl rfl
  obtain ⟨fd_over, F_over, e_over⟩ := got c 32 (d := d_L_over) (st := s_L_over) (f := He.ga K "_law_over") (x := "_law_over") (q := "_law_over") rfl rfl rfl rfl rfl rfl rfl rfl rfl
  obtain ⟨fd_letterL, F_letterL, e_letterL⟩ := got c 33 (d := d_L_letter) (st := s_L_letter) (f := He.ga K "_law_letter") (x := "_law_letter") (q := "_law_letter") rfl rfl rfl rfl rfl rfl rfl rfl rfl
  obtain ⟨fd_tables, F_tables, e_tables⟩ := got c 34 (d := d_L_tables) (st := s_L_tables) (f := He.ga K "_law_tables") (x := "_law_tables") (q := "_law_tables") rfl rfl rfl rfl rfl rfl rfl rfl rfl
  obtain ⟨fd_law, F_law, e_law⟩ := got c 35 (d := d_law) (st := s_law) (f := He.ga K "law") (x := "law") (q := "law") rfl rfl rfl rfl rfl rfl rfl rfl rfl
  have b_next_values : Binds K fd_next_values ["table", "labels", "known"] [] := F_next_values.binds fun _ _ _ _ _ _ us hl => match us, hl with | [_, _, _], _ => rfl
  have b_collect : Binds K fd_collect ["table", "labels", "most"] [] := F_collect.binds fun _ _ _ _ _ _ us hl => match us, hl with | [_, _, _], _ => rfl
  have b_tabled : Binds K fd_tabled ["table", "labels", "found"] [] := F_tabled.binds fun _ _ _ _ _ _ us hl => match us, hl with | [_, _, _], _ => rfl
  have b_made_reader : Binds K fd_made_reader ["table", "labels", "most"] [] := F_made_reader.binds fun _ _ _ _ _ _ us hl => match us, hl with | [_, _, _], _ => rfl
  have b_init : Binds K fd_init ["self", "machine"] [] := F_init.binds fun _ _ _ _ _ _ us hl => match us, hl with | [_, _], _ => rfl
  have b_pairs : Binds K fd_pairs ["self", "pairs"] [] := F_pairs.binds fun _ _ _ _ _ _ us hl => match us, hl with | [_, _], _ => rfl
  have b_empty : Binds K fd_empty ["self"] [] := F_empty.binds fun _ _ _ _ _ _ us hl => match us, hl with | [_], _ => rfl
  have b_letter : Binds K fd_letter ["self", "a"] [] := F_letter.binds fun _ _ _ _ _ _ us hl => match us, hl with | [_, _], _ => rfl
  have b_join : Binds K fd_join ["self", "x", "y"] [] := F_join.binds fun _ _ _ _ _ _ us hl => match us, hl with | [_, _, _], _ => rfl
  have b_around : Binds K fd_around ["self", "a", "b", "x"] [] := F_around.binds fun _ _ _ _ _ _ us hl => match us, hl with | [_, _, _, _], _ => rfl
  have b_acc : Binds K fd_acc ["self", "x"] [] := F_acc.binds fun _ _ _ _ _ _ us hl => match us, hl with | [_, _], _ => rfl
  have b_machine_reader : Binds K fd_machine_reader ["labels", "machine"] [] := F_machine_reader.binds fun _ _ _ _ _ _ us hl => match us, hl with | [_, _], _ => rfl
  have b_isv : Binds K fd_isv ["reader", "value"] [] := F_isv.binds fun _ _ _ _ _ _ us hl => match us, hl with | [_, _], _ => rfl
  have b_ww : Binds K fd_ww ["reader"] [] := F_ww.binds fun _ _ _ _ _ _ us hl => match us, hl with | [_], _ => rfl
  have b_isr : Binds K fd_isr ["reader", "row"] [] := F_isr.binds fun _ _ _ _ _ _ us hl => match us, hl with | [_, _], _ => rfl
  have b_sf : Binds K fd_sf ["reader"] [] := F_sf.binds fun _ _ _ _ _ _ us hl => match us, hl with | [_], _ => rfl
  have b_asc : Binds K fd_asc ["row"] [] := F_asc.binds fun _ _ _ _ _ _ us hl => match us, hl with | [_], _ => rfl
  have b_fault : Binds K fd_fault ["reader"] [] := F_fault.binds fun _ _ _ _ _ _ us hl => match us, hl with | [_], _ => rfl
  have b_chk : Binds K fd_chk ["reader", "text"] [] := F_chk.binds fun _ _ _ _ _ _ us hl => match us, hl with | [_, _], _ => rfl
  have b_vb : Binds K fd_vb ["reader", "start", "text"] [] := F_vb.binds fun _ _ _ _ _ _ us hl => match us, hl with | [_, _, _], _ => rfl
  have b_val : Binds K fd_val ["reader", "text"] [] := F_val.binds fun _ _ _ _ _ _ us hl => match us, hl with | [_, _], _ => rfl
  have b_accepts : Binds K fd_accepts ["reader", "text"] [] := F_accepts.binds fun _ _ _ _ _ _ us hl => match us, hl with | [_, _], _ => rfl
  have b_draw : Binds K fd_draw ["_law_state", "_law_limit"] [] := F_draw.binds fun _ _ _ _ _ _ us hl => match us, hl with | [_, _], _ => rfl
  have b_labels : Binds K fd_labels ["_law_state"] [] := F_labels.binds fun _ _ _ _ _ _ us hl => match us, hl with | [_], _ => rfl
  have b_text : Binds K fd_text ["_law_state", "_law_labels_here", "_law_most"] [] := F_text.binds fun _ _ _ _ _ _ us hl => match us, hl with | [_, _, _], _ => rfl
  have b_steps : Binds K fd_steps ["_law_state", "_law_size", "_law_limits"] [] := F_steps.binds fun _ _ _ _ _ _ us hl => match us, hl with | [_, _, _], _ => rfl
  have b_machine : Binds K fd_machine ["_law_state", "_law_labels_here"] [] := F_machine.binds fun _ _ _ _ _ _ us hl => match us, hl with | [_, _], _ => rfl
  have b_moves : Binds K fd_moves ["_law_machine_here", "_law_place", "_law_state", "_law_stack"] [] := F_moves.binds fun _ _ _ _ _ _ us hl => match us, hl with | [_, _, _, _], _ => rfl
  have b_runs : Binds K fd_runs ["_law_machine_here", "_law_row"] [] := F_runs.binds fun _ _ _ _ _ _ us hl => match us, hl with | [_, _], _ => rfl
  have b_took : Binds K fd_took ["_law_machine_here", "_law_row"] [] := F_took.binds fun _ _ _ _ _ _ us hl => match us, hl with | [_, _], _ => rfl
  have b_told : Binds K fd_told ["_law_labels_here", "_law_machine_here"] [] := F_told.binds fun _ _ _ _ _ _ us hl => match us, hl with | [_, _], _ => rfl
  have b_behind : Binds K fd_behind ["_law_one", "_law_two"] [] := F_behind.binds fun _ _ _ _ _ _ us hl => match us, hl with | [_, _], _ => rfl
  have b_over : Binds K fd_over ["_law_machine_here", "_law_a", "_law_b", "_law_table"] [] := F_over.binds fun _ _ _ _ _ _ us hl => match us, hl with | [_, _, _, _], _ => rfl
  have b_letterL : Binds K fd_letterL ["_law_machine_here", "_law_a"] [] := F_letterL.binds fun _ _ _ _ _ _ us hl => match us, hl with | [_, _], _ => rfl
  have b_tables : Binds K fd_tables ["_law_labels_here", "_law_machine_here"] [] := F_tables.binds fun _ _ _ _ _ _ us hl => match us, hl with | [_, _], _ => rfl
  have b_law : Binds K fd_law ["_law_script"] [] := F_law.binds fun _ _ _ _ _ _ us hl => match us, hl with | [_], _ => rfl
  have tG : ∀ {H : Hp} {p : He.Defn}, (∀ q ∈ tf.map (He.cT K), H q.2 = some (.tbl #[])) → p ∈ tf → GxR.TabG H (He.cT K p).2 := fun {H p} hH hp => ⟨#[], hH _ (List.mem_map_of_mem hp), trivial⟩
  refine ⟨fd_law, tf.map (He.cT K), spLaw K (He.cT K ("collect", none)).2 (He.cT K ("Tables", some "is_accepted")).2 (He.cT K ("is_row", none)).2 (He.cT K ("shape_fault", none)).2 (He.cT K ("is_ascending", none)).2, fun p hp => ?_, fun p hp => ?_, fun p hp => ?_, fun s u => ?_, fun H a ns hl _ hH hS => ?_, fun base KB GB TB => ?_⟩
  · obtain ⟨q, hq, rfl⟩ := List.mem_map.mp hp
    exact cx.empty q hq
  · obtain ⟨q, hq, rfl⟩ := List.mem_map.mp hp
    exact cx.out q hq
  · obtain ⟨q, hq, rfl⟩ := List.mem_map.mp hp
    exact PySem.W.codeHd_of_K X (cx.hd q hq)
  · obtain ⟨oc, od, kV, doc, pm, an, cdv, ct, osl, rfl, lk, hcd⟩ := F_law.ex
    exact .of_eq rfl
  · exact ⟨a, ns, rfl, hS, tG hH (List.mem_of_getElem? (i := 0) rfl), tG hH (List.mem_of_getElem? (i := 4) rfl), tG hH (List.mem_of_getElem? (i := 1) rfl), tG hH (List.mem_of_getElem? (i := 2) rfl), tG hH (List.mem_of_getElem? (i := 3) rfl), fun _ => rfl⟩
  · have tB : ∀ {p : He.Defn}, p ∈ tf → GxR.TabB base mg (He.cT K p).1 (He.cT K p).2 := fun {p} hp => tabX (TB _ (List.mem_map_of_mem hp))
    have tb_collect := tB (p := ("collect", none)) (List.mem_of_getElem? (i := 0) rfl)
    have tb_isr := tB (p := ("is_row", none)) (List.mem_of_getElem? (i := 1) rfl)
    have tb_sf := tB (p := ("shape_fault", none)) (List.mem_of_getElem? (i := 2) rfl)
    have tb_asc := tB (p := ("is_ascending", none)) (List.mem_of_getElem? (i := 3) rfl)
    have tb_acc := tB (p := ("Tables", some "is_accepted")) (List.mem_of_getElem? (i := 4) rfl)
    have c_pairs : Mth (PySem.Challenge.rw_archway_k51_whole_readers_of_machines.prog) w K mg base 1 (He.ga K "Tables") "from_pairs" ["self", "pairs"] (spPairs K (He.ga K "Tables")) (He.ma K (He.ga K "Tables") "from_pairs") fd_pairs := ⟨He.meth_ok (c.fact 48 (f := .meth "Tables" "from_pairs") rfl), ok_pairs F_pairs TC GS, b_pairs⟩
    have c_empty : Mth (PySem.Challenge.rw_archway_k51_whole_readers_of_machines.prog) w K mg base 1 (He.ga K "Tables") "empty" ["self"] (spEmpty K (He.ga K "Tables")) (He.ma K (He.ga K "Tables") "empty") fd_empty := ⟨He.meth_ok (c.fact 49 (f := .meth "Tables" "empty") rfl), ok_empty F_empty TC GS, b_empty⟩
    have c_letter : Mth (PySem.Challenge.rw_archway_k51_whole_readers_of_machines.prog) w K mg base 2 (He.ga K "Tables") "letter" ["self", "a"] (spLetter K (He.ga K "Tables")) (He.ma K (He.ga K "Tables") "letter") fd_letter := ⟨He.meth_ok (c.fact 50 (f := .meth "Tables" "letter") rfl), ok_letter F_letter TC GS c_pairs, b_letter⟩
    have c_join : Mth (PySem.Challenge.rw_archway_k51_whole_readers_of_machines.prog) w K mg base 1 (He.ga K "Tables") "join" ["self", "x", "y"] (spJoin K (He.ga K "Tables")) (He.ma K (He.ga K "Tables") "join") fd_join := ⟨He.meth_ok (c.fact 51 (f := .meth "Tables" "join") rfl), ok_join F_join GS, b_join⟩
    have c_around : Mth (PySem.Challenge.rw_archway_k51_whole_readers_of_machines.prog) w K mg base 2 (He.ga K "Tables") "around" ["self", "a", "b", "x"] (spAround K (He.ga K "Tables")) (He.ma K (He.ga K "Tables") "around") fd_around := ⟨He.meth_ok (c.fact 52 (f := .meth "Tables" "around") rfl), ok_around F_around TC c_pairs, b_around⟩
    have c_acc : Mth (PySem.Challenge.rw_archway_k51_whole_readers_of_machines.prog) w K mg base 2 (He.ga K "Tables") "is_accepted" ["self", "x"] (spAcc K (He.ga K "Tables") (He.cT K ("Tables", some "is_accepted")).2) (He.ma K (He.ga K "Tables") "is_accepted") fd_acc := ⟨He.meth_ok (c.fact 53 (f := .meth "Tables" "is_accepted") rfl), ok_acc F_acc e_acc tb_acc TC GS, b_acc⟩
    have c_next_values : Cal (PySem.Challenge.rw_archway_k51_whole_readers_of_machines.prog) w K mg base CX0 3 "next_values" ["table", "labels", "known"] (spNext K (He.ga K "Tables")) (He.ga K "next_values") fd_next_values := ⟨He.glo_ok X G (c.fact 0 (f := .glo "next_values") rfl), ok_next F_next_values TC GS c_join c_around, F_next_values.kp, b_next_values⟩
    have c_collect : Cal (PySem.Challenge.rw_archway_k51_whole_readers_of_machines.prog) w K mg base CX0 4 "collect" ["table", "labels", "most"] (spCollect K (He.ga K "Tables") (He.cT K ("collect", none)).2) (He.ga K "collect") fd_collect := ⟨He.glo_ok X G (c.fact 1 (f := .glo "collect") rfl), ok_collect F_collect e_collect tb_collect TC GS c_empty c_letter c_next_values, F_collect.kp, b_collect⟩
    have c_tabled : Cal (PySem.Challenge.rw_archway_k51_whole_readers_of_machines.prog) w K mg base CX0 3 "tabled" ["table", "labels", "found"] (spTabled K (He.ga K "Tables") (He.cT K ("Tables", some "is_accepted")).2) (He.ga K "tabled") fd_tabled := ⟨He.glo_ok X G (c.fact 2 (f := .glo "tabled") rfl), ok_tabled F_tabled TC GS c_empty c_letter c_join c_around c_acc, F_tabled.kp, b_tabled⟩
    have c_made_reader : Cal (PySem.Challenge.rw_archway_k51_whole_readers_of_machines.prog) w K mg base (L2.CX (PySem.Challenge.rw_archway_k51_whole_readers_of_machines.prog) w) 5 "made_reader" ["table", "labels", "most"] (spMade K (He.ga K "Tables") (He.ga K "TooManyValues") (He.cT K ("collect", none)).2 (He.cT K ("Tables", some "is_accepted")).2) (He.ga K "made_reader") fd_made_reader := ⟨He.glo_ok X G (c.fact 3 (f := .glo "made_reader") rfl), ok_made F_made_reader TV c_collect c_tabled, F_made_reader.kp, b_made_reader⟩
    have c_machine_reader : Cal (PySem.Challenge.rw_archway_k51_whole_readers_of_machines.prog) w K mg base (L2.CX (PySem.Challenge.rw_archway_k51_whole_readers_of_machines.prog) w) 6 "machine_reader" ["labels", "machine"] (spMach K (He.ga K "TooManyValues") (He.cT K ("collect", none)).2 (He.cT K ("Tables", some "is_accepted")).2) (He.ga K "machine_reader") fd_machine_reader := ⟨He.glo_ok X G (c.fact 4 (f := .glo "machine_reader") rfl), ok_mach F_machine_reader TC MK (ok_init F_init TC) b_init g60v c_made_reader, F_machine_reader.kp, b_machine_reader⟩
    have c_told : Cal (PySem.Challenge.rw_archway_k51_whole_readers_of_machines.prog) w K mg base CX0 7 "_law_told" ["_law_labels_here", "_law_machine_here"] (spTold K (He.cT K ("collect", none)).2 (He.cT K ("Tables", some "is_accepted")).2) (He.ga K "_law_told") fd_told := ⟨He.glo_ok X G (c.fact 23 (f := .glo "_law_told") rfl), ok_told F_told TV c_machine_reader, F_told.kp, b_told⟩
    have c_isv : Cal (PySem.Challenge.rw_archway_k51_whole_readers_of_machines.prog) w K mg base CX0 1 "is_value" ["reader", "value"] (spIsV K) (He.ga K "is_value") fd_isv := ⟨He.glo_ok X G (c.fact 5 (f := .glo "is_value") rfl), ok_isv F_isv GS, F_isv.kp, b_isv⟩
    have c_isr : Cal (PySem.Challenge.rw_archway_k51_whole_readers_of_machines.prog) w K mg base CX0 3 "is_row" ["reader", "row"] (spIsR K (He.cT K ("is_row", none)).2) (He.ga K "is_row") fd_isr := ⟨He.glo_ok X G (c.fact 7 (f := .glo "is_row") rfl), ok_isr F_isr e_isr tb_isr GS c_isv, F_isr.kp, b_isr⟩
    have c_asc : Cal (PySem.Challenge.rw_archway_k51_whole_readers_of_machines.prog) w K mg base CX0 2 "is_ascending" ["row"] (spAsc K (He.cT K ("is_ascending", none)).2) (He.ga K "is_ascending") fd_asc := ⟨He.glo_ok X G (c.fact 9 (f := .glo "is_ascending") rfl), ok_asc F_asc e_asc tb_asc GS, F_asc.kp, b_asc⟩
    have c_ww : Cal (PySem.Challenge.rw_archway_k51_whole_readers_of_machines.prog) w K mg base CX0 4 "wrong_wrap" ["reader"] (spWW K (He.cT K ("is_row", none)).2) (He.ga K "wrong_wrap") fd_ww := ⟨He.glo_ok X G (c.fact 6 (f := .glo "wrong_wrap") rfl), ok_ww F_ww GS c_isr, F_ww.kp, b_ww⟩
    have c_sf : Cal (PySem.Challenge.rw_archway_k51_whole_readers_of_machines.prog) w K mg base CX0 5 "shape_fault" ["reader"] (spSF K (He.cT K ("is_row", none)).2 (He.cT K ("shape_fault", none)).2 (He.cT K ("is_ascending", none)).2) (He.ga K "shape_fault") fd_sf := ⟨He.glo_ok X G (c.fact 8 (f := .glo "shape_fault") rfl), ok_sf F_sf e_sf tb_sf GS g24 g60r c_isv c_isr c_asc c_ww, F_sf.kp, b_sf⟩
    have c_fault : Cal (PySem.Challenge.rw_archway_k51_whole_readers_of_machines.prog) w K mg base CX0 6 "fault" ["reader"] (spFault K (He.cT K ("is_row", none)).2 (He.cT K ("shape_fault", none)).2 (He.cT K ("is_ascending", none)).2) (He.ga K "fault") fd_fault := ⟨He.glo_ok X G (c.fact 10 (f := .glo "fault") rfl), ok_fault F_fault GS c_sf, F_fault.kp, b_fault⟩
    have c_chk : Cal (PySem.Challenge.rw_archway_k51_whole_readers_of_machines.prog) w K mg base CX0 1 "check_labels" ["reader", "text"] (spChk K) (He.ga K "check_labels") fd_chk := ⟨He.glo_ok X G (c.fact 11 (f := .glo "check_labels") rfl), ok_chk F_chk GS KN, F_chk.kp, b_chk⟩
    have c_vb : Cal (PySem.Challenge.rw_archway_k51_whole_readers_of_machines.prog) w K mg base CX0 2 "value_behind" ["reader", "start", "text"] (spVB K) (He.ga K "value_behind") fd_vb := ⟨He.glo_ok X G (c.fact 12 (f := .glo "value_behind") rfl), ok_vb F_vb c_chk, F_vb.kp, b_vb⟩
    have c_val : Cal (PySem.Challenge.rw_archway_k51_whole_readers_of_machines.prog) w K mg base CX0 3 "value" ["reader", "text"] (spVal K) (He.ga K "value") fd_val := ⟨He.glo_ok X G (c.fact 13 (f := .glo "value") rfl), ok_val F_val c_vb, F_val.kp, b_val⟩
    have c_accepts : Cal (PySem.Challenge.rw_archway_k51_whole_readers_of_machines.prog) w K mg base CX0 4 "accepts" ["reader", "text"] (spAccepts K) (He.ga K "accepts") fd_accepts := ⟨He.glo_ok X G (c.fact 14 (f := .glo "accepts") rfl), ok_accepts F_accepts c_val, F_accepts.kp, b_accepts⟩
    have c_draw : Cal (PySem.Challenge.rw_archway_k51_whole_readers_of_machines.prog) w K mg base CX0 1 "_law_draw" ["_law_state", "_law_limit"] (spDraw K) (He.ga K "_law_draw") fd_draw := ⟨He.glo_ok X G (c.fact 15 (f := .glo "_law_draw") rfl), ok_draw F_draw GS, F_draw.kp, b_draw⟩
    have c_labels : Cal (PySem.Challenge.rw_archway_k51_whole_readers_of_machines.prog) w K mg base CX0 2 "_law_labels" ["_law_state"] (spLabels K) (He.ga K "_law_labels") fd_labels := ⟨He.glo_ok X G (c.fact 16 (f := .glo "_law_labels") rfl), ok_labels F_labels GS c_draw, F_labels.kp, b_labels⟩
    have c_text : Cal (PySem.Challenge.rw_archway_k51_whole_readers_of_machines.prog) w K mg base CX0 2 "_law_text" ["_law_state", "_law_labels_here", "_law_most"] (spText K) (He.ga K "_law_text") fd_text := ⟨He.glo_ok X G (c.fact 17 (f := .glo "_law_text") rfl), ok_text F_text GS c_draw, F_text.kp, b_text⟩
    have c_steps : Cal (PySem.Challenge.rw_archway_k51_whole_readers_of_machines.prog) w K mg base CX0 2 "_law_steps_of" ["_law_state", "_law_size", "_law_limits"] (spSteps K) (He.ga K "_law_steps_of") fd_steps := ⟨He.glo_ok X G (c.fact 18 (f := .glo "_law_steps_of") rfl), ok_steps F_steps GS c_draw, F_steps.kp, b_steps⟩
    have c_machine : Cal (PySem.Challenge.rw_archway_k51_whole_readers_of_machines.prog) w K mg base CX0 3 "_law_machine" ["_law_state", "_law_labels_here"] (spMachine K) (He.ga K "_law_machine") fd_machine := ⟨He.glo_ok X G (c.fact 19 (f := .glo "_law_machine") rfl), ok_machine F_machine GS c_draw c_steps, F_machine.kp, b_machine⟩
    have c_moves : Cal (PySem.Challenge.rw_archway_k51_whole_readers_of_machines.prog) w K mg base CX0 1 "_law_moves" ["_law_machine_here", "_law_place", "_law_state", "_law_stack"] (spMoves K) (He.ga K "_law_moves") fd_moves := ⟨He.glo_ok X G (c.fact 20 (f := .glo "_law_moves") rfl), ok_moves F_moves GS, F_moves.kp, b_moves⟩
    have c_runs : Cal (PySem.Challenge.rw_archway_k51_whole_readers_of_machines.prog) w K mg base CX0 2 "_law_runs" ["_law_machine_here", "_law_row"] (spRuns K) (He.ga K "_law_runs") fd_runs := ⟨He.glo_ok X G (c.fact 21 (f := .glo "_law_runs") rfl), ok_runs (fun d hd => apart_all w hd) F_runs GS c_moves, F_runs.kp, b_runs⟩
    have c_took : Cal (PySem.Challenge.rw_archway_k51_whole_readers_of_machines.prog) w K mg base CX0 3 "_law_took" ["_law_machine_here", "_law_row"] (spTook K) (He.ga K "_law_took") fd_took := ⟨He.glo_ok X G (c.fact 22 (f := .glo "_law_took") rfl), ok_took F_took GS c_runs, F_took.kp, b_took⟩
    have c_behind : Cal (PySem.Challenge.rw_archway_k51_whole_readers_of_machines.prog) w K mg base CX0 1 "_law_behind" ["_law_one", "_law_two"] (spBehind K) (He.ga K "_law_behind") fd_behind := ⟨He.glo_ok X G (c.fact 24 (f := .glo "_law_behind") rfl), ok_behind F_behind GS, F_behind.kp, b_behind⟩
    have c_over : Cal (PySem.Challenge.rw_archway_k51_whole_readers_of_machines.prog) w K mg base CX0 1 "_law_over" ["_law_machine_here", "_law_a", "_law_b", "_law_table"] (spOver K) (He.ga K "_law_over") fd_over := ⟨He.glo_ok X G (c.fact 25 (f := .glo "_law_over") rfl), ok_over F_over GS, F_over.kp, b_over⟩
    have c_letterL : Cal (PySem.Challenge.rw_archway_k51_whole_readers_of_machines.prog) w K mg base CX0 1 "_law_letter" ["_law_machine_here", "_law_a"] (spLetterL K) (He.ga K "_law_letter") fd_letterL := ⟨He.glo_ok X G (c.fact 26 (f := .glo "_law_letter") rfl), ok_letterL F_letterL GS, F_letterL.kp, b_letterL⟩
    have c_tables : Cal (PySem.Challenge.rw_archway_k51_whole_readers_of_machines.prog) w K mg base CX0 2 "_law_tables" ["_law_labels_here", "_law_machine_here"] (spTables K) (He.ga K "_law_tables") fd_tables := ⟨He.glo_ok X G (c.fact 27 (f := .glo "_law_tables") rfl), ok_tables F_tables GS c_letterL c_behind c_over, F_tables.kp, b_tables⟩
    exact ok_law F_law GS c_labels c_machine c_told c_tables c_letterL c_behind c_fault c_text c_accepts c_took
end
end K51
open PySem PySem.W PySem.Calls PyProof.Rows
theorem PySem.Challenge.cw_archway_k51_whole_readers_of_machines_holds : PySem.Challenge.rw_archway_k51_whole_readers_of_machines.Holds := by
  w_on; o_law
  refine HandSHeadRun.head_any (r := OpenLaw.row PySem.Challenge.rw_archway_k51_whole_readers_of_machines) (q := view (OpenLaw.row PySem.Challenge.rw_archway_k51_whole_readers_of_machines).prog [42]) (H := K51.hk) (ob := K51.ob) (M := 4000) (loose := K51.names) (d := HandSHeadRun.topDef (OpenLaw.row PySem.Challenge.rw_archway_k51_whole_readers_of_machines).prog 42) (kwd := []) K51.ob_eq
    (by kernel_rfl) (fun s => by kernel_rfl) K51.run (by kernel_rfl) (by kernel_rfl) (by kernel_rfl) (by rfl) (by first | assumption | decide +kernel) (by decide +kernel) ⟨rfl, rfl, rfl, rfl, rfl, by decide +kernel⟩ ?hw ?hc
  case hw => w_witness2
  case hc =>
    refine LamX.walk_ofTsE (l := PySem.Challenge.rw_archway_k51_whole_readers_of_machines) (n := 63) (k := 8) (x := "_law_script") (CX := fun _ => L2.CX0) rfl (by decide) (by kernel_rfl) ⟨rfl, by decide, by decide⟩ ?F (fun _ _ _ _ _ z => z)
    intro w mg fa h Y G hmg0
    obtain ⟨K, KX, c⟩ := Y
    have hmg : mg ("law" : PySem.Str) = some (.ref fa) := by
      have e : (HandSHeadRun.topDef (OpenLaw.row PySem.Challenge.rw_archway_k51_whole_readers_of_machines).prog 42).name = ("law" : PySem.Str) := by kernel_rfl
      rw [← e]
      exact hmg0
    exact ⟨K, KX, K51.law_at KX G hmg c⟩
end
