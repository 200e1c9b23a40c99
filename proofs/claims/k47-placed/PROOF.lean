import PyProof.Rows.All
import Wide.All
import OpenK.AllK
import Wide.FinOn
import HandS.ForMost
import HandS.IsInst
import HandS.Flow
import PySem.Challenge.RW_galleypapers_k47_whole_stacks_placed
set_option Elab.async false
set_option linter.all false
set_option maxRecDepth 100000
set_option maxHeartbeats 8000000
/-! The mathematics of law k47: what the functions reckon, in plain Lean. -/
namespace K47
open PySem

/-- a row of a part (x, use, glyphs); a gap (height, stretch, shrink); a placed row (x, y, use, glyphs) -/
abbrev Row := Int × Str × List Str
abbrev Gap := Int × Int × Int
abbrev Out := Int × Int × Str × List Str
inductive Part where
  | row (h d : Int) (rows : List Row)
  | gap (g : Gap)

/-! ### shares -/
def upto (T A z : Int) : Int := if 0 < T then A * z / T else 0
theorem upto_zero (T A : Int) : upto T A 0 = 0 := by
  unfold upto
  split
  · rw [Int.mul_zero, Int.zero_ediv]
  · rfl
theorem upto_all {T : Int} (A : Int) (h : 0 < T) : upto T A T = A := by
  unfold upto
  rw [if_pos h]
  exact Int.mul_ediv_cancel _ (by omega)
theorem upto_none {T : Int} (A z : Int) (h : ¬ 0 < T) : upto T A z = 0 := by
  unfold upto
  rw [if_neg h]
def shareAt (ps : List Int) (A : Int) (j : Nat) : Int := upto ps.sum A (ps.take (j + 1)).sum - upto ps.sum A (ps.take j).sum
def sharesTo (ps : List Int) (A : Int) (n : Nat) : List Int := (List.range n).map (shareAt ps A)
def sharesF (ps : List Int) (A : Int) : List Int := sharesTo ps A ps.length
theorem sharesTo_succ (ps : List Int) (A : Int) (n : Nat) : sharesTo ps A (n + 1) = sharesTo ps A n ++ [shareAt ps A n] := by
  unfold sharesTo
  rw [List.range_succ, List.map_append]
  rfl
theorem sharesTo_length (ps : List Int) (A : Int) (n : Nat) : (sharesTo ps A n).length = n := by
  unfold sharesTo
  rw [List.length_map, List.length_range]
theorem sharesF_length (ps : List Int) (A : Int) : (sharesF ps A).length = ps.length := sharesTo_length _ _ _
theorem sharesTo_sum (ps : List Int) (A : Int) : ∀ n, (sharesTo ps A n).sum = upto ps.sum A (ps.take n).sum
  | 0 => by
    show (0 : Int) = upto ps.sum A 0
    rw [upto_zero]
  | n + 1 => by
    rw [sharesTo_succ, List.sum_append, sharesTo_sum ps A n]
    show _ + (shareAt ps A n + 0) = _
    unfold shareAt
    omega
theorem sharesF_sum (ps : List Int) (A : Int) : (sharesF ps A).sum = if 0 < ps.sum then A else 0 := by
  unfold sharesF
  rw [sharesTo_sum, List.take_length]
  split
  · rename_i h
    exact upto_all A h
  · rename_i h
    exact upto_none A _ h
theorem sharesTo_get (ps : List Int) (A : Int) {n i : Nat} (h : i < n) : (sharesTo ps A n)[i]? = some (shareAt ps A i) := by
  unfold sharesTo
  rw [List.getElem?_map, List.getElem?_range h]
  rfl
theorem sharesF_get (ps : List Int) (A : Int) {i : Nat} (h : i < ps.length) : (sharesF ps A)[i]? = some (shareAt ps A i) := sharesTo_get ps A h

/-! ### glue -/
def wid (gs : List Gap) : List Int := gs.map (·.1)
def str (gs : List Gap) : List Int := gs.map (·.2.1)
def shr (gs : List Gap) : List Int := gs.map (·.2.2)
/-- what is shared among the shrinks -/
def less (gs : List Gap) (A : Int) : Int := if (shr gs).sum < -A then (shr gs).sum else -A
/-- w and m item by item -/
def plus (gs : List Gap) (ms : List Int) : List Int := List.zipWith (fun g m => g.1 + m) gs ms
def minus (gs : List Gap) (ms : List Int) : List Int := List.zipWith (fun g m => g.1 - m) gs ms
def glueF (gs : List Gap) (A : Int) : List Int :=
  if 0 ≤ A then plus gs (sharesF (str gs) A) else minus gs (sharesF (shr gs) (less gs A))
theorem str_length (gs : List Gap) : (str gs).length = gs.length := List.length_map ..
theorem shr_length (gs : List Gap) : (shr gs).length = gs.length := List.length_map ..
theorem glueF_length (gs : List Gap) (A : Int) : (glueF gs A).length = gs.length := by
  unfold glueF
  split
  · unfold plus
    rw [List.length_zipWith, sharesF_length, str_length, Nat.min_self]
  · unfold minus
    rw [List.length_zipWith, sharesF_length, shr_length, Nat.min_self]
theorem plus_sum : ∀ (gs : List Gap) (ms : List Int), gs.length = ms.length → (plus gs ms).sum = (wid gs).sum + ms.sum
  | [], [], _ => rfl
  | [], _ :: _, h => by simp at h
  | _ :: _, [], h => by simp at h
  | g :: gs, m :: ms, h => by
    have ih := plus_sum gs ms (by simpa using h)
    show ((g.1 + m) :: plus gs ms).sum = (g.1 :: wid gs).sum + (m :: ms).sum
    rw [List.sum_cons, List.sum_cons, List.sum_cons, ih]
    omega
theorem minus_sum : ∀ (gs : List Gap) (ms : List Int), gs.length = ms.length → (minus gs ms).sum = (wid gs).sum - ms.sum
  | [], [], _ => rfl
  | [], _ :: _, h => by simp at h
  | _ :: _, [], h => by simp at h
  | g :: gs, m :: ms, h => by
    have ih := minus_sum gs ms (by simpa using h)
    show ((g.1 - m) :: minus gs ms).sum = (g.1 :: wid gs).sum - (m :: ms).sum
    rw [List.sum_cons, List.sum_cons, List.sum_cons, ih]
    omega
theorem glueF_sum (gs : List Gap) (A : Int) : (glueF gs A).sum = if 0 ≤ A then (wid gs).sum + (if 0 < (str gs).sum then A else 0) else (wid gs).sum - (if 0 < (shr gs).sum then less gs A else 0) := by
  unfold glueF
  split
  · rw [plus_sum _ _ (by rw [sharesF_length, str_length]), sharesF_sum]
  · rw [minus_sum _ _ (by rw [sharesF_length, shr_length]), sharesF_sum]
theorem zip_take {f : Gap → Int → Int} : ∀ (gs : List Gap) (ms : List Int) (i : Nat) (g : Gap) (m : Int), gs[i]? = some g → ms[i]? = some m → (List.zipWith f gs ms).take (i + 1) = (List.zipWith f gs ms).take i ++ [f g m]
  | [], _, _, _, _, h, _ => by simp at h
  | _ :: _, [], _, _, _, _, h => by simp at h
  | a :: gs, b :: ms, 0, g, m, h1, h2 => by
    have e1 : a = g := Option.some.inj h1
    have e2 : b = m := Option.some.inj h2
    rw [e1, e2]
    rfl
  | a :: gs, b :: ms, i + 1, g, m, h1, h2 => by
    have ih := zip_take gs ms i g m h1 h2 (f := f)
    show f a b :: (List.zipWith f gs ms).take (i + 1) = f a b :: ((List.zipWith f gs ms).take i ++ [f g m])
    rw [ih]

/-! ### the stack -/
def Part.top : Part → Int
  | .row h _ _ => h
  | .gap g => g.1
def Part.size : Part → Int
  | .row h d _ => h + d
  | .gap g => g.1
def Part.body : Part → Int
  | .row h d _ => h + d
  | .gap _ => 0
def Part.dep? : Part → Option Int
  | .row _ d _ => some d
  | .gap _ => none
def Part.gap? : Part → Option Gap
  | .row .. => none
  | .gap g => some g
def tops (ps : List Part) : List Int := ps.map Part.top
def deps (ps : List Part) : List Int := ps.filterMap Part.dep?
def gaps (ps : List Part) : List Gap := ps.filterMap Part.gap?
def sizes (ps : List Part) : List Int := ps.map Part.size
def bodies (ps : List Part) : List Int := ps.map Part.body
theorem tops_deps : ∀ ps : List Part, (tops ps).sum + (deps ps).sum = (sizes ps).sum
  | [] => rfl
  | .row h d rows :: ps => by
    have ih := tops_deps ps
    show (h :: tops ps).sum + (d :: deps ps).sum = ((h + d) :: sizes ps).sum
    rw [List.sum_cons, List.sum_cons, List.sum_cons]
    omega
  | .gap g :: ps => by
    have ih := tops_deps ps
    show (g.1 :: tops ps).sum + (deps ps).sum = (g.1 :: sizes ps).sum
    rw [List.sum_cons, List.sum_cons]
    omega
theorem sizes_bodies : ∀ ps : List Part, (sizes ps).sum = (bodies ps).sum + (wid (gaps ps)).sum
  | [] => rfl
  | .row h d rows :: ps => by
    have ih := sizes_bodies ps
    show ((h + d) :: sizes ps).sum = ((h + d) :: bodies ps).sum + (wid (gaps ps)).sum
    rw [List.sum_cons, List.sum_cons]
    omega
  | .gap g :: ps => by
    have ih := sizes_bodies ps
    show (g.1 :: sizes ps).sum = ((0 : Int) :: bodies ps).sum + (g.1 :: wid (gaps ps)).sum
    rw [List.sum_cons, List.sum_cons, List.sum_cons]
    omega

/-- the rows so far, the place, the number of gaps behind -/
abbrev Pl := List Out × Int × Nat
def rowsAt (y : Int) (rows : List Row) : List Out := rows.map fun r => (r.1, y, r.2.1, r.2.2)
def step (hs : List Int) (s : Pl) : Part → Pl
  | .row h d rows => (s.1 ++ rowsAt (s.2.1 + h) rows, s.2.1 + h + d, s.2.2)
  | .gap _ => (s.1, s.2.1 + hs.getD s.2.2 0, s.2.2 + 1)
def run (hs : List Int) (ps : List Part) : Pl := ps.foldl (step hs) ([], 0, 0)
theorem run_take {hs : List Int} {ps : List Part} {i : Nat} {p : Part} (h : ps[i]? = some p) : run hs (ps.take (i + 1)) = step hs (run hs (ps.take i)) p := by
  unfold run
  rw [List.take_add_one, h, List.foldl_append]
  rfl
theorem fold_at (hs : List Int) : ∀ (ps : List Part) (s : Pl), (ps.foldl (step hs) s).2.2 = s.2.2 + (gaps ps).length
  | [], _ => rfl
  | .row h d rows :: ps, s => by
    show (ps.foldl (step hs) (step hs s (.row h d rows))).2.2 = _
    rw [fold_at hs ps]
    rfl
  | .gap g :: ps, s => by
    show (ps.foldl (step hs) (step hs s (.gap g))).2.2 = s.2.2 + ((gaps ps).length + 1)
    rw [fold_at hs ps]
    show s.2.2 + 1 + (gaps ps).length = _
    omega
theorem run_at (hs : List Int) (ps : List Part) : (run hs ps).2.2 = (gaps ps).length := by
  unfold run
  rw [fold_at]
  show 0 + _ = _
  omega
theorem drop_sum (hs : List Int) (n k : Nat) : ((hs.drop n).take (k + 1)).sum = hs.getD n 0 + ((hs.drop (n + 1)).take k).sum := by
  by_cases h : n < hs.length
  · rw [List.drop_eq_getElem_cons h]
    show (hs[n] :: (hs.drop (n + 1)).take k).sum = _
    rw [List.sum_cons, List.getD_eq_getElem?_getD, List.getElem?_eq_getElem h]
    rfl
  · rw [List.drop_eq_nil_of_le (by omega), List.drop_eq_nil_of_le (by omega), List.getD_eq_getElem?_getD, List.getElem?_eq_none (by omega)]
    simp
theorem fold_y (hs : List Int) : ∀ (ps : List Part) (s : Pl), (ps.foldl (step hs) s).2.1 = s.2.1 + (bodies ps).sum + ((hs.drop s.2.2).take (gaps ps).length).sum
  | [], s => by
    show s.2.1 = s.2.1 + 0 + ((hs.drop s.2.2).take 0).sum
    rw [List.take_zero]
    show s.2.1 = s.2.1 + 0 + 0
    omega
  | .row h d rows :: ps, s => by
    show (ps.foldl (step hs) (step hs s (.row h d rows))).2.1 = s.2.1 + ((h + d) :: bodies ps).sum + ((hs.drop s.2.2).take (gaps ps).length).sum
    rw [fold_y hs ps, List.sum_cons]
    show s.2.1 + h + d + _ + _ = _
    have e : (step hs s (.row h d rows)).2.2 = s.2.2 := rfl
    rw [e]
    omega
  | .gap g :: ps, s => by
    show (ps.foldl (step hs) (step hs s (.gap g))).2.1 = s.2.1 + ((0 : Int) :: bodies ps).sum + ((hs.drop s.2.2).take ((gaps ps).length + 1)).sum
    rw [fold_y hs ps, List.sum_cons, drop_sum]
    show s.2.1 + hs.getD s.2.2 0 + _ + _ = _
    have e : (step hs s (.gap g)).2.2 = s.2.2 + 1 := rfl
    rw [e]
    omega
theorem run_y (hs : List Int) (ps : List Part) (h : hs.length = (gaps ps).length) : (run hs ps).2.1 = (bodies ps).sum + hs.sum := by
  unfold run
  rw [fold_y]
  show (0 : Int) + (bodies ps).sum + ((hs.drop 0).take (gaps ps).length).sum = _
  rw [List.drop_zero, ← h, List.take_length]
  omega
/-- how many gaps lie ahead of a gap -/
theorem gap_lt {ps : List Part} {i : Nat} {g : Gap} (h : ps[i]? = some (.gap g)) : (gaps (ps.take i)).length < (gaps ps).length := by
  have e : gaps ps = gaps (ps.take i) ++ (g :: gaps (ps.drop (i + 1))) := by
    obtain ⟨hi, hp⟩ := List.getElem?_eq_some_iff.mp h
    have e1 : ps = ps.take i ++ (.gap g :: ps.drop (i + 1)) := by
      rw [← hp, List.getElem_cons_drop, List.take_append_drop]
    have e2 : gaps (ps.take i ++ (.gap g :: ps.drop (i + 1))) = gaps (ps.take i) ++ (g :: gaps (ps.drop (i + 1))) := by
      unfold gaps
      rw [List.filterMap_append]
      rfl
    rw [← e2, ← e1]
  rw [e, List.length_append, List.length_cons]
  omega

/-! ### the law's last words -/
theorem end_is (ps : List Part) (height : Int) (h1 : 0 ≤ (str (gaps ps)).sum) (h2 : 0 ≤ (shr (gaps ps)).sum) :
    (run (glueF (gaps ps) (height - (sizes ps).sum)) ps).2.1 =
      if (sizes ps).sum ≤ height then (if 0 < (str (gaps ps)).sum then height else (sizes ps).sum)
      else (if height < (sizes ps).sum - (shr (gaps ps)).sum then (sizes ps).sum - (shr (gaps ps)).sum else height) := by
  rw [run_y _ _ (glueF_length _ _), glueF_sum]
  have e := sizes_bodies ps
  unfold less
  split <;> split <;> (try split) <;> (try split) <;> (try split) <;> omega

/-! ### what is drawn -/
def uses : List Str := ["text", "head1", "note"]
def glyphs : List Str := ["a", "ff", "-\n"]
def GoodRow (r : Row) : Prop := (0 ≤ r.1 ∧ r.1 < 90) ∧ r.2.1 ∈ uses ∧ r.2.2.length ≤ 3 ∧ ∀ g ∈ r.2.2, g ∈ glyphs
def GoodPart : Part → Prop
  | .row h d rows => (0 ≤ h ∧ h < 20) ∧ (0 ≤ d ∧ d < 9) ∧ rows.length ≤ 3 ∧ ∀ r ∈ rows, GoodRow r
  | .gap (h, s, k) => (0 ≤ h ∧ h < 40) ∧ (0 ≤ s ∧ s ≤ 10000000) ∧ 0 ≤ k ∧ k < 40
def Good (ps : List Part) : Prop := ps.length ≤ 29 ∧ ∀ p ∈ ps, GoodPart p

theorem sum_nonneg : ∀ {l : List Int}, (∀ x ∈ l, 0 ≤ x) → 0 ≤ l.sum
  | [], _ => Int.le_refl 0
  | x :: l, h => by
    have h1 := h x List.mem_cons_self
    have h2 := sum_nonneg (l := l) fun y hy => h y (List.mem_cons_of_mem _ hy)
    rw [List.sum_cons]
    omega
theorem sum_le {b : Int} : ∀ {l : List Int}, (∀ x ∈ l, x ≤ b) → l.sum ≤ b * l.length
  | [], _ => by simp
  | x :: l, h => by
    have h1 := h x List.mem_cons_self
    have h2 := sum_le (l := l) fun y hy => h y (List.mem_cons_of_mem _ hy)
    rw [List.sum_cons, List.length_cons]
    have e : b * ((l.length + 1 : Nat) : Int) = b * (l.length : Int) + b := by
      rw [show ((l.length + 1 : Nat) : Int) = (l.length : Int) + 1 by omega, Int.mul_add, Int.mul_one]
    omega
theorem take_le : ∀ {l : List Int} (n : Nat), (∀ x ∈ l, 0 ≤ x) → 0 ≤ (l.take n).sum ∧ (l.take n).sum ≤ l.sum
  | [], n, _ => by simp
  | x :: l, 0, h => ⟨Int.le_refl 0, sum_nonneg h⟩
  | x :: l, n + 1, h => by
    have h1 := h x List.mem_cons_self
    have h2 := take_le (l := l) n fun y hy => h y (List.mem_cons_of_mem _ hy)
    rw [List.take_succ_cons, List.sum_cons, List.sum_cons]
    omega
theorem gaps_mem {ps : List Part} {g : Gap} (h : g ∈ gaps ps) : .gap g ∈ ps := by
  obtain ⟨p, hp, e⟩ := List.mem_filterMap.mp h
  cases p with
  | row a b c => cases e
  | gap z =>
    cases e
    exact hp
theorem gaps_le : ∀ ps : List Part, (gaps ps).length ≤ ps.length := fun ps => List.length_filterMap_le _ _
/-- what the sharing asks of its parts -/
def Parts (ps : List Int) : Prop := (∀ x ∈ ps, 0 ≤ x) ∧ ps.sum < 1073741824 ∧ ps.length ≤ 1000
theorem parts_str {ps : List Part} (h : Good ps) : Parts (str (gaps ps)) := by
  have hm : ∀ x ∈ str (gaps ps), 0 ≤ x ∧ x ≤ 10000000 := fun x hx => by
    obtain ⟨g, hg, rfl⟩ := List.mem_map.mp hx
    have q : GoodPart (.gap g) := h.2 _ (gaps_mem hg)
    exact q.2.1
  have hl : (str (gaps ps)).length ≤ 29 := by
    rw [str_length]
    exact Nat.le_trans (gaps_le ps) h.1
  have hs := sum_le (b := 10000000) fun x hx => (hm x hx).2
  exact ⟨fun x hx => (hm x hx).1, by omega, by omega⟩
theorem parts_shr {ps : List Part} (h : Good ps) : Parts (shr (gaps ps)) := by
  have hm : ∀ x ∈ shr (gaps ps), 0 ≤ x ∧ x < 40 := fun x hx => by
    obtain ⟨g, hg, rfl⟩ := List.mem_map.mp hx
    have q : GoodPart (.gap g) := h.2 _ (gaps_mem hg)
    exact q.2.2
  have hl : (shr (gaps ps)).length ≤ 29 := by
    rw [shr_length]
    exact Nat.le_trans (gaps_le ps) h.1
  have hs := sum_le (b := 40) fun x hx => Int.le_of_lt (hm x hx).2
  exact ⟨fun x hx => (hm x hx).1, by omega, by omega⟩
end K47

/-! Heaps, data on them, and the rule for repr. -/
namespace K47
open PySem PySem.Spec PyProof.Rows L2

/-! ### data on a heap -/
def rowD (r : Row) : PyData := .tuple [.int r.1, .str r.2.1, .list (r.2.2.map .str)]
def partD : Part → PyData
  | .row h d rows => .tuple [.str "row", .int h, .int d, .list (rows.map rowD)]
  | .gap g => .tuple [.str "gap", .int g.1, .int g.2.1, .int g.2.2]
def stackD (ps : List Part) : PyData := .list (ps.map partD)
def outD (r : Out) : PyData := .tuple [.int r.1, .int r.2.1, .str r.2.2.1, .list (r.2.2.2.map .str)]
def outsD (rs : List Out) : PyData := .list (rs.map outD)
def gapV (g : Gap) : List V := [.int g.1, .int g.2.1, .int g.2.2]
def gapD (g : Gap) : PyData := .tuple [.int g.1, .int g.2.1, .int g.2.2]
def gapsD (gs : List Gap) : PyData := .list (gs.map gapD)

section
variable {K : PySem.W.Frag} {H H' : Hp} {p a : Addr} {o : HO} {ms : List Addr}
theorem same_new (h : H p = none) : Same H (upd H p o) := fun b x e => by
  rw [upd_ne (ne_of_none e h)]
  exact e
theorem same_tup {xs : List V} (e : Same H H') (h : SqT K H a xs) : SqT K H' a xs := by
  rcases h with (h | ⟨z, h⟩) | h
  · exact .inl (.inl (e _ _ h))
  · exact .inl (.inr ⟨z, e _ _ h⟩)
  · exact .inr h
mutual
theorem dp_mono (e : Same H H') : ∀ (d : PyData) (v : V), Dp K H v d → Dp K H' v d
  | .none, _, h => by
    cases h
    exact .non
  | .bool b, _, h => by
    cases h
    exact .bl b
  | .int i, _, h => by
    cases h
    exact .int i
  | .str x, _, h => by
    cases h
    exact .str x
  | .list ds, _, h => by
    cases h with
    | lst hs ha => exact .lst (e.seq hs) (dps_mono e ds _ ha)
  | .tuple ds, _, h => by
    cases h with
    | tup hs ha => exact .tup (same_tup e hs) (dps_mono e ds _ ha)
  | .dict _, _, h => by cases h
theorem dps_mono (e : Same H H') : ∀ (ds : List PyData) (vs : List V), DpAll K H vs ds → DpAll K H' vs ds
  | [], _, h => by
    cases h
    exact .nil
  | d :: ds, _, h => by
    cases h with
    | cons h1 h2 => exact .cons (dp_mono e d _ h1) (dps_mono e ds _ h2)
end
theorem dps_length : ∀ {vs : List V} {ds : List PyData}, DpAll K H vs ds → vs.length = ds.length
  | _, _, .nil => rfl
  | _, _, .cons _ t => by rw [List.length_cons, List.length_cons, dps_length t]
theorem dps_get : ∀ {vs : List V} {ds : List PyData} {i : Nat} {v : V}, DpAll K H vs ds → vs[i]? = some v → ∃ d, ds[i]? = some d ∧ Dp K H v d
  | _, _, _, _, .nil, e => by simp at e
  | _, _, 0, v, .cons (v := y) (d := d) h t, e => by
    have e1 : y = v := Option.some.inj e
    subst e1
    exact ⟨d, rfl, h⟩
  | _, _, i + 1, v, .cons h t, e => dps_get (i := i) t e
theorem dps_at {α : Type} {f : α → PyData} {l : List α} {vs : List V} {i : Nat} {v : V} (h : DpAll K H vs (l.map f)) (e : vs[i]? = some v) : ∃ x, l[i]? = some x ∧ Dp K H v (f x) := by
  obtain ⟨d, e1, q⟩ := dps_get h e
  rw [List.getElem?_map] at e1
  cases e2 : l[i]? with
  | none =>
    rw [e2] at e1
    cases e1
  | some x =>
    rw [e2] at e1
    cases e1
    exact ⟨x, rfl, q⟩
theorem dps_of {α : Type} {f : α → PyData} {l : List α} {vs : List V} {i : Nat} {x : α} (h : DpAll K H vs (l.map f)) (e : l[i]? = some x) : ∃ v, vs[i]? = some v ∧ Dp K H v (f x) := by
  have hl := dps_length h
  rw [List.length_map] at hl
  have hi : i < vs.length := by
    rw [hl]
    exact (List.getElem?_eq_some_iff.mp e).1
  obtain ⟨y, e1, q⟩ := dps_at h (List.getElem?_eq_getElem hi)
  rw [e] at e1
  cases e1
  exact ⟨_, List.getElem?_eq_getElem hi, q⟩
theorem dps_len {α : Type} {f : α → PyData} {l : List α} {vs : List V} (h : DpAll K H vs (l.map f)) : vs.length = l.length := by
  rw [dps_length h, List.length_map]
theorem dps_append : ∀ {vs ws : List V} {ds es : List PyData}, DpAll K H vs ds → DpAll K H ws es → DpAll K H (vs ++ ws) (ds ++ es)
  | _, _, _, _, .nil, s => s
  | _, _, _, _, .cons h t, s => .cons h (dps_append t s)
theorem dps_snoc {α : Type} {f : α → PyData} {l : List α} {x : α} {vs : List V} {v : V} (h : DpAll K H vs (l.map f)) (q : Dp K H v (f x)) : DpAll K H (vs ++ [v]) ((l ++ [x]).map f) := by
  rw [List.map_append]
  exact dps_append h (.cons q .nil)
theorem dps_strs : ∀ {gs : List Str} {vs : List V}, DpAll K H vs (gs.map .str) → vs = gs.map V.str
  | [], _, h => by
    cases h
    rfl
  | g :: gs, _, h => by
    cases h with
    | cons h1 h2 =>
      cases h1
      rw [dps_strs h2]
      rfl
theorem strs_dps : ∀ (gs : List Str), DpAll K H (gs.map V.str) (gs.map .str)
  | [] => .nil
  | g :: gs => .cons (.str g) (strs_dps gs)
theorem row_view {v : V} {r : Row} (h : Dp K H v (rowD r)) : ∃ t l, v = .ref t ∧ SqT K H t [.int r.1, .str r.2.1, .ref l] ∧ SqL K H l (r.2.2.map V.str) := by
  cases h with
  | tup hs ha =>
    cases ha with
    | cons h1 h2 =>
      cases h1
      cases h2 with
      | cons h3 h4 =>
        cases h3
        cases h4 with
        | cons h5 h6 =>
          cases h6
          cases h5 with
          | lst hl hg =>
            have e := dps_strs hg
            subst e
            exact ⟨_, _, rfl, hs, hl⟩
theorem row_make {r : Row} {t l : Addr} (h1 : SqT K H t [.int r.1, .str r.2.1, .ref l]) (h2 : SqL K H l (r.2.2.map V.str)) : Dp K H (.ref t) (rowD r) :=
  .tup h1 (.cons (.int _) (.cons (.str _) (.cons (.lst h2 (strs_dps _)) .nil)))
theorem out_make {r : Out} {t l : Addr} (h1 : SqT K H t [.int r.1, .int r.2.1, .str r.2.2.1, .ref l]) (h2 : SqL K H l (r.2.2.2.map V.str)) : Dp K H (.ref t) (outD r) :=
  .tup h1 (.cons (.int _) (.cons (.int _) (.cons (.str _) (.cons (.lst h2 (strs_dps _)) .nil))))
theorem gap_view {v : V} {g : Gap} (h : Dp K H v (partD (.gap g))) : ∃ t, v = .ref t ∧ SqT K H t (.str "gap" :: gapV g) := by
  cases h with
  | tup hs ha =>
    cases ha with
    | cons h1 h2 =>
      cases h1
      cases h2 with
      | cons h3 h4 =>
        cases h3
        cases h4 with
        | cons h5 h6 =>
          cases h5
          cases h6 with
          | cons h7 h8 =>
            cases h7
            cases h8
            exact ⟨_, rfl, hs⟩
theorem gap_make {g : Gap} {t : Addr} (h : SqT K H t (.str "gap" :: gapV g)) : Dp K H (.ref t) (partD (.gap g)) :=
  .tup h (.cons (.str _) (.cons (.int _) (.cons (.int _) (.cons (.int _) .nil))))
theorem part_view {v : V} {h d : Int} {rows : List Row} (q : Dp K H v (partD (.row h d rows))) : ∃ t l rs, v = .ref t ∧ SqT K H t [.str "row", .int h, .int d, .ref l] ∧ SqL K H l rs ∧ DpAll K H rs (rows.map rowD) := by
  cases q with
  | tup hs ha =>
    cases ha with
    | cons h1 h2 =>
      cases h1
      cases h2 with
      | cons h3 h4 =>
        cases h3
        cases h4 with
        | cons h5 h6 =>
          cases h5
          cases h6 with
          | cons h7 h8 =>
            cases h8
            cases h7 with
            | lst hl hg => exact ⟨_, _, _, rfl, hs, hl, hg⟩
theorem part_make {t l : Addr} {h d : Int} {rows : List Row} {rs : List V} (h1 : SqT K H t [.str "row", .int h, .int d, .ref l]) (h2 : SqL K H l rs) (h3 : DpAll K H rs (rows.map rowD)) : Dp K H (.ref t) (partD (.row h d rows)) :=
  .tup h1 (.cons (.str _) (.cons (.int _) (.cons (.int _) (.cons (.lst h2 h3) .nil))))
theorem list_view {α : Type} {f : α → PyData} {l : List α} {v : V} (h : Dp K H v (.list (l.map f))) : ∃ t vs, v = .ref t ∧ SqL K H t vs ∧ DpAll K H vs (l.map f) := by
  cases h with
  | lst hs ha => exact ⟨_, _, rfl, hs, ha⟩
theorem gapD_view {v : V} {g : Gap} (h : Dp K H v (gapD g)) : ∃ t, v = .ref t ∧ SqT K H t (gapV g) := by
  cases h with
  | tup hs ha =>
    cases ha with
    | cons h1 h2 =>
      cases h1
      cases h2 with
      | cons h3 h4 =>
        cases h3
        cases h4 with
        | cons h5 h6 =>
          cases h5
          cases h6
          exact ⟨_, rfl, hs⟩
theorem gapD_make {t : Addr} {g : Gap} (h : SqT K H t (gapV g)) : Dp K H (.ref t) (gapD g) := .tup h (.cons (.int _) (.cons (.int _) (.cons (.int _) .nil)))

/-! ### the heap without the things that change -/
def Off (ms : List Addr) (H : Hp) : Hp := fun b => if b ∈ ms then none else H b
theorem off_at {b : Addr} (h : b ∉ ms) : Off ms H b = H b := if_neg h
theorem off_sub : Same (Off ms H) H := fun b x e => by
  unfold Off at e
  split at e
  · cases e
  · exact e
theorem off_upd (h : p ∈ ms) : Off ms (upd H p o) = Off ms H := by
  funext b
  unfold Off
  split
  · rfl
  · rename_i hb
    exact upd_ne fun e => hb (e ▸ h)
theorem off_some {b : Addr} {x : HO} (h : b ∉ ms) (e : H b = some x) : Off ms H b = some x := (off_at h).trans e
theorem off_not {b : Addr} {x : HO} (e : Off ms H b = some x) : b ∉ ms := fun h => by
  unfold Off at e
  rw [if_pos h] at e
  cases e
theorem off_same (e : Same H H') : Same (Off ms H) (Off ms H') := fun b x q => off_some (off_not q) (e b x (off_sub b x q))
theorem off_new (h : H p = none) : Same (Off ms H) (Off ms (upd H p o)) := off_same (same_new h)
theorem off_more (h : H p = none) : Same (Off ms H) (Off (p :: ms) H) := fun b x q =>
  off_some (fun z => (List.mem_cons.mp z).elim (ne_of_none (off_sub b x q) h) (off_not q)) (off_sub b x q)
theorem off_less : Same (Off (p :: ms) H) (Off ms H) := fun b x q => off_some (fun z => off_not q (List.mem_cons_of_mem _ z)) (off_sub b x q)
theorem off_nil : Off [] H = H := by
  funext b
  exact if_neg List.not_mem_nil
theorem upd_id (h : H p = some o) : upd H p o = H := by
  funext b
  by_cases e : b = p
  · rw [e, upd_same, h]
  · exact upd_ne e
end

/-! ### repr of data -/
section
variable {X : Cx}
def rRepr (K : PySem.W.Frag) : List V → Hp → VK → Prop := fun xs H Q => ∃ a d, xs = [.ref a] ∧ Dp K H (.ref a) d ∧ d.showable = true ∧ d.hasDict = false ∧ d.depth ≤ 60 ∧ d.shown.length ≤ sizeLine ∧ Q (.str d.shown) H
theorem call_reprD (hg : X.A.guards = some []) (hu : X.A.units + 64 < cLine) : CallR X (.builtin "repr") (rRepr X.K) := by
  intro pins s σ H xs us Q I r h
  obtain ⟨a, d, rfl, hd, h1, h2, h3, h4, q⟩ := h
  obtain ⟨u, rfl, ru⟩ := vals1 r
  cases ru
  obtain ⟨as, rd⟩ := Dp.reads I d _ _ hd rfl
  exact repr_of_reads' rd h1 (PyData.noDict_hsm h2) hg (by omega) (fun _ _ e => e) (fun h' u tk hk => ⟨.str _, H, I.kept hk, ⟨_, rfl⟩, q⟩) h4
end
end K47

/-! The text, and the def shares. -/
namespace K47
open PySem PySem.Spec PyProof.Rows L2
def topS (i : Nat) : Stmt := PySem.Challenge.pw_galleypapers_k47_whole_stacks_placed.main.body.getD i (.Pass ⟨0, 0, 0, 0⟩)
abbrev sShares : Stmt := topS 1
theorem scShares : FnScope ["parts", "amount", "total", "found", "done", "given", "part", "upto"] ["parts", "amount"] (defScope sShares) :=
  ⟨rfl, rfl, rfl, by decide +kernel, rfl, by decide +kernel, by decide +kernel⟩
def spShares (K : PySem.W.Frag) : Sp := fun vs H Q _ => ∃ (a : Addr) (ps : List Int) (A : Int), vs = [.ref a, .int A] ∧ SqL K H a (ps.map V.int) ∧ Parts ps ∧
  ∀ H' p, Same H H' → H p = none → H' p = some (.lst ((sharesF ps A).map V.int)) → Q (.ref p) H'
section
variable {P : Program} {w : World} {K : PySem.W.Frag} {mg : Str → Option Value} {base : Heap}
theorem ok_shares {f : Addr} {fd : FuncData} {k : Nat} (F : Fun K "shares" "shares" sShares f fd) (mSum : mg "sum" = none) : FnOk P w K mg base CX0 (k + 1) f fd ["parts", "amount"] (spShares K) := by
  refine F.ok scShares (fun vs H Q E h => ?_) (fun cdv A outer s H vs Q E hr h => ?_)
  · obtain ⟨a, ps, z, rfl, _⟩ := h
    rfl
  · obtain ⟨a, ps, z, rfl, hS, hP, q⟩ := h
    refine ⟨_, pss_cons (ps_set (i := 2) scShares.nd rfl (.inl rfl) (pe_callB (cr_sum rfl) (by rfl) mSum (by decide +kernel) (pa_cons (pv 0) pa_nil)))
      (pss_cons (ps_set (i := 3) scShares.nd rfl (.inl rfl) (pe_lst pa_nil))
      (pss_cons (ps_asg2 pe_int (pg_name (i := 4) scShares.nd rfl (.inl rfl)) (pg_name (i := 5) scShares.nd rfl (.inl rfl)))
      (pss_cons (ps_for PassesOwn.never rfl (pi_list (pv 0)) (pg_name (i := 6) scShares.nd rfl (.inl rfl))
        (pss_cons (ps_set (i := 4) scShares.nd rfl (.inl rfl) (pe_op op_add (pv 4) (pv 6)))
        (pss_cons (ps_set (i := 7) scShares.nd rfl (.inl rfl) (pe_ifExp (pt_cmpR op_gt (pv 2) pe_int (nomark _)) (pe_op op_fdiv (pe_op op_mul (pv 1) (pv 4)) (pv 2)) pe_int))
        (pss_cons (ps_expr (pe_bm PySem.F.plainAttrs_list PySem.F.slot_list_append PySem.F.type_list_append mt_append (pv 3) (pa_cons (pe_op op_sub (pv 7) (pv 5)) pa_nil)))
        (pss_one (ps_set (i := 5) scShares.nd rfl (.inl rfl) (pv 7)))))))
      (pss_one (ps_ret (pv 3)))))), ?_⟩
    -- total = sum(parts); found = []
    refine ⟨.ref a, rfl, a, ps, rfl, hS, Nat.zero_le _, fun o no => ?_⟩
    have s1 : Same H (upd H o (.lst [])) := same_new no
    -- the loop
    refine ⟨.ref a, rfl, a, rfl, ⟨_, s1.seq hS⟩, for_list (K := K) (a := a) (xs := ps.map V.int) (fun i σ H' => ∃ y6 y7, σ = [some (.ref a), some (.int z), some (.int ps.sum), some (.ref o), some (.int (ps.take i).sum), some (.int (upto ps.sum z (ps.take i).sum)), y6, y7] ∧
        Same H H' ∧ H' o = some (.lst ((sharesTo ps z i).map V.int))) ⟨none, none, ?_, s1, upd_same⟩ (fun i σ H' _ ⟨_, _, _, sm, _⟩ => sm.seq hS) ?_ ?_⟩
    · rw [List.take_zero, List.sum_nil, upto_zero]
      rfl
    · rintro i y σ H' hi ⟨y6, y7, rfl, sm, eo⟩
      have hn : i < ps.length := by
        have e := (List.getElem?_eq_some_iff.mp hi).1
        rw [List.length_map] at e
        exact e
      have hp : ps[i]? = some ps[i] := List.getElem?_eq_getElem hn
      rw [List.getElem?_map, hp] at hi
      cases hi
      have hT := take_le (i + 1) hP.1
      have hz := sum_take hp
      have hl : ((sharesTo ps z i).map V.int).length < sizeLine := by
        rw [List.length_map, sharesTo_length]
        exact small1000 (by have := hP.2.2; omega)
      -- done = done + part; upto = amount * done // total if total > 0 else 0
      refine ⟨_, rfl, _, rfl, _, _, rfl, rfl, _, rfl, _, _, rfl, rfl, _, rfl, ?_⟩
      refine ite2 (fun e => ?_) (fun e => ?_)
      · have e : 0 < ps.sum := of_decide_eq_true e
        have hu : z * ((ps.take i).sum + ps[i]) / ps.sum = upto ps.sum z (ps.take (i + 1)).sum := by
          unfold upto
          rw [if_pos e, hz]
        refine ⟨_, rfl, _, rfl, _, _, rfl, rfl, .inr ⟨by omega, by have := hP.2.1; omega⟩, _, rfl, _, _, rfl, rfl, ⟨e, hP.2.1⟩, ?_⟩
        refine ⟨.ref o, rfl, .inl ⟨rfl, _, SqL.of eo⟩, _, rfl, _, rfl, _, _, rfl, rfl, o, _, _, rfl, rfl, eo, hl, _, rfl, _, _, by rw [← hu, hz]; rfl, fun b x e => ?_, ?_⟩
        · rw [upd_ne (ne_of_none e no), sm b x e]
        · rw [upd_same, sharesTo_succ, List.map_append]
          unfold shareAt
          rw [← hu]
          rfl
      · have e : ¬ 0 < ps.sum := fun h => e (decide_eq_true h)
        have hu : 0 = upto ps.sum z (ps.take (i + 1)).sum := (upto_none _ _ e).symm
        refine ⟨.ref o, rfl, .inl ⟨rfl, _, SqL.of eo⟩, _, rfl, _, rfl, _, _, rfl, rfl, o, _, _, rfl, rfl, eo, hl, _, rfl, _, _, by rw [← hu, hz]; rfl, fun b x e => ?_, ?_⟩
        · rw [upd_ne (ne_of_none e no), sm b x e]
        · rw [upd_same, sharesTo_succ, List.map_append]
          unfold shareAt
          rw [← hu]
          rfl
    · rintro σ H' ⟨y6, y7, rfl, sm, eo⟩
      refine ⟨.ref o, rfl, q H' o sm no ?_⟩
      rw [List.length_map] at eo
      exact eo
end
end K47

/-! The def glue_widths. -/
namespace K47
open PySem PySem.Spec PyProof.Rows L2
/-- a comprehension over enumerate of a list that stands still -/
theorem lc_enum {K : PySem.W.Frag} {a : Addr} {xs : List V} {g : TG} {tt : TT} {te : TE} {ws : List Nat} {σ : L2.St} {H1 : Hp} {D : Addr} {Qd : Hp → Prop}
    (Pv : Nat → Hp → Prop) (h0 : Pv 0 (upd H1 D (.lst []))) (hl : ∀ i H, Pv i H → SqL K H a xs)
    (hs : ∀ i x T H, xs[i]? = some x → Pv i H → H T = none →
      g (.ref T) (wipe σ ws) (upd H T (.tup [.int (i : Nat), x])) fun σ2 H2 =>
        wipe σ2 ws = wipe σ ws ∧ tt σ2 H2 fun b H3 => if b = true then te σ2 H3 fun y H4 =>
          ∃ acc, H4 D = some (.lst acc) ∧ acc.length < sizeLine ∧ Pv (i + 1) (upd H4 D (.lst (acc ++ [y]))) else Pv (i + 1) H3)
    (hd : ∀ H, Pv xs.length H → Qd H) :
    ∃ W : Nat → Nat → Hp → Prop, (∃ m, W 0 m (upd H1 D (.lst []))) ∧ ∀ i m H, W i m H → ((Ite K a).stop i H ∧ Qd H) ∨
      ((Ite K a).go i H ∧ ∃ Nx : Hp → Prop, (∀ H', Nx H' → ∃ m', m' < m ∧ W (i + 1) m' H') ∧ ∀ x H', (Ite K a).yld i H x H' →
        g x (wipe σ ws) H' fun σ2 H2 => wipe σ2 ws = wipe σ ws ∧ tt σ2 H2 fun b H3 => if b = true then te σ2 H3 fun y H4 =>
          ∃ acc, H4 D = some (.lst acc) ∧ acc.length < sizeLine ∧ Nx (upd H4 D (.lst (acc ++ [y]))) else Nx H3) := by
  refine ⟨fun i m H => i + m = xs.length ∧ Pv i H, ⟨xs.length, Nat.zero_add _, h0⟩, fun i m H hW => ?_⟩
  obtain ⟨em, hp⟩ := hW
  have hS := hl i H hp
  cases m with
  | zero =>
    have ei : i = xs.length := by omega
    rw [ei] at hp
    exact .inl ⟨⟨xs, hS, Nat.le_of_eq ei.symm⟩, hd H hp⟩
  | succ m =>
    have hi : i < xs.length := by omega
    refine .inr ⟨⟨xs, xs[i], hS, List.getElem?_eq_getElem hi⟩, Pv (i + 1), fun H' p => ⟨m, Nat.lt_succ_self m, by omega, p⟩, fun x H' hy => ?_⟩
    obtain ⟨T, v, e1, e2, e3, e4⟩ := hy
    rw [e1, e3]
    exact hs i v T H (e4 xs hS) hp e2

/-- no test: the element is made -/
theorem yes_of {σ : L2.St} {H : Hp} {A B : Hp → Prop} (h : A H) : tYes σ H (fun b H3 => if b = true then A H3 else B H3) := by
  show if true = true then A H else B H
  rw [if_pos rfl]
  exact h
abbrev sGlue : Stmt := topS 2
abbrev nGlue : List Str := ["gaps", "amount", "more", "shrinks", "less", "gap", "k"]
theorem scGlue : FnScope nGlue ["gaps", "amount"] (defScope sGlue) :=
  ⟨rfl, rfl, rfl, by decide +kernel, rfl, by decide +kernel, by decide +kernel⟩
def spGlue (K : PySem.W.Frag) : Sp := fun vs H Q _ => ∃ (a : Addr) (xs : List V) (gs : List Gap) (A : Int), vs = [.ref a, .int A] ∧ SqL K H a xs ∧ DpAll K H xs (gs.map gapD) ∧ Parts (str gs) ∧ Parts (shr gs) ∧
  ∀ H' p, Same H H' → H p = none → H' p = some (.lst ((glueF gs A).map V.int)) → Q (.ref p) H'
theorem map_take_snoc {α : Type} {f : α → V} {l : List α} {i : Nat} {x : α} (h : l[i]? = some x) : (l.take (i + 1)).map f = (l.take i).map f ++ [f x] := by
  rw [List.take_add_one, h, List.map_append]
  rfl
theorem len_take_lt {α : Type} {l : List α} {i : Nat} (h : l.length ≤ 1000) : ((l.take i)).length < sizeLine := by
  rw [List.length_take]
  exact small1000 (by omega)
section
variable {P : Program} {w : World} {K : PySem.W.Frag} {mg : Str → Option Value} {base : Heap}
theorem ok_glue {f fS : Addr} {fd fdS : FuncData} {k : Nat} (F : Fun K "glue_widths" "glue_widths" sGlue f fd) (FS : Fun K "shares" "shares" sShares fS fdS) (bS : Binds K fdS ["parts", "amount"] [])
    (gS : mg "shares" = some (.ref fS)) (mSum : mg "sum" = none) (mMin : mg "min" = none) (mEn : mg "enumerate" = none) : FnOk P w K mg base CX0 (k + 2) f fd ["gaps", "amount"] (spGlue K) := by
  have GS : FnOk P w K mg base CX0 (k + 1) fS fdS ["parts", "amount"] (spShares K) := ok_shares FS mSum
  refine F.ok scGlue (fun vs H Q E h => ?_) (fun cdv A outer s H vs Q E hr h => ?_)
  · obtain ⟨a, xs, gs, z, rfl, _⟩ := h
    rfl
  · obtain ⟨a, xs, gs, z, rfl, hS, hD, hP1, hP2, q⟩ := h
    have hlen : xs.length = gs.length := dps_len hD
    have hl1 : gs.length ≤ 1000 := by
      have := hP1.2.2
      rw [str_length] at this
      exact this
    refine ⟨_, pss_cons (ps_if (pt_cmpR op_ge (pv 1) pe_int (nomark _))
        (pss_cons (ps_set (i := 2) scGlue.nd rfl (.inr rfl) (pe_call GS hr (by rfl) gS FS.kp bS .nil pass0 (pa_cons
            (pe_lc (own := [("gap", 5)]) (g := gName 5) (tt := tYes) (te := tOp (rIxT K) (tVar 5) (tC (.int 1))) rfl scGlue.nd (pi_list (pv 0)) (blkOk_by (own := [("gap", 5)]) (N := nGlue) (sc := defScope sGlue) (by decide +kernel)) (fun _ _ _ _ _ => pg_name (i := 5) scGlue.nd rfl (.inl rfl)) (fun _ _ _ _ _ => pts_nil)
              (fun _ _ _ _ _ => pe_ix ix_tup (pv 5) pe_int (fun _ _ => rfl))) (pa_cons (pv 1) pa_nil))))
        (pss_one (ps_ret (pe_lc (own := [("k", 6), ("gap", 5)]) (g := gTup K 2 (gCons (gName 6) (gCons (gName 5) gNil))) (tt := tYes) (te := tOp (rI0 fun i j => .int (i + j)) (tOp (rIxT K) (tVar 5) (tC (.int 0))) (tOp (rIxL K) (tVar 2) (tVar 6))) rfl scGlue.nd (pi_enum (by rfl) mEn (pa_cons (pv 0) pa_nil)) (blkOk_by (own := [("k", 6), ("gap", 5)]) (N := nGlue) (sc := defScope sGlue) (by decide +kernel))
              (fun _ _ _ _ _ => pg_tup rfl (pgs_cons (pg_name (i := 6) scGlue.nd rfl (.inl rfl)) (pgs_cons (pg_name (i := 5) scGlue.nd rfl (.inl rfl)) pgs_nil))) (fun _ _ _ _ _ => pts_nil)
              (fun _ _ _ _ _ => pe_op op_add (pe_ix ix_tup (pv 5) pe_int (fun _ _ => rfl)) (pe_ix ix_list (pv 2) (pv 6) (fun _ _ => rfl)))))))
        pss_nil)
      (pss_cons (ps_setLc (i := 3) (own := [("gap", 5)]) (g := gName 5) (tt := tYes) (te := tOp (rIxT K) (tVar 5) (tC (.int 2))) rfl scGlue.nd rfl rfl (sw_true rfl rfl rfl (by decide +kernel)) (pi_list (pv 0)) (blkOk_by (own := [("gap", 5)]) (N := nGlue) (sc := defScope sGlue) (by decide +kernel))
            (fun _ _ _ _ _ => pg_name (i := 5) scGlue.nd rfl (.inl rfl)) (fun _ _ _ _ _ => pts_nil) (fun _ _ _ _ _ => pe_ix ix_tup (pv 5) pe_int (fun _ _ => rfl)))
      (pss_cons (ps_set (i := 4) scGlue.nd rfl (.inr rfl) (pe_call GS hr (by rfl) gS FS.kp bS .nil pass0 (pa_cons (pv 3)
            (pa_cons (pe_callB (call_min2 rfl) (by rfl) mMin (by decide +kernel) (pa_cons (pe_un un_neg (pv 1)) (pa_cons (pe_callB (cr_sum rfl) (by rfl) mSum (by decide +kernel) (pa_cons (pv 3) pa_nil)) pa_nil))) pa_nil))))
      (pss_one (ps_ret (pe_lc (own := [("k", 6), ("gap", 5)]) (g := gTup K 2 (gCons (gName 6) (gCons (gName 5) gNil))) (tt := tYes) (te := tOp (rI0 fun i j => .int (i - j)) (tOp (rIxT K) (tVar 5) (tC (.int 0))) (tOp (rIxL K) (tVar 4) (tVar 6))) rfl scGlue.nd (pi_enum (by rfl) mEn (pa_cons (pv 0) pa_nil)) (blkOk_by (own := [("k", 6), ("gap", 5)]) (N := nGlue) (sc := defScope sGlue) (by decide +kernel))
              (fun _ _ _ _ _ => pg_tup rfl (pgs_cons (pg_name (i := 6) scGlue.nd rfl (.inl rfl)) (pgs_cons (pg_name (i := 5) scGlue.nd rfl (.inl rfl)) pgs_nil))) (fun _ _ _ _ _ => pts_nil)
              (fun _ _ _ _ _ => pe_op op_sub (pe_ix ix_tup (pv 5) pe_int (fun _ _ => rfl)) (pe_ix ix_list (pv 4) (pv 6) (fun _ _ => rfl)))))))), ?_⟩
    refine ⟨_, rfl, _, _, rfl, rfl, _, rfl, ?_⟩
    refine ite2 (fun e => ?_) (fun e => ?_)
    · have e : 0 ≤ z := of_decide_eq_true e
      have hG : glueF gs z = plus gs (sharesF (str gs) z) := if_pos e
      -- [gap[1] for gap in gaps]
      refine ⟨.ref a, rfl, a, rfl, ⟨_, hS⟩, fun D nD => lc_list (K := K) (a := a) (xs := xs) (fun i H' => Same H H' ∧ H' D = some (.lst (((str gs).take i).map V.int))) ⟨same_new nD, upd_same⟩ (fun i H' _ p => p.1.seq hS) ?_ ?_⟩
      · rintro i x H' hx ⟨sm, eD⟩
        obtain ⟨g, hg, qg⟩ := dps_at hD hx
        obtain ⟨t, rfl, hT⟩ := gapD_view (dp_mono sm _ _ qg)
        have hz : (str gs)[i]? = some g.2.1 := by
          unfold str
          rw [List.getElem?_map, hg]
          rfl
        refine ⟨rfl, yes_of ⟨.ref t, rfl, t, gapV g, 1, .int g.2.1, rfl, rfl, hT, atI_nat (j := 1) rfl, _, eD, ?_, fun b o e => ?_, ?_⟩⟩
        · rw [List.length_map]
          exact len_take_lt (by rw [str_length]; exact hl1)
        · rw [upd_ne (ne_of_none e nD), sm b o e]
        · rw [upd_same, map_take_snoc hz]
      · rintro H1 ⟨sm1, eD⟩
        rw [hlen, ← str_length gs, List.take_length] at eD
        -- more = shares(.., amount)
        refine ⟨_, rfl, D, str gs, z, rfl, SqL.of eD, hP1, fun H2 p sm2 np ep => ?_⟩
        have sm12 : Same H H2 := sm1.trans sm2
        refine ⟨.ref a, rfl, a, xs, rfl, sm12.seq hS, fun D2 nD2 => lc_enum (K := K) (a := a) (xs := xs) (fun i H' => Same H H' ∧ H' p = some (.lst ((sharesF (str gs) z).map V.int)) ∧ H' D2 = some (.lst (((glueF gs z).take i).map V.int)))
          ⟨sm12.trans (same_new nD2), by rw [upd_ne (ne_of_none ep nD2), ep], upd_same⟩ (fun i H' p => p.1.seq hS) ?_ ?_⟩
        · rintro i x T H' hx ⟨sm, ep', eD'⟩ nT
          obtain ⟨g, hg, qg⟩ := dps_at hD hx
          obtain ⟨t, rfl, hT⟩ := gapD_view (dp_mono (sm.trans (same_new (o := .tup [.int (i : Nat), x]) nT)) _ _ qg)
          have hi : i < gs.length := (List.getElem?_eq_some_iff.mp hg).1
          have hm := sharesF_get (str gs) z (i := i) (by rw [str_length]; exact hi)
          have hm2 : ((sharesF (str gs) z).map V.int)[i]? = some (.int (shareAt (str gs) z i)) := by
            rw [List.getElem?_map, hm]
            rfl
          have nTp : p ≠ T := ne_of_none ep' nT
          have nTD : D2 ≠ T := ne_of_none eD' nT
          refine ⟨T, [.int (i : Nat), .ref t], rfl, SqT.of upd_same, rfl, _, _, rfl, _, _, rfl, rfl, rfl, yes_of ?_⟩
          refine ⟨.ref t, rfl, t, gapV g, 0, .int g.1, rfl, rfl, hT, atI_nat (j := 0) rfl, .ref p, rfl, .int i, rfl, p, _, i, _, rfl, rfl, SqL.of (by rw [upd_ne nTp]; exact ep'), atI_nat hm2, _, _, rfl, rfl, _, (by rw [upd_ne nTD]; exact eD'), ?_, fun b o e => ?_, ?_, ?_⟩
          · rw [List.length_map]
            exact len_take_lt (by rw [glueF_length]; exact hl1)
          · rw [upd_ne (ne_of_none e (sm12.free nD2)), same_new nT b o (sm b o e)]
          · rw [upd_ne (show p ≠ D2 from ne_of_none ep nD2), upd_ne nTp, ep']
          · rw [upd_same, hG]
            unfold plus
            rw [zip_take _ _ _ _ _ hg hm, List.map_append]
            rfl
        · rintro H3 ⟨sm3, ep3, eD3⟩
          refine q H3 D2 sm3 (sm12.free nD2) ?_
          rw [eD3, hlen, ← glueF_length gs z, List.take_length]
    · have e : ¬ 0 ≤ z := fun h => e (decide_eq_true h)
      have hG : glueF gs z = minus gs (sharesF (shr gs) (less gs z)) := if_neg e
      -- shrinks = [gap[2] for gap in gaps]
      refine ⟨.ref a, rfl, a, rfl, ⟨_, hS⟩, fun D nD => lc_list (K := K) (a := a) (xs := xs) (fun i H' => Same H H' ∧ H' D = some (.lst (((shr gs).take i).map V.int))) ⟨same_new nD, upd_same⟩ (fun i H' _ p => p.1.seq hS) ?_ ?_⟩
      · rintro i x H' hx ⟨sm, eD⟩
        obtain ⟨g, hg, qg⟩ := dps_at hD hx
        obtain ⟨t, rfl, hT⟩ := gapD_view (dp_mono sm _ _ qg)
        have hz : (shr gs)[i]? = some g.2.2 := by
          unfold shr
          rw [List.getElem?_map, hg]
          rfl
        refine ⟨rfl, yes_of ⟨.ref t, rfl, t, gapV g, 2, .int g.2.2, rfl, rfl, hT, atI_nat (j := 2) rfl, _, eD, ?_, fun b o e => ?_, ?_⟩⟩
        · rw [List.length_map]
          exact len_take_lt (by rw [shr_length]; exact hl1)
        · rw [upd_ne (ne_of_none e nD), sm b o e]
        · rw [upd_same, map_take_snoc hz]
      · rintro H1 ⟨sm1, eD⟩
        rw [hlen, ← shr_length gs, List.take_length] at eD
        -- less = shares(shrinks, min(-amount, sum(shrinks)))
        refine ⟨.ref D, rfl, _, rfl, _, rfl, .ref D, rfl, D, shr gs, rfl, SqL.of eD, _, _, rfl, D, shr gs, less gs z, rfl, SqL.of eD, hP2, fun H2 p sm2 np ep => ?_⟩
        have sm12 : Same H H2 := sm1.trans sm2
        refine ⟨.ref a, rfl, a, xs, rfl, sm12.seq hS, fun D2 nD2 => lc_enum (K := K) (a := a) (xs := xs) (fun i H' => Same H H' ∧ H' p = some (.lst ((sharesF (shr gs) (less gs z)).map V.int)) ∧ H' D2 = some (.lst (((glueF gs z).take i).map V.int)))
          ⟨sm12.trans (same_new nD2), by rw [upd_ne (ne_of_none ep nD2), ep], upd_same⟩ (fun i H' p => p.1.seq hS) ?_ ?_⟩
        · rintro i x T H' hx ⟨sm, ep', eD'⟩ nT
          obtain ⟨g, hg, qg⟩ := dps_at hD hx
          obtain ⟨t, rfl, hT⟩ := gapD_view (dp_mono (sm.trans (same_new (o := .tup [.int (i : Nat), x]) nT)) _ _ qg)
          have hi : i < gs.length := (List.getElem?_eq_some_iff.mp hg).1
          have hm := sharesF_get (shr gs) (less gs z) (i := i) (by rw [shr_length]; exact hi)
          have hm2 : ((sharesF (shr gs) (less gs z)).map V.int)[i]? = some (.int (shareAt (shr gs) (less gs z) i)) := by
            rw [List.getElem?_map, hm]
            rfl
          have nTp : p ≠ T := ne_of_none ep' nT
          have nTD : D2 ≠ T := ne_of_none eD' nT
          refine ⟨T, [.int (i : Nat), .ref t], rfl, SqT.of upd_same, rfl, _, _, rfl, _, _, rfl, rfl, rfl, yes_of ?_⟩
          refine ⟨.ref t, rfl, t, gapV g, 0, .int g.1, rfl, rfl, hT, atI_nat (j := 0) rfl, .ref p, rfl, .int i, rfl, p, _, i, _, rfl, rfl, SqL.of (by rw [upd_ne nTp]; exact ep'), atI_nat hm2, _, _, rfl, rfl, _, (by rw [upd_ne nTD]; exact eD'), ?_, fun b o e => ?_, ?_, ?_⟩
          · rw [List.length_map]
            exact len_take_lt (by rw [glueF_length]; exact hl1)
          · rw [upd_ne (ne_of_none e (sm12.free nD2)), same_new nT b o (sm b o e)]
          · rw [upd_ne (show p ≠ D2 from ne_of_none ep nD2), upd_ne nTp, ep']
          · rw [upd_same, hG]
            unfold minus
            rw [zip_take _ _ _ _ _ hg hm, List.map_append]
            rfl
        · rintro H3 ⟨sm3, ep3, eD3⟩
          refine q H3 D2 sm3 (sm12.free nD2) ?_
          rw [eD3, hlen, ← glueF_length gs z, List.take_length]
end
end K47

/-! The defs stack_size and placed. -/
namespace K47
open PySem PySem.Spec PyProof.Rows L2
theorem gap_row : ¬ (V.str "gap" = V.str "row") := by decide +kernel
theorem row_gap : ¬ (V.str "row" = V.str "gap") := by decide +kernel
theorem dec_t {a b : V} (h : a = b) {A B : Prop} (q : A) : if decide (a = b) = true then A else B := by
  rw [if_pos (decide_eq_true h)]
  exact q
theorem dec_f {a b : V} (h : ¬ a = b) {A B : Prop} (q : B) : if decide (a = b) = true then A else B := by
  rw [if_neg fun z => h (of_decide_eq_true z)]
  exact q
theorem lt_of_get {α : Type} {l : List α} {i : Nat} {x : α} (h : l[i]? = some x) : i < l.length := (List.getElem?_eq_some_iff.mp h).1

abbrev sSize : Stmt := topS 4
theorem scSize : FnScope ["stack", "total", "part"] ["stack"] (defScope sSize) := ⟨rfl, rfl, rfl, by decide +kernel, rfl, by decide +kernel, by decide +kernel⟩
def spSize (K : PySem.W.Frag) : Sp := fun vs H Q _ => ∃ (a : Addr) (xs : List V) (ps : List Part), vs = [.ref a] ∧ SqL K H a xs ∧ DpAll K H xs (ps.map partD) ∧ Q (.int (sizes ps).sum) H
section
variable {P : Program} {w : World} {K : PySem.W.Frag} {mg : Str → Option Value} {base : Heap}
theorem ok_size {f : Addr} {fd : FuncData} {k : Nat} (F : Fun K "stack_size" "stack_size" sSize f fd) : FnOk P w K mg base CX0 (k + 1) f fd ["stack"] (spSize K) := by
  refine F.ok scSize (fun vs H Q E h => ?_) (fun cdv A outer s H vs Q E hr h => ?_)
  · obtain ⟨a, xs, ps, rfl, _⟩ := h
    rfl
  · obtain ⟨a, xs, ps, rfl, hS, hD, q⟩ := h
    refine ⟨_, pss_cons (ps_set (i := 1) scSize.nd rfl (.inl rfl) pe_int)
      (pss_cons (ps_for PassesOwn.never rfl (pi_list (pv 0)) (pg_name (i := 2) scSize.nd rfl (.inl rfl))
        (pss_one (ps_set (i := 1) scSize.nd rfl (.inl rfl) (pe_op op_add (pe_op op_add (pv 1) (pe_ix ix_tup (pv 2) pe_int (fun _ _ => rfl)))
          (pe_ifExp (pt_cmpR op_eq (pe_ix ix_tup (pv 2) pe_int (fun _ _ => rfl)) pe_str (nomark _)) (pe_ix ix_tup (pv 2) pe_int (fun _ _ => rfl)) pe_int)))))
      (pss_one (ps_ret (pv 1)))), ?_⟩
    refine ⟨.ref a, rfl, a, rfl, ⟨_, hS⟩, for_list (K := K) (a := a) (xs := xs) (fun i σ H' => ∃ y2, σ = [some (.ref a), some (.int ((sizes ps).take i).sum), y2] ∧ H' = H)
      ⟨none, rfl, rfl⟩ (fun i σ H' _ ⟨_, _, e⟩ => by rw [e]; exact hS) ?_ ?_⟩
    · rintro i x σ H' hx ⟨y2, rfl, rfl⟩
      obtain ⟨p, hp, qp⟩ := dps_at hD hx
      have hz : (sizes ps)[i]? = some p.size := by
        unfold sizes
        rw [List.getElem?_map, hp]
        rfl
      have ez := sum_take hz
      cases p with
      | row h d rows =>
        obtain ⟨t, l, rs, rfl, hT, _, _⟩ := part_view qp
        refine ⟨_, rfl, .ref t, rfl, t, _, 1, .int h, rfl, rfl, hT, atI_nat (j := 1) rfl, _, _, rfl, rfl, .ref t, rfl, t, _, 0, .str "row", rfl, rfl, hT, atI_nat (j := 0) rfl, rfl, _, rfl, dec_t rfl ?_⟩
        refine ⟨.ref t, rfl, t, _, 2, .int d, rfl, rfl, hT, atI_nat (j := 2) rfl, _, _, rfl, rfl, some (.ref t), congrArg (fun z : Int => ([some (V.ref a), some (V.int z), some (V.ref t)] : L2.St)) (?_ : ((sizes ps).take i).sum + h + d = _), rfl⟩
        rw [ez, Int.add_assoc]
        all_goals rfl
      | gap g =>
        obtain ⟨t, rfl, hT⟩ := gap_view qp
        refine ⟨_, rfl, .ref t, rfl, t, _, 1, .int g.1, rfl, rfl, hT, atI_nat (j := 1) rfl, _, _, rfl, rfl, .ref t, rfl, t, _, 0, .str "gap", rfl, rfl, hT, atI_nat (j := 0) rfl, rfl, _, rfl, dec_f gap_row ?_⟩
        refine ⟨_, _, rfl, rfl, some (.ref t), congrArg (fun z : Int => ([some (V.ref a), some (V.int z), some (V.ref t)] : L2.St)) (?_ : ((sizes ps).take i).sum + g.1 + 0 = _), rfl⟩
        rw [ez, Int.add_zero]
        all_goals rfl
    · rintro σ H' ⟨y2, rfl, rfl⟩
      refine ⟨_, rfl, ?_⟩
      rw [show xs.length = (sizes ps).length by rw [dps_len hD]; unfold sizes; rw [List.length_map], List.take_length]
      exact q
end
end K47

/-! The def placed. -/
namespace K47
open PySem PySem.Spec PyProof.Rows L2
theorem gaps_snoc {ps : List Part} {i : Nat} {g : Gap} (h : ps[i]? = some (.gap g)) : gaps (ps.take (i + 1)) = gaps (ps.take i) ++ [g] := by
  unfold gaps
  rw [List.take_add_one, h, List.filterMap_append]
  rfl
theorem gaps_keep {ps : List Part} {i : Nat} {h d : Int} {rows : List Row} (e : ps[i]? = some (.row h d rows)) : gaps (ps.take (i + 1)) = gaps (ps.take i) := by
  unfold gaps
  rw [List.take_add_one, e, List.filterMap_append]
  exact List.append_nil _
theorem good_rows {ps : List Part} (G : Good ps) {i : Nat} {h d : Int} {rows : List Row} (e : ps[i]? = some (.row h d rows)) : rows.length ≤ 3 := by
  have q : GoodPart (.row h d rows) := G.2 _ (List.mem_of_getElem? e)
  exact q.2.2.1
theorem run_rows {ps : List Part} (G : Good ps) (hs : List Int) : ∀ i, (run hs (ps.take i)).1.length ≤ 3 * i
  | 0 => Nat.le_refl 0
  | i + 1 => by
    have ih := run_rows G hs i
    cases e : ps[i]? with
    | none =>
      have e2 : ps.take (i + 1) = ps.take i := by
        rw [List.take_add_one, e]
        exact List.append_nil _
      rw [e2]
      omega
    | some p =>
      rw [run_take e]
      cases p with
      | gap g =>
        show (run hs (ps.take i)).1.length ≤ _
        omega
      | row h d rows =>
        have hr := good_rows G e
        show ((run hs (ps.take i)).1 ++ rowsAt _ rows).length ≤ _
        unfold rowsAt
        rw [List.length_append, List.length_map]
        omega
theorem rev_drop {hs : List Int} {n : Nat} (h : n < hs.length) : ((hs.drop n).reverse).map V.int = ((hs.drop (n + 1)).reverse).map V.int ++ [.int (hs.getD n 0)] := by
  rw [List.drop_eq_getElem_cons h, List.reverse_cons, List.map_append, List.getD_eq_getElem?_getD, List.getElem?_eq_getElem h]
  rfl
theorem last_of {xs : List V} {y : V} : (xs ++ [y])[(xs ++ [y]).length - 1]? = some y := by
  rw [List.length_append, List.length_singleton, Nat.add_sub_cancel, List.getElem?_append_right (Nat.le_refl _), Nat.sub_self]
  rfl
theorem rows_snoc {y : Int} {rows : List Row} {j : Nat} {r : Row} (h : rows[j]? = some r) : rowsAt y (rows.take (j + 1)) = rowsAt y (rows.take j) ++ [(r.1, y, r.2.1, r.2.2)] := by
  unfold rowsAt
  rw [List.take_add_one, h, List.map_append]
  rfl
def rList (K : PySem.W.Frag) : List V → Hp → VK → Prop := fun xs H Q => ∃ p ys, xs = [.ref p] ∧ (SqL K H p ys ∨ SqT K H p ys) ∧ ∀ l, H l = none → Q (.ref l) (upd H l (.lst ys))

abbrev nPlaced : List Str := ["stack", "height", "part", "gaps", "heights", "found", "y", "x", "use", "glyphs"]
abbrev sPlaced : Stmt := topS 5
theorem scPlaced : FnScope nPlaced ["stack", "height"] (defScope sPlaced) := ⟨rfl, rfl, rfl, by decide +kernel, rfl, by decide +kernel, by decide +kernel⟩
def spPlaced (K : PySem.W.Frag) : Sp := fun vs H Q _ => ∃ (a : Addr) (xs : List V) (ps : List Part) (ht : Int), vs = [.ref a, .int ht] ∧ SqL K H a xs ∧ DpAll K H xs (ps.map partD) ∧ Good ps ∧
  ∀ H' r, Same H H' → Dp K H' r (outsD (run (glueF (gaps ps) (ht - (sizes ps).sum)) ps).1) → Q r H'
section
variable {P : Program} {w : World} {K : PySem.W.Frag} {mg : Str → Option Value} {base : Heap}
theorem ok_placed {f fG fZ : Addr} {fd fdG fdZ : FuncData} (F : Fun K "placed" "placed" sPlaced f fd) (FG : Fun K "glue_widths" "glue_widths" sGlue fG fdG) (bG : Binds K fdG ["gaps", "amount"] []) (gG : mg "glue_widths" = some (.ref fG))
    (GG : FnOk P w K mg base CX0 2 fG fdG ["gaps", "amount"] (spGlue K)) (FZ : Fun K "stack_size" "stack_size" sSize fZ fdZ) (bZ : Binds K fdZ ["stack"] []) (gZ : mg "stack_size" = some (.ref fZ)) (mList : mg "list" = none) :
    FnOk P w K mg base CX0 3 f fd ["stack", "height"] (spPlaced K) := by
  have GZ : FnOk P w K mg base CX0 1 fZ fdZ ["stack"] (spSize K) := ok_size FZ
  refine F.ok scPlaced (fun vs H Q E h => ?_) (fun cdv A outer s H vs Q E hr h => ?_)
  · obtain ⟨a, xs, ps, ht, rfl, _⟩ := h
    rfl
  · obtain ⟨a, xs, ps, ht, rfl, hS, hD, hG, q⟩ := h
    have hlen : xs.length = ps.length := dps_len hD
    refine ⟨_, pss_cons (ps_setLc (i := 3) (own := [("part", 2)]) (g := gName 2) (tt := tTest (tOp rEq (tOp (rIxT K) (tVar 2) (tC (.int 0))) (tC (.str "gap")))) (te := tSl (rSlT K) (tVar 2) (tPart (tC (.int 1))) (tPart (tC (.int 4))))
          rfl scPlaced.nd rfl rfl (sw_true rfl rfl rfl (by decide +kernel)) (pi_list (pv 0)) (blkOk_by (own := [("part", 2)]) (N := nPlaced) (sc := defScope sPlaced) (by decide +kernel))
            (fun _ _ _ _ _ => pg_name (i := 2) scPlaced.nd rfl (.inl rfl)) (fun _ _ _ _ _ => pts_one (pt_cmpR op_eq (pe_ix ix_tup (pv 2) pe_int (fun _ _ => rfl)) pe_str (nomark _)))
            (fun _ _ _ _ _ => pe_slice sl_tup (pv 2) (po_some pe_int) (po_some pe_int)))
      (pss_cons (ps_set (i := 4) scPlaced.nd rfl (.inl rfl) (pe_call GG hr (by rfl) gG FG.kp bG .nil pass0 (pa_cons (pv 3)
          (pa_cons (pe_op op_sub (pv 1) (pe_call GZ (hr.mono (by decide)) (by rfl) gZ FZ.kp bZ .nil pass0 (pa_cons (pv 0) pa_nil))) pa_nil))))
      (pss_cons (ps_expr (pe_bm0 PySem.F.plainAttrs_list PySem.F.slot_list_reverse PySem.F.type_list_reverse mt_reverse (pv 4)))
      (pss_cons (ps_set (i := 5) scPlaced.nd rfl (.inl rfl) (pe_lst pa_nil))
      (pss_cons (ps_set (i := 6) scPlaced.nd rfl (.inr rfl) pe_int)
      (pss_cons (ps_for PassesOwn.never rfl (pi_list (pv 0)) (pg_name (i := 2) scPlaced.nd rfl (.inr rfl))
        (pss_cons (ps_if (pt_cmpR op_eq (pe_ix ix_tup (pv 2) pe_int (fun _ _ => rfl)) pe_str (nomark _))
            (pss_cons (ps_set (i := 6) scPlaced.nd rfl (.inr rfl) (pe_op op_add (pv 6) (pe_bm0 PySem.F.plainAttrs_list PySem.F.slot_list_pop PySem.F.type_list_pop mt_pop (pv 4)))) (pss_one ps_continue)) pss_nil)
        (pss_cons (ps_expr (pe_bm PySem.F.plainAttrs_list PySem.F.slot_list_extend PySem.F.type_list_extend mt_extend (pv 5) (pa_cons
            (pe_lc (own := [("x", 7), ("use", 8), ("glyphs", 9)]) (g := gTup K 3 (gCons (gName 7) (gCons (gName 8) (gCons (gName 9) gNil)))) (tt := tYes)
              (te := tTup (tCons (tVar 7) (tCons (tOp (rI0 fun i j => .int (i + j)) (tVar 6) (tOp (rIxT K) (tVar 2) (tC (.int 1)))) (tCons (tVar 8) (tCons (tCB (rList K) (tCons (tVar 9) tNil)) tNil)))))
              rfl scPlaced.nd (pi_list (pe_ix ix_tup (pv 2) pe_int (fun _ _ => rfl))) (blkOk_by (own := [("x", 7), ("use", 8), ("glyphs", 9)]) (N := nPlaced) (sc := defScope sPlaced) (by decide +kernel))
              (fun _ _ _ _ _ => pg_tup rfl (pgs_cons (pg_name (i := 7) scPlaced.nd rfl (.inl rfl)) (pgs_cons (pg_name (i := 8) scPlaced.nd rfl (.inl rfl)) (pgs_cons (pg_name (i := 9) scPlaced.nd rfl (.inl rfl)) pgs_nil))))
              (fun _ _ _ _ _ => pts_nil)
              (fun _ _ _ _ _ => pe_tup (pa_cons (pv 7) (pa_cons (pe_op op_add (pv 6) (pe_ix ix_tup (pv 2) pe_int (fun _ _ => rfl))) (pa_cons (pv 8)
                (pa_cons (pe_callTy call_list_of (by rfl) mList (by decide +kernel) (pa_cons (pv 9) pa_nil)) pa_nil)))))) pa_nil)))
        (pss_one (ps_set (i := 6) scPlaced.nd rfl (.inr rfl) (pe_op op_add (pe_op op_add (pv 6) (pe_ix ix_tup (pv 2) pe_int (fun _ _ => rfl))) (pe_ix ix_tup (pv 2) pe_int (fun _ _ => rfl))))))))
      (pss_one (ps_ret (pv 5)))))))), ?_⟩
    -- gaps = [part[1:4] for part in stack if part[0] == "gap"]
    refine ⟨.ref a, rfl, a, rfl, ⟨_, hS⟩, fun D nD => lc_list (K := K) (a := a) (xs := xs) (fun i H' => Same H H' ∧ ∃ zs, H' D = some (.lst zs) ∧ DpAll K (Off [D] H') zs ((gaps (ps.take i)).map gapD))
      ⟨same_new nD, [], upd_same, .nil⟩ (fun i H' _ p => p.1.seq hS) ?_ ?_⟩
    · rintro i x H' hx ⟨sm, zs, eD, hZ⟩
      obtain ⟨p, hp, qp⟩ := dps_at hD hx
      cases p with
      | row h d rows =>
        obtain ⟨t, l, rs, rfl, hT, _, _⟩ := part_view (dp_mono sm _ _ qp)
        refine ⟨rfl, .ref t, rfl, t, _, 0, .str "row", rfl, rfl, hT, atI_nat (j := 0) rfl, rfl, _, rfl, dec_f row_gap ⟨sm, zs, eD, ?_⟩⟩
        rw [gaps_keep hp]
        exact hZ
      | gap g =>
        obtain ⟨t, rfl, hT⟩ := gap_view (dp_mono sm _ _ qp)
        refine ⟨rfl, .ref t, rfl, t, _, 0, .str "gap", rfl, rfl, hT, atI_nat (j := 0) rfl, rfl, _, rfl, dec_t rfl ?_⟩
        refine ⟨.ref t, rfl, 1, rfl, 4, rfl, t, _, rfl, hT, by show ¬ (HT.sIx 4 0 (some 1) = 0 ∧ HT.sIx 4 4 (some 4) = 4); decide +kernel, fun T nT => ?_⟩
        have nTD : D ≠ T := ne_of_none eD nT
        have hz : zs.length < sizeLine := by
          rw [dps_len hZ]
          have h1 := gaps_le (ps.take i)
          rw [List.length_take] at h1
          have h2 := hG.1
          exact small1000 (by omega)
        refine ⟨zs, by rw [upd_ne nTD]; exact eD, hz, fun b o e => ?_, zs ++ [.ref T], upd_same, ?_⟩
        · rw [upd_ne (ne_of_none e nD)]
          exact same_new nT b o (sm b o e)
        · rw [off_upd List.mem_cons_self, gaps_snoc hp]
          exact dps_snoc (dps_mono (off_new nT) _ _ hZ) (gapD_make (SqT.of (off_some (fun z => nTD (List.mem_singleton.mp z).symm) upd_same)))
    · rintro H1 ⟨sm1, zs, eD, hZ⟩
      rw [hlen, List.take_length] at hZ
      have hZ1 := dps_mono off_sub _ _ hZ
      -- heights = glue_widths(gaps, height - stack_size(stack))
      refine ⟨.ref D, rfl, .int ht, rfl, .ref a, rfl, a, xs, ps, rfl, sm1.seq hS, dps_mono sm1 _ _ hD, _, _, rfl, rfl, D, zs, gaps ps, _, rfl, SqL.of eD, hZ1, parts_str hG, parts_shr hG, fun H2 hp sm2 np ep => ?_⟩
      generalize hhs : glueF (gaps ps) (ht - (sizes ps).sum) = hs at *
      have hhl : hs.length = (gaps ps).length := by
        rw [← hhs]
        exact glueF_length _ _
      -- heights.reverse(); found = []; y = 0
      refine ⟨.ref hp, rfl, .inl ⟨rfl, _, SqL.of ep⟩, hp, _, rfl, rfl, ep, Nat.zero_le _, fun fo nfo => ?_⟩
      have sma : Same H (upd H2 hp (.lst ((hs.map V.int).reverse))) := fun b o e => by
        rw [upd_ne (ne_of_none (sm1 b o e) np)]
        exact sm2 b o (sm1 b o e)
      have nhf : hp ≠ fo := ne_of_none (H := upd H2 hp (.lst ((hs.map V.int).reverse))) upd_same nfo
      have nhp : H hp = none := sm1.free np
      have nfo0 : H fo = none := sma.free nfo
      have smb : Same H (upd (upd H2 hp (.lst ((hs.map V.int).reverse))) fo (.lst [])) := sma.trans (same_new nfo)
      refine ⟨.ref a, rfl, a, rfl, ⟨_, smb.seq hS⟩, for_list (K := K) (a := a) (xs := xs) (fun i σ H' => ∃ y2, σ = [some (.ref a), some (.int ht), y2, some (.ref D), some (.ref hp), some (.ref fo), some (.int (run hs (ps.take i)).2.1), none, none, none] ∧
          Same H H' ∧ H' hp = some (.lst (((hs.drop (run hs (ps.take i)).2.2).reverse).map V.int)) ∧ ∃ os, H' fo = some (.lst os) ∧ DpAll K (Off [hp, fo] H') os ((run hs (ps.take i)).1.map outD))
        ⟨none, rfl, smb, ?_, [], upd_same, .nil⟩ (fun i σ H' _ ⟨_, _, sm, _⟩ => sm.seq hS) ?_ ?_⟩
      · rw [upd_ne nhf, upd_same, ← List.map_reverse]
        rfl
      · rintro i x σ H' hx ⟨y2, rfl, sm, eh, os, eo, hO⟩
        obtain ⟨p, hp', qp⟩ := dps_at hD hx
        have hst := run_take (hs := hs) hp'
        have hat := run_at hs (ps.take i)
        have hrl := run_rows hG hs i
        have hi : i < ps.length := lt_of_get hp'
        generalize run hs (ps.take i) = st at *
        obtain ⟨so, sy, sn⟩ := st
        cases p with
        | gap g =>
          obtain ⟨t, rfl, hT⟩ := gap_view (dp_mono sm _ _ qp)
          have hn : sn < hs.length := by
            rw [hhl]
            have := gap_lt hp'
            have hat : sn = (gaps (ps.take i)).length := hat
            omega
          have erd := rev_drop hn
          have eh : H' hp = some (.lst (((hs.drop sn).reverse).map V.int)) := eh
          rw [erd] at eh
          refine ⟨.ref t, rfl, t, _, 0, .str "gap", rfl, rfl, hT, atI_nat (j := 0) rfl, rfl, _, rfl, dec_t rfl ?_⟩
          refine ⟨_, rfl, .ref hp, rfl, .inl ⟨rfl, _, SqL.of eh⟩, hp, _, _, rfl, rfl, eh, last_of, _, _, rfl, rfl, ?_⟩
          rw [List.dropLast_concat]
          refine ⟨some (.ref t), ?_, fun b o e => ?_, ?_, os, ?_, ?_⟩
          · rw [hst]
            rfl
          · rw [upd_ne (ne_of_none e nhp)]
            exact sm b o e
          · rw [hst, upd_same]
            rfl
          · rw [upd_ne nhf.symm]
            exact eo
          · rw [hst, off_upd List.mem_cons_self]
            exact hO
        | row h d rows =>
          obtain ⟨t, l, rs, rfl, hT0, hL0, hR0⟩ := part_view qp
          have hT := same_tup sm hT0
          have hL := sm.seq hL0
          have hR := dps_mono sm _ _ hR0
          have h3 : rows.length ≤ 3 := good_rows hG hp'
          have hlr : rs.length = rows.length := dps_len hR
          refine ⟨.ref t, rfl, t, _, 0, .str "row", rfl, rfl, hT, atI_nat (j := 0) rfl, rfl, _, rfl, dec_f row_gap ?_⟩
          refine ⟨.ref fo, rfl, .inl ⟨rfl, _, SqL.of eo⟩, .ref t, rfl, t, _, 3, .ref l, rfl, rfl, hT, atI_nat (j := 3) rfl, l, rfl, ⟨_, hL⟩, fun D2 nD2 => ?_⟩
          have nDf : D2 ≠ fo := (ne_of_none eo nD2).symm
          have nDh : D2 ≠ hp := (ne_of_none eh nD2).symm
          refine lc_list (K := K) (a := l) (xs := rs) (fun j H2 => Same H' H2 ∧ ∃ zs, H2 D2 = some (.lst zs) ∧ DpAll K (Off [D2, hp, fo] H2) zs ((rowsAt (sy + h) (rows.take j)).map outD))
            ⟨same_new nD2, [], upd_same, .nil⟩ (fun j H2 _ p => p.1.seq hL) ?_ ?_
          · rintro j v H2 hv ⟨sm2, zs2, eD2, hZ2⟩
            obtain ⟨r, hr2, qr⟩ := dps_at hR hv
            obtain ⟨rt, gl, rfl, hRT, hGL⟩ := row_view (dp_mono sm2 _ _ qr)
            refine ⟨rt, _, rfl, hRT, rfl, _, _, rfl, _, _, rfl, _, _, rfl, rfl, rfl, yes_of ?_⟩
            refine ⟨_, rfl, _, rfl, .ref t, rfl, t, _, 1, .int h, rfl, rfl, same_tup sm2 hT, atI_nat (j := 1) rfl, _, _, rfl, rfl, _, rfl, .ref gl, rfl, gl, _, rfl, .inl hGL, fun L nL => ⟨by show 4 ≤ sizeLine; decide, fun T nT => ?_⟩⟩
            have nDL : D2 ≠ L := ne_of_none eD2 nL
            have nfL : fo ≠ L := ne_of_none (sm2 fo _ eo) nL
            have nhL : hp ≠ L := ne_of_none (sm2 hp _ eh) nL
            have sL : Same H2 (upd H2 L (.lst (r.2.2.map V.str))) := same_new nL
            have nDT : D2 ≠ T := ne_of_none (sL D2 _ eD2) nT
            have nfT : fo ≠ T := ne_of_none (sL fo _ (sm2 fo _ eo)) nT
            have nhT : hp ≠ T := ne_of_none (sL hp _ (sm2 hp _ eh)) nT
            have nLT : L ≠ T := ne_of_none (H := upd H2 L (.lst (r.2.2.map V.str))) upd_same nT
            have mT : T ∉ [D2, hp, fo] := by
              simp only [List.mem_cons, List.not_mem_nil, or_false, not_or]
              exact ⟨nDT.symm, nhT.symm, nfT.symm⟩
            have mL : L ∉ [D2, hp, fo] := by
              simp only [List.mem_cons, List.not_mem_nil, or_false, not_or]
              exact ⟨nDL.symm, nhL.symm, nfL.symm⟩
            have hz : zs2.length < sizeLine := by
              have q1 := dps_len hZ2
              unfold rowsAt at q1
              rw [List.length_map, List.length_take] at q1
              exact small1000 (by omega)
            refine ⟨zs2, by rw [upd_ne nDT, upd_ne nDL]; exact eD2, hz, fun b o e => ?_, zs2 ++ [.ref T], upd_same, ?_⟩
            · rw [upd_ne (ne_of_none e nD2)]
              exact same_new nT b o (sL b o (sm2 b o e))
            · rw [off_upd List.mem_cons_self, rows_snoc hr2]
              refine dps_snoc (dps_mono (off_same (sL.trans (same_new nT))) _ _ hZ2) ?_
              exact out_make (r := (r.1, sy + h, r.2.1, r.2.2)) (SqT.of (off_some mT upd_same)) (SqL.of (off_some mL ((upd_ne nLT).trans upd_same)))
          · rintro H3 ⟨sm3, zs3, eD3, hZ3⟩
            rw [hlr, List.take_length] at hZ3
            have sm0 : Same H (upd H3 fo (.lst (os ++ zs3))) := fun b o e => by
              rw [upd_ne (ne_of_none e nfo0)]
              exact sm3 b o (sm b o e)
            have hT3 := same_tup sm0 hT0
            have hz : os.length + zs3.length ≤ sizeLine := by
              have q1 := dps_len hO
              have q2 := dps_len hZ3
              unfold rowsAt at q2
              rw [List.length_map] at q2
              have q3 : so.length ≤ 3 * i := hrl
              have q4 := hG.1
              have q5 : so.length = os.length := q1.symm
              exact Nat.le_of_lt (small1000 (by omega))
            refine ⟨fo, D2, os, zs3, rfl, rfl, sm3 fo _ eo, eD3, hz, ?_⟩
            refine ⟨_, rfl, .ref t, rfl, t, _, 1, .int h, rfl, rfl, hT3, atI_nat (j := 1) rfl, _, _, rfl, rfl, .ref t, rfl, t, _, 2, .int d, rfl, rfl, hT3, atI_nat (j := 2) rfl, _, _, rfl, rfl, some (.ref t), ?_, sm0, ?_, os ++ zs3, upd_same, ?_⟩
            · rw [hst]
              rfl
            · rw [hst, upd_ne nhf]
              exact sm3 hp _ eh
            · rw [hst, off_upd (List.mem_cons_of_mem _ List.mem_cons_self)]
              show DpAll K (Off [hp, fo] H3) (os ++ zs3) ((so ++ rowsAt (sy + h) rows).map outD)
              rw [List.map_append]
              exact dps_append (dps_mono (off_same sm3) _ _ hO) (dps_mono off_less _ _ hZ3)
      · rintro σ H' ⟨y2, rfl, sm, eh, os, eo, hO⟩
        rw [hlen, List.take_length] at hO
        refine ⟨.ref fo, rfl, q H' _ sm ?_⟩
        exact .lst (SqL.of eo) (dps_mono off_sub _ _ hO)
end
end K47

/-! The defs _law_numbers and _law_pick. -/
namespace K47
open PySem PySem.Spec PyProof.Rows L2
abbrev sPick : Stmt := topS 8
theorem scPick : FnScope ["_law_feed", "_law_many"] ["_law_feed", "_law_many"] (defScope sPick) := ⟨rfl, rfl, rfl, by decide +kernel, rfl, by decide +kernel, by decide +kernel⟩
def spPick : Sp := fun vs H Q _ => ∃ (f : Addr) (ns : List Int) (m : Int), vs = [.ref f, .int m] ∧ 0 < m ∧ H f = some (.lst (ns.map V.int)) ∧
  ∀ (i : Int) (ns' : List Int), 0 ≤ i → i < m → Q (.int i) (upd H f (.lst (ns'.map V.int)))
theorem cut_ints (ns : List Int) (lo hi : Option Int) : ∃ ms : List Int, cutV (ns.map V.int) lo hi = ms.map V.int ∧ ms.length ≤ ns.length := by
  refine ⟨(ns.drop (HT.sIx ns.length 0 lo)).take (HT.sIx ns.length ns.length hi - HT.sIx ns.length 0 lo), ?_, ?_⟩
  · unfold cutV
    rw [List.length_map, List.map_take, List.map_drop]
  · rw [List.length_take, List.length_drop]
    omega
section
variable {P : Program} {w : World} {K : PySem.W.Frag} {mg : Str → Option Value} {base : Heap}
theorem ok_pick {f : Addr} {fd : FuncData} {k : Nat} (F : Fun K "_law_pick" "_law_pick" sPick f fd) (mLen : mg "len" = none) (mInt : mg "int" = none) : FnOk P w K mg base CX0 (k + 1) f fd ["_law_feed", "_law_many"] spPick := by
  refine F.ok scPick (fun vs H Q E h => ?_) (fun cdv A outer s H vs Q E hr h => ?_)
  · obtain ⟨a, ns, m, rfl, _⟩ := h
    rfl
  · obtain ⟨a, ns, m, rfl, hm, hF, q⟩ := h
    refine ⟨_, pss_cons (ps_if (pt_cmpR op_eq (pe_callB call_len_seq (by rfl) mLen PySem.boot_len (pa_cons (pv 0) pa_nil)) pe_int (nomark _)) (pss_one (ps_ret pe_int)) pss_nil)
      (pss_one (ps_ret (pe_op op_mod (pe_callTy call_int1 (by rfl) mInt (by decide +kernel) (pa_cons (pe_bm0 PySem.F.plainAttrs_list PySem.F.slot_list_pop PySem.F.type_list_pop mt_pop (pv 0)) pa_nil)) (pv 1)))), ?_⟩
    refine ⟨.ref a, rfl, a, _, rfl, .inl (SqL.of hF), rfl, _, rfl, ite2 (fun e => ?_) (fun e => ?_)⟩
    · have e0 : ((ns.map V.int).length : Int) = 0 := V.int.inj (of_decide_eq_true e)
      have h := q 0 ns (Int.le_refl 0) hm
      rw [upd_id hF] at h
      exact h
    · have h0 : ns ≠ [] := fun z => e (by rw [z]; rfl)
      have ens : ns.map V.int = ns.dropLast.map V.int ++ [.int (ns.getLast h0)] := by
        rw [← List.map_singleton, ← List.map_append, List.dropLast_concat_getLast]
      have hl : (ns.map V.int)[(ns.map V.int).length - 1]? = some (.int (ns.getLast h0)) := by
        rw [ens]
        rw [List.length_append, List.length_singleton, Nat.add_sub_cancel, List.getElem?_append_right (Nat.le_refl _), Nat.sub_self]
        rfl
      refine ⟨.ref a, rfl, .inl ⟨rfl, _, SqL.of hF⟩, a, _, _, rfl, rfl, hF, hl, .inl ⟨_, rfl, .int m, rfl, _, _, rfl, rfl, hm, ?_⟩⟩
      rw [← List.map_dropLast]
      exact q _ _ (Int.emod_nonneg _ (by omega)) (Int.emod_lt_of_pos _ hm)
end
abbrev sNumbers : Stmt := topS 7
theorem scNumbers : FnScope ["_law_script", "_law_row", "_law_cell", "_law_k", "_law_seed"] ["_law_script"] (defScope sNumbers) := ⟨rfl, rfl, rfl, by decide +kernel, rfl, by decide +kernel, by decide +kernel⟩
def spNumbers (K : PySem.W.Frag) : Sp := fun vs H Q _ => ∃ (a : Addr) (ns : List Int), vs = [.ref a] ∧ SqL K H a (ns.map V.int) ∧ ns.length ≤ 63 ∧
  ∀ H' r (ms : List Int), Same H H' → H r = none → H' r = some (.lst (ms.map V.int)) → Q (.ref r) H'
theorem ints_snoc (rs : List Int) (z : Int) : rs.map V.int ++ [.int z] = (rs ++ [z]).map V.int := by
  rw [List.map_append]
  rfl
section
variable {P : Program} {w : World} {K : PySem.W.Frag} {mg : Str → Option Value} {base : Heap}
theorem ok_numbers {f : Addr} {fd : FuncData} {k : Nat} (F : Fun K "_law_numbers" "_law_numbers" sNumbers f fd) (mRange : mg "range" = none) (mInt : mg "int" = none) : FnOk P w K mg base CX0 (k + 1) f fd ["_law_script"] (spNumbers K) := by
  refine F.ok scNumbers (fun vs H Q E h => ?_) (fun cdv A outer s H vs Q E hr h => ?_)
  · obtain ⟨a, ns, rfl, _⟩ := h
    rfl
  · obtain ⟨a, ns, rfl, hS, hl63, q⟩ := h
    obtain ⟨ms, ems, hms⟩ := cut_ints ns none (some 63)
    refine ⟨_, pss_cons (ps_set (i := 1) scNumbers.nd rfl (.inl rfl) (pe_lst pa_nil))
      (pss_cons (ps_for PassesOwn.never rfl (pi_list (pe_slice sl_list (pv 0) po_none (po_some pe_int))) (pg_name (i := 2) scNumbers.nd rfl (.inl rfl))
        (pss_one (ps_if (pt_cmpR op_ge (pv 2) (pe_op op_pow pe_int pe_int) (nomark _))
          (pss_one (ps_for PassesOwn.never rfl (pi_range1 (by rfl) mRange (pa_cons pe_int pa_nil)) (pg_name (i := 3) scNumbers.nd rfl (.inl rfl))
            (pss_one (ps_if (pt_cmpR op_gt (pv 2) pe_int (nomark _))
              (pss_cons (ps_expr (pe_bm PySem.F.plainAttrs_list PySem.F.slot_list_append PySem.F.type_list_append mt_append (pv 1) (pa_cons (pe_op op_mod (pe_callTy call_int1 (by rfl) mInt (by decide +kernel) (pa_cons (pv 2) pa_nil)) pe_int) pa_nil)))
              (pss_one (ps_set (i := 2) scNumbers.nd rfl (.inl rfl) (pe_op op_fdiv (pv 2) pe_int)))) pss_nil))))
          (pss_cons (ps_set (i := 4) scNumbers.nd rfl (.inl rfl) (pe_op op_mod (pe_callTy call_int1 (by rfl) mInt (by decide +kernel) (pa_cons (pe_op op_add (pe_op op_mul (pv 2) pe_int) pe_int) pa_nil)) pe_int))
          (pss_one (ps_for PassesOwn.never rfl (pi_range1 (by rfl) mRange (pa_cons pe_int pa_nil)) (pg_name (i := 3) scNumbers.nd rfl (.inl rfl))
            (pss_cons (ps_set (i := 4) scNumbers.nd rfl (.inl rfl) (pe_op op_mod (pe_callTy call_int1 (by rfl) mInt (by decide +kernel) (pa_cons (pe_op op_add (pe_op op_add (pe_op op_mul (pv 4) pe_int) (pe_op op_mul pe_int (pv 3))) pe_int) pa_nil)) pe_int))
            (pss_one (ps_expr (pe_bm PySem.F.plainAttrs_list PySem.F.slot_list_append PySem.F.type_list_append mt_append (pv 1) (pa_cons (pe_op op_mod (pe_callTy call_int1 (by rfl) mInt (by decide +kernel)
              (pa_cons (pe_op op_add (pe_op op_mul (pe_op op_mod (pe_callTy call_int1 (by rfl) mInt (by decide +kernel) (pa_cons (pv 4) pa_nil)) pe_int) pe_int) (pe_op op_fdiv (pv 4) pe_int)) pa_nil)) pe_int) pa_nil)))))))))))
      (pss_cons (ps_set (i := 1) scNumbers.nd rfl (.inl rfl) (pe_slice sl_list (pv 1) po_none (po_some pe_int)))
      (pss_cons (ps_expr (pe_bm0 PySem.F.plainAttrs_list PySem.F.slot_list_reverse PySem.F.type_list_reverse mt_reverse (pv 1)))
      (pss_one (ps_ret (pv 1)))))), ?_⟩
    refine ⟨Nat.zero_le _, fun o no => ?_⟩
    have s1 : Same H (upd H o (.lst [])) := same_new no
    refine ⟨.ref a, rfl, 63, rfl, a, _, rfl, s1.seq hS, fun c nc => ?_⟩
    rw [ems]
    have nco : o ≠ c := ne_of_none (H := upd H o (.lst [])) upd_same nc
    refine ⟨c, rfl, ⟨_, SqL.of upd_same⟩, for_list (K := K) (a := c) (xs := ms.map V.int) (fun i σ H' => ∃ y2 y3 y4 rs, σ = [some (.ref a), some (.ref o), y2, y3, y4] ∧ Same H H' ∧ H' c = some (.lst (ms.map V.int)) ∧ H' o = some (.lst (List.map V.int rs)) ∧ rs.length ≤ 60 * i)
      ⟨none, none, none, [], rfl, s1.trans (same_new nc), upd_same, (upd_ne nco).trans upd_same, Nat.le_refl _⟩ (fun i σ H' _ ⟨_, _, _, _, _, _, ec, _⟩ => SqL.of ec) ?_ ?_⟩
    · rintro i x σ H' hx ⟨y2, y3, y4, rs, rfl, sm, ec, eo, hl⟩
      have hi : i < 63 := by
        have h := lt_of_get hx
        rw [List.length_map] at h
        omega
      obtain ⟨z, rfl⟩ : ∃ z, x = V.int z := by
        obtain ⟨z, _, e⟩ := List.mem_map.mp (List.mem_of_getElem? hx)
        exact ⟨z, e.symm⟩
      refine ⟨_, rfl, 10, 18, rfl, rfl, ⟨by decide, by decide, by decide⟩, _, _, rfl, rfl, _, rfl, ite2 (fun _ => ?_) (fun _ => ?_)⟩
      · refine ⟨60, rfl, by decide, by decide, for_range (lo := 0) (n := 60) (fun j σ H2 => ∃ z y3 rs2, σ = [some (.ref a), some (.ref o), some (.int z), y3, y4] ∧ Same H H2 ∧ H2 c = some (.lst (ms.map V.int)) ∧ H2 o = some (.lst (List.map V.int rs2)) ∧ rs2.length ≤ rs.length + j)
          ⟨z, y3, rs, rfl, sm, ec, eo, Nat.le_refl _⟩ ?_ ?_⟩
        · rintro j σ H2 hj ⟨z2, y3, rs2, rfl, sm2, ec2, eo2, hl2⟩
          refine ⟨_, rfl, _, _, rfl, rfl, _, rfl, ite2 (fun _ => ?_) (fun _ => ?_)⟩
          · refine ⟨.ref o, rfl, .inl ⟨rfl, _, SqL.of eo2⟩, _, rfl, .inl ⟨_, rfl, _, _, rfl, rfl, (by show (0 : Int) < 1000; decide), o, _, _, rfl, rfl, eo2, ?_, _, rfl, _, _, rfl, rfl, ⟨by decide, by decide⟩, _, _, rs2 ++ [z2 % 1000], rfl, fun b u e => ?_, ?_, ?_, ?_⟩⟩
            · rw [List.length_map]
              exact Nat.lt_of_le_of_lt (show rs2.length ≤ 10000 by omega) (by decide)
            · rw [upd_ne (ne_of_none e no)]
              exact sm2 b u e
            · rw [upd_ne nco.symm]
              exact ec2
            · rw [upd_same, ints_snoc]
            · rw [List.length_append, List.length_singleton]
              omega
          · exact ⟨z2, _, rs2, rfl, sm2, ec2, eo2, by omega⟩
        · rintro σ H2 ⟨z2, y3, rs2, rfl, sm2, ec2, eo2, hl2⟩
          exact ⟨_, _, _, rs2, rfl, sm2, ec2, eo2, by omega⟩
      · refine ⟨_, rfl, _, _, rfl, rfl, .inr ⟨by decide, by decide⟩, _, _, rfl, rfl, .inl ⟨_, rfl, _, _, rfl, rfl, (by show (0 : Int) < 2147483647; decide), ?_⟩⟩
        refine ⟨9, rfl, by decide, by decide, for_range (lo := 0) (n := 9) (fun j σ H2 => ∃ z y3 sd rs2, σ = [some (.ref a), some (.ref o), some (.int z), y3, some (.int sd)] ∧ Same H H2 ∧ H2 c = some (.lst (ms.map V.int)) ∧ H2 o = some (.lst (List.map V.int rs2)) ∧ rs2.length ≤ rs.length + j)
          ⟨z, y3, _, rs, rfl, sm, ec, eo, Nat.le_refl _⟩ ?_ ?_⟩
        · rintro j σ H2 hj ⟨z2, y3, sd, rs2, rfl, sm2, ec2, eo2, hl2⟩
          refine ⟨_, rfl, _, _, rfl, rfl, .inr ⟨by decide, by decide⟩, _, rfl, _, _, rfl, rfl, .inl ⟨by decide, by decide⟩, _, _, rfl, rfl, _, _, rfl, rfl, .inl ⟨_, rfl, _, _, rfl, rfl, (by show (0 : Int) < 2147483647; decide), ?_⟩⟩
          refine ⟨.ref o, rfl, .inl ⟨rfl, _, SqL.of eo2⟩, _, rfl, .inl ⟨_, rfl, _, _, rfl, rfl, (by show (0 : Int) < 1000003; decide), _, _, rfl, rfl, .inr ⟨by decide, by decide⟩, _, rfl, _, _, rfl, rfl, ⟨by decide, by decide⟩, _, _, rfl, rfl, .inl ⟨_, rfl, _, _, rfl, rfl, (by show (0 : Int) < 1000; decide), o, _, _, rfl, rfl, eo2, ?_, _, _, _, rs2 ++ [((sd * 69621 + 7 * (0 + (j : Int)) + 1) % 2147483647 % 1000003 * 7919 + (sd * 69621 + 7 * (0 + (j : Int)) + 1) % 2147483647 / 1009) % 1000], rfl, fun b u e => ?_, ?_, ?_, ?_⟩⟩⟩
          · rw [List.length_map]
            exact Nat.lt_of_le_of_lt (show rs2.length ≤ 10000 by omega) (by decide)
          · rw [upd_ne (ne_of_none e no)]
            exact sm2 b u e
          · rw [upd_ne nco.symm]
            exact ec2
          · rw [upd_same, ints_snoc]
          · rw [List.length_append, List.length_singleton]
            omega
        · rintro σ H2 ⟨z2, y3, sd, rs2, rfl, sm2, ec2, eo2, hl2⟩
          exact ⟨_, _, _, rs2, rfl, sm2, ec2, eo2, by omega⟩
    · rintro σ H' ⟨y2, y3, y4, rs, rfl, sm, ec, eo, hl⟩
      obtain ⟨ts, ets, _⟩ := cut_ints rs none (some 300)
      refine ⟨.ref o, rfl, 300, rfl, o, _, rfl, SqL.of eo, fun r nr => ?_⟩
      rw [ets]
      refine ⟨.ref r, rfl, .inl ⟨rfl, _, SqL.of upd_same⟩, r, _, rfl, rfl, upd_same, .ref r, rfl, ?_⟩
      refine q _ r ts.reverse (fun b u e => ?_) (sm.free nr) ?_
      · have nb : b ≠ r := ne_of_none (sm b u e) nr
        rw [upd_ne nb, upd_ne nb]
        exact sm b u e
      · rw [upd_same, List.map_reverse]
end
end K47

/-! The def _law_same: equal data are the same. -/
namespace K47
open PySem PySem.Spec PyProof.Rows L2
/-- ints, texts, lists and tuples, fewer than n deep -/
def simp : Nat → PyData → Prop
  | 0, _ => False
  | _ + 1, .int _ => True
  | _ + 1, .str _ => True
  | n + 1, .list ds => ds.length ≤ 1000000 ∧ ∀ d ∈ ds, simp n d
  | n + 1, .tuple ds => ds.length ≤ 1000000 ∧ ∀ d ∈ ds, simp n d
  | _ + 1, _ => False
section
variable {K : PySem.W.Frag} {H : Hp}
theorem non_ne {r : Addr} : ¬ V.ref r = V.non := fun z => nomatch z
theorem non_int {i : Int} : ¬ V.int i = V.non := fun z => nomatch z
theorem non_str {t : Str} : ¬ V.str t = V.non := fun z => nomatch z
theorem tyx_lst {a : Addr} {xs : List V} (h : SqL K H a xs) : TyX K H (.ref a) (.type "list") := by
  rcases h with (h | ⟨o, h⟩) | ⟨o, _, _, h1, h2, _⟩
  · exact .base (.lst h)
  · exact .base (.frz h)
  · exact .kList h1 h2
theorem tyx_tup {a : Addr} {xs : List V} (h : SqT K H a xs) : TyX K H (.ref a) (.type "tuple") := by
  rcases h with (h | ⟨o, h⟩) | ⟨o, _, _, h1, h2, _⟩
  · exact .base (.tup h)
  · exact .fTuple h
  · exact .kTuple h1 h2
abbrev tIsi (K : PySem.W.Frag) (i : Nat) (T : String) : TE := tCB (rIsi K) (tCons (tVar i) (tCons (tC (.ty T)) tNil))
theorem test_no {σ : L2.St} {x y : V} {n T : String} {b : Bool} {Q : Bool → Hp → Prop} (h0 : σ[0]? = some (some x)) (h1 : σ[1]? = some (some y)) (hx : TyX K H x (.type n)) (hy : TyX K H y (.type n)) (e : kitB n T = some b) (q : Q false H) :
    tAnd (tB (tIsi K 1 T)) (tNot (tB (tIsi K 0 T))) σ H Q := by
  refine ⟨y, h1, y, .ty T, _, _, b, rfl, .ty T, hy, kit_ty e, b, rfl, ?_⟩
  cases b with
  | true => exact iteT ⟨x, h0, x, .ty T, _, _, true, rfl, .ty T, hx, kit_ty e, true, rfl, q⟩
  | false => exact iteF q
theorem ix_any {p : Addr} {xs : List V} {z : Int} {i : Nat} {v : V} {Q : VK} (h : SqL K H p xs ∨ SqT K H p xs) (e : z = (i : Int)) (hi : xs[i]? = some v) (q : Q v H) : rIx K (.ref p) (.int z) H Q := by
  rcases h with h | h
  · exact .inl ⟨p, xs, z, v, rfl, rfl, h, at_of e hi, q⟩
  · exact .inr (.inl ⟨p, xs, z, v, rfl, rfl, h, at_of e hi, q⟩)
end
abbrev sSame : Stmt := topS 9
theorem scSame : FnScope ["_law_actual", "_law_due_here", "_law_k"] ["_law_actual", "_law_due_here"] (defScope sSame) := ⟨rfl, rfl, rfl, by decide +kernel, rfl, by decide +kernel, by decide +kernel⟩
def spSame (K : PySem.W.Frag) (n : Nat) : Sp := fun vs H Q _ => ∃ x y d, vs = [x, y] ∧ Dp K H x d ∧ Dp K H y d ∧ simp n d ∧ Q (.bl true) H
structure Nones (mg : Str → Option Value) : Prop where
  isi : mg "isinstance" = none
  bool : mg "bool" = none
  int : mg "int" = none
  str : mg "str" = none
  list : mg "list" = none
  tuple : mg "tuple" = none
  len : mg "len" = none
  range : mg "range" = none
section
variable {P : Program} {w : World} {K : PySem.W.Frag} {mg : Str → Option Value} {base : Heap}
theorem ok_same {f : Addr} {fd : FuncData} (F : Fun K "_law_same" "_law_same" sSame f fd) (bF : Binds K fd ["_law_actual", "_law_due_here"] []) (gF : mg "_law_same" = some (.ref f)) (M : Nones mg) :
    ∀ n, FnOk P w K mg base CX0 n f fd ["_law_actual", "_law_due_here"] (spSame K n)
  | 0 => ⟨fun vs H Q E h => by obtain ⟨x, y, d, rfl, _⟩ := h; rfl, fun A outer s H args us vs Q E _ _ _ _ h => by obtain ⟨x, y, d, _, _, _, h, _⟩ := h; exact h.elim⟩
  | n + 1 => by
    have G : FnOk P w K mg base CX0 n f fd ["_law_actual", "_law_due_here"] (spSame K n) := ok_same F bF gF M n
    refine F.ok scSame (fun vs H Q E h => ?_) (fun cdv A outer s H vs Q E hr h => ?_)
    · obtain ⟨x, y, d, rfl, _⟩ := h
      rfl
    · obtain ⟨x, y, d, rfl, hx, hy, hs, q⟩ := h
      refine ⟨_, pss_cons (ps_if (pt_cmp (pc_isN (pv 1)) rfl) (pss_one (ps_ret (pe_cmp (pc_isN (pv 0)) rfl))) pss_nil)
        (pss_cons (ps_if (pt_val (pe_callB call_isi (by rfl) M.isi (by decide +kernel) (pa_cons (pv 1) (pa_cons (pe_bltn (v := .ty "bool") (by rfl) M.bool (by decide +kernel) rfl) pa_nil))))
          (pss_one (ps_ret (pe_and (pe_callB call_isi (by rfl) M.isi (by decide +kernel) (pa_cons (pv 0) (pa_cons (pe_bltn (v := .ty "bool") (by rfl) M.bool (by decide +kernel) rfl) pa_nil))) (pe_one (pe_cmpR op_eq (pv 0) (pv 1) (nomark _)))))) pss_nil)
        (pss_cons (ps_if (pt_val (pe_callB call_isi (by rfl) M.isi (by decide +kernel) (pa_cons (pv 1) (pa_cons (pe_bltn (v := .ty "int") (by rfl) M.int (by decide +kernel) rfl) pa_nil))))
          (pss_one (ps_ret (pe_and (pe_callB call_isi (by rfl) M.isi (by decide +kernel) (pa_cons (pv 0) (pa_cons (pe_bltn (v := .ty "int") (by rfl) M.int (by decide +kernel) rfl) pa_nil)))
            (pe_and (pe_not (pe_callB call_isi (by rfl) M.isi (by decide +kernel) (pa_cons (pv 0) (pa_cons (pe_bltn (v := .ty "bool") (by rfl) M.bool (by decide +kernel) rfl) pa_nil)))) (pe_one (pe_cmpR op_eq (pv 0) (pv 1) (nomark _))))))) pss_nil)
        (pss_cons (ps_if (pt_val (pe_callB call_isi (by rfl) M.isi (by decide +kernel) (pa_cons (pv 1) (pa_cons (pe_bltn (v := .ty "str") (by rfl) M.str (by decide +kernel) rfl) pa_nil))))
          (pss_one (ps_ret (pe_and (pe_callB call_isi (by rfl) M.isi (by decide +kernel) (pa_cons (pv 0) (pa_cons (pe_bltn (v := .ty "str") (by rfl) M.str (by decide +kernel) rfl) pa_nil))) (pe_one (pe_cmpR op_eq (pv 0) (pv 1) (nomark _)))))) pss_nil)
        (pss_cons (ps_if (PW.pt (pw_and (pt_val (pe_callB call_isi (by rfl) M.isi (by decide +kernel) (pa_cons (pv 1) (pa_cons (pe_bltn (v := .ty "list") (by rfl) M.list (by decide +kernel) rfl) pa_nil))))
            (pw_and1 (pt_not (pt_val (pe_callB call_isi (by rfl) M.isi (by decide +kernel) (pa_cons (pv 0) (pa_cons (pe_bltn (v := .ty "list") (by rfl) M.list (by decide +kernel) rfl) pa_nil)))))))) (pss_one (ps_ret pe_bl)) pss_nil)
        (pss_cons (ps_if (PW.pt (pw_and (pt_val (pe_callB call_isi (by rfl) M.isi (by decide +kernel) (pa_cons (pv 1) (pa_cons (pe_bltn (v := .ty "tuple") (by rfl) M.tuple (by decide +kernel) rfl) pa_nil))))
            (pw_and1 (pt_not (pt_val (pe_callB call_isi (by rfl) M.isi (by decide +kernel) (pa_cons (pv 0) (pa_cons (pe_bltn (v := .ty "tuple") (by rfl) M.tuple (by decide +kernel) rfl) pa_nil)))))))) (pss_one (ps_ret pe_bl)) pss_nil)
        (pss_cons (ps_if (pt_cmpR op_ne (pe_callB call_len_seq (by rfl) M.len PySem.boot_len (pa_cons (pv 0) pa_nil)) (pe_callB call_len_seq (by rfl) M.len PySem.boot_len (pa_cons (pv 1) pa_nil)) (nomark _)) (pss_one (ps_ret pe_bl)) pss_nil)
        (pss_cons (ps_for PassesOwn.never rfl (pi_range1 (by rfl) M.range (pa_cons (pe_callB call_len_seq (by rfl) M.len PySem.boot_len (pa_cons (pv 1) pa_nil)) pa_nil)) (pg_name (i := 2) scSame.nd rfl (.inl rfl))
          (pss_one (ps_if (pt_not (pt_val (pe_call G hr (by rfl) gF F.kp bF .nil pass0 (pa_cons (pe_ix ix_seq (pv 0) (pv 2) (fun _ _ => rfl)) (pa_cons (pe_ix ix_seq (pv 1) (pv 2) (fun _ _ => rfl)) pa_nil))))) (pss_one (ps_ret pe_bl)) pss_nil)))
        (pss_one (ps_ret pe_bl))))))))), ?_⟩
      cases d with
      | none => exact hs.elim
      | bool b => exact hs.elim
      | dict kvs => exact hs.elim
      | int i =>
        cases hx
        cases hy
        refine ⟨_, rfl, _, rfl, dec_f non_int ?_⟩
        refine ⟨_, rfl, _, .ty "bool", _, _, false, rfl, .ty _, .base (.int i), kit_ty (by decide +kernel), false, rfl, iteF ?_⟩
        refine ⟨_, rfl, _, .ty "int", _, _, true, rfl, .ty _, .base (.int i), kit_ty (by decide +kernel), true, rfl, iteT ?_⟩
        refine ⟨_, rfl, _, .ty "int", _, _, true, rfl, .ty _, .base (.int i), kit_ty (by decide +kernel), true, rfl, iteT ?_⟩
        refine ⟨_, rfl, _, .ty "bool", _, _, false, rfl, .ty _, .base (.int i), kit_ty (by decide +kernel), false, rfl, true, rfl, iteT ?_⟩
        refine ⟨_, rfl, _, rfl, rfl, ?_⟩
        rw [decide_eq_true rfl]
        exact q
      | str t =>
        cases hx
        cases hy
        refine ⟨_, rfl, _, rfl, dec_f non_str ?_⟩
        refine ⟨_, rfl, _, .ty "bool", _, _, false, rfl, .ty _, .base (.str t), kit_ty (by decide +kernel), false, rfl, iteF ?_⟩
        refine ⟨_, rfl, _, .ty "int", _, _, false, rfl, .ty _, .base (.str t), kit_ty (by decide +kernel), false, rfl, iteF ?_⟩
        refine ⟨_, rfl, _, .ty "str", _, _, true, rfl, .ty _, .base (.str t), kit_ty (by decide +kernel), true, rfl, iteT ?_⟩
        refine ⟨_, rfl, _, .ty "str", _, _, true, rfl, .ty _, .base (.str t), kit_ty (by decide +kernel), true, rfl, iteT ?_⟩
        refine ⟨_, rfl, _, rfl, rfl, ?_⟩
        rw [decide_eq_true rfl]
        exact q
      | list ds =>
        obtain ⟨hl, hds⟩ := hs
        obtain ⟨p, xs, rfl, hX, hXs⟩ : ∃ p xs, x = .ref p ∧ SqL K H p xs ∧ DpAll K H xs ds := by
          cases hx with
          | lst h1 h2 => exact ⟨_, _, rfl, h1, h2⟩
        obtain ⟨r, ys, rfl, hY, hYs⟩ : ∃ p xs, y = .ref p ∧ SqL K H p xs ∧ DpAll K H xs ds := by
          cases hy with
          | lst h1 h2 => exact ⟨_, _, rfl, h1, h2⟩
        have tX := tyx_lst hX
        have tY := tyx_lst hY
        have lX := dps_length hXs
        have lY := dps_length hYs
        refine ⟨_, rfl, _, rfl, dec_f non_ne ?_⟩
        refine ⟨_, rfl, _, .ty "bool", _, _, false, rfl, .ty _, tY, kit_ty (by decide +kernel), false, rfl, iteF ?_⟩
        refine ⟨_, rfl, _, .ty "int", _, _, false, rfl, .ty _, tY, kit_ty (by decide +kernel), false, rfl, iteF ?_⟩
        refine ⟨_, rfl, _, .ty "str", _, _, false, rfl, .ty _, tY, kit_ty (by decide +kernel), false, rfl, iteF ?_⟩
        refine test_no (T := "list") (b := true) rfl rfl tX tY (by decide +kernel) (iteF ?_)
        refine test_no (T := "tuple") (b := false) rfl rfl tX tY (by decide +kernel) (iteF ?_)
        refine ⟨.ref p, rfl, p, xs, rfl, .inl hX, .ref r, rfl, r, ys, rfl, .inl hY, rfl, _, rfl, ?_⟩
        refine iteNS (by rw [lX, lY]) ?_
        refine ⟨.ref r, rfl, r, ys, rfl, .inl hY, (ys.length : Int), rfl, by omega, by omega, for_range (lo := 0) (n := ys.length) (fun i σ H' => ∃ y2, σ = [some (.ref p), some (.ref r), y2] ∧ H' = H) ⟨none, rfl, rfl⟩ ?_ ?_⟩
        · rintro i σ H' hi ⟨y2, rfl, rfl⟩
          have gX : xs[i]? = some (xs[i]'(by omega)) := List.getElem?_eq_getElem (by omega)
          have gY : ys[i]? = some ys[i] := List.getElem?_eq_getElem hi
          obtain ⟨d1, e1, q1⟩ := dps_get hXs gX
          obtain ⟨d2, e2, q2⟩ := dps_get hYs gY
          rw [e1] at e2
          cases e2
          refine ⟨.ref p, rfl, _, rfl, ix_any (.inl hX) (by omega) gX ⟨.ref r, rfl, _, rfl, ix_any (.inl hY) (by omega) gY ?_⟩⟩
          exact ⟨_, _, d1, rfl, q1, q2, hds _ (List.mem_of_getElem? e1), true, rfl, iteF ⟨_, rfl, rfl⟩⟩
        · rintro σ H' ⟨y2, rfl, rfl⟩
          exact q
      | tuple ds =>
        obtain ⟨hl, hds⟩ := hs
        obtain ⟨p, xs, rfl, hX, hXs⟩ : ∃ p xs, x = .ref p ∧ SqT K H p xs ∧ DpAll K H xs ds := by
          cases hx with
          | tup h1 h2 => exact ⟨_, _, rfl, h1, h2⟩
        obtain ⟨r, ys, rfl, hY, hYs⟩ : ∃ p xs, y = .ref p ∧ SqT K H p xs ∧ DpAll K H xs ds := by
          cases hy with
          | tup h1 h2 => exact ⟨_, _, rfl, h1, h2⟩
        have tX := tyx_tup hX
        have tY := tyx_tup hY
        have lX := dps_length hXs
        have lY := dps_length hYs
        refine ⟨_, rfl, _, rfl, dec_f non_ne ?_⟩
        refine ⟨_, rfl, _, .ty "bool", _, _, false, rfl, .ty _, tY, kit_ty (by decide +kernel), false, rfl, iteF ?_⟩
        refine ⟨_, rfl, _, .ty "int", _, _, false, rfl, .ty _, tY, kit_ty (by decide +kernel), false, rfl, iteF ?_⟩
        refine ⟨_, rfl, _, .ty "str", _, _, false, rfl, .ty _, tY, kit_ty (by decide +kernel), false, rfl, iteF ?_⟩
        refine test_no (T := "list") (b := false) rfl rfl tX tY (by decide +kernel) (iteF ?_)
        refine test_no (T := "tuple") (b := true) rfl rfl tX tY (by decide +kernel) (iteF ?_)
        refine ⟨.ref p, rfl, p, xs, rfl, .inr hX, .ref r, rfl, r, ys, rfl, .inr hY, rfl, _, rfl, ?_⟩
        refine iteNS (by rw [lX, lY]) ?_
        refine ⟨.ref r, rfl, r, ys, rfl, .inr hY, (ys.length : Int), rfl, by omega, by omega, for_range (lo := 0) (n := ys.length) (fun i σ H' => ∃ y2, σ = [some (.ref p), some (.ref r), y2] ∧ H' = H) ⟨none, rfl, rfl⟩ ?_ ?_⟩
        · rintro i σ H' hi ⟨y2, rfl, rfl⟩
          have gX : xs[i]? = some (xs[i]'(by omega)) := List.getElem?_eq_getElem (by omega)
          have gY : ys[i]? = some ys[i] := List.getElem?_eq_getElem hi
          obtain ⟨d1, e1, q1⟩ := dps_get hXs gX
          obtain ⟨d2, e2, q2⟩ := dps_get hYs gY
          rw [e1] at e2
          cases e2
          refine ⟨.ref p, rfl, _, rfl, ix_any (.inr hX) (by omega) gX ⟨.ref r, rfl, _, rfl, ix_any (.inr hY) (by omega) gY ?_⟩⟩
          exact ⟨_, _, d1, rfl, q1, q2, hds _ (List.mem_of_getElem? e1), true, rfl, iteF ⟨_, rfl, rfl⟩⟩
        · rintro σ H' ⟨y2, rfl, rfl⟩
          exact q
end
end K47

/-! The def _law_stack: what it draws is a good stack. -/
namespace K47
open PySem PySem.Spec PyProof.Rows L2
theorem cut_strs (ss : List Str) (lo hi : Option Int) : ∃ gs : List Str, cutV (ss.map V.str) lo hi = gs.map V.str ∧ gs.length ≤ ss.length ∧ ∀ g ∈ gs, g ∈ ss := by
  refine ⟨(ss.drop (HT.sIx ss.length 0 lo)).take (HT.sIx ss.length ss.length hi - HT.sIx ss.length 0 lo), ?_, ?_, fun g hg => ?_⟩
  · unfold cutV
    rw [List.length_map, List.map_take, List.map_drop]
  · rw [List.length_take, List.length_drop]
    omega
  · exact List.mem_of_mem_drop (List.mem_of_mem_take hg)
theorem use_at {i : Int} (h0 : 0 ≤ i) (h1 : i < 3) : ∃ u ∈ uses, atI [V.str "text", V.str "head1", V.str "note"] i = some (V.str u) := by
  have h : i = 0 ∨ i = 1 ∨ i = 2 := by omega
  rcases h with rfl | rfl | rfl
  · exact ⟨"text", List.mem_cons_self, atI_nat (j := 0) rfl⟩
  · exact ⟨"head1", List.mem_cons_of_mem _ List.mem_cons_self, atI_nat (j := 1) rfl⟩
  · exact ⟨"note", List.mem_cons_of_mem _ (List.mem_cons_of_mem _ List.mem_cons_self), atI_nat (j := 2) rfl⟩
theorem stretch_at {i z : Int} (h0 : 0 ≤ i) (h1 : i < 9) (z0 : 0 ≤ z) (z1 : z < 30) : ∃ u : Int, (0 ≤ u ∧ u ≤ 10000000) ∧ atI [V.int z, V.int 0, V.int 10000000] (i / 4) = some (V.int u) := by
  have h : i / 4 = 0 ∨ i / 4 = 1 ∨ i / 4 = 2 := by omega
  rcases h with h | h | h
  · exact ⟨z, by omega, at_of (j := 0) h rfl⟩
  · exact ⟨0, by omega, at_of (j := 1) h rfl⟩
  · exact ⟨10000000, by omega, at_of (j := 2) h rfl⟩
/-- the feed at f, the stack so far at a -/
structure W2 (K : PySem.W.Frag) (f a : Addr) (xs : List V) (ds : List PyData) (H : Hp) : Prop where
  nfa : a ≠ f
  feed : ∃ ms : List Int, H f = some (.lst (ms.map V.int))
  top : H a = some (.lst xs)
  hx : DpAll K (Off [a, f] H) xs ds
/-- .. and the rows so far at l -/
structure W3 (K : PySem.W.Frag) (f a l : Addr) (xs rs : List V) (ds es : List PyData) (H : Hp) : Prop where
  nfa : a ≠ f
  nlf : l ≠ f
  nla : l ≠ a
  feed : ∃ ms : List Int, H f = some (.lst (ms.map V.int))
  top : H a = some (.lst xs)
  rows : H l = some (.lst rs)
  hx : DpAll K (Off [l, a, f] H) xs ds
  hr : DpAll K (Off [l, a, f] H) rs es
section
variable {K : PySem.W.Frag} {f a l p : Addr} {xs rs : List V} {ds es : List PyData} {H : Hp} {o : HO}
theorem W2.pick (c : W2 K f a xs ds H) (ms : List Int) : W2 K f a xs ds (upd H f (.lst (ms.map V.int))) :=
  ⟨c.nfa, ⟨ms, upd_same⟩, (upd_ne c.nfa).trans c.top, by rw [off_upd (List.mem_cons_of_mem _ List.mem_cons_self)]; exact c.hx⟩
theorem W2.new (c : W2 K f a xs ds H) (n : H p = none) : W2 K f a xs ds (upd H p o) := by
  obtain ⟨ms, e⟩ := c.feed
  exact ⟨c.nfa, ⟨ms, same_new n f _ e⟩, same_new n a _ c.top, dps_mono (off_new n) _ _ c.hx⟩
theorem W3.pick (c : W3 K f a l xs rs ds es H) (ms : List Int) : W3 K f a l xs rs ds es (upd H f (.lst (ms.map V.int))) := by
  have e : Off [l, a, f] (upd H f (.lst (ms.map V.int))) = Off [l, a, f] H := off_upd (List.mem_cons_of_mem _ (List.mem_cons_of_mem _ List.mem_cons_self))
  exact ⟨c.nfa, c.nlf, c.nla, ⟨ms, upd_same⟩, (upd_ne c.nfa).trans c.top, (upd_ne c.nlf).trans c.rows, by rw [e]; exact c.hx, by rw [e]; exact c.hr⟩
theorem W3.new (c : W3 K f a l xs rs ds es H) (n : H p = none) : W3 K f a l xs rs ds es (upd H p o) := by
  obtain ⟨ms, e⟩ := c.feed
  exact ⟨c.nfa, c.nlf, c.nla, ⟨ms, same_new n f _ e⟩, same_new n a _ c.top, same_new n l _ c.rows, dps_mono (off_new n) _ _ c.hx, dps_mono (off_new n) _ _ c.hr⟩
theorem W2.open (c : W2 K f a xs ds H) (n : H l = none) : W3 K f a l xs [] ds [] (upd H l (.lst [])) := by
  obtain ⟨ms, e⟩ := c.feed
  have n1 : l ≠ f := (ne_of_none e n).symm
  have n2 : l ≠ a := (ne_of_none c.top n).symm
  refine ⟨c.nfa, n1, n2, ⟨ms, same_new n f _ e⟩, same_new n a _ c.top, upd_same, ?_, .nil⟩
  rw [off_upd List.mem_cons_self]
  exact dps_mono (off_more n) _ _ c.hx
theorem W2.app {y : V} {d : PyData} (c : W2 K f a xs ds H) (q : Dp K (Off [a, f] H) y d) : W2 K f a (xs ++ [y]) (ds ++ [d]) (upd H a (.lst (xs ++ [y]))) := by
  obtain ⟨ms, e⟩ := c.feed
  refine ⟨c.nfa, ⟨ms, (upd_ne c.nfa.symm).trans e⟩, upd_same, ?_⟩
  rw [off_upd List.mem_cons_self]
  exact dps_append c.hx (.cons q .nil)
theorem W3.app {y : V} {d : PyData} (c : W3 K f a l xs rs ds es H) (q : Dp K (Off [l, a, f] H) y d) : W3 K f a l xs (rs ++ [y]) ds (es ++ [d]) (upd H l (.lst (rs ++ [y]))) := by
  obtain ⟨ms, e⟩ := c.feed
  have e2 : Off [l, a, f] (upd H l (.lst (rs ++ [y]))) = Off [l, a, f] H := off_upd List.mem_cons_self
  exact ⟨c.nfa, c.nlf, c.nla, ⟨ms, (upd_ne c.nlf.symm).trans e⟩, (upd_ne c.nla.symm).trans c.top, upd_same, by rw [e2]; exact c.hx, by rw [e2]; exact dps_append c.hr (.cons q .nil)⟩
theorem W3.shut (c : W3 K f a l xs rs ds es H) : W2 K f a xs ds H := ⟨c.nfa, c.feed, c.top, dps_mono off_less _ _ c.hx⟩
/-- a new thing is none of those that change -/
theorem W3.apart (c : W3 K f a l xs rs ds es H) (n : H p = none) : p ∉ [l, a, f] := by
  obtain ⟨ms, e⟩ := c.feed
  simp only [List.mem_cons, List.not_mem_nil, or_false, not_or]
  exact ⟨(ne_of_none c.rows n).symm, (ne_of_none c.top n).symm, (ne_of_none e n).symm⟩
theorem W2.apart (c : W2 K f a xs ds H) (n : H p = none) : p ∉ [a, f] := by
  obtain ⟨ms, e⟩ := c.feed
  simp only [List.mem_cons, List.not_mem_nil, or_false, not_or]
  exact ⟨(ne_of_none c.top n).symm, (ne_of_none e n).symm⟩
end
theorem good_snoc {ps : List Part} {p : Part} (h : ∀ x ∈ ps, GoodPart x) (q : GoodPart p) : ∀ x ∈ ps ++ [p], GoodPart x := fun x hx => by
  rcases List.mem_append.mp hx with hx | hx
  · exact h x hx
  · rw [List.mem_singleton.mp hx]
    exact q
theorem row_snoc {rs : List Row} {r : Row} (h : ∀ x ∈ rs, GoodRow x) (q : GoodRow r) : ∀ x ∈ rs ++ [r], GoodRow x := fun x hx => by
  rcases List.mem_append.mp hx with hx | hx
  · exact h x hx
  · rw [List.mem_singleton.mp hx]
    exact q
theorem map_snoc {α β : Type} (g : α → β) (l : List α) (x : α) : l.map g ++ [g x] = (l ++ [x]).map g := by
  rw [List.map_append]
  rfl
abbrev nStack : List Str := ["_law_feed", "_law_stack_here", "_law_k", "_law_rows", "_law_j", "_law_height", "_law_stretch"]
abbrev sStack : Stmt := topS 10
theorem scStack : FnScope nStack ["_law_feed"] (defScope sStack) := ⟨rfl, rfl, rfl, by decide +kernel, rfl, by decide +kernel, by decide +kernel⟩
def spStack (K : PySem.W.Frag) : Sp := fun vs H Q _ => ∃ (f : Addr) (ns : List Int), vs = [.ref f] ∧ H f = some (.lst (ns.map V.int)) ∧
  ∀ H' a ps (ms : List Int), H' f = some (.lst (ms.map V.int)) → Good ps → Dp K (Off [f] H') (.ref a) (stackD ps) → Q (.ref a) H'
section
variable {P : Program} {w : World} {K : PySem.W.Frag} {mg : Str → Option Value} {base : Heap}
theorem ok_stack {g fP : Addr} {fd fdP : FuncData} (F : Fun K "_law_stack" "_law_stack" sStack g fd) (FP : Fun K "_law_pick" "_law_pick" sPick fP fdP) (bP : Binds K fdP ["_law_feed", "_law_many"] []) (gP : mg "_law_pick" = some (.ref fP))
    (GP : FnOk P w K mg base CX0 1 fP fdP ["_law_feed", "_law_many"] spPick) (mRange : mg "range" = none) (mMin : mg "min" = none) : FnOk P w K mg base CX0 2 g fd ["_law_feed"] (spStack K) := by
  refine F.ok scStack (fun vs H Q E h => ?_) (fun cdv A outer s H vs Q E hr h => ?_)
  · obtain ⟨f, ns, rfl, _⟩ := h
    rfl
  · obtain ⟨f, ns, rfl, hf, q⟩ := h
    refine ⟨_, pss_cons (ps_set (i := 1) scStack.nd rfl (.inl rfl) (pe_lst pa_nil))
      (pss_cons (ps_for PassesOwn.never rfl (pi_range1 (by rfl) mRange (pa_cons (pe_call GP hr (by rfl) gP FP.kp bP .nil pass0 (pa_cons (pv 0) (pa_cons pe_int pa_nil))) pa_nil)) (pg_name (i := 2) scStack.nd rfl (.inl rfl))
        (pss_one (ps_if (pt_cmpR op_eq (pe_call GP hr (by rfl) gP FP.kp bP .nil pass0 (pa_cons (pv 0) (pa_cons pe_int pa_nil))) pe_int (nomark _))
          (pss_cons (ps_set (i := 3) scStack.nd rfl (.inl rfl) (pe_lst pa_nil))
          (pss_cons (ps_for PassesOwn.never rfl (pi_range1 (by rfl) mRange (pa_cons (pe_call GP hr (by rfl) gP FP.kp bP .nil pass0 (pa_cons (pv 0) (pa_cons pe_int pa_nil))) pa_nil)) (pg_name (i := 4) scStack.nd rfl (.inl rfl))
            (pss_one (ps_expr (pe_bm PySem.F.plainAttrs_list PySem.F.slot_list_append PySem.F.type_list_append mt_append (pv 3) (pa_cons
              (pe_tup (pa_cons (pe_call GP hr (by rfl) gP FP.kp bP .nil pass0 (pa_cons (pv 0) (pa_cons pe_int pa_nil)))
                (pa_cons (pe_ix ix_list (pe_lst (pa_cons pe_str (pa_cons pe_str (pa_cons pe_str pa_nil)))) (pe_call GP hr (by rfl) gP FP.kp bP .nil pass0 (pa_cons (pv 0) (pa_cons pe_int pa_nil))) (fun _ _ => rfl))
                (pa_cons (pe_slice sl_list (pe_lst (pa_cons pe_str (pa_cons pe_str (pa_cons pe_str pa_nil)))) po_none (po_some (pe_op op_add pe_int (pe_call GP hr (by rfl) gP FP.kp bP .nil pass0 (pa_cons (pv 0) (pa_cons pe_int pa_nil)))))) pa_nil)))) pa_nil)))))
          (pss_one (ps_expr (pe_bm PySem.F.plainAttrs_list PySem.F.slot_list_append PySem.F.type_list_append mt_append (pv 1) (pa_cons
              (pe_tup (pa_cons pe_str (pa_cons (pe_call GP hr (by rfl) gP FP.kp bP .nil pass0 (pa_cons (pv 0) (pa_cons pe_int pa_nil))) (pa_cons (pe_call GP hr (by rfl) gP FP.kp bP .nil pass0 (pa_cons (pv 0) (pa_cons pe_int pa_nil)))
                (pa_cons (pv 3) pa_nil))))) pa_nil))))))
          (pss_cons (ps_set (i := 5) scStack.nd rfl (.inl rfl) (pe_call GP hr (by rfl) gP FP.kp bP .nil pass0 (pa_cons (pv 0) (pa_cons pe_int pa_nil))))
          (pss_cons (ps_set (i := 6) scStack.nd rfl (.inl rfl) (pe_ix ix_list (pe_lst (pa_cons (pe_call GP hr (by rfl) gP FP.kp bP .nil pass0 (pa_cons (pv 0) (pa_cons pe_int pa_nil))) (pa_cons pe_int (pa_cons pe_int pa_nil))))
              (pe_op op_fdiv (pe_call GP hr (by rfl) gP FP.kp bP .nil pass0 (pa_cons (pv 0) (pa_cons pe_int pa_nil))) pe_int) (fun _ _ => rfl)))
          (pss_one (ps_expr (pe_bm PySem.F.plainAttrs_list PySem.F.slot_list_append PySem.F.type_list_append mt_append (pv 1) (pa_cons
              (pe_tup (pa_cons pe_str (pa_cons (pv 5) (pa_cons (pv 6) (pa_cons (pe_callB (call_min2 rfl) (by rfl) mMin (by decide +kernel) (pa_cons (pv 5) (pa_cons (pe_call GP hr (by rfl) gP FP.kp bP .nil pass0 (pa_cons (pv 0) (pa_cons pe_int pa_nil))) pa_nil)))
                pa_nil))))) pa_nil)))))))))
      (pss_one (ps_ret (pv 1)))), ?_⟩
    -- the stack, the number of its parts
    refine ⟨Nat.zero_le _, fun a na => ?_⟩
    have nfa : a ≠ f := (ne_of_none hf na).symm
    have c0 : W2 K f a [] [] (upd H a (.lst [])) := ⟨nfa, ⟨ns, same_new na f _ hf⟩, upd_same, .nil⟩
    obtain ⟨ms0, hf0⟩ := c0.feed
    refine ⟨.ref f, rfl, f, ms0, 30, rfl, by decide, hf0, fun n ms1 n0 n1 => ⟨n, rfl, by omega, by omega, for_range (lo := 0) (n := n.toNat) (fun i σ H' => ∃ y2 y3 y4 y5 y6 xs ps, σ = [some (.ref f), some (.ref a), y2, y3, y4, y5, y6] ∧
        W2 K f a xs (List.map partD ps) H' ∧ ps.length = i ∧ ∀ p ∈ ps, GoodPart p) ⟨none, none, none, none, none, [], [], rfl, c0.pick ms1, rfl, fun _ h => absurd h List.not_mem_nil⟩ ?_ ?_⟩⟩
    · rintro i σ H1 hi ⟨y2, y3, y4, y5, y6, xs, ps, rfl, c1, hl, hG⟩
      have hps : ps.length ≤ 28 := by omega
      have hxs : xs.length < sizeLine := by
        rw [dps_len c1.hx]
        exact small1000 (by omega)
      obtain ⟨ms2, hf2⟩ := c1.feed
      refine ⟨.ref f, rfl, f, ms2, 2, rfl, by decide, hf2, fun kd ms3 _ _ => ⟨rfl, _, rfl, ite2 (fun _ => ?_) (fun _ => ?_)⟩⟩
      · -- a row
        refine ⟨Nat.zero_le _, fun l nl => ?_⟩
        have c2 := (c1.pick ms3).open nl
        obtain ⟨ms4, hf4⟩ := c2.feed
        refine ⟨.ref f, rfl, f, ms4, 4, rfl, by decide, hf4, fun m ms5 m0 m1 => ⟨m, rfl, by omega, by omega, for_range (lo := 0) (n := m.toNat) (fun j σ H' => ∃ z4 rs rows, σ = [some (.ref f), some (.ref a), some (.int (0 + (i : Int))), some (.ref l), z4, y5, y6] ∧
            W3 K f a l xs rs (List.map partD ps) (List.map rowD rows) H' ∧ rows.length = j ∧ ∀ r ∈ rows, GoodRow r) ⟨y4, [], [], rfl, c2.pick ms5, rfl, fun _ h => absurd h List.not_mem_nil⟩ ?_ ?_⟩⟩
        · rintro j σ H2 hj ⟨z4, rs, rows, rfl, c3, hlr, hR⟩
          have hrs : rs.length < sizeLine := by
            rw [dps_len c3.hr]
            exact small1000 (by omega)
          obtain ⟨t0, e0⟩ := c3.feed
          -- the tuple's parts
          refine ⟨.ref l, rfl, .inl ⟨rfl, _, SqL.of c3.rows⟩, .ref f, rfl, f, t0, 90, rfl, by decide, e0, fun x t1 x0 x1 => ⟨by show 3 ≤ sizeLine; decide, fun p1 n1 => ?_⟩⟩
          have c4 := (c3.pick t1).new (o := .lst [.str "text", .str "head1", .str "note"]) n1
          obtain ⟨t2, e2⟩ := c4.feed
          refine ⟨.ref f, rfl, f, t2, 3, rfl, by decide, e2, fun u t3 u0 u1 => ?_⟩
          obtain ⟨us, hus, eus⟩ := use_at u0 u1
          have npf : p1 ≠ f := fun z => (c3.pick t1).apart n1 (by rw [z]; exact List.mem_cons_of_mem _ (List.mem_cons_of_mem _ List.mem_cons_self))
          refine ⟨p1, _, u, _, rfl, rfl, SqL.of ((upd_ne npf).trans upd_same), eus, by show 3 ≤ sizeLine; decide, fun p2 n2 => ?_⟩
          have c5 := (c4.pick t3).new (o := .lst (glyphs.map V.str)) n2
          have np2 : p2 ≠ f := fun z => (c4.pick t3).apart n2 (by rw [z]; exact List.mem_cons_of_mem _ (List.mem_cons_of_mem _ List.mem_cons_self))
          obtain ⟨t4, e4⟩ := c5.feed
          refine ⟨.ref f, rfl, f, t4, 3, rfl, by decide, e4, fun g1 t5 g0 g2 => ⟨_, _, rfl, rfl, _, rfl, p2, glyphs.map V.str, rfl, SqL.of ((upd_ne np2).trans upd_same), fun p3 n3 => ?_⟩⟩
          obtain ⟨gs, egs, hgl, hgm⟩ := cut_strs glyphs none (some (1 + g1))
          rw [egs]
          have c6 := (c5.pick t5).new (o := .lst (gs.map V.str)) n3
          refine ⟨by show 3 ≤ sizeLine; decide, fun T nT => ?_⟩
          have c7 := c6.new (o := .tup [.int x, .str us, .ref p3]) nT
          have m3 := (c5.pick t5).apart n3
          have mT := c6.apart nT
          refine ⟨l, rs, _, rfl, rfl, c7.rows, hrs, some (.int (0 + (j : Int))), rs ++ [.ref T], rows ++ [(x, us, gs)], rfl, ?_, by rw [List.length_append, hlr]; rfl, row_snoc hR ⟨⟨x0, x1⟩, hus, hgl, hgm⟩⟩
          rw [← map_snoc]
          refine c7.app (row_make (r := (x, us, gs)) (SqT.of (off_some mT upd_same)) (SqL.of (off_some m3 ?_)))
          exact same_new nT p3 _ upd_same
        · rintro σ H2 ⟨z4, rs, rows, rfl, c3, hlr, hR⟩
          obtain ⟨t0, e0⟩ := c3.feed
          refine ⟨.ref a, rfl, .inl ⟨rfl, _, SqL.of c3.top⟩, .ref f, rfl, f, t0, 20, rfl, by decide, e0, fun h t1 h0 h1 => ?_⟩
          have c4 := c3.pick t1
          obtain ⟨t2, e2⟩ := c4.feed
          refine ⟨.ref f, rfl, f, t2, 9, rfl, by decide, e2, fun d t3 d0 d1 => ⟨.ref l, rfl, by show 4 ≤ sizeLine; decide, fun T nT => ?_⟩⟩
          have c5 := c4.pick t3
          have c6 := c5.new (o := .tup [.str "row", .int h, .int d, .ref l]) nT
          have c7 := c6.shut
          have mT := c5.shut.apart nT
          have ml : l ∉ [a, f] := by
            simp only [List.mem_cons, List.not_mem_nil, or_false, not_or]
            exact ⟨c6.nla, c6.nlf⟩
          refine ⟨a, xs, _, rfl, rfl, c6.top, hxs, _, _, _, _, _, xs ++ [.ref T], ps ++ [.row h d rows], rfl, ?_, by rw [List.length_append, hl]; rfl, good_snoc hG (show GoodPart (.row h d rows) from ⟨⟨h0, h1⟩, ⟨d0, d1⟩, by omega, hR⟩)⟩
          rw [← map_snoc]
          exact c7.app (part_make (SqT.of (off_some mT upd_same)) (SqL.of (off_some ml c6.rows)) (dps_mono off_less _ _ c6.hr))
      · -- a gap
        have c2 := c1.pick ms3
        obtain ⟨ms4, hf4⟩ := c2.feed
        refine ⟨.ref f, rfl, f, ms4, 40, rfl, by decide, hf4, fun h t1 h0 h1 => ?_⟩
        have c3 := c2.pick t1
        obtain ⟨t2, e2⟩ := c3.feed
        refine ⟨.ref f, rfl, f, t2, 30, rfl, by decide, e2, fun z t3 z0 z1 => ⟨by show 3 ≤ sizeLine; decide, fun p1 n1 => ?_⟩⟩
        have c4 := (c3.pick t3).new (o := .lst [.int z, .int 0, .int 10000000]) n1
        have npf : p1 ≠ f := fun z => (c3.pick t3).apart n1 (by rw [z]; exact List.mem_cons_of_mem _ List.mem_cons_self)
        obtain ⟨t4, e4⟩ := c4.feed
        refine ⟨.ref f, rfl, f, t4, 9, rfl, by decide, e4, fun v t5 v0 v1 => ⟨_, _, rfl, rfl, ⟨by decide, by decide⟩, ?_⟩⟩
        obtain ⟨u, ⟨u0, u1⟩, eu⟩ := stretch_at v0 v1 z0 z1
        refine ⟨p1, _, v / 4, _, rfl, rfl, SqL.of ((upd_ne npf).trans upd_same), eu, ?_⟩
        have c5 := c4.pick t5
        obtain ⟨t6, e6⟩ := c5.feed
        refine ⟨.ref a, rfl, .inl ⟨rfl, _, SqL.of c5.top⟩, .int h, rfl, .int u, rfl, .int h, rfl, .ref f, rfl, f, t6, 20, rfl, by decide, e6, fun k t7 k0 k1 => ⟨h, k, rfl, by show 4 ≤ sizeLine; decide, fun T nT => ?_⟩⟩
        have c6 := c5.pick t7
        have c7 := c6.new (o := .tup [.str "gap", .int h, .int u, .int (if k < h then k else h)]) nT
        have mT := c6.apart nT
        have gG : GoodPart (.gap (h, u, if k < h then k else h)) := ⟨⟨h0, h1⟩, ⟨u0, u1⟩, by split <;> omega⟩
        refine ⟨a, xs, _, rfl, rfl, c7.top, hxs, _, _, _, _, _, xs ++ [.ref T], ps ++ [.gap (h, u, if k < h then k else h)], rfl, ?_, by rw [List.length_append, hl]; rfl, good_snoc hG gG⟩
        rw [← map_snoc]
        exact c7.app (gap_make (SqT.of (off_some mT upd_same)))
    · rintro σ H1 ⟨y2, y3, y4, y5, y6, xs, ps, rfl, c1, hl, hG⟩
      obtain ⟨ms2, hf2⟩ := c1.feed
      refine ⟨.ref a, rfl, q H1 a ps ms2 hf2 ⟨by omega, hG⟩ ?_⟩
      refine .lst (SqL.of (off_some (fun z => nfa (List.mem_singleton.mp z)) c1.top)) (dps_mono off_less _ _ c1.hx)
end
end K47

/-! The def _law_due. -/
namespace K47
open PySem PySem.Spec PyProof.Rows L2
abbrev nDue : List Str := ["_law_stack_here", "_law_heights", "_law_rows", "_law_y", "_law_at", "_law_part", "_law_row"]
abbrev sDue : Stmt := topS 11
theorem scDue : FnScope nDue ["_law_stack_here", "_law_heights"] (defScope sDue) := ⟨rfl, rfl, rfl, by decide +kernel, rfl, by decide +kernel, by decide +kernel⟩
def spDue (K : PySem.W.Frag) : Sp := fun vs H Q _ => ∃ (a b : Addr) (xs : List V) (ps : List Part) (hs : List Int), vs = [.ref a, .ref b] ∧ SqL K H a xs ∧ DpAll K H xs (ps.map partD) ∧ SqL K H b (hs.map V.int) ∧ hs.length = (gaps ps).length ∧ Good ps ∧
  ∀ H' t r, Same H H' → H' t = some (.tup [.ref r, .int (run hs ps).2.1]) → Dp K H' (.ref r) (outsD (run hs ps).1) → Q (.ref t) H'
section
variable {P : Program} {w : World} {K : PySem.W.Frag} {mg : Str → Option Value} {base : Heap}
theorem ok_due {f : Addr} {fd : FuncData} {k : Nat} (F : Fun K "_law_due" "_law_due" sDue f fd) : FnOk P w K mg base CX0 (k + 1) f fd ["_law_stack_here", "_law_heights"] (spDue K) := by
  refine F.ok scDue (fun vs H Q E h => ?_) (fun cdv A outer s H vs Q E hr h => ?_)
  · obtain ⟨a, b, xs, ps, hs, rfl, _⟩ := h
    rfl
  · obtain ⟨a, b, xs, ps, hs, rfl, hS, hD, hB, hhl, hG, q⟩ := h
    have hlen : xs.length = ps.length := dps_len hD
    refine ⟨_, pss_cons (ps_set (i := 2) scDue.nd rfl (.inl rfl) (pe_lst pa_nil))
      (pss_cons (ps_set (i := 3) scDue.nd rfl (.inr rfl) pe_int)
      (pss_cons (ps_set (i := 4) scDue.nd rfl (.inl rfl) pe_int)
      (pss_cons (ps_for PassesOwn.never rfl (pi_list (pv 0)) (pg_name (i := 5) scDue.nd rfl (.inl rfl))
        (pss_one (ps_if (pt_cmpR op_eq (pe_ix ix_tup (pv 5) pe_int (fun _ _ => rfl)) pe_str (nomark _))
          (pss_cons (ps_set (i := 3) scDue.nd rfl (.inr rfl) (pe_op op_add (pv 3) (pe_ix ix_list (pv 1) (pv 4) (fun _ _ => rfl))))
          (pss_one (ps_set (i := 4) scDue.nd rfl (.inl rfl) (pe_op op_add (pv 4) pe_int))))
          (pss_cons (ps_set (i := 3) scDue.nd rfl (.inr rfl) (pe_op op_add (pv 3) (pe_ix ix_tup (pv 5) pe_int (fun _ _ => rfl))))
          (pss_cons (ps_set (i := 2) scDue.nd rfl (.inl rfl) (pe_op op_cat (pv 2)
            (pe_lc (own := [("_law_row", 6)]) (g := gName 6) (tt := tYes)
              (te := tTup (tCons (tOp (rIxT K) (tVar 6) (tC (.int 0))) (tCons (tVar 3) (tCons (tOp (rIxT K) (tVar 6) (tC (.int 1))) (tCons (tOp (rIxT K) (tVar 6) (tC (.int 2))) tNil)))))
              rfl scDue.nd (pi_list (pe_ix ix_tup (pv 5) pe_int (fun _ _ => rfl))) (blkOk_by (own := [("_law_row", 6)]) (N := nDue) (sc := defScope sDue) (by decide +kernel))
              (fun _ _ _ _ _ => pg_name (i := 6) scDue.nd rfl (.inl rfl)) (fun _ _ _ _ _ => pts_nil)
              (fun _ _ _ _ _ => pe_tup (pa_cons (pe_ix ix_tup (pv 6) pe_int (fun _ _ => rfl)) (pa_cons (pv 3) (pa_cons (pe_ix ix_tup (pv 6) pe_int (fun _ _ => rfl)) (pa_cons (pe_ix ix_tup (pv 6) pe_int (fun _ _ => rfl)) pa_nil))))))))
          (pss_one (ps_set (i := 3) scDue.nd rfl (.inr rfl) (pe_op op_add (pv 3) (pe_ix ix_tup (pv 5) pe_int (fun _ _ => rfl))))))))))
      (pss_one (ps_ret (pe_tup (pa_cons (pv 2) (pa_cons (pv 3) pa_nil)))))))), ?_⟩
    refine ⟨Nat.zero_le _, fun o no => ?_⟩
    have s1 : Same H (upd H o (.lst [])) := same_new no
    refine ⟨.ref a, rfl, a, rfl, ⟨_, s1.seq hS⟩, for_list (K := K) (a := a) (xs := xs) (fun i σ H' => ∃ ro os y5, σ = [some (.ref a), some (.ref b), some (.ref ro), some (.int (run hs (ps.take i)).2.1), some (.int ((run hs (ps.take i)).2.2 : Nat)), y5, none] ∧
        Same H H' ∧ H' ro = some (.lst os) ∧ DpAll K H' os ((run hs (ps.take i)).1.map outD)) ⟨o, [], none, rfl, s1, upd_same, .nil⟩ (fun i σ H' _ ⟨_, _, _, _, sm, _⟩ => sm.seq hS) ?_ ?_⟩
    · rintro i x σ H' hx ⟨ro, os, y5, rfl, sm, eo, hO⟩
      obtain ⟨p, hp, qp⟩ := dps_at hD hx
      have hst := run_take (hs := hs) hp
      have hat := run_at hs (ps.take i)
      have hrl := run_rows hG hs i
      have hi : i < ps.length := lt_of_get hp
      generalize run hs (ps.take i) = st at *
      obtain ⟨so, sy, sn⟩ := st
      cases p with
      | gap g =>
        obtain ⟨t, rfl, hT⟩ := gap_view (dp_mono sm _ _ qp)
        have hn : sn < hs.length := by
          rw [hhl]
          have := gap_lt hp
          have hat : sn = (gaps (ps.take i)).length := hat
          omega
        have hh : (hs.map V.int)[sn]? = some (.int (hs.getD sn 0)) := by
          rw [List.getElem?_map, List.getD_eq_getElem?_getD, List.getElem?_eq_getElem hn]
          rfl
        refine ⟨.ref t, rfl, t, _, 0, .str "gap", rfl, rfl, hT, atI_nat (j := 0) rfl, rfl, _, rfl, dec_t rfl ?_⟩
        refine ⟨_, rfl, .ref b, rfl, _, rfl, b, _, (sn : Nat), _, rfl, rfl, sm.seq hB, atI_nat hh, _, _, rfl, rfl, _, rfl, _, _, rfl, rfl, ro, os, some (.ref t), ?_, sm, eo, ?_⟩
        · rw [hst]
          rfl
        · rw [hst]
          exact hO
      | row h d rows =>
        obtain ⟨t, l, rs, rfl, hT0, hL0, hR0⟩ := part_view qp
        have hT := same_tup sm hT0
        have hL := sm.seq hL0
        have hR := dps_mono sm _ _ hR0
        have h3 : rows.length ≤ 3 := good_rows hG hp
        have hlr : rs.length = rows.length := dps_len hR
        refine ⟨.ref t, rfl, t, _, 0, .str "row", rfl, rfl, hT, atI_nat (j := 0) rfl, rfl, _, rfl, dec_f row_gap ?_⟩
        refine ⟨_, rfl, .ref t, rfl, t, _, 1, .int h, rfl, rfl, hT, atI_nat (j := 1) rfl, _, _, rfl, rfl, ?_⟩
        refine ⟨.ref ro, rfl, .ref t, rfl, t, _, 3, .ref l, rfl, rfl, hT, atI_nat (j := 3) rfl, l, rfl, ⟨_, hL⟩, fun D nD => ?_⟩
        refine lc_list (K := K) (a := l) (xs := rs) (fun j H2 => Same H' H2 ∧ ∃ zs, H2 D = some (.lst zs) ∧ DpAll K (Off [D] H2) zs ((rowsAt (sy + h) (rows.take j)).map outD))
          ⟨same_new nD, [], upd_same, .nil⟩ (fun j H2 _ p => p.1.seq hL) ?_ ?_
        · rintro j v H2 hv ⟨sm2, zs, eD, hZ⟩
          obtain ⟨r, hr2, qr⟩ := dps_at hR hv
          obtain ⟨rt, gl, rfl, hRT, hGL⟩ := row_view (dp_mono (show Same H' (Off [D] H2) from fun b o e => off_some (fun z => ne_of_none e nD (List.mem_singleton.mp z)) (sm2 b o e)) _ _ qr)
          have hRT2 := same_tup off_sub hRT
          refine ⟨rfl, yes_of ?_⟩
          refine ⟨.ref rt, rfl, rt, _, 0, _, rfl, rfl, hRT2, atI_nat (j := 0) rfl, _, rfl, .ref rt, rfl, rt, _, 1, _, rfl, rfl, hRT2, atI_nat (j := 1) rfl, .ref rt, rfl, rt, _, 2, _, rfl, rfl, hRT2, atI_nat (j := 2) rfl, by show 4 ≤ sizeLine; decide, fun T nT => ?_⟩
          have nDT : D ≠ T := ne_of_none eD nT
          have mT : T ∉ [D] := fun z => nDT (List.mem_singleton.mp z).symm
          have hz : zs.length < sizeLine := by
            have q1 := dps_len hZ
            unfold rowsAt at q1
            rw [List.length_map, List.length_take] at q1
            exact small1000 (by omega)
          refine ⟨zs, (upd_ne nDT).trans eD, hz, fun b o e => ?_, zs ++ [.ref T], upd_same, ?_⟩
          · rw [upd_ne (ne_of_none e nD)]
            exact same_new nT b o (sm2 b o e)
          · rw [off_upd List.mem_cons_self, rows_snoc hr2]
            refine dps_snoc (dps_mono (off_new nT) _ _ hZ) ?_
            exact out_make (r := (r.1, sy + h, r.2.1, r.2.2)) (SqT.of (off_some mT upd_same)) ((off_new nT).seq hGL)
        · rintro H3 ⟨sm3, zs, eD, hZ⟩
          rw [hlr, List.take_length] at hZ
          have hz : os.length + zs.length ≤ sizeLine := by
            have q1 := dps_len hO
            have q2 := dps_len hZ
            unfold rowsAt at q2
            rw [List.length_map] at q2
            have q3 : so.length ≤ 3 * i := hrl
            have q4 := hG.1
            have q5 : so.length = os.length := q1.symm
            exact Nat.le_of_lt (small1000 (by omega))
          refine ⟨ro, D, os, zs, rfl, rfl, sm3 ro _ eo, eD, hz, fun r2 n2 => ?_⟩
          have sm4 : Same H' (upd H3 r2 (.lst (os ++ zs))) := sm3.trans (same_new n2)
          have hT4 := same_tup sm4 hT
          refine ⟨_, rfl, .ref t, rfl, t, _, 2, .int d, rfl, rfl, hT4, atI_nat (j := 2) rfl, _, _, rfl, rfl, r2, os ++ zs, some (.ref t), ?_, sm.trans sm4, upd_same, ?_⟩
          · rw [hst]
            rfl
          · rw [hst]
            show DpAll K (upd H3 r2 (.lst (os ++ zs))) (os ++ zs) ((so ++ rowsAt (sy + h) rows).map outD)
            rw [List.map_append]
            exact dps_append (dps_mono sm4 _ _ hO) (dps_mono (fun b o e => same_new n2 b o (off_sub b o e)) _ _ hZ)
    · rintro σ H' ⟨ro, os, y5, rfl, sm, eo, hO⟩
      rw [hlen, List.take_length] at hO ⊢
      refine ⟨.ref ro, rfl, _, rfl, by show 2 ≤ sizeLine; decide, fun T nT => q _ T ro (sm.trans (same_new nT)) upd_same ?_⟩
      exact dp_mono (same_new nT) _ _ (.lst (SqL.of eo) hO)
end
end K47

/-! What repr and _law_same ask of the data: sizes and depths. -/
namespace K47
open PySem PySem.Spec PyProof.Rows L2
theorem list_text_le (ts : List Str) : (listText ts).length ≤ piled ts + 2 := by
  unfold listText
  rw [strLen_append]
  cases ts with
  | nil =>
    show (("[" : String) : Str).length + _ ≤ 0 + 2
    decide
  | cons t r =>
    show (textFrom 1 (("[" : String) ++ (if 0 > 0 then ", " else "" : String) ++ t) r).length + _ ≤ _
    rw [textFrom_length_pos _ _ _ Nat.one_pos, strLen_append, strLen_append, piled_cons]
    have e1 : (("[" : String) : Str).length = 1 := rfl
    have e2 : (((if 0 > 0 then ", " else "" : String)) : Str).length = 0 := rfl
    have e3 : (("]" : String) : Str).length = 1 := rfl
    omega
theorem tuple_text_le (ts : List Str) : (tupleText ts).length ≤ piled ts + 3 := by
  unfold tupleText
  rw [strLen_append, strLen_append]
  have e1 : (("(" : String) : Str).length = 1 := rfl
  have e3 : (((if ts.length == 1 then ",)" else ")" : String) : Str)).length ≤ 2 := by split <;> decide
  rw [e1]
  by_cases h : ts = []
  · rw [h]
    decide
  · have := join_length_add ts h
    omega
/-- what repr asks: at most b signs, at most n deep -/
structure Shw (d : PyData) (b n : Nat) : Prop where
  show1 : d.showable = true
  dict : d.hasDict = false
  deep : d.depth ≤ n
  size : d.shown.length ≤ b
theorem Shw.mono {d : PyData} {b n b' n' : Nat} (h : Shw d b n) (hb : b ≤ b') (hn : n ≤ n') : Shw d b' n' := ⟨h.show1, h.dict, Nat.le_trans h.deep hn, Nat.le_trans h.size hb⟩
theorem Shw.int {i : Int} (h0 : 0 ≤ i) (h1 : i ≤ 10000000) : Shw (.int i) 10 0 := by
  refine ⟨?_, rfl, Nat.le_refl 0, ?_⟩
  · show decide (i.natAbs.log2 < 1920) = true
    have h2 : i.natAbs < 2 ^ 24 := by omega
    have h3 := PySem.Flt.log2_lt_of (by decide) h2
    exact decide_eq_true (by omega)
  · exact toString_length_le (v := i) h0 (k := 10) (by decide) (by omega)
theorem Shw.str {x : Str} {b : Nat} (h : (reprText x).length ≤ b) : Shw (.str x) b 0 := ⟨rfl, rfl, Nat.le_refl 0, h⟩
theorem shw_all {b n : Nat} : ∀ {ds : List PyData}, (∀ d ∈ ds, Shw d b n) → PyData.showableAll ds = true ∧ PyData.hasDictAll ds = false ∧ PyData.depthAll ds ≤ n ∧ piled (PyData.shownAll ds) ≤ (b + 2) * ds.length
  | [], _ => by
    simp only [PyData.showableAll, PyData.hasDictAll, PyData.depthAll, PyData.shownAll]
    exact ⟨trivial, trivial, Nat.zero_le _, Nat.zero_le _⟩
  | d :: ds, h => by
    obtain ⟨a1, a2, a3, a4⟩ := h d List.mem_cons_self
    obtain ⟨b1, b2, b3, b4⟩ := shw_all (ds := ds) fun x hx => h x (List.mem_cons_of_mem _ hx)
    simp only [PyData.showableAll, PyData.hasDictAll, PyData.depthAll, PyData.shownAll, a1, a2, b1, b2]
    refine ⟨rfl, rfl, by omega, ?_⟩
    rw [piled_cons, List.length_cons, Nat.mul_succ]
    omega
theorem Shw.list {ds : List PyData} {b n : Nat} (m : Nat) (h : ∀ d ∈ ds, Shw d b n) (hl : ds.length ≤ m) : Shw (.list ds) ((b + 2) * m + 2) (n + 1) := by
  obtain ⟨h1, h2, h3, h4⟩ := shw_all h
  have h5 := Nat.mul_le_mul_left (b + 2) hl
  refine ⟨by simp only [PyData.showable, h1], by simp only [PyData.hasDict, h2], by simp only [PyData.depth]; omega, ?_⟩
  simp only [PyData.shown]
  have h6 := list_text_le (PyData.shownAll ds)
  omega
theorem Shw.tuple {ds : List PyData} {b n : Nat} (m : Nat) (h : ∀ d ∈ ds, Shw d b n) (hl : ds.length ≤ m) : Shw (.tuple ds) ((b + 2) * m + 3) (n + 1) := by
  obtain ⟨h1, h2, h3, h4⟩ := shw_all h
  have h5 := Nat.mul_le_mul_left (b + 2) hl
  refine ⟨by simp only [PyData.showable, h1], by simp only [PyData.hasDict, h2], by simp only [PyData.depth]; omega, ?_⟩
  simp only [PyData.shown]
  have h6 := tuple_text_le (PyData.shownAll ds)
  omega
theorem forall4 {b n : Nat} {x y z u : PyData} (h1 : Shw x b n) (h2 : Shw y b n) (h3 : Shw z b n) (h4 : Shw u b n) : ∀ d ∈ [x, y, z, u], Shw d b n := by
  simp only [List.forall_mem_cons]
  exact ⟨h1, h2, h3, h4, fun _ h => absurd h List.not_mem_nil⟩
theorem forall3 {b n : Nat} {x y z : PyData} (h1 : Shw x b n) (h2 : Shw y b n) (h3 : Shw z b n) : ∀ d ∈ [x, y, z], Shw d b n := by
  simp only [List.forall_mem_cons]
  exact ⟨h1, h2, h3, fun _ h => absurd h List.not_mem_nil⟩
theorem uses_len : ∀ u ∈ uses, (reprText u).length ≤ 10 := by decide +kernel
theorem glyphs_len : ∀ u ∈ glyphs, (reprText u).length ≤ 10 := by decide +kernel
theorem shw_row {r : Row} (h : GoodRow r) : Shw (rowD r) 123 2 := by
  obtain ⟨⟨h0, h1⟩, h2, h3, h4⟩ := h
  have hg : Shw (.list (r.2.2.map .str)) 38 1 := Shw.list (b := 10) (n := 0) 3 (fun d hd => by
    obtain ⟨g, hg, rfl⟩ := List.mem_map.mp hd
    exact .str (glyphs_len g (h4 g hg))) (by rw [List.length_map]; exact h3)
  exact (Shw.tuple (b := 38) (n := 1) 3 (forall3 ((Shw.int h0 (by omega)).mono (by decide) (by decide)) ((Shw.str (uses_len _ h2)).mono (by decide) (by decide)) hg) (Nat.le_refl 3)).mono (by decide) (by decide)
theorem shw_part {p : Part} (h : GoodPart p) : Shw (partD p) 1519 4 := by
  cases p with
  | row a d rows =>
    obtain ⟨⟨h0, h1⟩, ⟨h2, h3⟩, h4, h5⟩ := h
    have hr : Shw (.list (rows.map rowD)) 377 3 := Shw.list (b := 123) (n := 2) 3 (fun d hd => by
      obtain ⟨r, hr, rfl⟩ := List.mem_map.mp hd
      exact shw_row (h5 r hr)) (by rw [List.length_map]; exact h4)
    exact (Shw.tuple (b := 377) (n := 3) 4 (forall4 ((Shw.str (b := 10) (by decide +kernel)).mono (by decide) (by decide)) ((Shw.int h0 (by omega)).mono (by decide) (by decide)) ((Shw.int h2 (by omega)).mono (by decide) (by decide)) hr) (Nat.le_refl 4)).mono (by decide) (by decide)
  | gap g =>
    obtain ⟨a, s, k⟩ := g
    obtain ⟨⟨h0, h1⟩, ⟨h2, h3⟩, h4, h5⟩ := h
    exact (Shw.tuple (b := 10) (n := 0) 4 (forall4 (Shw.str (b := 10) (by decide +kernel)) (Shw.int h0 (by omega)) (Shw.int h2 h3) (Shw.int h4 (by omega))) (Nat.le_refl 4)).mono (by decide) (by decide)
theorem shw_stack {ps : List Part} (G : Good ps) : Shw (stackD ps) 44111 5 := Shw.list (b := 1519) (n := 4) 29 (fun d hd => by
  obtain ⟨p, hp, rfl⟩ := List.mem_map.mp hd
  exact shw_part (G.2 p hp)) (by rw [List.length_map]; exact G.1)

/-! ### the placed rows are the same -/
theorem run_gly {ps : List Part} (G : Good ps) (hs : List Int) : ∀ i, ∀ r ∈ (run hs (ps.take i)).1, r.2.2.2.length ≤ 3
  | 0 => fun r h => absurd h List.not_mem_nil
  | i + 1 => by
    have ih := run_gly G hs i
    cases e : ps[i]? with
    | none =>
      have e2 : ps.take (i + 1) = ps.take i := by
        rw [List.take_add_one, e]
        exact List.append_nil _
      rw [e2]
      exact ih
    | some p =>
      rw [run_take e]
      cases p with
      | gap g => exact ih
      | row h d rows =>
        have q : GoodPart (.row h d rows) := G.2 _ (List.mem_of_getElem? e)
        intro r hr
        rcases List.mem_append.mp hr with hr | hr
        · exact ih r hr
        · obtain ⟨x, hx, rfl⟩ := List.mem_map.mp hr
          exact (q.2.2.2 x hx).2.2.1
theorem simp_out {r : Out} (h : r.2.2.2.length ≤ 3) : simp 3 (outD r) := by
  refine ⟨by show 4 ≤ 1000000; decide, ?_⟩
  simp only [List.forall_mem_cons]
  refine ⟨trivial, trivial, trivial, ⟨by rw [List.length_map]; omega, fun d hd => ?_⟩, fun _ h => absurd h List.not_mem_nil⟩
  obtain ⟨g, _, rfl⟩ := List.mem_map.mp hd
  exact trivial
theorem simp_outs {ps : List Part} (G : Good ps) (hs : List Int) : simp 4 (outsD (run hs ps).1) := by
  have h1 := run_rows G hs ps.length
  have h2 := run_gly G hs ps.length
  rw [List.take_length] at h1 h2
  have h3 := G.1
  refine ⟨by rw [List.length_map]; omega, fun d hd => ?_⟩
  obtain ⟨r, hr, rfl⟩ := List.mem_map.mp hd
  exact simp_out (h2 r hr)
end K47

/-! The body of law. -/
namespace K47
open PySem PySem.Spec PyProof.Rows L2
abbrev nLaw : List Str := ["_law_script", "_law_feed", "_law_stack_here", "_law_size", "_law_gaps", "_law_stretch", "_law_shrink", "_law_height", "_law_kept", "_law_heights", "_law_rows", "_law_end", "_law_part", "_law_gap"]
abbrev sLaw : Stmt := topS 12
theorem scLaw : FnScope nLaw ["_law_script"] (defScope sLaw) := ⟨rfl, rfl, rfl, by decide +kernel, rfl, by decide +kernel, by decide +kernel⟩
def spLaw (K : PySem.W.Frag) : Sp := fun vs H Q _ => ∃ (a : Addr) (ns : List Int), vs = [.ref a] ∧ SqL K H a (ns.map V.int) ∧ ns.length ≤ 63 ∧ ∀ H', Q (.bl true) H'
/-- a def that the law calls: it stands, is found, takes its parameters, keeps its promise -/
structure Def (P : Program) (w : World) (K : PySem.W.Frag) (mg : Str → Option Value) (base : Heap) (x : Str) (st : Stmt) (k : Nat) (ps : List Str) (sp : Sp) (f : Addr) (fd : FuncData) : Prop where
  fn : Fun K x x st f fd
  at' : mg x = some (.ref f)
  bd : Binds K fd ps []
  ok : FnOk P w K mg base CX0 k f fd ps sp
structure Free (mg : Str → Option Value) : Prop where
  nn : Nones mg
  sum : mg "sum" = none
  min : mg "min" = none
  max : mg "max" = none
  enum : mg "enumerate" = none
  repr : mg "repr" = none
theorem q_eq {Q : VK} {H : Hp} {x y : V} (h : x = y) (q : Q (.bl true) H) : Q (.bl (decide (x = y))) H := by
  rw [decide_eq_true h]
  exact q
/-- the stack stands in G for good; the feed, a list of ints, changes -/
structure Sg (G : Hp) (f : Addr) (H : Hp) : Prop where
  same : Same G H
  feed : ∃ ms : List Int, H f = some (.lst (ms.map V.int))
section
variable {G H H' : Hp} {f p : Addr} {o : HO}
theorem Sg.pick (c : Sg G f H) (n : G f = none) (ms : List Int) : Sg G f (upd H f (.lst (ms.map V.int))) :=
  ⟨fun b x e => (upd_ne (ne_of_none e n)).trans (c.same b x e), ms, upd_same⟩
theorem Sg.new (c : Sg G f H) (n : H p = none) : Sg G f (upd H p o) := by
  obtain ⟨ms, e⟩ := c.feed
  exact ⟨c.same.trans (same_new n), ms, same_new n f _ e⟩
theorem Sg.go (c : Sg G f H) (s : Same H H') : Sg G f H' := by
  obtain ⟨ms, e⟩ := c.feed
  exact ⟨c.same.trans s, ms, s f _ e⟩
end
theorem pick3 {h1 h2 h3 i : Int} (h0 : 0 ≤ i) (h : i < 3) : ∃ z : Int, atI [V.int h1, V.int h2, V.int h3] i = some (V.int z) := by
  have h : i = 0 ∨ i = 1 ∨ i = 2 := by omega
  rcases h with rfl | rfl | rfl
  · exact ⟨h1, atI_nat (j := 0) rfl⟩
  · exact ⟨h2, atI_nat (j := 1) rfl⟩
  · exact ⟨h3, atI_nat (j := 2) rfl⟩
theorem guards_deeper (A : Around) (env : Env) (h : A.guards = some []) : (A.deeper env).guards = some [] := h
/-- at each place of xs a tuple, at whose place k an int of zs stands -/
def Hit (K : PySem.W.Frag) (H : Hp) (xs : List V) (k : Int) (zs : List Int) : Prop := ∀ (j : Nat) (x : V), xs[j]? = some x → ∃ (t : Addr) (ys : List V) (z : Int), x = .ref t ∧ SqT K H t ys ∧ atI ys k = some (.int z) ∧ zs[j]? = some z
/-- [v[k] for v in a list of tuples]: the ints there -/
theorem lc_proj {K : PySem.W.Frag} {a D : Addr} {xs : List V} {σ : L2.St} {H1 : Hp} {Qd : Hp → Prop} {n : Nat} {k : Int} (zs : List Int) (hS : SqL K H1 a xs) (nD : H1 D = none) (hn : n < σ.length) (hl : zs.length = xs.length) (h3 : xs.length ≤ 1000)
    (hit : Hit K H1 xs k zs)
    (hd : ∀ H', Same H1 H' → H' D = some (.lst (zs.map V.int)) → Qd H') :
    ∃ W : Nat → Nat → Hp → Prop, (∃ m, W 0 m (upd H1 D (.lst []))) ∧ ∀ i m H, W i m H → ((Itl K a).stop i H ∧ Qd H) ∨
      ((Itl K a).go i H ∧ ∃ Nx : Hp → Prop, (∀ H', Nx H' → ∃ m', m' < m ∧ W (i + 1) m' H') ∧ ∀ x H', (Itl K a).yld i H x H' →
        gName n x (wipe σ [n]) H' fun σ2 H2 => wipe σ2 [n] = wipe σ [n] ∧ tYes σ2 H2 fun b H3 => if b = true then tOp (rIxT K) (tVar n) (tC (.int k)) σ2 H3 fun y H4 =>
          ∃ acc, H4 D = some (.lst acc) ∧ acc.length < sizeLine ∧ Nx (upd H4 D (.lst (acc ++ [y]))) else Nx H3) := by
  refine lc_list (K := K) (a := a) (xs := xs) (fun i H' => Same H1 H' ∧ H' D = some (.lst ((zs.take i).map V.int))) ⟨same_new nD, upd_same⟩ (fun i H' _ p => p.1.seq hS) ?_ ?_
  · rintro i x H' hx ⟨sm, eD⟩
    obtain ⟨t, ys, z, rfl, hT, hk, hz⟩ := hit i x hx
    refine ⟨?_, yes_of ⟨.ref t, ?_, t, ys, k, .int z, rfl, rfl, same_tup sm hT, hk, _, eD, ?_, fun b o e => ?_, ?_⟩⟩
    · show (((σ.set n none).set n (some (.ref t))).set n none) = σ.set n none
      rw [List.set_set, List.set_set]
    · show ((σ.set n none).set n (some (.ref t)))[n]? = _
      rw [List.getElem?_set_self (by rw [List.length_set]; exact hn)]
    · rw [List.length_map]
      exact len_take_lt (by omega)
    · rw [upd_ne (ne_of_none e nD), sm b o e]
    · rw [upd_same, map_take_snoc hz]
  · rintro H' ⟨sm, eD⟩
    rw [← hl, List.take_length] at eD
    exact hd H' sm eD
section
variable {K : PySem.W.Frag} {H : Hp} {xs : List V} {ps : List Part}
theorem hit_tops (hD : DpAll K H xs (ps.map partD)) : Hit K H xs 1 (tops ps) := by
  intro j x hx
  obtain ⟨p, hp, qp⟩ := dps_at hD hx
  have hz : (tops ps)[j]? = some p.top := by
    unfold tops
    rw [List.getElem?_map, hp]
    rfl
  cases p with
  | row h d rows =>
    obtain ⟨t, l, rs, rfl, hT, _, _⟩ := part_view qp
    exact ⟨t, _, h, rfl, hT, atI_nat (j := 1) rfl, hz⟩
  | gap g =>
    obtain ⟨t, rfl, hT⟩ := gap_view qp
    exact ⟨t, _, g.1, rfl, hT, atI_nat (j := 1) rfl, hz⟩
theorem hit_str {zs : List V} {gs : List Gap} (hZ : DpAll K H zs (gs.map gapD)) : Hit K H zs 1 (str gs) := by
  intro j x hx
  obtain ⟨g, hg, qg⟩ := dps_at hZ hx
  obtain ⟨t, rfl, hT⟩ := gapD_view qg
  refine ⟨t, _, g.2.1, rfl, hT, atI_nat (j := 1) rfl, ?_⟩
  unfold str
  rw [List.getElem?_map, hg]
  rfl
theorem hit_shr {zs : List V} {gs : List Gap} (hZ : DpAll K H zs (gs.map gapD)) : Hit K H zs 2 (shr gs) := by
  intro j x hx
  obtain ⟨g, hg, qg⟩ := dps_at hZ hx
  obtain ⟨t, rfl, hT⟩ := gapD_view qg
  refine ⟨t, _, g.2.2, rfl, hT, atI_nat (j := 2) rfl, ?_⟩
  unfold shr
  rw [List.getElem?_map, hg]
  rfl
end
theorem deps_row {ps : List Part} {i : Nat} {h d : Int} {rows : List Row} (e : ps[i]? = some (.row h d rows)) : deps (ps.take (i + 1)) = deps (ps.take i) ++ [d] := by
  unfold deps
  rw [List.take_add_one, e, List.filterMap_append]
  rfl
theorem deps_gap {ps : List Part} {i : Nat} {g : Gap} (e : ps[i]? = some (.gap g)) : deps (ps.take (i + 1)) = deps (ps.take i) := by
  unfold deps
  rw [List.take_add_one, e, List.filterMap_append]
  exact List.append_nil _
theorem deps_le (ps : List Part) : (deps ps).length ≤ ps.length := List.length_filterMap_le _ _
end K47

/-! The body of law gives True. -/
namespace K47
open PySem PySem.Spec PyProof.Rows L2
section
variable {P : Program} {w : World} {K : PySem.W.Frag} {mg : Str → Option Value} {base : Heap}
theorem body_law {f fn fs fp fg fd' fe fl : Addr} {dn ds dp dg dd de dl : FuncData} (M : Free mg)
    (Dn : Def P w K mg base "_law_numbers" sNumbers 1 ["_law_script"] (spNumbers K) fn dn)
    (Ds : Def P w K mg base "_law_stack" sStack 2 ["_law_feed"] (spStack K) fs ds)
    (Dk : Def P w K mg base "_law_pick" sPick 1 ["_law_feed", "_law_many"] spPick fp dp)
    (Dg : Def P w K mg base "glue_widths" sGlue 2 ["gaps", "amount"] (spGlue K) fg dg)
    (Dd : Def P w K mg base "_law_due" sDue 1 ["_law_stack_here", "_law_heights"] (spDue K) fd' dd)
    (De : Def P w K mg base "_law_same" sSame 4 ["_law_actual", "_law_due_here"] (spSame K 4) fe de)
    (Dl : Def P w K mg base "placed" sPlaced 3 ["stack", "height"] (spPlaced K) fl dl)
    (cdv : Value) (A : Around) (outer : List Env) (s : Shared) (H : Hp) (vs : List V) (Q : VK) (E : XK) (hg : A.guards = some [])
    (hr : Room 4 (A.deeper (envOfC "law" (defScope sLaw) s.heap.objs.size f cdv))) (h : spLaw K vs H Q E) :
    ∃ t, PSs (cxOf CX0 P w K mg base nLaw "law" (defScope sLaw) f cdv A outer s H E).nox (defBody sLaw) t ∧ t { nx := fun _ H' => Q .non H', rt := Q } (start nLaw vs) H := by
  obtain ⟨a0, ns, rfl, hS0, hl63, q⟩ := h
  · have hrn : Room 1 _ := hr.mono (by decide)
    have hrs : Room 2 _ := hr.mono (by decide)
    have hrk : Room 1 _ := hr.mono (by decide)
    have hrg : Room 2 _ := hr.mono (by decide)
    have hrd : Room 1 _ := hr.mono (by decide)
    have hre : Room 4 _ := hr
    have hrl : Room 3 _ := hr.mono (by decide)
    have hgd := guards_deeper A (envOfC "law" (defScope sLaw) s.heap.objs.size f cdv) hg
    have hud := hr.units
    refine ⟨_, pss_cons (ps_set (i := 1) scLaw.nd rfl (.inl rfl) (pe_call Dn.ok hrn (by rfl) Dn.at' Dn.fn.kp Dn.bd .nil pass0 (pa_cons (pv 0) pa_nil)))
      (pss_cons (ps_set (i := 2) scLaw.nd rfl (.inl rfl) (pe_call Ds.ok hrs (by rfl) Ds.at' Ds.fn.kp Ds.bd .nil pass0 (pa_cons (pv 1) pa_nil)))
      (pss_cons (ps_set (i := 3) scLaw.nd rfl (.inl rfl) (pe_op op_add (pe_callB (cr_sum rfl) (by rfl) M.sum (by decide +kernel) (pa_cons (pe_lc (own := [("_law_part", 12)]) (g := gName 12) (tt := tYes) (te := tOp (rIxT K) (tVar 12) (tC (.int 1))) rfl scLaw.nd (pi_list (pv 2)) (blkOk_by (own := [("_law_part", 12)]) (N := nLaw) (sc := defScope sLaw) (by decide +kernel)) (fun _ _ _ _ _ => pg_name (i := 12) scLaw.nd rfl (.inl rfl)) (fun _ _ _ _ _ => pts_nil) (fun _ _ _ _ _ => pe_ix ix_tup (pv 12) pe_int (fun _ _ => rfl))) pa_nil)) (pe_callB (cr_sum rfl) (by rfl) M.sum (by decide +kernel) (pa_cons (pe_lc (own := [("_law_part", 12)]) (g := gName 12) (tt := tTest (tOp rEq (tOp (rIxT K) (tVar 12) (tC (.int 0))) (tC (.str "row")))) (te := tOp (rIxT K) (tVar 12) (tC (.int 2))) rfl scLaw.nd (pi_list (pv 2)) (blkOk_by (own := [("_law_part", 12)]) (N := nLaw) (sc := defScope sLaw) (by decide +kernel)) (fun _ _ _ _ _ => pg_name (i := 12) scLaw.nd rfl (.inl rfl)) (fun _ _ _ _ _ => pts_one (pt_cmpR op_eq (pe_ix ix_tup (pv 12) pe_int (fun _ _ => rfl)) pe_str (nomark _))) (fun _ _ _ _ _ => pe_ix ix_tup (pv 12) pe_int (fun _ _ => rfl))) pa_nil))))
      (pss_cons (ps_setLc (i := 4) (own := [("_law_part", 12)]) (g := gName 12) (tt := tTest (tOp rEq (tOp (rIxT K) (tVar 12) (tC (.int 0))) (tC (.str "gap")))) (te := tSl (rSlT K) (tVar 12) (tPart (tC (.int 1))) (tPart (tC (.int 4)))) rfl scLaw.nd rfl rfl (sw_true rfl rfl rfl (by decide +kernel)) (pi_list (pv 2)) (blkOk_by (own := [("_law_part", 12)]) (N := nLaw) (sc := defScope sLaw) (by decide +kernel)) (fun _ _ _ _ _ => pg_name (i := 12) scLaw.nd rfl (.inl rfl)) (fun _ _ _ _ _ => pts_one (pt_cmpR op_eq (pe_ix ix_tup (pv 12) pe_int (fun _ _ => rfl)) pe_str (nomark _))) (fun _ _ _ _ _ => pe_slice sl_tup (pv 12) (po_some pe_int) (po_some pe_int)))
      (pss_cons (ps_set (i := 5) scLaw.nd rfl (.inl rfl) (pe_callB (cr_sum rfl) (by rfl) M.sum (by decide +kernel) (pa_cons (pe_lc (own := [("_law_gap", 13)]) (g := gName 13) (tt := tYes) (te := tOp (rIxT K) (tVar 13) (tC (.int 1))) rfl scLaw.nd (pi_list (pv 4)) (blkOk_by (own := [("_law_gap", 13)]) (N := nLaw) (sc := defScope sLaw) (by decide +kernel)) (fun _ _ _ _ _ => pg_name (i := 13) scLaw.nd rfl (.inl rfl)) (fun _ _ _ _ _ => pts_nil) (fun _ _ _ _ _ => pe_ix ix_tup (pv 13) pe_int (fun _ _ => rfl))) pa_nil)))
      (pss_cons (ps_set (i := 6) scLaw.nd rfl (.inl rfl) (pe_callB (cr_sum rfl) (by rfl) M.sum (by decide +kernel) (pa_cons (pe_lc (own := [("_law_gap", 13)]) (g := gName 13) (tt := tYes) (te := tOp (rIxT K) (tVar 13) (tC (.int 2))) rfl scLaw.nd (pi_list (pv 4)) (blkOk_by (own := [("_law_gap", 13)]) (N := nLaw) (sc := defScope sLaw) (by decide +kernel)) (fun _ _ _ _ _ => pg_name (i := 13) scLaw.nd rfl (.inl rfl)) (fun _ _ _ _ _ => pts_nil) (fun _ _ _ _ _ => pe_ix ix_tup (pv 13) pe_int (fun _ _ => rfl))) pa_nil)))
      (pss_cons (ps_set (i := 7) scLaw.nd rfl (.inl rfl) (pe_ix ix_list (pe_lst (pa_cons (pe_op op_sub (pe_op op_add (pv 3) (pe_call Dk.ok hrk (by rfl) Dk.at' Dk.fn.kp Dk.bd .nil pass0 (pa_cons (pv 1) (pa_cons pe_int pa_nil)))) pe_int) (pa_cons (pe_call Dk.ok hrk (by rfl) Dk.at' Dk.fn.kp Dk.bd .nil pass0 (pa_cons (pv 1) (pa_cons pe_int pa_nil))) (pa_cons (pe_op op_add (pv 3) (pe_call Dk.ok hrk (by rfl) Dk.at' Dk.fn.kp Dk.bd .nil pass0 (pa_cons (pv 1) (pa_cons pe_int pa_nil)))) pa_nil)))) (pe_call Dk.ok hrk (by rfl) Dk.at' Dk.fn.kp Dk.bd .nil pass0 (pa_cons (pv 1) (pa_cons pe_int pa_nil))) (fun _ _ => rfl)))
      (pss_cons (ps_set (i := 8) scLaw.nd rfl (.inl rfl) (pe_callB (call_reprD hgd hud) (by rfl) M.repr (by decide +kernel) (pa_cons (pv 2) pa_nil)))
      (pss_cons (ps_set (i := 9) scLaw.nd rfl (.inl rfl) (pe_call Dg.ok hrg (by rfl) Dg.at' Dg.fn.kp Dg.bd .nil pass0 (pa_cons (pe_callTy call_list_of (by rfl) M.nn.list (by decide +kernel) (pa_cons (pv 4) pa_nil)) (pa_cons (pe_op op_sub (pv 7) (pv 3)) pa_nil))))
      (pss_cons (ps_if (PW.pt (pw_or (pt_not (pt_val (pe_callB call_isi (by rfl) M.nn.isi (by decide +kernel) (pa_cons (pv 9) (pa_cons (pe_bltn (v := .ty "list") (by rfl) M.nn.list (by decide +kernel) rfl) pa_nil))))) (pw_or1 (pt_cmpR op_ne (pe_callB call_len_seq (by rfl) M.nn.len PySem.boot_len (pa_cons (pv 9) pa_nil)) (pe_callB call_len_seq (by rfl) M.nn.len PySem.boot_len (pa_cons (pv 4) pa_nil)) (nomark _))))) (pss_one (ps_ret pe_bl)) pss_nil)
      (pss_cons (ps_asg (pe_call Dd.ok hrd (by rfl) Dd.at' Dd.fn.kp Dd.bd .nil pass0 (pa_cons (pv 2) (pa_cons (pv 9) pa_nil))) (pg_tup rfl (pgs_cons (pg_name (i := 10) scLaw.nd rfl (.inl rfl)) (pgs_cons (pg_name (i := 11) scLaw.nd rfl (.inl rfl)) pgs_nil))))
      (pss_cons (ps_if (PW.pt (pw_or (pt_not (pt_val (pe_call De.ok hre (by rfl) De.at' De.fn.kp De.bd .nil pass0 (pa_cons (pe_call Dl.ok hrl (by rfl) Dl.at' Dl.fn.kp Dl.bd .nil pass0 (pa_cons (pv 2) (pa_cons (pv 7) pa_nil))) (pa_cons (pv 10) pa_nil))))) (pw_or1 (pt_cmpR op_ne (pe_callB (call_reprD hgd hud) (by rfl) M.repr (by decide +kernel) (pa_cons (pv 2) pa_nil)) (pv 8) (nomark _))))) (pss_one (ps_ret pe_bl)) pss_nil)
      (pss_cons (ps_if (PW.pt (pw_and (pt_cmpR op_ge (pv 7) (pv 3) (nomark _)) (pw_and1 (PW.pt (pw_or (pt_cmpR op_gt (pv 5) pe_int (nomark _)) (pw_or1 (pt_cmpR op_eq (pv 7) (pv 3) (nomark _)))))))) (pss_one (ps_ret (pe_cmpR op_eq (pv 11) (pv 7) (nomark _)))) pss_nil)
      (pss_cons (ps_if (pt_cmpR op_ge (pv 7) (pv 3) (nomark _)) (pss_one (ps_ret (pe_cmpR op_eq (pv 11) (pv 3) (nomark _)))) pss_nil)
      (pss_one (ps_ret (pe_cmpR op_eq (pv 11) (pe_callB (call_max2 rfl) (by rfl) M.max (by decide +kernel) (pa_cons (pv 7) (pa_cons (pe_op op_sub (pv 3) (pv 6)) pa_nil))) (nomark _))))))))))))))))), ?_⟩
    -- the feed, the stack
    refine ⟨.ref a0, rfl, a0, ns, rfl, hS0, hl63, fun H1 fe ms0 sm1 nfe e1 => ?_⟩
    refine ⟨.ref fe, rfl, fe, ms0, rfl, e1, fun H2 a ps ms1 e2 hG hD0 => ?_⟩
    obtain ⟨a', xs, ea, hSG, hDG⟩ := list_view hD0
    cases ea
    have hlx : xs.length = ps.length := dps_len hDG
    have hps := hG.1
    have gf : Off [fe] H2 fe = none := if_pos List.mem_cons_self
    have c2 : Sg (Off [fe] H2) fe H2 := ⟨off_sub, ms1, e2⟩
    generalize Off [fe] H2 = G at hSG hDG gf c2
    -- the size
    refine ⟨.ref a, rfl, a, rfl, ⟨_, c2.same.seq hSG⟩, fun D1 n1 => lc_proj (tops ps) (c2.same.seq hSG) n1 (by show 12 < 14; decide) (by unfold tops; rw [List.length_map, hlx]) (by omega) (hit_tops (dps_mono c2.same _ _ hDG)) fun H3 s3 e3 => ?_⟩
    have c3 := c2.go s3
    refine ⟨D1, tops ps, rfl, SqL.of e3, ?_⟩
    refine ⟨.ref a, rfl, a, rfl, ⟨_, c3.same.seq hSG⟩, fun D2 n2 => lc_list (K := K) (a := a) (xs := xs) (fun i H' => Same H3 H' ∧ H' D2 = some (.lst ((deps (ps.take i)).map V.int))) ⟨same_new n2, upd_same⟩ (fun i H' _ p => (c3.same.trans p.1).seq hSG) ?_ ?_⟩
    · rintro i x H' hx ⟨sm, eD⟩
      obtain ⟨p, hp, qp⟩ := dps_at hDG hx
      have qp' := dp_mono (c3.same.trans sm) _ _ qp
      have hz : ((deps (ps.take i)).map V.int).length < sizeLine := by
        have h1 := deps_le (ps.take i)
        rw [List.length_take] at h1
        rw [List.length_map]
        exact small1000 (by omega)
      cases p with
      | row h d rows =>
        obtain ⟨t, l, rs, rfl, hT, _, _⟩ := part_view qp'
        refine ⟨rfl, .ref t, rfl, t, _, 0, .str "row", rfl, rfl, hT, atI_nat (j := 0) rfl, rfl, _, rfl, dec_t rfl ?_⟩
        refine ⟨.ref t, rfl, t, _, 2, .int d, rfl, rfl, hT, atI_nat (j := 2) rfl, _, eD, hz, fun b o e => ?_, ?_⟩
        · rw [upd_ne (ne_of_none e n2)]
          exact sm b o e
        · rw [upd_same, deps_row hp, ints_snoc]
      | gap g =>
        obtain ⟨t, rfl, hT⟩ := gap_view qp'
        refine ⟨rfl, .ref t, rfl, t, _, 0, .str "gap", rfl, rfl, hT, atI_nat (j := 0) rfl, rfl, _, rfl, dec_f gap_row ⟨sm, ?_⟩⟩
        rw [deps_gap hp]
        exact eD
    rintro H4 ⟨s4, e4⟩
    rw [hlx, List.take_length] at e4
    have c4 := c3.go s4
    obtain ⟨ms4, f4⟩ := c4.feed
    refine ⟨D2, deps ps, rfl, SqL.of e4, _, _, rfl, rfl, ?_⟩
    -- the gaps
    refine ⟨.ref a, rfl, a, rfl, ⟨_, c4.same.seq hSG⟩, fun GD nG => lc_list (K := K) (a := a) (xs := xs) (fun i H' => Same H4 H' ∧ ∃ zs, H' GD = some (.lst zs) ∧ DpAll K (Off [GD, fe] H') zs ((gaps (ps.take i)).map gapD)) ⟨same_new nG, [], upd_same, .nil⟩ (fun i H' _ p => (c4.same.trans p.1).seq hSG) ?_ ?_⟩
    · rintro i x H' hx ⟨sm, zs, eD, hZ⟩
      obtain ⟨p, hp, qp⟩ := dps_at hDG hx
      have qp' := dp_mono (c4.same.trans sm) _ _ qp
      cases p with
      | row h d rows =>
        obtain ⟨t, l, rs, rfl, hT, _, _⟩ := part_view qp'
        refine ⟨rfl, .ref t, rfl, t, _, 0, .str "row", rfl, rfl, hT, atI_nat (j := 0) rfl, rfl, _, rfl, dec_f row_gap ⟨sm, zs, eD, ?_⟩⟩
        rw [gaps_keep hp]
        exact hZ
      | gap g =>
        obtain ⟨t, rfl, hT⟩ := gap_view qp'
        refine ⟨rfl, .ref t, rfl, t, _, 0, .str "gap", rfl, rfl, hT, atI_nat (j := 0) rfl, rfl, _, rfl, dec_t rfl ?_⟩
        refine ⟨.ref t, rfl, 1, rfl, 4, rfl, t, _, rfl, hT, by show ¬ (HT.sIx 4 0 (some 1) = 0 ∧ HT.sIx 4 4 (some 4) = 4); decide +kernel, fun T nT => ?_⟩
        have nTD : GD ≠ T := ne_of_none eD nT
        have nTf : fe ≠ T := ne_of_none (sm fe _ f4) nT
        have mT : T ∉ [GD, fe] := by
          simp only [List.mem_cons, List.not_mem_nil, or_false, not_or]
          exact ⟨nTD.symm, nTf.symm⟩
        have hz : zs.length < sizeLine := by
          rw [dps_len hZ]
          have h1 := gaps_le (ps.take i)
          rw [List.length_take] at h1
          exact small1000 (by omega)
        refine ⟨zs, (upd_ne nTD).trans eD, hz, fun b o e => ?_, zs ++ [.ref T], upd_same, ?_⟩
        · rw [upd_ne (ne_of_none e nG)]
          exact same_new nT b o (sm b o e)
        · rw [off_upd List.mem_cons_self, gaps_snoc hp]
          exact dps_snoc (dps_mono (off_new nT) _ _ hZ) (gapD_make (SqT.of (off_some mT upd_same)))
    rintro H5 ⟨s5, zs, e5, hZ0⟩
    rw [hlx, List.take_length] at hZ0
    have hZ5 := dps_mono off_less _ _ hZ0
    have hlz : zs.length = (gaps ps).length := dps_len hZ0
    have hlg := gaps_le ps
    have nGf : GD ≠ fe := (ne_of_none f4 nG).symm
    have c5 := c4.go s5
    -- stretch, shrink
    refine ⟨.ref GD, rfl, GD, rfl, ⟨_, SqL.of e5⟩, fun D4 n4 => lc_proj (str (gaps ps)) (SqL.of e5) n4 (by show 13 < 14; decide) (by rw [str_length, hlz]) (by omega) (hit_str (dps_mono off_sub _ _ hZ5)) fun H6 s6 e6 => ?_⟩
    refine ⟨D4, str (gaps ps), rfl, SqL.of e6, ?_⟩
    have hZ6 := dps_mono (off_same s6) _ _ hZ5
    have g6 := s6 GD _ e5
    refine ⟨.ref GD, rfl, GD, rfl, ⟨_, SqL.of g6⟩, fun D5 n5 => lc_proj (shr (gaps ps)) (SqL.of g6) n5 (by show 13 < 14; decide) (by rw [shr_length, hlz]) (by omega) (hit_shr (dps_mono off_sub _ _ hZ6)) fun H7 s7 e7 => ?_⟩
    refine ⟨D5, shr (gaps ps), rfl, SqL.of e7, ?_⟩
    have c7 := (c5.go s6).go s7
    have hZ7 := dps_mono (off_same s7) _ _ hZ6
    have g7 := s7 GD _ g6
    -- all that stands now, but the feed
    have sG : Same G (Off [fe] H7) := fun b o e => off_some (fun z => ne_of_none e gf (List.mem_singleton.mp z)) (c7.same b o e)
    have hSF := sG.seq hSG
    have hDF := dps_mono sG _ _ hDG
    have gF : Off [fe] H7 GD = some (.lst zs) := off_some (fun z => nGf (List.mem_singleton.mp z)) g7
    have gf7 : Off [fe] H7 fe = none := if_pos List.mem_cons_self
    obtain ⟨ms7, f7⟩ := c7.feed
    have d7 : Sg (Off [fe] H7) fe H7 := ⟨off_sub, ms7, f7⟩
    generalize Off [fe] H7 = F at hSF hDF gF gf7 d7 hZ7
    -- the height
    refine ⟨_, rfl, .ref fe, rfl, fe, ms7, 9, rfl, by decide, f7, fun i1 t1 _ _ => ⟨_, _, rfl, rfl, _, _, rfl, rfl, .ref fe, rfl, fe, t1, 1000, rfl, by decide, upd_same, fun i2 t2 _ _ =>
      ⟨_, rfl, .ref fe, rfl, fe, t2, 400, rfl, by decide, upd_same, fun i3 t3 _ _ => ⟨_, _, rfl, rfl, by show 3 ≤ sizeLine; decide, fun p1 np1 => ?_⟩⟩⟩⟩
    have d8 := ((d7.pick gf7 t1).pick gf7 t2).pick gf7 t3
    obtain ⟨ms8, f8⟩ := d8.feed
    have npf : p1 ≠ fe := (ne_of_none f8 np1).symm
    have d9 := d8.new (o := .lst [.int ((tops ps).sum + (deps ps).sum + i1 - 4), .int i2, .int ((tops ps).sum + (deps ps).sum + i3)]) np1
    obtain ⟨ms9, f9⟩ := d9.feed
    refine ⟨.ref fe, rfl, fe, ms9, 3, rfl, by decide, f9, fun i4 t4 i40 i41 => ?_⟩
    obtain ⟨ht, eht⟩ := pick3 (h1 := (tops ps).sum + (deps ps).sum + i1 - 4) (h2 := i2) (h3 := (tops ps).sum + (deps ps).sum + i3) i40 i41
    refine ⟨p1, _, i4, .int ht, rfl, rfl, SqL.of ((upd_ne npf).trans upd_same), eht, ?_⟩
    have d10 := d9.pick gf7 t4
    generalize upd (upd _ p1 _) fe _ = H10 at d10 ⊢
    have hS := d10.same.seq hSF
    have hD := dps_mono d10.same _ _ hDF
    have hZ := dps_mono d10.same _ _ hZ7
    have eG := d10.same GD _ gF
    have shw := shw_stack hG
    have hdeep : (stackD ps).depth ≤ 60 := Nat.le_trans shw.deep (by decide)
    have hlong : (stackD ps).shown.length ≤ sizeLine := Nat.le_trans shw.size (by decide)
    -- kept = repr(stack)
    refine ⟨.ref a, rfl, a, stackD ps, rfl, .lst hS hD, shw.show1, shw.dict, hdeep, hlong, ?_⟩
    -- heights = glue_widths(list(gaps), height - size)
    refine ⟨.ref GD, rfl, GD, zs, rfl, .inl (SqL.of eG), fun L nL => ⟨_, rfl, _, rfl, _, _, rfl, rfl, L, zs, gaps ps, _, rfl, SqL.of upd_same, dps_mono (same_new nL) _ _ hZ, parts_str hG, parts_shr hG, fun H11 hp s11 np ep => ?_⟩⟩
    have hsz := tops_deps ps
    have ep : H11 hp = some (.lst ((glueF (gaps ps) (ht - ((tops ps).sum + (deps ps).sum))).map V.int)) := ep
    rw [hsz] at ep
    have hhl : (glueF (gaps ps) (ht - (sizes ps).sum)).length = (gaps ps).length := glueF_length _ _
    have hend := end_is ps ht (sum_nonneg (parts_str hG).1) (sum_nonneg (parts_shr hG).1)
    generalize hhs : glueF (gaps ps) (ht - (sizes ps).sum) = hs at ep hhl hend
    have sA : Same H10 H11 := (same_new nL).trans s11
    -- a list as long as the gaps
    refine ⟨_, rfl, .ref hp, .ty "list", _, _, true, rfl, .ty _, tyx_lst (SqL.of ep), kit_ty (by decide +kernel), true, rfl, iteF ?_⟩
    refine ⟨.ref hp, rfl, hp, _, rfl, .inl (SqL.of ep), .ref GD, rfl, GD, zs, rfl, .inl (SqL.of (sA GD _ eG)), rfl, _, rfl, iteNS (by rw [List.length_map, hhl, hlz]) ?_⟩
    -- rows, end = _law_due(stack, heights)
    refine ⟨.ref a, rfl, .ref hp, rfl, a, hp, xs, ps, hs, rfl, sA.seq hS, dps_mono sA _ _ hD, SqL.of ep, hhl, hG, fun H12 t r s12 et hR => ?_⟩
    refine ⟨t, _, rfl, SqT.of et, rfl, _, _, rfl, _, _, rfl, rfl, ?_⟩
    have sB : Same H10 H12 := sA.trans s12
    -- placed(stack, height)
    refine ⟨.ref a, rfl, _, rfl, a, xs, ps, ht, rfl, sB.seq hS, dps_mono sB _ _ hD, hG, fun H13 r2 s13 hR2 => ?_⟩
    rw [hhs] at hR2
    refine ⟨.ref r, rfl, r2, .ref r, _, rfl, hR2, dp_mono s13 _ _ hR, simp_outs hG hs, true, rfl, iteF ?_⟩
    have sC : Same H10 H13 := sB.trans s13
    refine ⟨.ref a, rfl, a, stackD ps, rfl, .lst (sC.seq hS) (dps_mono sC _ _ hD), shw.show1, shw.dict, hdeep, hlong, _, rfl, rfl, _, rfl, iteNS rfl ?_⟩
    -- the end
    rw [← hsz] at hend
    refine ⟨_, rfl, _, rfl, _, _, rfl, rfl, _, rfl, ite2 (fun hge => ?_) (fun hlt => ?_)⟩
    · have hge : (tops ps).sum + (deps ps).sum ≤ ht := of_decide_eq_true hge
      rw [if_pos hge] at hend
      refine ⟨_, rfl, _, _, rfl, rfl, _, rfl, ite2 (fun hst => ?_) (fun hst => ?_)⟩
      · have hst : 0 < (str (gaps ps)).sum := of_decide_eq_true hst
        rw [if_pos hst] at hend
        exact iteT ⟨_, rfl, _, rfl, rfl, q_eq (congrArg V.int hend) (q _)⟩
      · have hst : ¬ 0 < (str (gaps ps)).sum := fun z => hst (decide_eq_true z)
        rw [if_neg hst] at hend
        refine ⟨_, rfl, _, rfl, rfl, _, rfl, ite2 (fun he => ?_) (fun he => ?_)⟩
        · have he : V.int ht = V.int ((tops ps).sum + (deps ps).sum) := of_decide_eq_true he
          exact ⟨_, rfl, _, rfl, rfl, q_eq ((congrArg V.int hend).trans he.symm) (q _)⟩
        · refine ⟨_, rfl, _, rfl, _, _, rfl, rfl, _, rfl, ite2 (fun _ => ?_) (fun hn => absurd (decide_eq_true hge) hn)⟩
          exact ⟨_, rfl, _, rfl, rfl, q_eq (congrArg V.int hend) (q _)⟩
    · have hlt : ¬ (tops ps).sum + (deps ps).sum ≤ ht := fun z => hlt (decide_eq_true z)
      rw [if_neg hlt] at hend
      refine iteF ⟨_, rfl, _, rfl, _, _, rfl, rfl, _, rfl, ite2 (fun hn => absurd (of_decide_eq_true hn) hlt) (fun _ => ?_)⟩
      refine ⟨_, rfl, _, rfl, _, rfl, _, rfl, _, _, rfl, rfl, _, _, rfl, rfl, q_eq (congrArg V.int ?_) (q _)⟩
      exact hend
end
end K47

/-! The call of law from outside, where no repr is under way. -/
namespace K47
open PySem PySem.Spec PyProof.Rows L2
/-- the call of law by the claim's caller keeps the promise -/
def RunsAt (P : Program) (w : World) (K : PySem.W.Frag) (mg : Str → Option Value) (base : Heap) (f : Addr) (fd : FuncData) : Prop := ∀ (s : Shared) (H : Hp) (a : Addr) (Q : VK), Env0 P w K mg base callerA [] s H →
  BindsTo s fd ⟨[.ref a], []⟩ [("_law_script", .ref a)] → spLaw K [.ref a] H Q (fun _ _ _ => False) → codeAny (model P w) callerA (.call (.ref f) ⟨[.ref a], []⟩) (CR CX0 [] P w H s Q fun _ _ _ => False) s
section
variable {P : Program} {w : World} {K : PySem.W.Frag} {mg : Str → Option Value} {base : Heap}
theorem runs_at {f : Addr} {fd : FuncData} (F : Fun K "law" "law" sLaw f fd)
    (hbody : ∀ (cdv : Value) (s : Shared) (H : Hp) (vs : List V) (Q : VK), Room 4 (callerA.deeper (envOfC "law" (defScope sLaw) s.heap.objs.size f cdv)) → spLaw K vs H Q (fun _ _ _ => False) →
      ∃ t, PSs (cxOf CX0 P w K mg base nLaw "law" (defScope sLaw) f cdv callerA [] s H fun _ _ _ => False).nox (defBody sLaw) t ∧ t { nx := fun _ H' => Q .non H', rt := Q } (start nLaw vs) H) :
    RunsAt P w K mg base f fd := by
  intro s H a Q env hb hp
  obtain ⟨oc, od, kV, doc, pm, an, cdv, ct, osl, rfl, lk, hcd⟩ := F.ex
  have room : Room 5 callerA := ⟨rfl, by decide, by decide⟩
  have inK : K.In s.heap := env.mod.kin.keeps fun b o e => (env.bs b o e).1
  have noLim : s.heap.NoLimit :=
    env.mod.nolimit.keeps fun b o e => (env.bs b o e).1
  have kinds : ∀ y ∈ ([("_law_script", Value.ref a)] : List (Str × Value)),
      (defScope sLaw).names.lookup y.1 = some .local ∨
        ((defScope sLaw).names.lookup y.1 = some .cell ∧
          ((cellsFrom (s.heap.objs.size + 1) (defScope sLaw).names []).lookup y.1).isSome = true) := by
    intro y hy
    rw [List.mem_singleton.mp hy]
    exact .inl rfl
  refine codeAny_call_function room.depth (inK _ _ lk) rfl
    scLaw.co scLaw.gen rfl (PySem.W.codeRec_of inK hcd) (hb _ _ _ _ ?_)
  refine wpAny_newFunctionEnv_cells scLaw.kind kinds
    fun env' he s1 x => ?_
  subst he
  refine ⟨noLim.keeps x.toInCall.keep, codeAny_func ?_⟩
  obtain ⟨t, ht, hq⟩ := hbody cdv s H [.ref a] Q (room.deeper _) hp
  have I : Inv (cxOf CX0 P w K mg base nLaw "law" (defScope sLaw) f cdv callerA [] s H fun _ _ _ => False) [] (start nLaw [.ref a]) H s1 :=
    inv_start scLaw rfl env rfl (us := [.ref a]) (.cons rfl .nil) x
  refine wpAny_mono (ht.nox.run [] s1 _ H _ I hq) (fun fl s' hs => ?_) fun _ _ hs => hs
  cases fl with
  | ret u =>
    obtain ⟨v, σ', H', J, rv, q⟩ := hs
    exact ⟨v, H', J.os, J.bare, J.base, J.hok, rv, q⟩
  | next =>
    obtain ⟨σ', H', J, q⟩ := hs
    exact ⟨.non, H', J.os, J.bare, J.base, J.hok, rfl, q⟩
  | brk =>
    obtain ⟨_, _, _, q⟩ := hs
    exact q.elim
  | cont =>
    obtain ⟨_, _, _, q⟩ := hs
    exact q.elim
end
/-- the script's object -/
abbrev listO (vs : List Value) : Obj := { cls := .type "list", data := .seq vs.toArray }
open Classical in
/-- only the script is tracked, if it is no object of the module's own -/
noncomputable def onlyS (K : PySem.W.Frag) (a : Addr) (vs : List Value) (ns : List Int) : Hp := fun b => if b = a ∧ K.lookup a = none then some (.frz (listO vs) (.lst (ns.map V.int))) else none
section
variable {P : Program} {w : World} {K : PySem.W.Frag} {mg mb : Str → Option Value} {a : Addr} {vs : List Value} {ns : List Int} {h : Heap}
theorem onlyS_some {b : Addr} {u : HO} (e : onlyS K a vs ns b = some u) : b = a ∧ K.lookup a = none ∧ u = .frz (listO vs) (.lst (ns.map V.int)) := by
  unfold onlyS at e
  split at e
  · rename_i z
    exact ⟨z.1, z.2, (Option.some.inj e).symm⟩
  · cases e
theorem onlyS_none {b : Addr} (hb : b = a → K.lookup a ≠ none) : onlyS K a vs ns b = none := by
  unfold onlyS
  exact if_neg fun z => hb z.1 z.2
theorem onlyS_ok (ha : h.get? a = some (listO vs)) (hi : Vals (ns.map V.int) vs) (hl : ns.length ≤ 63) : HOk P w (onlyS K a vs ns) h := by
  intro b u e
  obtain ⟨rfl, _, rfl⟩ := onlyS_some e
  refine ⟨ha, ?_, vs, _, hi, ha⟩
  rw [List.length_map]
  exact Nat.le_trans hl (by decide)
theorem onlyS_seq (KX : K.In h) (ha : h.get? a = some (listO vs)) (hi : Vals (ns.map V.int) vs) (hl : ns.length ≤ 63) : SqL K (onlyS K a vs ns) a (ns.map V.int) := by
  cases e : K.lookup a with
  | none =>
    refine .inl (.inr ⟨listO vs, ?_⟩)
    unfold onlyS
    exact if_pos ⟨rfl, e⟩
  | some o =>
    have e2 := KX a o e
    rw [ha] at e2
    cases e2
    refine .inr ⟨_, vs.toArray, _, e, rfl, rfl, rfl, ?_, by simpa using hi⟩
    have hn := hi.length
    rw [List.length_map] at hn
    rw [List.size_toArray, ← hn]
    exact Nat.le_trans hl (by decide)
theorem onlyS_dict (ha : h.get? a = some (listO vs)) {b : Addr} {o : Obj} {es : Array DictEntry} {n : Nat} (e : h.get? b = some o) (d : o.data = .dict es n) : onlyS K a vs ns b = none := by
  refine onlyS_none fun z _ => ?_
  subst z
  rw [ha] at e
  cases e
  cases d
theorem onlyS_ns (ha : h.get? a = some (listO vs)) {b : Addr} {m : Str → Option Value} (n : h.Ns b m) : (hidT h (onlyS K a vs ns)).Ns b m := by
  obtain ⟨o, es, ep, e, d, r⟩ := n
  exact ⟨o, es, ep, hidT_get e (onlyS_dict ha e d), d, r⟩
theorem onlyS_in (KX : K.In h) : K.In (hidT h (onlyS K a vs ns)) := fun b o e =>
  hidT_get (KX b o e) (onlyS_none fun z n => by rw [z, n] at e; cases e)
/-- from such a run to what the claim asks of the call -/
theorem call_law {fa : Addr} {fd : FuncData} {s : Shared} (KX : K.In s.heap) (hm : s.heap.Ns mainGlobals mg) (hb : s.heap.Ns builtinsNs mb) (hbb : ∀ x : Str, x ≠ "__name__" → mb x = bootBuiltins x)
    (hlim : s.heap.NoLimit) (hg : s.gens = #[]) (ha : s.heap.get? a = some (listO vs)) (hi : IntsAre vs ns) (hl : ns.length ≤ 63)
    (F : ∀ base : Heap, K.In base → base.Ns mainGlobals mg → RunsAt P w K mg base fa fd) (hbind : ∀ (s : Shared) (u : Value), BindsTo s fd ⟨[u], []⟩ [("_law_script", u)]) :
    codeAny (model P w) callerA (.call (.ref fa) ⟨[.ref a], []⟩) (fun r s' => r = .ok (.ret (.bool true)) ∧ OldK s.heap s'.heap ∧ s'.os = s.os ∧ AllBare s'.gens) s := by
  have rv := vals_ints hi
  have inB := onlyS_in (a := a) (vs := vs) (ns := ns) KX
  have nsB := onlyS_ns (K := K) (ns := ns) ha hm
  obtain ⟨ml, l1, l2⟩ := hlim
  have env : Env0 P w K mg (hidT s.heap (onlyS K a vs ns)) callerA [] s (onlyS K a vs ns) :=
    ⟨rfl, ⟨inB, nsB, ⟨mb, onlyS_ns ha hb, hbb⟩, ⟨ml, onlyS_ns ha l1, l2⟩⟩, fun _ _ e => of_hidT e, Nat.le_of_eq (hidT_size _ _), trivial,
      fun b z => absurd (show b ∈ ([] : List Addr) from z) List.not_mem_nil, onlyS_ok ha rv hl, .of_eq hg⟩
  refine codeAny_mono (F _ inB nsB s _ a (fun v _ => v = .bl true) env (hbind s (.ref a)) ⟨a, ns, rfl, onlyS_seq KX ha rv hl, hl, fun _ => rfl⟩) fun r s' hr => ?_
  cases r with
  | error e => exact False.elim hr
  | ok fl =>
    cases fl with
    | next => exact False.elim hr
    | brk => exact False.elim hr
    | cont => exact False.elim hr
    | ret u =>
      obtain ⟨v, H', os, bare, un, ok', ru, hv⟩ := hr
      have hv : v = .bl true := hv
      subst hv
      have eu : u = Value.bool true := ru
      subst eu
      refine ⟨rfl, OldK.of_keep fun b o e => ?_, os, bare⟩
      cases hb' : onlyS K a vs ns b with
      | none => exact un.keep b o e hb' (fun z => absurd (show b ∈ ([] : List Addr) from z) List.not_mem_nil) List.not_mem_nil
      | some z =>
        obtain ⟨rfl, _, rfl⟩ := onlyS_some hb'
        obtain ⟨e2, _⟩ := ok' _ _ (un.frzs _ _ _ hb')
        rw [ha] at e
        cases e
        exact e2
end
end K47

/-! What the top has left; the law's own head. -/
namespace K47
open PySem PySem.Spec PyProof.Rows L2
theorem law_mk {l : PySem.W.OpenLaw} {w : World} {K : PySem.W.Frag} {h : Heap} {mg : Str → Option Value} {fa f1 f2 f3 f4 f5 f6 f7 f8 f9 f10 : Addr} (X : K.In h) (G : h.Ns mainGlobals mg) (hfa : mg "law" = some (.ref fa))
    {od1 an1 od2 an2 od3 an3 od4 an4 od5 an5 od6 an6 od7 an7 od8 an8 od9 an9 od10 an10 : Option Addr} {sl1 sl2 sl3 sl4 sl5 sl6 sl7 sl8 sl9 sl10 : Array (Option Value)}
    {oc1 kV1 dc1 pm1 cd1 ct1 oc2 kV2 dc2 pm2 cd2 ct2 oc3 kV3 dc3 pm3 cd3 ct3 oc4 kV4 dc4 pm4 cd4 ct4 oc5 kV5 dc5 pm5 cd5 ct5 oc6 kV6 dc6 pm6 cd6 ct6 oc7 kV7 dc7 pm7 cd7 ct7 oc8 kV8 dc8 pm8 cd8 ct8 oc9 kV9 dc9 pm9 cd9 ct9 oc10 kV10 dc10 pm10 cd10 ct10 : Value}
    (a1 : PySem.W.nsIn K mainGlobals "shares" = some (some (.ref f1)))
    (l1 : K.lookup f1 = some ⟨oc1, od1, .func (PySem.W.fnOf "shares" "shares" (defArgs sShares) (defBody sShares) (defScope sShares) .none kV1 dc1 pm1 an1 cd1 ct1), sl1⟩)
    (c1 : PySem.W.codeIn K cd1 "shares" = true) (k1 : PySem.W.keepIn K (.ref f1) = true)
    (a2 : PySem.W.nsIn K mainGlobals "glue_widths" = some (some (.ref f2)))
    (l2 : K.lookup f2 = some ⟨oc2, od2, .func (PySem.W.fnOf "glue_widths" "glue_widths" (defArgs sGlue) (defBody sGlue) (defScope sGlue) .none kV2 dc2 pm2 an2 cd2 ct2), sl2⟩)
    (c2 : PySem.W.codeIn K cd2 "glue_widths" = true) (k2 : PySem.W.keepIn K (.ref f2) = true)
    (a3 : PySem.W.nsIn K mainGlobals "stack_size" = some (some (.ref f3)))
    (l3 : K.lookup f3 = some ⟨oc3, od3, .func (PySem.W.fnOf "stack_size" "stack_size" (defArgs sSize) (defBody sSize) (defScope sSize) .none kV3 dc3 pm3 an3 cd3 ct3), sl3⟩)
    (c3 : PySem.W.codeIn K cd3 "stack_size" = true) (k3 : PySem.W.keepIn K (.ref f3) = true)
    (a4 : PySem.W.nsIn K mainGlobals "placed" = some (some (.ref f4)))
    (l4 : K.lookup f4 = some ⟨oc4, od4, .func (PySem.W.fnOf "placed" "placed" (defArgs sPlaced) (defBody sPlaced) (defScope sPlaced) .none kV4 dc4 pm4 an4 cd4 ct4), sl4⟩)
    (c4 : PySem.W.codeIn K cd4 "placed" = true) (k4 : PySem.W.keepIn K (.ref f4) = true)
    (a5 : PySem.W.nsIn K mainGlobals "_law_numbers" = some (some (.ref f5)))
    (l5 : K.lookup f5 = some ⟨oc5, od5, .func (PySem.W.fnOf "_law_numbers" "_law_numbers" (defArgs sNumbers) (defBody sNumbers) (defScope sNumbers) .none kV5 dc5 pm5 an5 cd5 ct5), sl5⟩)
    (c5 : PySem.W.codeIn K cd5 "_law_numbers" = true) (k5 : PySem.W.keepIn K (.ref f5) = true)
    (a6 : PySem.W.nsIn K mainGlobals "_law_pick" = some (some (.ref f6)))
    (l6 : K.lookup f6 = some ⟨oc6, od6, .func (PySem.W.fnOf "_law_pick" "_law_pick" (defArgs sPick) (defBody sPick) (defScope sPick) .none kV6 dc6 pm6 an6 cd6 ct6), sl6⟩)
    (c6 : PySem.W.codeIn K cd6 "_law_pick" = true) (k6 : PySem.W.keepIn K (.ref f6) = true)
    (a7 : PySem.W.nsIn K mainGlobals "_law_same" = some (some (.ref f7)))
    (l7 : K.lookup f7 = some ⟨oc7, od7, .func (PySem.W.fnOf "_law_same" "_law_same" (defArgs sSame) (defBody sSame) (defScope sSame) .none kV7 dc7 pm7 an7 cd7 ct7), sl7⟩)
    (c7 : PySem.W.codeIn K cd7 "_law_same" = true) (k7 : PySem.W.keepIn K (.ref f7) = true)
    (a8 : PySem.W.nsIn K mainGlobals "_law_stack" = some (some (.ref f8)))
    (l8 : K.lookup f8 = some ⟨oc8, od8, .func (PySem.W.fnOf "_law_stack" "_law_stack" (defArgs sStack) (defBody sStack) (defScope sStack) .none kV8 dc8 pm8 an8 cd8 ct8), sl8⟩)
    (c8 : PySem.W.codeIn K cd8 "_law_stack" = true) (k8 : PySem.W.keepIn K (.ref f8) = true)
    (a9 : PySem.W.nsIn K mainGlobals "_law_due" = some (some (.ref f9)))
    (l9 : K.lookup f9 = some ⟨oc9, od9, .func (PySem.W.fnOf "_law_due" "_law_due" (defArgs sDue) (defBody sDue) (defScope sDue) .none kV9 dc9 pm9 an9 cd9 ct9), sl9⟩)
    (c9 : PySem.W.codeIn K cd9 "_law_due" = true) (k9 : PySem.W.keepIn K (.ref f9) = true)
    (a10 : PySem.W.nsIn K mainGlobals "law" = some (some (.ref f10)))
    (l10 : K.lookup f10 = some ⟨oc10, od10, .func (PySem.W.fnOf "law" "law" (defArgs sLaw) (defBody sLaw) (defScope sLaw) .none kV10 dc10 pm10 an10 cd10 ct10), sl10⟩)
    (c10 : PySem.W.codeIn K cd10 "law" = true) (k10 : PySem.W.keepIn K (.ref f10) = true)
    (z1 : PySem.W.nsIn K mainGlobals "isinstance" = some none)
    (z2 : PySem.W.nsIn K mainGlobals "bool" = some none)
    (z3 : PySem.W.nsIn K mainGlobals "int" = some none)
    (z4 : PySem.W.nsIn K mainGlobals "str" = some none)
    (z5 : PySem.W.nsIn K mainGlobals "list" = some none)
    (z6 : PySem.W.nsIn K mainGlobals "tuple" = some none)
    (z7 : PySem.W.nsIn K mainGlobals "len" = some none)
    (z8 : PySem.W.nsIn K mainGlobals "range" = some none)
    (z9 : PySem.W.nsIn K mainGlobals "sum" = some none)
    (z10 : PySem.W.nsIn K mainGlobals "min" = some none)
    (z11 : PySem.W.nsIn K mainGlobals "max" = some none)
    (z12 : PySem.W.nsIn K mainGlobals "enumerate" = some none)
    (z13 : PySem.W.nsIn K mainGlobals "repr" = some none) :
    ∃ fd : FuncData, (∀ (s : Shared) (v : Value), BindsTo s fd ⟨[v], []⟩ [("_law_script", v)]) ∧ ∀ base : Heap, K.In base → base.Ns mainGlobals mg → RunsAt l.prog w K mg base fa fd := by
  have e := hfa.symm.trans (PySem.W.mg_of X G a10)
  cases e
  have F1 := fun_mk (st := sShares) l1 c1 k1
  have g1 := PySem.W.mg_of X G a1
  have b1 := F1.binds (ps := ["parts", "amount"]) fun _ _ _ _ _ _ us hl => match us, hl with | [_, _], _ => rfl
  have F2 := fun_mk (st := sGlue) l2 c2 k2
  have g2 := PySem.W.mg_of X G a2
  have b2 := F2.binds (ps := ["gaps", "amount"]) fun _ _ _ _ _ _ us hl => match us, hl with | [_, _], _ => rfl
  have F3 := fun_mk (st := sSize) l3 c3 k3
  have g3 := PySem.W.mg_of X G a3
  have b3 := F3.binds (ps := ["stack"]) fun _ _ _ _ _ _ us hl => match us, hl with | [_], _ => rfl
  have F4 := fun_mk (st := sPlaced) l4 c4 k4
  have g4 := PySem.W.mg_of X G a4
  have b4 := F4.binds (ps := ["stack", "height"]) fun _ _ _ _ _ _ us hl => match us, hl with | [_, _], _ => rfl
  have F5 := fun_mk (st := sNumbers) l5 c5 k5
  have g5 := PySem.W.mg_of X G a5
  have b5 := F5.binds (ps := ["_law_script"]) fun _ _ _ _ _ _ us hl => match us, hl with | [_], _ => rfl
  have F6 := fun_mk (st := sPick) l6 c6 k6
  have g6 := PySem.W.mg_of X G a6
  have b6 := F6.binds (ps := ["_law_feed", "_law_many"]) fun _ _ _ _ _ _ us hl => match us, hl with | [_, _], _ => rfl
  have F7 := fun_mk (st := sSame) l7 c7 k7
  have g7 := PySem.W.mg_of X G a7
  have b7 := F7.binds (ps := ["_law_actual", "_law_due_here"]) fun _ _ _ _ _ _ us hl => match us, hl with | [_, _], _ => rfl
  have F8 := fun_mk (st := sStack) l8 c8 k8
  have g8 := PySem.W.mg_of X G a8
  have b8 := F8.binds (ps := ["_law_feed"]) fun _ _ _ _ _ _ us hl => match us, hl with | [_], _ => rfl
  have F9 := fun_mk (st := sDue) l9 c9 k9
  have g9 := PySem.W.mg_of X G a9
  have b9 := F9.binds (ps := ["_law_stack_here", "_law_heights"]) fun _ _ _ _ _ _ us hl => match us, hl with | [_, _], _ => rfl
  have F10 := fun_mk (st := sLaw) l10 c10 k10
  have g10 := PySem.W.mg_of X G a10
  have m1 := PySem.W.mg_none_of X G z1
  have m2 := PySem.W.mg_none_of X G z2
  have m3 := PySem.W.mg_none_of X G z3
  have m4 := PySem.W.mg_none_of X G z4
  have m5 := PySem.W.mg_none_of X G z5
  have m6 := PySem.W.mg_none_of X G z6
  have m7 := PySem.W.mg_none_of X G z7
  have m8 := PySem.W.mg_none_of X G z8
  have m9 := PySem.W.mg_none_of X G z9
  have m10 := PySem.W.mg_none_of X G z10
  have m11 := PySem.W.mg_none_of X G z11
  have m12 := PySem.W.mg_none_of X G z12
  have m13 := PySem.W.mg_none_of X G z13
  have N : Nones mg := ⟨m1, m2, m3, m4, m5, m6, m7, m8⟩
  have M : Free mg := ⟨N, m9, m10, m11, m12, m13⟩
  refine ⟨_, fun s v => .of_eq rfl, fun base _ _ => runs_at F10 fun cdv s H vs Q hr hp => ?_⟩
  have o2 : FnOk l.prog w K mg base CX0 2 f2 _ ["gaps", "amount"] (spGlue K) := ok_glue F2 F1 b1 g1 m9 m10 m12
  have o6 : FnOk l.prog w K mg base CX0 1 f6 _ ["_law_feed", "_law_many"] spPick := ok_pick F6 m7 m3
  exact body_law M ⟨F5, g5, b5, ok_numbers F5 m8 m3⟩ ⟨F8, g8, b8, ok_stack F8 F6 b6 g6 o6 m8 m10⟩ ⟨F6, g6, b6, o6⟩ ⟨F2, g2, b2, o2⟩ ⟨F9, g9, b9, ok_due F9⟩
    ⟨F7, g7, b7, ok_same F7 b7 g7 N 4⟩ ⟨F4, g4, b4, ok_placed F4 F2 b2 g2 o2 F3 b3 g3 m5⟩ cdv callerA [] s H vs Q _ rfl hr hp
/-- the goal that the head leaves -/
theorem law_walk {l : PySem.W.OpenLaw} {q : Program} {loose : List Str} {XP : (Str → Option Value) → Heap → Prop} {YP : World → Heap → Prop} {d : DefRec} {K : Params → PySem.W.Frag} (hn : l.most = some 63) (hdf : d.params.defaults = [])
    (hY : ∀ (w : World) (h : Heap), YP w h → (K w.params).In h)
    (F : ∀ (w : World) (mg : Str → Option Value) (fa : Addr) (h : Heap), (K w.params).In h → h.Ns mainGlobals mg → mg d.name = some (.ref fa) →
      ∃ fd : FuncData, (∀ (s : Shared) (u : Value), BindsTo s fd ⟨[u], []⟩ [("_law_script", u)]) ∧ ∀ base : Heap, (K w.params).In base → base.Ns mainGlobals mg → RunsAt l.prog w (K w.params) mg base fa fd) :
    PySem.W.WalkO q loose XP YP l.row.toRowW d [] (fun f vs => PySem.call f vs) := by
  refine Att.attach_call hn hdf fun w s0 s1 mg mb fa o pm cd doc a vs ns G Y ho hd hcd hmg hobj hints hlen hgn => ?_
  obtain ⟨fd, hb, hF⟩ := F w mg fa _ (hY w _ Y) G.T.g hmg
  exact call_law (hY w _ Y) G.T.g G.T.b G.T.builtins G.T.nolimit hgn hobj hints hlen hF hb
end K47
open PySem PySem.W PyProof.Rows
set_option maxHeartbeats 0 in
theorem PySem.Challenge.cw_galleypapers_k47_whole_stacks_placed_holds : PySem.Challenge.rw_galleypapers_k47_whole_stacks_placed.Holds := by
  w_on; o_law; k_head; (case hw => w_witness2)
  k_fill
  refine K47.law_walk (l := PySem.Challenge.rw_galleypapers_k47_whole_stacks_placed) rfl rfl (fun w h Y => PySem.W.kIn_of Y) ?F
  case F =>
    intro w mg fa h KX G hmg
    refine' K47.law_mk KX G hmg ?a1 ?l1 ?c1 ?k1 ?a2 ?l2 ?c2 ?k2 ?a3 ?l3 ?c3 ?k3 ?a4 ?l4 ?c4 ?k4 ?a5 ?l5 ?c5 ?k5 ?a6 ?l6 ?c6 ?k6 ?a7 ?l7 ?c7 ?k7 ?a8 ?l8 ?c8 ?k8 ?a9 ?l9 ?c9 ?k9 ?a10 ?l10 ?c10 ?k10 ?z1 ?z2 ?z3 ?z4 ?z5 ?z6 ?z7 ?z8 ?z9 ?z10 ?z11 ?z12 ?z13
    (case a1 => k_is)
    (case l1 => k_is)
    (case c1 => k_is)
    (case k1 => k_is)
    (case a2 => k_is)
    (case l2 => k_is)
    (case c2 => k_is)
    (case k2 => k_is)
    (case a3 => k_is)
    (case l3 => k_is)
    (case c3 => k_is)
    (case k3 => k_is)
    (case a4 => k_is)
    (case l4 => k_is)
    (case c4 => k_is)
    (case k4 => k_is)
    (case a5 => k_is)
    (case l5 => k_is)
    (case c5 => k_is)
    (case k5 => k_is)
    (case a6 => k_is)
    (case l6 => k_is)
    (case c6 => k_is)
    (case k6 => k_is)
    (case a7 => k_is)
    (case l7 => k_is)
    (case c7 => k_is)
    (case k7 => k_is)
    (case a8 => k_is)
    (case l8 => k_is)
    (case c8 => k_is)
    (case k8 => k_is)
    (case a9 => k_is)
    (case l9 => k_is)
    (case c9 => k_is)
    (case k9 => k_is)
    (case a10 => k_is)
    (case l10 => k_is)
    (case c10 => k_is)
    (case k10 => k_is)
    (case z1 => k_is)
    (case z2 => k_is)
    (case z3 => k_is)
    (case z4 => k_is)
    (case z5 => k_is)
    (case z6 => k_is)
    (case z7 => k_is)
    (case z8 => k_is)
    (case z9 => k_is)
    (case z10 => k_is)
    (case z11 => k_is)
    (case z12 => k_is)
    (case z13 => k_is)
