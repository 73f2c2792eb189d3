import PyProof.Rows.All
import Wide.All
import OpenK.AllK
import Wide.FinOn
import HandS.ForMost
import HandS.Walk
import HandS.Codes
import HandS.More
import HandS.Style
import HandS.TupAny
import HandS.DictTup
import HandS.DictComp
import HandS.Conv
import HandS.Flt
import HandS.IsInst
import HandS.SortInts
import KE.SortData
import PySem.Challenge.RW_knownends_k41_whole_joins_of_great_sketc
import KE.KSortTupAny
import HandS.Set
import HandS.SetKeys
import HandS.SetFor
import KE.KDictZip
import KE.KDictDisplayH
import HandS.ListItems
import HandS.Zip
set_option autoImplicit false
set_option linter.all false
/-! Plain mathematics of counts, truths and portions. No program here. -/
namespace KM

/-! ### sums -/
theorem sum_app (xs ys : List Int) : (xs ++ ys).sum = xs.sum + ys.sum := by
  induction xs with
  | nil => simp
  | cons x r ih => simp only [List.cons_append, List.sum_cons, ih]; omega
theorem sum_congr {β : Type} {f g : β → Int} : ∀ {l : List β}, (∀ x ∈ l, f x = g x) → (l.map f).sum = (l.map g).sum
  | [], _ => rfl
  | x :: r, h => by
    simp only [List.map_cons, List.sum_cons]
    rw [h x List.mem_cons_self, sum_congr (l := r) fun y hy => h y (List.mem_cons_of_mem _ hy)]
theorem sum_le {β : Type} {f g : β → Int} : ∀ {l : List β}, (∀ x ∈ l, f x ≤ g x) → (l.map f).sum ≤ (l.map g).sum
  | [], _ => Int.le_refl _
  | x :: r, h => by
    simp only [List.map_cons, List.sum_cons]
    have a := h x List.mem_cons_self
    have b := sum_le (l := r) fun y hy => h y (List.mem_cons_of_mem _ hy)
    omega
theorem sum_add {β : Type} {f g : β → Int} : ∀ {l : List β}, (l.map fun x => f x + g x).sum = (l.map f).sum + (l.map g).sum
  | [] => rfl
  | x :: r => by
    simp only [List.map_cons, List.sum_cons]
    rw [sum_add (l := r)]
    omega
theorem sum_sub {β : Type} {f g : β → Int} : ∀ {l : List β}, (l.map fun x => f x - g x).sum = (l.map f).sum - (l.map g).sum
  | [] => rfl
  | x :: r => by
    simp only [List.map_cons, List.sum_cons]
    rw [sum_sub (l := r)]
    omega
theorem sum_zero {β : Type} {f : β → Int} : ∀ {l : List β}, (∀ x ∈ l, f x = 0) → (l.map f).sum = 0
  | [], _ => rfl
  | x :: r, h => by
    simp only [List.map_cons, List.sum_cons]
    rw [h x List.mem_cons_self, sum_zero (l := r) fun y hy => h y (List.mem_cons_of_mem _ hy)]
    rfl
theorem sum_nonneg {β : Type} {f : β → Int} : ∀ {l : List β}, (∀ x ∈ l, 0 ≤ f x) → 0 ≤ (l.map f).sum
  | [], _ => Int.le_refl _
  | x :: r, h => by
    simp only [List.map_cons, List.sum_cons]
    have a := h x List.mem_cons_self
    have b := sum_nonneg (l := r) fun y hy => h y (List.mem_cons_of_mem _ hy)
    omega

section
variable {α : Type} [DecidableEq α]

/-! ### counts -/
/-- how often a name stands in counts -/
def cnt : List (α × Int) → α → Int
  | [], _ => 0
  | p :: r, n => if p.1 = n then p.2 else cnt r n
def nms (cs : List (α × Int)) : List α := cs.map (·.1)
def tot (cs : List (α × Int)) : Int := (cs.map (·.2)).sum
/-- the sum of products -/
def jn (cs ds : List (α × Int)) : Int := (cs.map fun p => p.2 * cnt ds p.1).sum
theorem cnt_nil (n : α) : cnt ([] : List (α × Int)) n = 0 := rfl
theorem cnt_cons (p : α × Int) (r : List (α × Int)) (n : α) : cnt (p :: r) n = if p.1 = n then p.2 else cnt r n := rfl
theorem cnt_no : ∀ {cs : List (α × Int)} {n : α}, n ∉ nms cs → cnt cs n = 0
  | [], _, _ => rfl
  | p :: r, n, h => by
    have h1 : p.1 ≠ n := fun e => h (by rw [← e]; exact List.mem_cons_self)
    rw [cnt_cons, if_neg h1]
    exact cnt_no fun q => h (List.mem_cons_of_mem _ q)
theorem cnt_mem : ∀ {cs : List (α × Int)} {p : α × Int}, (nms cs).Nodup → p ∈ cs → cnt cs p.1 = p.2
  | [], _, _, h => by cases h
  | q :: r, p, nd, h => by
    have nd' : q.1 ∉ nms r ∧ (nms r).Nodup := List.nodup_cons.mp nd
    rcases List.mem_cons.mp h with e | h
    · subst e
      rw [cnt_cons, if_pos rfl]
    · have h1 : q.1 ≠ p.1 := fun e => nd'.1 (by rw [e]; exact List.mem_map.mpr ⟨p, h, rfl⟩)
      rw [cnt_cons, if_neg h1]
      exact cnt_mem nd'.2 h
theorem mem_of_cnt {cs : List (α × Int)} {n : α} (h : cnt cs n ≠ 0) : n ∈ nms cs := by
  by_cases q : n ∈ nms cs
  · exact q
  · exact absurd (cnt_no q) h
theorem cnt_nonneg : ∀ {cs : List (α × Int)} (_ : ∀ p ∈ cs, 0 ≤ p.2) (n : α), 0 ≤ cnt cs n
  | [], _, _ => Int.le_refl _
  | p :: r, h, n => by
    rw [cnt_cons]
    split
    · exact h p List.mem_cons_self
    · exact cnt_nonneg (fun q hq => h q (List.mem_cons_of_mem _ hq)) n
theorem cnt_pos {cs : List (α × Int)} (hp : ∀ p ∈ cs, 0 < p.2) {n : α} (hn : n ∈ nms cs) : 0 < cnt cs n := by
  induction cs with
  | nil => cases hn
  | cons p r ih =>
    rw [cnt_cons]
    by_cases e : p.1 = n
    · rw [if_pos e]; exact hp p List.mem_cons_self
    · rw [if_neg e]
      refine ih (fun q hq => hp q (List.mem_cons_of_mem _ hq)) ?_
      rcases List.mem_cons.mp hn with q | q
      · exact absurd q.symm e
      · exact q
theorem tot_cons (p : α × Int) (r : List (α × Int)) : tot (p :: r) = p.2 + tot r := rfl
theorem tot_nil : tot ([] : List (α × Int)) = 0 := rfl
theorem tot_nonneg {cs : List (α × Int)} (h : ∀ p ∈ cs, 0 ≤ p.2) : 0 ≤ tot cs := sum_nonneg h

/-- the sum of one place -/
theorem sum_one {x : α} {v : Int} : ∀ {N : List α}, N.Nodup → x ∈ N → (N.map fun n => if x = n then v else 0).sum = v
  | [], _, h => by cases h
  | y :: r, nd, h => by
    have nd' := List.nodup_cons.mp nd
    simp only [List.map_cons, List.sum_cons]
    by_cases e : x = y
    · subst e
      rw [if_pos rfl, sum_zero]
      · omega
      · intro z hz
        rw [if_neg (fun e : x = z => nd'.1 (by rw [e]; exact hz))]
    · rw [if_neg e, sum_one nd'.2 ((List.mem_cons.mp h).resolve_left e)]
      omega
/-- a sum over counts is a sum over any list of unlike names that holds them -/
theorem sum_over : ∀ {T : List (α × Int)} {N : List α} (h : α → Int), (nms T).Nodup → N.Nodup → (∀ n ∈ nms T, n ∈ N) → (N.map fun n => cnt T n * h n).sum = (T.map fun p => p.2 * h p.1).sum
  | [], N, h, _, _, _ => by
    rw [sum_zero]
    · rfl
    · intro n _
      rw [cnt_nil, Int.zero_mul]
  | p :: r, N, h, nd, nN, hs => by
    have nd' : p.1 ∉ nms r ∧ (nms r).Nodup := List.nodup_cons.mp nd
    have e1 : (N.map fun n => cnt (p :: r) n * h n).sum = (N.map fun n => (if p.1 = n then p.2 * h p.1 else 0) + cnt r n * h n).sum := by
      refine sum_congr fun n _ => ?_
      rw [cnt_cons]
      by_cases e : p.1 = n
      · subst e
        rw [if_pos rfl, if_pos rfl, cnt_no nd'.1]
        omega
      · rw [if_neg e, if_neg e]
        omega
    rw [e1, sum_add, sum_one nN (hs p.1 List.mem_cons_self), sum_over h nd'.2 nN fun n hn => hs n (List.mem_cons_of_mem _ hn)]
    rfl
theorem tot_over {T : List (α × Int)} {N : List α} (nd : (nms T).Nodup) (nN : N.Nodup) (hs : ∀ n ∈ nms T, n ∈ N) : (N.map fun n => cnt T n).sum = tot T := by
  have e := sum_over (fun _ => 1) nd nN hs
  simp only [Int.mul_one] at e
  exact e
theorem jn_over {T U : List (α × Int)} {N : List α} (nd : (nms T).Nodup) (nN : N.Nodup) (hs : ∀ n ∈ nms T, n ∈ N) : (N.map fun n => cnt T n * cnt U n).sum = jn T U := sum_over (cnt U) nd nN hs

/-- unlike names of a list -/
def dd : List α → List α
  | [] => []
  | x :: r => if x ∈ dd r then dd r else x :: dd r
theorem mem_dd {x : α} : ∀ {l : List α}, x ∈ dd l ↔ x ∈ l
  | [] => Iff.rfl
  | y :: r => by
    unfold dd
    have ih := mem_dd (x := x) (l := r)
    by_cases e : y ∈ dd r
    · rw [if_pos e, ih, List.mem_cons]
      constructor
      · exact .inr
      · rintro (q | q)
        · rw [q]; exact mem_dd.mp e
        · exact q
    · rw [if_neg e, List.mem_cons, List.mem_cons, ih]
theorem nd_dd : ∀ {l : List α}, (dd l).Nodup
  | [] => List.nodup_nil
  | y :: r => by
    unfold dd
    by_cases e : y ∈ dd r
    · rw [if_pos e]; exact nd_dd
    · rw [if_neg e]; exact List.nodup_cons.mpr ⟨e, nd_dd⟩
theorem jn_comm {T U : List (α × Int)} (nT : (nms T).Nodup) (nU : (nms U).Nodup) : jn T U = jn U T := by
  have a := jn_over (U := U) nT (nd_dd (l := nms T ++ nms U)) fun n hn => mem_dd.mpr (List.mem_append_left _ hn)
  have b := jn_over (U := T) nU (nd_dd (l := nms T ++ nms U)) fun n hn => mem_dd.mpr (List.mem_append_right _ hn)
  rw [← a, ← b]
  exact sum_congr fun n _ => Int.mul_comm _ _

/-! ### truths -/
/-- T is a truth of a sketch that keeps kept, took off, has seen many -/
structure Tru (kept : List (α × Int)) (off many : Int) (T : List (α × Int)) : Prop where
  nd : (nms T).Nodup
  pos : ∀ p ∈ T, 0 < p.2
  lo : ∀ n, cnt kept n ≤ cnt T n
  hi : ∀ n, cnt T n ≤ cnt kept n + off
  sum : tot T = many
theorem Tru.sub {kept : List (α × Int)} {off many : Int} {T : List (α × Int)} (h : Tru kept off many T) (kp : ∀ p ∈ kept, 0 < p.2) : ∀ n ∈ nms kept, n ∈ nms T := fun n hn => by
  refine mem_of_cnt ?_
  have a := h.lo n
  have b := cnt_pos kp hn
  omega

/-! ### portions -/
inductive Kd where
  | z | f | r
  deriving DecidableEq
/-- what a portion takes: nothing, off, the rest -/
def Kd.val (off rest : Int) : Kd → Int
  | .z => 0
  | .f => off
  | .r => rest
def nF (ks : List Kd) : Nat := ks.count .f
def nR (ks : List Kd) : Nat := ks.count .r
/-- the sum of portions by weights -/
def wsum (off rest : Int) : List Kd → List Int → Int
  | k :: ks, w :: ws => k.val off rest * w + wsum off rest ks ws
  | _, _ => 0
/-- the sum of amounts by weights -/
def tsum : List Int → List Int → Int
  | t :: ts, w :: ws => t * w + tsum ts ws
  | _, _ => 0
def vsum (off rest : Int) (ks : List Kd) : Int := (ks.map (Kd.val off rest)).sum
/-- the first rest is exchanged -/
def setR (k : Kd) : List Kd → List Kd
  | [] => []
  | .r :: ks => k :: ks
  | x :: ks => x :: setR k ks
/-- the weight at the first rest -/
def wR : List Kd → List Int → Int
  | .r :: _, w :: _ => w
  | _ :: ks, _ :: ws => wR ks ws
  | _, _ => 0
theorem nF_cons (k : Kd) (ks : List Kd) : nF (k :: ks) = nF ks + if k = .f then 1 else 0 := by
  unfold nF
  rw [List.count_cons]
  cases k <;> simp
theorem nR_cons (k : Kd) (ks : List Kd) : nR (k :: ks) = nR ks + if k = .r then 1 else 0 := by
  unfold nR
  rw [List.count_cons]
  cases k <;> simp
theorem setR_len (k : Kd) : ∀ ks : List Kd, (setR k ks).length = ks.length
  | [] => rfl
  | .r :: ks => rfl
  | .z :: ks => congrArg (· + 1) (setR_len k ks)
  | .f :: ks => congrArg (· + 1) (setR_len k ks)
theorem setR_vsum {off rest : Int} (k : Kd) : ∀ {ks : List Kd}, 0 < nR ks → vsum off rest (setR k ks) = vsum off rest ks + k.val off rest - rest
  | [], h => by simp [nR] at h
  | .r :: ks, _ => by
    show k.val off rest + (ks.map (Kd.val off rest)).sum = (rest + (ks.map (Kd.val off rest)).sum) + k.val off rest - rest
    omega
  | .z :: ks, h => by
    rw [nR_cons] at h
    have ih := setR_vsum (off := off) (rest := rest) k (ks := ks) (by simpa using h)
    show 0 + vsum off rest (setR k ks) = 0 + vsum off rest ks + k.val off rest - rest
    omega
  | .f :: ks, h => by
    rw [nR_cons] at h
    have ih := setR_vsum (off := off) (rest := rest) k (ks := ks) (by simpa using h)
    show off + vsum off rest (setR k ks) = off + vsum off rest ks + k.val off rest - rest
    omega
theorem setR_wsum {off rest : Int} (k : Kd) : ∀ {ks : List Kd} {ws : List Int}, 0 < nR ks → ks.length = ws.length → wsum off rest (setR k ks) ws = wsum off rest ks ws + (k.val off rest - rest) * wR ks ws
  | [], _, h, _ => by simp [nR] at h
  | _ :: _, [], _, h => by simp at h
  | .r :: ks, w :: ws, _, _ => by
    show k.val off rest * w + wsum off rest ks ws = rest * w + wsum off rest ks ws + (k.val off rest - rest) * w
    rw [Int.sub_mul]
    omega
  | .z :: ks, w :: ws, h, hl => by
    rw [nR_cons] at h
    have ih := setR_wsum (off := off) (rest := rest) k (ks := ks) (ws := ws) (by simpa using h) (by simpa using hl)
    show 0 * w + wsum off rest (setR k ks) ws = 0 * w + wsum off rest ks ws + (k.val off rest - rest) * wR ks ws
    omega
  | .f :: ks, w :: ws, h, hl => by
    rw [nR_cons] at h
    have ih := setR_wsum (off := off) (rest := rest) k (ks := ks) (ws := ws) (by simpa using h) (by simpa using hl)
    show off * w + wsum off rest (setR k ks) ws = off * w + wsum off rest ks ws + (k.val off rest - rest) * wR ks ws
    omega
theorem setR_nR (k : Kd) (hk : k ≠ .r) : ∀ {ks : List Kd}, 0 < nR ks → nR (setR k ks) + 1 = nR ks
  | [], h => by simp [nR] at h
  | .r :: ks, _ => by
    show nR (k :: ks) + 1 = nR (.r :: ks)
    rw [nR_cons, nR_cons, if_neg hk, if_pos rfl]
  | .z :: ks, h => by
    rw [nR_cons] at h
    have ih := setR_nR k hk (ks := ks) (by simpa using h)
    show nR (.z :: setR k ks) + 1 = nR (.z :: ks)
    rw [nR_cons, nR_cons, if_neg (by decide)]
    omega
  | .f :: ks, h => by
    rw [nR_cons] at h
    have ih := setR_nR k hk (ks := ks) (by simpa using h)
    show nR (.f :: setR k ks) + 1 = nR (.f :: ks)
    rw [nR_cons, nR_cons, if_neg (by decide)]
    omega
/-- without a rest the rest's amount does not matter -/
theorem wsum_rest {off r r' : Int} : ∀ {ks : List Kd} {ws : List Int}, nR ks = 0 → wsum off r ks ws = wsum off r' ks ws
  | [], _, _ => rfl
  | _ :: _, [], _ => rfl
  | k :: ks, w :: ws, h => by
    rw [nR_cons] at h
    have ih := wsum_rest (off := off) (r := r) (r' := r') (ks := ks) (ws := ws) (by omega)
    cases k with
    | z => show 0 * w + _ = 0 * w + _; rw [ih]
    | f => show off * w + _ = off * w + _; rw [ih]
    | r => simp at h
theorem vsum_eq {off rest : Int} : ∀ (ks : List Kd), vsum off rest ks = off * (nF ks : Int) + rest * (nR ks : Int)
  | [] => by simp [vsum, nF, nR]
  | k :: ks => by
    have ih := vsum_eq (off := off) (rest := rest) ks
    have e : vsum off rest (k :: ks) = k.val off rest + vsum off rest ks := rfl
    rw [e, ih, nF_cons, nR_cons]
    cases k with
    | z => simp [Kd.val]
    | f => simp [Kd.val, Int.mul_add]; omega
    | r => simp [Kd.val, Int.mul_add]; omega
theorem vsum_rest {off r r' : Int} {ks : List Kd} (h : nR ks = 0) : vsum off r ks = vsum off r' ks := by
  rw [vsum_eq, vsum_eq, h]
  simp

/-- any amounts can be rounded to portions, one of them a rest, with no less a sum -/
theorem round_one {off : Int} : ∀ {ts ws : List Int}, ts.length = ws.length → (∀ t ∈ ts, 0 ≤ t ∧ t ≤ off) →
    ∃ (ks : List Kd) (v : Int), ks.length = ts.length ∧ nR ks ≤ 1 ∧ (nR ks = 1 → 0 < v ∧ v < off) ∧ vsum off v ks = ts.sum ∧ tsum ts ws ≤ wsum off v ks ws
  | [], _, _, _ => ⟨[], 0, rfl, by simp [nR], by simp [nR], rfl, Int.le_refl _⟩
  | _ :: _, [], h, _ => by simp at h
  | t :: ts, w :: ws, hl, hb => by
    obtain ⟨ks, v, l1, n1, v1, s1, w1⟩ := round_one (off := off) (ts := ts) (ws := ws) (by simpa using hl) fun x hx => hb x (List.mem_cons_of_mem _ hx)
    obtain ⟨t0, t1⟩ := hb t List.mem_cons_self
    have hlk : ks.length = ws.length := by rw [l1]; simpa using hl
    by_cases e0 : t = 0
    · subst e0
      refine ⟨.z :: ks, v, by simp [l1], ?_, ?_, ?_, ?_⟩
      · rw [nR_cons]; simpa using n1
      · rw [nR_cons]; simpa using v1
      · show 0 + vsum off v ks = 0 + ts.sum
        rw [s1]
      · show 0 * w + tsum ts ws ≤ 0 * w + wsum off v ks ws
        omega
    · by_cases e1 : t = off
      · subst e1
        refine ⟨.f :: ks, v, by simp [l1], ?_, ?_, ?_, ?_⟩
        · rw [nR_cons]; simpa using n1
        · rw [nR_cons]; simpa using v1
        · show t + vsum t v ks = t + ts.sum
          rw [s1]
        · show t * w + tsum ts ws ≤ t * w + wsum t v ks ws
          omega
      · by_cases hn : nR ks = 0
        · refine ⟨.r :: ks, t, by simp [l1], ?_, ?_, ?_, ?_⟩
          · rw [nR_cons, hn]; simp
          · intro _; omega
          · show t + vsum off t ks = t + ts.sum
            rw [vsum_rest (r' := v) hn, s1]
          · show t * w + tsum ts ws ≤ t * w + wsum off t ks ws
            rw [wsum_rest (r' := v) hn]
            omega
        · have hn1 : nR ks = 1 := by omega
          have hn0 : 0 < nR ks := by omega
          obtain ⟨v0, v2⟩ := v1 hn1
          -- two of them are between: the weights decide
          have sz := setR_vsum (off := off) (rest := v) .z hn0
          have sf := setR_vsum (off := off) (rest := v) .f hn0
          have wz := setR_wsum (off := off) (rest := v) .z hn0 hlk
          have wf := setR_wsum (off := off) (rest := v) .f hn0 hlk
          have cz := setR_nR .z (by decide) hn0
          have cf := setR_nR .f (by decide) hn0
          simp only [Kd.val] at sz sf wz wf
          generalize hw' : wR ks ws = w' at wz wf
          -- an amount u stands at the place of the rest
          have at_ : ∀ u : Int, vsum off u ks = vsum off v ks + (u - v) ∧ wsum off u ks ws = wsum off v ks ws + (u - v) * w' := by
            intro u
            constructor
            · rw [vsum_eq, vsum_eq, hn1]; simp; omega
            · have a1 := setR_wsum (off := off) (rest := u) .z hn0 hlk
              rw [wsum_rest (r' := v) (by omega), wz, hw'] at a1
              simp only [Kd.val] at a1
              have e1 : (0 - u) * w' = -(u * w') := by rw [Int.zero_sub, Int.neg_mul]
              have e2 : (0 - v) * w' = -(v * w') := by rw [Int.zero_sub, Int.neg_mul]
              rw [e1, e2] at a1
              rw [Int.sub_mul]
              omega
          have ev : ∀ u : Int, (0 - v) * u = -(v * u) := fun u => by rw [Int.zero_sub, Int.neg_mul]
          have eo : ∀ u : Int, (off - v) * u = off * u - v * u := fun u => Int.sub_mul _ _ _
          rw [ev] at wz
          rw [eo] at wf
          by_cases hw : w' ≤ w
          · have g : 0 ≤ (w - w') := by omega
            by_cases hs : t + v < off
            · -- all to the head
              refine ⟨.r :: setR .z ks, t + v, by simp [setR_len, l1], ?_, ?_, ?_, ?_⟩
              · rw [nR_cons]; simp; omega
              · intro _; omega
              · show (t + v) + vsum off (t + v) (setR .z ks) = t + ts.sum
                rw [vsum_rest (r' := v) (by omega), sz]; omega
              · show t * w + tsum ts ws ≤ (t + v) * w + wsum off (t + v) (setR .z ks) ws
                rw [wsum_rest (r' := v) (by omega), wz, Int.add_mul]
                have m := Int.mul_nonneg (Int.le_of_lt v0) g
                rw [Int.mul_sub] at m
                omega
            · by_cases he : t + v = off
              · refine ⟨.f :: setR .z ks, v, by simp [setR_len, l1], ?_, ?_, ?_, ?_⟩
                · rw [nR_cons]; simp; omega
                · rw [nR_cons]; simp; omega
                · show off + vsum off v (setR .z ks) = t + ts.sum
                  rw [sz]; omega
                · show t * w + tsum ts ws ≤ off * w + wsum off v (setR .z ks) ws
                  have eh : off * w = t * w + v * w := by rw [← he, Int.add_mul]
                  rw [wz, eh]
                  have m := Int.mul_nonneg (Int.le_of_lt v0) g
                  rw [Int.mul_sub] at m
                  omega
              · -- off at the head, the rest stays
                obtain ⟨a1, a2⟩ := at_ (t + v - off)
                refine ⟨.f :: ks, t + v - off, by simp [l1], ?_, ?_, ?_, ?_⟩
                · rw [nR_cons]; simpa using n1
                · intro _; omega
                · show off + vsum off (t + v - off) ks = t + ts.sum
                  rw [a1]; omega
                · show t * w + tsum ts ws ≤ off * w + wsum off (t + v - off) ks ws
                  rw [a2]
                  have m := Int.mul_nonneg (show 0 ≤ off - t by omega) g
                  have e : (t + v - off - v) = -(off - t) := by omega
                  rw [e, Int.neg_mul]
                  rw [Int.mul_sub, Int.sub_mul, Int.sub_mul] at m
                  rw [Int.sub_mul]
                  omega
          · have g : 0 ≤ (w' - w) := by omega
            by_cases hs : t + v < off
            · obtain ⟨a1, a2⟩ := at_ (t + v)
              refine ⟨.z :: ks, t + v, by simp [l1], ?_, ?_, ?_, ?_⟩
              · rw [nR_cons]; simpa using n1
              · intro _; omega
              · show 0 + vsum off (t + v) ks = t + ts.sum
                rw [a1]; omega
              · show t * w + tsum ts ws ≤ 0 * w + wsum off (t + v) ks ws
                rw [a2]
                have m := Int.mul_nonneg t0 g
                have e : (t + v - v) = t := by omega
                rw [e, Int.zero_mul]
                rw [Int.mul_sub] at m
                omega
            · by_cases he : t + v = off
              · refine ⟨.z :: setR .f ks, v, by simp [setR_len, l1], ?_, ?_, ?_, ?_⟩
                · rw [nR_cons]; simp; omega
                · rw [nR_cons]; simp; omega
                · show 0 + vsum off v (setR .f ks) = t + ts.sum
                  rw [sf]; omega
                · show t * w + tsum ts ws ≤ 0 * w + wsum off v (setR .f ks) ws
                  have eh : off * w' = t * w' + v * w' := by rw [← he, Int.add_mul]
                  rw [wf, eh, Int.zero_mul]
                  have m := Int.mul_nonneg t0 g
                  rw [Int.mul_sub] at m
                  omega
              · -- off at the rest's place, the rest at the head
                refine ⟨.r :: setR .f ks, t + v - off, by simp [setR_len, l1], ?_, ?_, ?_, ?_⟩
                · rw [nR_cons]; simp; omega
                · intro _; omega
                · show (t + v - off) + vsum off (t + v - off) (setR .f ks) = t + ts.sum
                  rw [vsum_rest (r' := v) (by omega), sf]; omega
                · show t * w + tsum ts ws ≤ (t + v - off) * w + wsum off (t + v - off) (setR .f ks) ws
                  rw [wsum_rest (r' := v) (by omega), wf]
                  have m := Int.mul_nonneg (show 0 ≤ off - v by omega) g
                  rw [Int.mul_sub, Int.sub_mul, Int.sub_mul] at m
                  rw [Int.sub_mul, Int.add_mul]
                  omega

/-- .. just the portions of a sketch -/
theorem round_to {off full rest : Int} {ts ws : List Int} (hl : ts.length = ws.length) (hb : ∀ t ∈ ts, 0 ≤ t ∧ t ≤ off) (hf : 0 ≤ full) (hr : 0 ≤ rest) (ho : (rest < off) ∨ (off = 0 ∧ full = 0 ∧ rest = 0)) (hs : ts.sum = off * full + rest) :
    ∃ ks : List Kd, ks.length = ts.length ∧ (nF ks : Int) = full ∧ nR ks = (if 0 < rest then 1 else 0) ∧ tsum ts ws ≤ wsum off rest ks ws := by
  rcases ho with ho | ⟨rfl, rfl, rfl⟩
  · obtain ⟨ks, v, l1, n1, v1, s1, w1⟩ := round_one hl hb
    rw [hs, vsum_eq] at s1
    by_cases hn : nR ks = 0
    · rw [hn] at s1
      have e : off * (nF ks : Int) = off * full + rest := by simpa using s1
      have e1 : (off * full + rest) / off = full := by
        rw [Int.add_comm, Int.add_mul_ediv_left _ _ (by omega), Int.ediv_eq_zero_of_lt hr ho]
        omega
      have e2 : (off * (nF ks : Int)) / off = nF ks := Int.mul_ediv_cancel_left _ (by omega)
      have e3 : (nF ks : Int) = full := by rw [← e1, ← e, e2]
      have e4 : rest = 0 := by rw [e3] at e; omega
      refine ⟨ks, l1, e3, by rw [hn, e4]; rfl, ?_⟩
      rw [wsum_rest (r' := v) hn]
      exact w1
    · have hn1 : nR ks = 1 := by omega
      obtain ⟨v0, v2⟩ := v1 hn1
      rw [hn1] at s1
      have e : off * (nF ks : Int) + v = off * full + rest := by simpa using s1
      have e1 : (off * full + rest) / off = full := by
        rw [Int.add_comm, Int.add_mul_ediv_left _ _ (by omega), Int.ediv_eq_zero_of_lt hr ho]
        omega
      have e2 : (off * (nF ks : Int) + v) / off = nF ks := by
        rw [Int.add_comm, Int.add_mul_ediv_left _ _ (by omega), Int.ediv_eq_zero_of_lt (by omega) v2]
        omega
      have e3 : (nF ks : Int) = full := by rw [← e1, ← e, e2]
      have e4 : v = rest := by rw [e3] at e; omega
      subst e4
      exact ⟨ks, l1, e3, by rw [hn1, if_pos v0], w1⟩
  · -- nothing was taken
    refine ⟨ts.map fun _ => .z, by simp, ?_, ?_, ?_⟩
    · have : nF (ts.map fun _ => Kd.z) = 0 := by
        unfold nF
        exact List.count_eq_zero.mpr fun h => by
          obtain ⟨_, _, e⟩ := List.mem_map.mp h
          cases e
      rw [this]; rfl
    · have : nR (ts.map fun _ => Kd.z) = 0 := by
        unfold nR
        exact List.count_eq_zero.mpr fun h => by
          obtain ⟨_, _, e⟩ := List.mem_map.mp h
          cases e
      rw [this]; rfl
    · have z : ∀ {ts ws : List Int}, (∀ t ∈ ts, 0 ≤ t ∧ t ≤ 0) → tsum ts ws ≤ wsum 0 0 (ts.map fun _ => .z) ws := by
        intro ts
        induction ts with
        | nil => intro ws _; exact Int.le_refl _
        | cons t r ih =>
          intro ws h
          cases ws with
          | nil => exact Int.le_refl _
          | cons w ws =>
            have a := ih (ws := ws) fun x hx => h x (List.mem_cons_of_mem _ hx)
            obtain ⟨b1, b2⟩ := h t List.mem_cons_self
            have b : t = 0 := by omega
            subst b
            show 0 * w + tsum r ws ≤ 0 * w + wsum 0 0 (r.map fun _ => .z) ws
            omega
      exact z hb

/-! ### falling lists -/
/-- the sum of products, place by place -/
def zs : List Int → List Int → Int
  | x :: xs, y :: ys => x * y + zs xs ys
  | _, _ => 0
theorem zs_nil_r (xs : List Int) : zs xs [] = 0 := by cases xs <;> rfl
theorem zs_nil_l (ys : List Int) : zs [] ys = 0 := by cases ys <;> rfl
/-- x among a falling list -/
def ins (x : Int) : List Int → List Int
  | [] => [x]
  | a :: r => if a ≤ x then x :: a :: r else a :: ins x r
def srt : List Int → List Int
  | [] => []
  | x :: r => ins x (srt r)
def Fal : List Int → Prop
  | [] => True
  | a :: r => (0 ≤ a ∧ ∀ b ∈ r, b ≤ a) ∧ Fal r
theorem mem_ins {x y : Int} : ∀ {l : List Int}, y ∈ ins x l → y = x ∨ y ∈ l
  | [], h => by
    rcases List.mem_cons.mp h with h | h
    · exact .inl h
    · cases h
  | a :: r, h => by
    unfold ins at h
    by_cases e : a ≤ x
    · rw [if_pos e] at h
      exact List.mem_cons.mp h
    · rw [if_neg e] at h
      rcases List.mem_cons.mp h with h | h
      · exact .inr (by rw [h]; exact List.mem_cons_self)
      · rcases mem_ins h with h | h
        · exact .inl h
        · exact .inr (List.mem_cons_of_mem _ h)
theorem fal_ins {x : Int} (hx : 0 ≤ x) : ∀ {l : List Int}, Fal l → Fal (ins x l)
  | [], _ => ⟨⟨hx, fun b hb => nomatch hb⟩, trivial⟩
  | a :: r, h => by
    obtain ⟨⟨h0, h1⟩, h2⟩ := id h
    unfold ins
    by_cases e : a ≤ x
    · rw [if_pos e]
      refine ⟨⟨hx, fun b hb => ?_⟩, h⟩
      rcases List.mem_cons.mp hb with q | q
      · omega
      · have := h1 b q; omega
    · rw [if_neg e]
      refine ⟨⟨h0, fun b hb => ?_⟩, fal_ins hx h2⟩
      rcases mem_ins hb with q | q
      · omega
      · exact h1 b q
theorem fal_srt : ∀ {l : List Int}, (∀ x ∈ l, 0 ≤ x) → Fal (srt l)
  | [], _ => trivial
  | x :: r, h => fal_ins (h x List.mem_cons_self) (fal_srt fun y hy => h y (List.mem_cons_of_mem _ hy))
theorem ins_head {b : Int} : ∀ {l : List Int}, (∀ c ∈ l, c ≤ b) → ins b l = b :: l
  | [], _ => rfl
  | a :: r, h => by
    unfold ins
    rw [if_pos (h a List.mem_cons_self)]
/-- falling lists give the greatest sum -/
theorem zs_ins {x y : Int} (hx : 0 ≤ x) (hy : 0 ≤ y) : ∀ {xs ys : List Int}, Fal xs → Fal ys → x * y + zs xs ys ≤ zs (ins x xs) (ins y ys)
  | [], [], _, _ => by show x * y + 0 ≤ x * y + 0; omega
  | [], b :: ys, _, hys => by
    show x * y + 0 ≤ zs [x] (ins y (b :: ys))
    unfold ins
    by_cases e : b ≤ y
    · rw [if_pos e]
      show x * y + 0 ≤ x * y + zs [] _
      rw [zs_nil_l]; omega
    · rw [if_neg e]
      show x * y + 0 ≤ x * b + zs [] _
      rw [zs_nil_l]
      have m := Int.mul_nonneg hx (show 0 ≤ b - y by omega)
      rw [Int.mul_sub] at m
      omega
  | a :: xs, [], hxs, _ => by
    show x * y + 0 ≤ zs (ins x (a :: xs)) [y]
    unfold ins
    by_cases e : a ≤ x
    · rw [if_pos e]
      show x * y + 0 ≤ x * y + zs _ []
      rw [zs_nil_r]; omega
    · rw [if_neg e]
      show x * y + 0 ≤ a * y + zs _ []
      rw [zs_nil_r]
      have m := Int.mul_nonneg hy (show 0 ≤ a - x by omega)
      rw [Int.mul_sub, Int.mul_comm y a, Int.mul_comm y x] at m
      omega
  | a :: xs, b :: ys, hxs, hys => by
    obtain ⟨⟨ha, ha1⟩, ha2⟩ := id hxs
    obtain ⟨⟨hb, hb1⟩, hb2⟩ := id hys
    have e0 : zs (a :: xs) (b :: ys) = a * b + zs xs ys := rfl
    by_cases e : a ≤ x
    · by_cases f : b ≤ y
      · have e1 : ins x (a :: xs) = x :: a :: xs := by unfold ins; rw [if_pos e]
        have e2 : ins y (b :: ys) = y :: b :: ys := by unfold ins; rw [if_pos f]
        rw [e1, e2]
        exact Int.le_refl _
      · have e1 : ins x (a :: xs) = x :: a :: xs := by unfold ins; rw [if_pos e]
        have e2 : ins y (b :: ys) = b :: ins y ys := by
          show (if b ≤ y then _ else _) = _
          rw [if_neg f]
        rw [e1, e2, e0]
        show _ ≤ x * b + zs (a :: xs) (ins y ys)
        have ih := zs_ins (x := a) (y := y) ha hy ha2 hb2
        rw [ins_head ha1] at ih
        have m := Int.mul_nonneg (show 0 ≤ x - a by omega) (show 0 ≤ b - y by omega)
        rw [Int.mul_sub, Int.sub_mul, Int.sub_mul] at m
        omega
    · have e1 : ins x (a :: xs) = a :: ins x xs := by
        show (if a ≤ x then _ else _) = _
        rw [if_neg e]
      by_cases f : b ≤ y
      · have e2 : ins y (b :: ys) = y :: b :: ys := by unfold ins; rw [if_pos f]
        rw [e1, e2, e0]
        show _ ≤ a * y + zs (ins x xs) (b :: ys)
        have ih := zs_ins (x := x) (y := b) hx hb ha2 hb2
        rw [ins_head hb1] at ih
        have m := Int.mul_nonneg (show 0 ≤ a - x by omega) (show 0 ≤ y - b by omega)
        rw [Int.mul_sub, Int.sub_mul, Int.sub_mul] at m
        omega
      · have e2 : ins y (b :: ys) = b :: ins y ys := by
          show (if b ≤ y then _ else _) = _
          rw [if_neg f]
        rw [e1, e2, e0]
        show _ ≤ a * b + zs (ins x xs) (ins y ys)
        have ih := zs_ins (x := x) (y := y) hx hy ha2 hb2
        omega
theorem zs_srt : ∀ {xs ys : List Int}, (∀ x ∈ xs, 0 ≤ x) → (∀ y ∈ ys, 0 ≤ y) → xs.length = ys.length → zs xs ys ≤ zs (srt xs) (srt ys)
  | [], [], _, _, _ => Int.le_refl _
  | [], _ :: _, _, _, h => by simp at h
  | _ :: _, [], _, _, h => by simp at h
  | x :: xs, y :: ys, hx, hy, hl => by
    have hx' : ∀ z ∈ xs, 0 ≤ z := fun z hz => hx z (List.mem_cons_of_mem _ hz)
    have hy' : ∀ z ∈ ys, 0 ≤ z := fun z hz => hy z (List.mem_cons_of_mem _ hz)
    have ih := zs_srt hx' hy' (by simpa using hl)
    have a := zs_ins (hx x List.mem_cons_self) (hy y List.mem_cons_self) (fal_srt hx') (fal_srt hy')
    show x * y + zs xs ys ≤ zs (ins x (srt xs)) (ins y (srt ys))
    omega
/-- so many offs, rests, noughts -/
def port (off rest : Int) (a b : Nat) : List Int := List.replicate a off ++ List.replicate b rest
def portz (off rest : Int) (a b c : Nat) : List Int := port off rest a b ++ List.replicate c 0
theorem zs_zero_l : ∀ (c : Nat) (ys : List Int), zs (List.replicate c 0) ys = 0
  | 0, ys => zs_nil_l ys
  | c + 1, [] => rfl
  | c + 1, y :: ys => by
    show 0 * y + zs (List.replicate c 0) ys = 0
    rw [zs_zero_l c ys]; omega
theorem zs_zero_r : ∀ (c : Nat) (xs : List Int), zs xs (List.replicate c 0) = 0
  | 0, xs => zs_nil_r xs
  | c + 1, [] => rfl
  | c + 1, x :: xs => by
    show x * 0 + zs xs (List.replicate c 0) = 0
    rw [zs_zero_r c xs]; omega
theorem zs_zeros : ∀ (xs ys : List Int) (c d : Nat), zs (xs ++ List.replicate c 0) (ys ++ List.replicate d 0) = zs xs ys
  | [], ys, c, d => by
    rw [List.nil_append, zs_zero_l, zs_nil_l]
  | x :: xs, [], c, d => by
    rw [List.nil_append, zs_zero_r]
    rfl
  | x :: xs, y :: ys, c, d => by
    show x * y + zs (xs ++ List.replicate c 0) (ys ++ List.replicate d 0) = x * y + zs xs ys
    rw [zs_zeros xs ys c d]
theorem ins_off {off rest : Int} (h : rest ≤ off) (h0 : 0 ≤ off) (a b c : Nat) : ins off (portz off rest a b c) = portz off rest (a + 1) b c := by
  rw [ins_head]
  · rfl
  · intro d hd
    unfold portz port at hd
    simp only [List.mem_append, List.mem_replicate] at hd
    omega
theorem ins_app {x : Int} : ∀ {l r : List Int}, (∀ a ∈ l, x < a) → ins x (l ++ r) = l ++ ins x r
  | [], _, _ => rfl
  | a :: l, r, h => by
    show (if a ≤ x then _ else a :: ins x (l ++ r)) = a :: (l ++ ins x r)
    have := h a List.mem_cons_self
    rw [if_neg (by omega), ins_app fun b hb => h b (List.mem_cons_of_mem _ hb)]
theorem ins_rest {off rest : Int} (h : rest < off) (h0 : 0 ≤ rest) (a c : Nat) : ins rest (portz off rest a 0 c) = portz off rest a 1 c := by
  have e : portz off rest a 0 c = List.replicate a off ++ List.replicate c 0 := by unfold portz port; simp
  rw [e, ins_app, ins_head]
  · unfold portz port; simp
  · intro d hd
    have := (List.mem_replicate.mp hd).2
    omega
  · intro d hd
    have := (List.mem_replicate.mp hd).2
    omega
theorem rep_snoc (n : Nat) (x : Int) : List.replicate n x ++ [x] = List.replicate (n + 1) x := by
  rw [List.replicate_succ']
theorem rep_cons (n : Nat) (x : Int) : x :: List.replicate n x = List.replicate (n + 1) x := by
  rw [List.replicate_succ]
theorem ins_zero_rep : ∀ (n : Nat) (x : Int), 0 ≤ x → ∀ l : List Int, ins 0 (List.replicate n x ++ l) = (if x = 0 then 0 :: (List.replicate n x ++ l) else List.replicate n x ++ ins 0 l) ∨ n = 0
  | 0, _, _, _ => .inr rfl
  | n + 1, x, hx, l => by
    refine .inl ?_
    by_cases e : x = 0
    · subst e
      rw [if_pos rfl]
      show (if (0 : Int) ≤ 0 then _ else _) = _
      rw [if_pos (by decide)]
      rfl
    · rw [if_neg e]
      refine ins_app fun a ha => ?_
      have := (List.mem_replicate.mp ha).2
      omega
theorem ins_zero {off rest : Int} (h : 0 < off ∨ off = 0) (hr : 0 ≤ rest) (a b c : Nat) (hb : b = 0 ∨ 0 < rest) (ho : off = 0 → b = 0) : ins 0 (portz off rest a b c) = portz off rest a b (c + 1) := by
  have hz : ins 0 (List.replicate c 0) = List.replicate (c + 1) 0 := by
    rw [ins_head]
    · rfl
    · intro d hd
      have := (List.mem_replicate.mp hd).2
      omega
  rcases h with h | h
  · unfold portz port
    rw [ins_app, hz]
    intro d hd
    simp only [List.mem_append, List.mem_replicate] at hd
    omega
  · subst h
    have eb := ho rfl
    subst eb
    have e : ∀ c, portz 0 rest a 0 c = List.replicate (a + c) 0 := fun c => by
      unfold portz port
      simp
    rw [e, e, ins_head]
    · rfl
    · intro d hd
      have := (List.mem_replicate.mp hd).2
      omega
/-- portions sorted -/
theorem srt_port {off rest : Int} (ho : (0 ≤ rest ∧ rest < off) ∨ (off = 0 ∧ rest = 0)) : ∀ {ks : List Kd}, nR ks ≤ 1 → (nR ks = 1 → 0 < rest) → ∃ c, srt (ks.map (Kd.val off rest)) = portz off rest (nF ks) (nR ks) c
  | [], _, _ => ⟨0, rfl⟩
  | k :: ks, h1, h2 => by
    have f1 : nR ks ≤ 1 := by rw [nR_cons] at h1; omega
    have f2 : nR ks = 1 → 0 < rest := fun e => h2 (by
      rw [nR_cons] at h1 ⊢
      generalize (if k = .r then 1 else 0) = u at h1 ⊢
      omega)
    obtain ⟨c, e⟩ := srt_port ho f1 f2
    show ∃ c, ins (k.val off rest) (srt (ks.map (Kd.val off rest))) = _
    rw [e]
    cases k with
    | z =>
      refine ⟨c + 1, ?_⟩
      rw [nF_cons, nR_cons]
      simp only [Kd.val, reduceCtorEq, if_false, Nat.add_zero]
      refine ins_zero (by omega) (by omega) _ _ _ ?_ ?_
      · by_cases q : nR ks = 0
        · exact .inl q
        · exact .inr (f2 (by omega))
      · intro q
        by_cases q1 : nR ks = 0
        · exact q1
        · have := f2 (by omega)
          omega
    | f =>
      refine ⟨c, ?_⟩
      rw [nF_cons, nR_cons]
      simp only [Kd.val, reduceCtorEq, if_false, if_true, Nat.add_zero]
      exact ins_off (by omega) (by omega) _ _ _
    | r =>
      refine ⟨c, ?_⟩
      rw [nR_cons] at h1 h2
      simp only [if_true] at h1 h2
      have q : nR ks = 0 := by omega
      have hr := h2 (by omega)
      rw [nF_cons, nR_cons, q]
      simp only [Kd.val, reduceCtorEq, if_false, if_true, Nat.add_zero, Nat.zero_add]
      exact ins_rest (by omega) (by omega) _ _
/-- the sum of products of portions, place by place -/
def ksum (o1 r1 o2 r2 : Int) : List Kd → List Kd → Int
  | k :: ks, l :: ls => k.val o1 r1 * l.val o2 r2 + ksum o1 r1 o2 r2 ks ls
  | _, _ => 0
theorem ksum_zs {o1 r1 o2 r2 : Int} : ∀ ks ls : List Kd, ksum o1 r1 o2 r2 ks ls = zs (ks.map (Kd.val o1 r1)) (ls.map (Kd.val o2 r2))
  | [], ls => by rw [List.map_nil, zs_nil_l]; cases ls <;> rfl
  | _ :: _, [] => rfl
  | k :: ks, l :: ls => by
    show k.val o1 r1 * l.val o2 r2 + ksum o1 r1 o2 r2 ks ls = k.val o1 r1 * l.val o2 r2 + zs (ks.map (Kd.val o1 r1)) (ls.map (Kd.val o2 r2))
    rw [ksum_zs ks ls]
/-- on fresh names: greater portions together are best -/
theorem fresh_best {o1 r1 o2 r2 : Int} (h1 : (0 ≤ r1 ∧ r1 < o1) ∨ (o1 = 0 ∧ r1 = 0)) (h2 : (0 ≤ r2 ∧ r2 < o2) ∨ (o2 = 0 ∧ r2 = 0)) {ks ls : List Kd} (hl : ks.length = ls.length) (n1 : nR ks ≤ 1) (m1 : nR ks = 1 → 0 < r1) (n2 : nR ls ≤ 1) (m2 : nR ls = 1 → 0 < r2) :
    ksum o1 r1 o2 r2 ks ls ≤ zs (port o1 r1 (nF ks) (nR ks)) (port o2 r2 (nF ls) (nR ls)) := by
  have vn : ∀ {o r : Int} (k : Kd), ((0 ≤ r ∧ r < o) ∨ (o = 0 ∧ r = 0)) → 0 ≤ k.val o r := fun {o r} k h => by
    cases k <;> simp only [Kd.val] <;> omega
  rw [ksum_zs]
  refine Int.le_trans (zs_srt (fun x hx => ?_) (fun x hx => ?_) (by simp [hl])) ?_
  · obtain ⟨k, _, rfl⟩ := List.mem_map.mp hx
    exact vn k h1
  · obtain ⟨k, _, rfl⟩ := List.mem_map.mp hx
    exact vn k h2
  · obtain ⟨c, e⟩ := srt_port h1 n1 m1
    obtain ⟨d, f⟩ := srt_port h2 n2 m2
    rw [e, f]
    unfold portz
    rw [zs_zeros]
    exact Int.le_refl _

/-! ### the greatest sum of products -/
theorem tsum_zs : ∀ ts ws : List Int, tsum ts ws = zs ts ws
  | [], ws => (zs_nil_l ws).symm
  | _ :: _, [] => rfl
  | t :: ts, w :: ws => by
    show t * w + tsum ts ws = t * w + zs ts ws
    rw [tsum_zs ts ws]
theorem wsum_zs {o r : Int} : ∀ (ks : List Kd) (ws : List Int), wsum o r ks ws = zs (ks.map (Kd.val o r)) ws
  | [], ws => by rw [List.map_nil, zs_nil_l]; cases ws <;> rfl
  | _ :: _, [] => rfl
  | k :: ks, w :: ws => by
    show k.val o r * w + wsum o r ks ws = k.val o r * w + zs (ks.map (Kd.val o r)) ws
    rw [wsum_zs ks ws]
theorem zs_comm : ∀ xs ys : List Int, zs xs ys = zs ys xs
  | [], ys => by rw [zs_nil_l, zs_nil_r]
  | _ :: _, [] => rfl
  | x :: xs, y :: ys => by
    show x * y + zs xs ys = y * x + zs ys xs
    rw [zs_comm xs ys, Int.mul_comm]
/-- place by place -/
def pl : List Int → List Int → List Int
  | x :: xs, y :: ys => (x + y) :: pl xs ys
  | _, _ => []
theorem pl_len : ∀ {xs ys : List Int}, xs.length = ys.length → (pl xs ys).length = xs.length
  | [], _, _ => by simp [pl]
  | _ :: _, [], h => by simp at h
  | x :: xs, y :: ys, h => by
    show (pl xs ys).length + 1 = xs.length + 1
    rw [pl_len (by simpa using h)]
theorem zs_pl : ∀ {xs ys : List Int} (us : List Int), xs.length = ys.length → zs (pl xs ys) us = zs xs us + zs ys us
  | [], [], us, _ => by
    show zs [] us = zs [] us + zs [] us
    rw [zs_nil_l]; rfl
  | [], _ :: _, _, h => by simp at h
  | _ :: _, [], _, h => by simp at h
  | x :: xs, y :: ys, [], _ => rfl
  | x :: xs, y :: ys, u :: us, h => by
    show (x + y) * u + zs (pl xs ys) us = (x * u + zs xs us) + (y * u + zs ys us)
    rw [zs_pl us (by simpa using h), Int.add_mul]
    omega
theorem pl_app : ∀ {as bs xs ys : List Int}, as.length = xs.length → pl (as ++ bs) (xs ++ ys) = pl as xs ++ pl bs ys
  | [], _, [], _, _ => rfl
  | [], _, _ :: _, _, h => by simp at h
  | _ :: _, _, [], _, h => by simp at h
  | a :: as, bs, x :: xs, ys, h => by
    show (a + x) :: pl (as ++ bs) (xs ++ ys) = (a + x) :: (pl as xs ++ pl bs ys)
    rw [pl_app (by simpa using h)]
theorem zs_app : ∀ {as bs xs ys : List Int}, as.length = xs.length → zs (as ++ bs) (xs ++ ys) = zs as xs + zs bs ys
  | [], bs, [], ys, _ => by
    show zs bs ys = 0 + zs bs ys
    omega
  | [], _, _ :: _, _, h => by simp at h
  | _ :: _, _, [], _, h => by simp at h
  | a :: as, bs, x :: xs, ys, h => by
    show a * x + zs (as ++ bs) (xs ++ ys) = a * x + zs as xs + zs bs ys
    rw [zs_app (by simpa using h)]
    omega
theorem pl_zero : ∀ {O : List α} {ys : List Int} {f : α → Int}, (∀ n ∈ O, f n = 0) → O.length = ys.length → pl (O.map f) ys = ys
  | [], [], _, _, _ => rfl
  | [], _ :: _, _, _, h => by simp at h
  | _ :: _, [], _, _, h => by simp at h
  | n :: O, y :: ys, f, h0, h => by
    show (f n + y) :: pl (O.map f) ys = y :: ys
    rw [h0 n List.mem_cons_self, pl_zero (fun m hm => h0 m (List.mem_cons_of_mem _ hm)) (by simpa using h), Int.zero_add]
theorem pl_map (f g : α → Int) : ∀ N : List α, pl (N.map f) (N.map g) = N.map fun n => f n + g n
  | [] => rfl
  | n :: N => by
    show (f n + g n) :: pl (N.map f) (N.map g) = _
    rw [pl_map f g N]
    rfl
theorem zs_map (f g : α → Int) : ∀ N : List α, zs (N.map f) (N.map g) = (N.map fun n => f n * g n).sum
  | [] => rfl
  | n :: N => by
    show f n * g n + zs (N.map f) (N.map g) = _
    rw [zs_map f g N, List.map_cons, List.sum_cons]

/-- what a way through kept names gives: cs, ds the counts there -/
def psum (o1 r1 o2 r2 : Int) (cs ds : List Int) (ks ls : List Kd) : Int := zs (pl cs (ks.map (Kd.val o1 r1))) (pl ds (ls.map (Kd.val o2 r2)))
/-- how many rests -/
def rN (r : Int) : Nat := if 0 < r then 1 else 0
/-- off, full portions, the rest of a sketch that lost so much -/
structure Por (off full rest lost : Int) : Prop where
  f0 : 0 ≤ full
  r0 : 0 ≤ rest
  ro : rest < off ∨ (off = 0 ∧ full = 0 ∧ rest = 0)
  eq : lost = off * full + rest
theorem Por.r {off full rest lost : Int} (h : Por off full rest lost) : (0 ≤ rest ∧ rest < off) ∨ (off = 0 ∧ rest = 0) := by
  have := h.r0
  rcases h.ro with q | ⟨q1, _, q2⟩
  · exact .inl ⟨this, q⟩
  · exact .inr ⟨q1, q2⟩
/-- a way: how many portions it uses -/
structure Way (full1 r1 full2 r2 : Int) (n : Nat) (ks ls : List Kd) : Prop where
  lk : ks.length = n
  ll : ls.length = n
  f1 : (nF ks : Int) ≤ full1
  n1 : nR ks ≤ rN r1
  f2 : (nF ls : Int) ≤ full2
  n2 : nR ls ≤ rN r2
/-- with what is left on fresh names -/
def whole (o1 full1 r1 o2 full2 r2 : Int) (cs ds : List Int) (ks ls : List Kd) : Int :=
  psum o1 r1 o2 r2 cs ds ks ls + zs (port o1 r1 (full1.toNat - nF ks) (rN r1 - nR ks)) (port o2 r2 (full2.toNat - nF ls) (rN r2 - nR ls))
theorem upper {k1 k2 T1 T2 : List (α × Int)} {o1 m1 full1 r1 o2 m2 full2 r2 : Int} {names : List α} (h1 : Tru k1 o1 m1 T1) (h2 : Tru k2 o2 m2 T2) (nk1 : (nms k1).Nodup) (nk2 : (nms k2).Nodup)
    (sub1 : ∀ n ∈ nms k1, n ∈ nms T1) (sub2 : ∀ n ∈ nms k2, n ∈ nms T2)
    (P1 : Por o1 full1 r1 (m1 - tot k1)) (P2 : Por o2 full2 r2 (m2 - tot k2)) (nd : names.Nodup) (hn : ∀ n, n ∈ names ↔ n ∈ nms k1 ∨ n ∈ nms k2) :
    ∃ ks ls, Way full1 r1 full2 r2 names.length ks ls ∧ jn T1 T2 ≤ whole o1 full1 r1 o2 full2 r2 (names.map (cnt k1)) (names.map (cnt k2)) ks ls := by
  let O := (dd (nms T1 ++ nms T2)).filter fun n => decide (n ∉ names)
  have hO : ∀ n, n ∈ O ↔ (n ∈ nms T1 ∨ n ∈ nms T2) ∧ n ∉ names := fun n => by
    show n ∈ List.filter _ _ ↔ _
    rw [List.mem_filter, mem_dd, List.mem_append, decide_eq_true_eq]
  have ndO : O.Nodup := List.Pairwise.filter _ nd_dd
  have ndN : (names ++ O).Nodup := List.nodup_append.mpr ⟨nd, ndO, fun a ha b hb e => by
    subst e
    exact ((hO a).mp hb).2 ha⟩
  have inN : ∀ n, n ∈ nms T1 ∨ n ∈ nms T2 → n ∈ names ++ O := fun n h => by
    by_cases q : n ∈ names
    · exact List.mem_append_left _ q
    · exact List.mem_append_right _ ((hO n).mpr ⟨h, q⟩)
  have kN1 : ∀ n ∈ nms k1, n ∈ names ++ O := fun n h => List.mem_append_left _ ((hn n).mpr (.inl h))
  have kN2 : ∀ n ∈ nms k2, n ∈ names ++ O := fun n h => List.mem_append_left _ ((hn n).mpr (.inr h))
  generalize hN : names ++ O = N at ndN inN kN1 kN2
  have s1 : (N.map fun n => cnt T1 n - cnt k1 n).sum = m1 - tot k1 := by
    rw [sum_sub, tot_over h1.nd ndN fun n h => inN n (.inl h), tot_over nk1 ndN kN1, h1.sum]
  have s2 : (N.map fun n => cnt T2 n - cnt k2 n).sum = m2 - tot k2 := by
    rw [sum_sub, tot_over h2.nd ndN fun n h => inN n (.inr h), tot_over nk2 ndN kN2, h2.sum]
  have b1 : ∀ t ∈ N.map (fun n => cnt T1 n - cnt k1 n), 0 ≤ t ∧ t ≤ o1 := fun t ht => by
    obtain ⟨n, _, rfl⟩ := List.mem_map.mp ht
    have := h1.lo n
    have := h1.hi n
    omega
  have b2 : ∀ t ∈ N.map (fun n => cnt T2 n - cnt k2 n), 0 ≤ t ∧ t ≤ o2 := fun t ht => by
    obtain ⟨n, _, rfl⟩ := List.mem_map.mp ht
    have := h2.lo n
    have := h2.hi n
    omega
  obtain ⟨KS, a1, a2, a3, a4⟩ := round_to (ws := N.map (cnt T2)) (by simp) b1 P1.f0 P1.r0 P1.ro (s1.trans P1.eq)
  rw [tsum_zs, wsum_zs] at a4
  rw [List.length_map] at a1
  have eW : (pl (N.map (cnt k1)) (KS.map (Kd.val o1 r1))).length = N.length := by
    rw [pl_len (by simp [a1])]; simp
  obtain ⟨LS, c1, c2, c3, c4⟩ := round_to (ws := pl (N.map (cnt k1)) (KS.map (Kd.val o1 r1))) (by simp [eW]) b2 P2.f0 P2.r0 P2.ro (s2.trans P2.eq)
  rw [tsum_zs, wsum_zs] at c4
  rw [List.length_map] at c1
  -- the sum over all names
  have e0 : jn T1 T2 = zs (N.map (cnt T1)) (N.map (cnt T2)) := by
    rw [zs_map, jn_over h1.nd ndN fun n h => inN n (.inl h)]
  have e1 : N.map (cnt T1) = pl (N.map (cnt k1)) (N.map fun n => cnt T1 n - cnt k1 n) := by
    rw [pl_map]
    exact List.map_congr_left fun n _ => by omega
  have e2 : N.map (cnt T2) = pl (N.map (cnt k2)) (N.map fun n => cnt T2 n - cnt k2 n) := by
    rw [pl_map]
    exact List.map_congr_left fun n _ => by omega
  have g1 : jn T1 T2 ≤ zs (pl (N.map (cnt k1)) (KS.map (Kd.val o1 r1))) (N.map (cnt T2)) := by
    rw [e0, e1, zs_pl _ (by simp), zs_pl _ (by simp [a1])]
    omega
  have g2 : zs (pl (N.map (cnt k1)) (KS.map (Kd.val o1 r1))) (N.map (cnt T2)) ≤ zs (pl (N.map (cnt k1)) (KS.map (Kd.val o1 r1))) (pl (N.map (cnt k2)) (LS.map (Kd.val o2 r2))) := by
    rw [e2, zs_comm, zs_pl _ (by simp), zs_comm _ (pl (N.map (cnt k2)) (LS.map (Kd.val o2 r2))), zs_pl _ (by simp [c1])]
    omega
  -- parted
  have lN : N.length = names.length + O.length := by rw [← hN, List.length_append]
  have pK : KS = KS.take names.length ++ KS.drop names.length := (List.take_append_drop _ _).symm
  have pL : LS = LS.take names.length ++ LS.drop names.length := (List.take_append_drop _ _).symm
  have l1 : (KS.take names.length).length = names.length := by rw [List.length_take]; omega
  have l2 : (LS.take names.length).length = names.length := by rw [List.length_take]; omega
  have l3 : (KS.drop names.length).length = O.length := by rw [List.length_drop]; omega
  have l4 : (LS.drop names.length).length = O.length := by rw [List.length_drop]; omega
  generalize KS.take names.length = K1 at pK l1
  generalize KS.drop names.length = K2 at pK l3
  generalize LS.take names.length = L1 at pL l2
  generalize LS.drop names.length = L2 at pL l4
  subst pK pL
  have f1 : nF (K1 ++ K2) = nF K1 + nF K2 := List.count_append
  have f2 : nF (L1 ++ L2) = nF L1 + nF L2 := List.count_append
  have f3 : nR (K1 ++ K2) = nR K1 + nR K2 := List.count_append
  have f4 : nR (L1 ++ L2) = nR L1 + nR L2 := List.count_append
  have a3' : nR K1 + nR K2 = rN r1 := f3.symm.trans a3
  have c3' : nR L1 + nR L2 = rN r2 := f4.symm.trans c3
  rw [f1] at a2
  rw [f2] at c2
  have rle : ∀ r : Int, rN r ≤ 1 := fun r => by unfold rN; split <;> omega
  have rpo : ∀ r : Int, rN r = 1 → 0 < r := fun r h => by
    unfold rN at h
    split at h
    · assumption
    · cases h
  have z1 : ∀ n ∈ O, cnt k1 n = 0 := fun n h => cnt_no fun q => ((hO n).mp h).2 ((hn n).mpr (.inl q))
  have z2 : ∀ n ∈ O, cnt k2 n = 0 := fun n h => cnt_no fun q => ((hO n).mp h).2 ((hn n).mpr (.inr q))
  have fb := fresh_best P1.r P2.r (ks := K2) (ls := L2) (by omega) (by have := rle r1; omega) (fun h => rpo r1 (by have := rle r1; omega)) (by have := rle r2; omega) (fun h => rpo r2 (by have := rle r2; omega))
  rw [ksum_zs] at fb
  refine ⟨K1, L1, ⟨l1, l2, by omega, by omega, by omega, by omega⟩, Int.le_trans (Int.le_trans g1 g2) ?_⟩
  rw [← hN, List.map_append, List.map_append, List.map_append, List.map_append, pl_app (by simp [l1]), pl_app (by simp [l2]), pl_zero z1 (by simp [l3]), pl_zero z2 (by simp [l4]),
    zs_app (by rw [pl_len (by simp [l1]), pl_len (by simp [l2])]; simp)]
  have q1 : full1.toNat - nF K1 = nF K2 := by omega
  have q2 : full2.toNat - nF L1 = nF L2 := by omega
  have q3 : rN r1 - nR K1 = nR K2 := by omega
  have q4 : rN r2 - nR L1 = nR L2 := by omega
  unfold whole psum
  rw [q1, q2, q3, q4]
  omega
end
end KM
set_option autoImplicit false
set_option linter.all false
/-! Plain mathematics: the table of ways, name by name. -/
namespace KM
def fb : Kd → Int
  | .f => 1
  | _ => 0
def rb : Kd → Int
  | .r => 1
  | _ => 0
/-- the kinds of portions that may be used behind f full ones and r rests -/
def kds (G R f r : Int) : List Kd := (.z :: if f < G then [.f] else []) ++ if r = 0 ∧ 0 < R then [.r] else []
/-- an entry of the table -/
structure Cand where
  f1 : Int
  r1 : Int
  f2 : Int
  r2 : Int
  tot : Int
  ws : List (Int × Int)
def Cand.st (e : Cand) : Int × Int × Int × Int := (e.f1, e.r1, e.f2, e.r2)
/-- one table step, with a name's counts c and d -/
def step (o1 R1 o2 R2 c d : Int) (e : Cand) (k l : Kd) : Cand :=
  ⟨e.f1 + fb k, e.r1 + rb k, e.f2 + fb l, e.r2 + rb l, e.tot + (c + k.val o1 R1) * (d + l.val o2 R2), (k.val o1 R1, l.val o2 R2) :: e.ws⟩
def steps2 (o1 R1 o2 G2 R2 c d : Int) (e : Cand) (k : Kd) : List Cand := (kds G2 R2 e.f2 e.r2).map (step o1 R1 o2 R2 c d e k)
def steps1 (o1 G1 R1 o2 G2 R2 c d : Int) (e : Cand) : List Cand := (kds G1 R1 e.f1 e.r1).flatMap (steps2 o1 R1 o2 G2 R2 c d e)
def steps (o1 G1 R1 o2 G2 R2 c d : Int) (l : List Cand) : List Cand := l.flatMap (steps1 o1 G1 R1 o2 G2 R2 c d)
/-- the best of the candidates, one for each state -/
structure Fd (l cl : List Cand) : Prop where
  nd : (l.map Cand.st).Nodup
  sub : ∀ e ∈ l, e ∈ cl
  top : ∀ c ∈ cl, ∃ e ∈ l, e.st = c.st ∧ c.tot ≤ e.tot
theorem fd_nil : Fd [] [] := ⟨List.nodup_nil, fun _ h => h, fun _ h => nomatch h⟩
/-- a new state, or a better way to an old one -/
def put1 (l : List Cand) (c : Cand) : List Cand := if c.st ∈ l.map Cand.st then l.map (fun e => if e.st = c.st then c else e) else l ++ [c]
theorem put1_st (l : List Cand) (c : Cand) : (put1 l c).map Cand.st = if c.st ∈ l.map Cand.st then l.map Cand.st else l.map Cand.st ++ [c.st] := by
  unfold put1
  by_cases m : c.st ∈ l.map Cand.st
  · rw [if_pos m, if_pos m, List.map_map]
    refine List.map_congr_left fun e _ => ?_
    show (if e.st = c.st then c else e).st = e.st
    by_cases q : e.st = c.st
    · rw [if_pos q, q]
    · rw [if_neg q]
  · rw [if_neg m, if_neg m, List.map_append]; rfl
theorem fd_put {l cl : List Cand} {c : Cand} (F : Fd l cl) (h : ∀ e ∈ l, e.st = c.st → e.tot ≤ c.tot) : Fd (put1 l c) (cl ++ [c]) := by
  refine ⟨?_, fun e he => ?_, fun x hx => ?_⟩
  · rw [put1_st]
    by_cases m : c.st ∈ l.map Cand.st
    · rw [if_pos m]; exact F.nd
    · rw [if_neg m, List.nodup_append]
      exact ⟨F.nd, by simp, fun a ha b hb e => m (by rw [← List.mem_singleton.mp hb, ← e]; exact ha)⟩
  · unfold put1 at he
    by_cases m : c.st ∈ l.map Cand.st
    · rw [if_pos m] at he
      obtain ⟨u, hu, rfl⟩ := List.mem_map.mp he
      by_cases q : u.st = c.st
      · rw [if_pos q]; exact List.mem_append_right _ (List.mem_singleton.mpr rfl)
      · rw [if_neg q]; exact List.mem_append_left _ (F.sub u hu)
    · rw [if_neg m] at he
      rcases List.mem_append.mp he with h | h
      · exact List.mem_append_left _ (F.sub e h)
      · exact List.mem_append_right _ h
  · have hc : c ∈ put1 l c := by
      unfold put1
      by_cases m : c.st ∈ l.map Cand.st
      · rw [if_pos m]
        obtain ⟨u, hu, e⟩ := List.mem_map.mp m
        exact List.mem_map.mpr ⟨u, hu, if_pos e⟩
      · rw [if_neg m]; exact List.mem_append_right _ (List.mem_singleton.mpr rfl)
    rcases List.mem_append.mp hx with hx | hx
    · obtain ⟨e, he, e1, e2⟩ := F.top x hx
      by_cases q : e.st = c.st
      · exact ⟨c, hc, q.symm.trans e1, Int.le_trans e2 (h e he q)⟩
      · refine ⟨e, ?_, e1, e2⟩
        unfold put1
        by_cases m : c.st ∈ l.map Cand.st
        · rw [if_pos m]; exact List.mem_map.mpr ⟨e, he, if_neg q⟩
        · rw [if_neg m]; exact List.mem_append_left _ he
    · rw [List.mem_singleton.mp hx]; exact ⟨c, hc, rfl, Int.le_refl _⟩
theorem fd_skip {l cl : List Cand} {c e : Cand} (F : Fd l cl) (he : e ∈ l) (h1 : e.st = c.st) (h2 : c.tot ≤ e.tot) : Fd l (cl ++ [c]) :=
  ⟨F.nd, fun x hx => List.mem_append_left _ (F.sub x hx), fun x hx => (List.mem_append.mp hx).elim (F.top x) fun q => by rw [List.mem_singleton.mp q]; exact ⟨e, he, h1, h2⟩⟩
/-- within the box -/
def Box (G1 G2 : Int) (e : Cand) : Prop := (0 ≤ e.f1 ∧ e.f1 ≤ G1) ∧ (e.r1 = 0 ∨ e.r1 = 1) ∧ (0 ≤ e.f2 ∧ e.f2 ≤ G2) ∧ (e.r2 = 0 ∨ e.r2 = 1)
theorem kds_mem {G R f r : Int} {k : Kd} : k ∈ kds G R f r ↔ k = .z ∨ (k = .f ∧ f < G) ∨ (k = .r ∧ r = 0 ∧ 0 < R) := by
  unfold kds
  rw [List.mem_append, List.mem_cons]
  by_cases h1 : f < G <;> by_cases h2 : r = 0 ∧ 0 < R <;> simp [h1, h2, or_assoc]
theorem box_half {G R f r : Int} {k : Kd} (h0 : 0 ≤ f) (h1 : f ≤ G) (h2 : r = 0 ∨ r = 1) (hk : k ∈ kds G R f r) : 0 ≤ f + fb k ∧ f + fb k ≤ G ∧ (r + rb k = 0 ∨ r + rb k = 1) := by
  rcases kds_mem.mp hk with rfl | ⟨rfl, h⟩ | ⟨rfl, h, _⟩
  · simp only [fb, rb]; omega
  · simp only [fb, rb]; omega
  · simp only [fb, rb]; omega
theorem box_step {o1 G1 R1 o2 G2 R2 c d : Int} {e : Cand} {k l : Kd} (h : Box G1 G2 e) (hk : k ∈ kds G1 R1 e.f1 e.r1) (hl : l ∈ kds G2 R2 e.f2 e.r2) : Box G1 G2 (step o1 R1 o2 R2 c d e k l) := by
  obtain ⟨⟨a, b⟩, c1, ⟨a2, b2⟩, c2⟩ := h
  obtain ⟨x1, x2, x3⟩ := box_half a b c1 hk
  obtain ⟨y1, y2, y3⟩ := box_half a2 b2 c2 hl
  exact ⟨⟨x1, x2⟩, x3, ⟨y1, y2⟩, y3⟩
theorem steps_mem {o1 G1 R1 o2 G2 R2 c d : Int} {L : List Cand} {x : Cand} (h : x ∈ steps o1 G1 R1 o2 G2 R2 c d L) : ∃ e ∈ L, ∃ k ∈ kds G1 R1 e.f1 e.r1, ∃ l ∈ kds G2 R2 e.f2 e.r2, x = step o1 R1 o2 R2 c d e k l := by
  obtain ⟨e, he, hx⟩ := List.mem_flatMap.mp h
  obtain ⟨k, hk, hx⟩ := List.mem_flatMap.mp hx
  obtain ⟨l, hl, rfl⟩ := List.mem_map.mp hx
  exact ⟨e, he, k, hk, l, hl, rfl⟩
theorem mem_steps {o1 G1 R1 o2 G2 R2 c d : Int} {L : List Cand} {e : Cand} {k l : Kd} (he : e ∈ L) (hk : k ∈ kds G1 R1 e.f1 e.r1) (hl : l ∈ kds G2 R2 e.f2 e.r2) : step o1 R1 o2 R2 c d e k l ∈ steps o1 G1 R1 o2 G2 R2 c d L :=
  List.mem_flatMap.mpr ⟨e, he, List.mem_flatMap.mpr ⟨k, hk, List.mem_map.mpr ⟨l, hl, rfl⟩⟩⟩
/-- the table behind names with counts cs and ds -/
structure Tab (o1 G1 R1 o2 G2 R2 : Int) (cs ds : List Int) (L : List Cand) : Prop where
  nd : (L.map Cand.st).Nodup
  sound : ∀ e ∈ L, ∃ ks ls, Way G1 R1 G2 R2 cs.length ks ls ∧ e.f1 = nF ks ∧ e.r1 = nR ks ∧ e.f2 = nF ls ∧ e.r2 = nR ls ∧ e.tot = psum o1 R1 o2 R2 cs ds ks ls ∧ e.ws = ((ks.map (Kd.val o1 R1)).zip (ls.map (Kd.val o2 R2))).reverse
  all : ∀ ks ls, Way G1 R1 G2 R2 cs.length ks ls → ∃ e ∈ L, e.f1 = nF ks ∧ e.r1 = nR ks ∧ e.f2 = nF ls ∧ e.r2 = nR ls ∧ psum o1 R1 o2 R2 cs ds ks ls ≤ e.tot
theorem nF_snoc (ks : List Kd) (k : Kd) : (nF (ks ++ [k]) : Int) = nF ks + fb k := by
  unfold nF
  rw [List.count_append]
  cases k <;> simp [fb]
theorem nR_snoc (ks : List Kd) (k : Kd) : (nR (ks ++ [k]) : Int) = nR ks + rb k := by
  unfold nR
  rw [List.count_append]
  cases k <;> simp [rb]
theorem psum_snoc {o1 R1 o2 R2 c d : Int} {cs ds : List Int} {ks ls : List Kd} {k l : Kd} (h1 : cs.length = ks.length) (h2 : ds.length = ls.length) (h3 : cs.length = ds.length) :
    psum o1 R1 o2 R2 (cs ++ [c]) (ds ++ [d]) (ks ++ [k]) (ls ++ [l]) = psum o1 R1 o2 R2 cs ds ks ls + (c + k.val o1 R1) * (d + l.val o2 R2) := by
  unfold psum
  rw [List.map_append, List.map_append, pl_app (by rw [List.length_map]; exact h1), pl_app (by rw [List.length_map]; exact h2)]
  rw [zs_app (by rw [pl_len (by rw [List.length_map]; exact h1), pl_len (by rw [List.length_map]; exact h2)]; exact h3)]
  show _ + ((c + k.val o1 R1) * (d + l.val o2 R2) + 0) = _
  omega
theorem tab_nil {o1 G1 R1 o2 G2 R2 : Int} (g1 : 0 ≤ G1) (g2 : 0 ≤ G2) : Tab o1 G1 R1 o2 G2 R2 [] [] [⟨0, 0, 0, 0, 0, []⟩] := by
  refine ⟨by simp, fun e he => ?_, fun ks ls w => ?_⟩
  · rw [List.mem_singleton.mp he]
    exact ⟨[], [], ⟨rfl, rfl, by simpa [nF] using g1, Nat.zero_le _, by simpa [nF] using g2, Nat.zero_le _⟩, rfl, rfl, rfl, rfl, rfl, rfl⟩
  · have e1 : ks = [] := List.length_eq_zero_iff.mp w.lk
    have e2 : ls = [] := List.length_eq_zero_iff.mp w.ll
    subst e1 e2
    exact ⟨_, List.mem_singleton.mpr rfl, rfl, rfl, rfl, rfl, Int.le_refl _⟩
theorem way_half {G R : Int} {ks : List Kd} {k : Kd} (h1 : (nF (ks ++ [k]) : Int) ≤ G) (h2 : nR (ks ++ [k]) ≤ rN R) : (nF ks : Int) ≤ G ∧ nR ks ≤ rN R ∧ k ∈ kds G R (nF ks) (nR ks) := by
  have e1 := nF_snoc ks k
  have e2 := nR_snoc ks k
  rw [kds_mem]
  unfold rN at h2 ⊢
  cases k with
  | z => simp only [fb, rb] at e1 e2; exact ⟨by omega, by omega, .inl rfl⟩
  | f => simp only [fb, rb] at e1 e2; exact ⟨by omega, by omega, .inr (.inl ⟨rfl, by omega⟩)⟩
  | r =>
    simp only [fb, rb] at e1 e2
    by_cases h : 0 < R
    · rw [if_pos h] at h2 ⊢
      exact ⟨by omega, by omega, .inr (.inr ⟨rfl, by omega, h⟩)⟩
    · rw [if_neg h] at h2; omega
theorem half_way {G R : Int} {ks : List Kd} {k : Kd} (h1 : (nF ks : Int) ≤ G) (h2 : nR ks ≤ rN R) (hk : k ∈ kds G R (nF ks) (nR ks)) : (nF (ks ++ [k]) : Int) ≤ G ∧ nR (ks ++ [k]) ≤ rN R := by
  have e1 := nF_snoc ks k
  have e2 := nR_snoc ks k
  unfold rN at h2 ⊢
  rcases kds_mem.mp hk with rfl | ⟨rfl, h⟩ | ⟨rfl, h, h'⟩
  · simp only [fb, rb] at e1 e2; exact ⟨by omega, by omega⟩
  · simp only [fb, rb] at e1 e2; exact ⟨by omega, by omega⟩
  · simp only [fb, rb] at e1 e2
    rw [if_pos h'] at h2 ⊢
    exact ⟨by omega, by omega⟩
theorem tab_step {o1 G1 R1 o2 G2 R2 c d : Int} {cs ds : List Int} {L L' : List Cand} (T : Tab o1 G1 R1 o2 G2 R2 cs ds L) (hl : cs.length = ds.length) (F : Fd L' (steps o1 G1 R1 o2 G2 R2 c d L)) : Tab o1 G1 R1 o2 G2 R2 (cs ++ [c]) (ds ++ [d]) L' := by
  refine ⟨F.nd, fun e he => ?_, fun ks ls w => ?_⟩
  · obtain ⟨e0, he0, k, hk, l, hl', rfl⟩ := steps_mem (F.sub e he)
    obtain ⟨ks, ls, w, a1, a2, a3, a4, a5, a6⟩ := T.sound e0 he0
    rw [a1, a2] at hk
    rw [a3, a4] at hl'
    obtain ⟨b1, b2⟩ := half_way w.f1 w.n1 hk
    obtain ⟨b3, b4⟩ := half_way w.f2 w.n2 hl'
    refine ⟨ks ++ [k], ls ++ [l], ⟨by simp [w.lk], by simp [w.ll], b1, b2, b3, b4⟩, ?_, ?_, ?_, ?_, ?_, ?_⟩
    · rw [nF_snoc, ← a1]; rfl
    · rw [nR_snoc, ← a2]; rfl
    · rw [nF_snoc, ← a3]; rfl
    · rw [nR_snoc, ← a4]; rfl
    · rw [psum_snoc w.lk.symm (by rw [← hl]; exact w.ll.symm) hl, ← a5]; rfl
    · rw [List.map_append, List.map_append, List.zip_append (by rw [List.length_map, List.length_map, w.lk, w.ll]), List.reverse_append, ← a6]; rfl
  · have l1 : ks ≠ [] := fun e => by have := w.lk; rw [e] at this; simp at this
    have l2 : ls ≠ [] := fun e => by have := w.ll; rw [e] at this; simp at this
    obtain ⟨ks0, k, rfl⟩ : ∃ a b, ks = a ++ [b] := ⟨ks.dropLast, ks.getLast l1, (List.dropLast_concat_getLast l1).symm⟩
    obtain ⟨ls0, l, rfl⟩ : ∃ a b, ls = a ++ [b] := ⟨ls.dropLast, ls.getLast l2, (List.dropLast_concat_getLast l2).symm⟩
    have k1 : ks0.length = cs.length := by have := w.lk; simp at this; exact this
    have k2 : ls0.length = cs.length := by have := w.ll; simp at this; exact this
    obtain ⟨x1, x2, x3⟩ := way_half w.f1 w.n1
    obtain ⟨y1, y2, y3⟩ := way_half w.f2 w.n2
    obtain ⟨e, he, a1, a2, a3, a4, a5⟩ := T.all ks0 ls0 ⟨k1, k2, x1, x2, y1, y2⟩
    rw [← a1, ← a2] at x3
    rw [← a3, ← a4] at y3
    obtain ⟨u, hu, e1, e2⟩ := F.top _ (mem_steps (o1 := o1) (o2 := o2) (c := c) (d := d) he x3 y3)
    have e1' : u.f1 = e.f1 + fb k ∧ u.r1 = e.r1 + rb k ∧ u.f2 = e.f2 + fb l ∧ u.r2 = e.r2 + rb l := by
      have z := e1
      unfold Cand.st step at z
      simp only [Prod.mk.injEq] at z
      exact z
    obtain ⟨z1, z2, z3, z4⟩ := e1'
    refine ⟨u, hu, ?_, ?_, ?_, ?_, ?_⟩
    · rw [nF_snoc, ← a1, z1]
    · rw [nR_snoc, ← a2, z2]
    · rw [nF_snoc, ← a3, z3]
    · rw [nR_snoc, ← a4, z4]
    · rw [psum_snoc k1.symm (by rw [← hl]; exact k2.symm) hl]
      have : e.tot + (c + k.val o1 R1) * (d + l.val o2 R2) ≤ u.tot := e2
      omega
/-- what is left of the portions -/
def pleft (o G R f r : Int) : List Int := List.replicate (G - f).toNat o ++ if r = 0 ∧ 0 < R then [R] else []
theorem pleft_port {o G R : Int} {ks : List Kd} (h1 : (nF ks : Int) ≤ G) (h2 : nR ks ≤ rN R) : pleft o G R (nF ks) (nR ks) = port o R (G.toNat - nF ks) (rN R - nR ks) := by
  unfold pleft port rN at *
  have e1 : (G - (nF ks : Int)).toNat = G.toNat - nF ks := by omega
  rw [e1]
  congr 1
  by_cases h : 0 < R
  · rw [if_pos h] at h2 ⊢
    by_cases q : nR ks = 0
    · rw [if_pos ⟨by omega, h⟩, q]; rfl
    · have : nR ks = 1 := by omega
      rw [if_neg (fun z => q (by omega)), this]; rfl
  · rw [if_neg (fun z => h z.2), if_neg h]
    simp
/-- an entry's sum, with what is left on new names -/
def wholeOf (o1 G1 R1 o2 G2 R2 : Int) (e : Cand) : Int := e.tot + zs (pleft o1 G1 R1 e.f1 e.r1) (pleft o2 G2 R2 e.f2 e.r2)
/-- the best entry is the best way -/
theorem tab_best {o1 G1 R1 o2 G2 R2 : Int} {cs ds : List Int} {L : List Cand} (T : Tab o1 G1 R1 o2 G2 R2 cs ds L) {e : Cand} (he : e ∈ L) (hm : ∀ x ∈ L, wholeOf o1 G1 R1 o2 G2 R2 x ≤ wholeOf o1 G1 R1 o2 G2 R2 e) :
    ∀ ks ls, Way G1 R1 G2 R2 cs.length ks ls → whole o1 G1 R1 o2 G2 R2 cs ds ks ls ≤ wholeOf o1 G1 R1 o2 G2 R2 e := fun ks ls w => by
  obtain ⟨x, hx, a1, a2, a3, a4, a5⟩ := T.all ks ls w
  refine Int.le_trans ?_ (hm x hx)
  unfold whole wholeOf
  rw [a1, a2, a3, a4, pleft_port w.f1 w.n1, pleft_port w.f2 w.n2]
  omega
end KM
set_option Elab.async false
set_option linter.all false
set_option maxRecDepth 100000
/-! The text by places, and what the walk asks of the top. -/
namespace Kn
open PySem PySem.Spec PyProof.Rows L2
def topS (i : Nat) : Stmt := PySem.Challenge.pw_knownends_k41_whole_joins_of_great_sketc.main.body.getD i (.Pass ⟨0, 0, 0, 0⟩)
/-- a def's object, and how its arguments bind -/
structure FunP (K : PySem.W.Frag) (x qual : Str) (st : Stmt) (ps : List Str) (f : Addr) (fd : FuncData) : Prop where
  fn : C8.Fun K x qual st f fd
  b : Binds K fd ps []
/-- a def of the module -/
def DefP (K : PySem.W.Frag) (mg : Str → Option Value) (x : Str) (st : Stmt) (ps : List Str) : Prop := ∃ f fd, C8.Def K mg x st f fd ∧ Binds K fd ps []
theorem funP_mk {K : PySem.W.Frag} {x qual : Str} {st : Stmt} {ps : List Str} {f : Addr} {oc : Value} {od an : Option Addr} {osl : Array (Option Value)} {kV dc pm cd ct : Value}
    (l : K.lookup f = some ⟨oc, od, .func (PySem.W.fnOf x qual (C8.fnArgs st) (C8.fnBody st) (C8.fnScope st) .none kV dc pm an cd ct), osl⟩) (c : PySem.W.codeIn K cd qual = true)
    (h : ∀ (kV doc pm : Value) (an : Option Addr) (cdv ct : Value) (us : List Value), us.length = ps.length → bindArgs (PySem.W.fnOf x qual (C8.fnArgs st) (C8.fnBody st) (C8.fnScope st) .none kV doc pm an cdv ct) ⟨us, []⟩ = pure (ps.zip us)) :
    FunP K x qual st ps f (PySem.W.fnOf x qual (C8.fnArgs st) (C8.fnBody st) (C8.fnScope st) .none kV dc pm an cd ct) :=
  have F : C8.Fun K x qual st f (PySem.W.fnOf x qual (C8.fnArgs st) (C8.fnBody st) (C8.fnScope st) .none kV dc pm an cd ct) := ⟨⟨oc, od, .none, kV, dc, pm, an, cd, ct, osl, rfl, l, c⟩⟩
  ⟨F, F.binds rfl h⟩
theorem defP_mk {K : PySem.W.Frag} {mg : Str → Option Value} {x : Str} {st : Stmt} {ps : List Str} {f : Addr} {oc : Value} {od an : Option Addr} {osl : Array (Option Value)} {kV dc pm cd ct : Value} (m : mg x = some (.ref f))
    (l : K.lookup f = some ⟨oc, od, .func (PySem.W.fnOf x x (C8.fnArgs st) (C8.fnBody st) (C8.fnScope st) .none kV dc pm an cd ct), osl⟩) (c : PySem.W.codeIn K cd x = true) (k : PySem.W.keepIn K (.ref f) = true)
    (h : ∀ (kV doc pm : Value) (an : Option Addr) (cdv ct : Value) (us : List Value), us.length = ps.length → bindArgs (PySem.W.fnOf x x (C8.fnArgs st) (C8.fnBody st) (C8.fnScope st) .none kV doc pm an cdv ct) ⟨us, []⟩ = pure (ps.zip us)) :
    DefP K mg x st ps :=
  have F := funP_mk l c h
  ⟨f, _, ⟨F.fn, m, k⟩, F.b⟩
/-- what the top has written, as the walk asks it; CP, CF: the two classes -/
structure Txt (K : PySem.W.Frag) (mg : Str → Option Value) (CP CF : Addr) : Prop where
  d_is_integer : DefP K mg "is_integer" (topS 7) ["thing"]
  d_is_between : DefP K mg "is_between" (topS 8) ["thing", "least", "most"]
  d_is_count : DefP K mg "is_count" (topS 9) ["thing"]
  d_is_tuple_of : DefP K mg "is_tuple_of" (topS 10) ["thing", "many"]
  d_are_ascending : DefP K mg "are_ascending" (topS 11) ["things"]
  d_is_name : DefP K mg "is_name" (topS 15) ["thing"]
  d_are_counts : DefP K mg "are_counts" (topS 16) ["thing"]
  d_lost_of : DefP K mg "lost_of" (topS 23) ["sketch"]
  d_is_sketch : DefP K mg "is_sketch" (topS 24) ["thing"]
  d_check_sketch : DefP K mg "check_sketch" (topS 25) ["thing"]
  d_check_told : DefP K mg "check_told" (topS 29) ["sketch"]
  d_numbered_name : DefP K mg "numbered_name" (topS 30) ["number"]
  d_new_names : DefP K mg "new_names" (topS 31) ["barred", "many"]
  d_truth_with : DefP K mg "truth_with" (topS 32) ["sketch", "taken", "size", "barred"]
  d_raw_joined : DefP K mg "raw_joined" (topS 38) ["counts", "others"]
  d_check_both : DefP K mg "check_both" (topS 41) ["one", "other"]
  d_plain_sum : DefP K mg "plain_sum" (topS 42) ["one", "other"]
  d_join : DefP K mg "join" (topS 43) ["one", "other"]
  d_check_both_told : DefP K mg "check_both_told" (topS 44) ["one", "other"]
  d_apart_truths : DefP K mg "apart_truths" (topS 45) ["one", "other"]
  d_join_truths : DefP K mg "join_truths" (topS 46) ["one", "other"]
  d_are_near : DefP K mg "are_near" (topS 47) ["one", "other"]
  d_bounds : DefP K mg "bounds" (topS 48) ["one", "other"]
  d_same : DefP K mg "same" (topS 49) ["one", "other"]
  d_law_hand : DefP K mg "_law_hand" (topS 51) ["_law_script"]
  d_law_draw : DefP K mg "_law_draw" (topS 52) ["_law_hand_here", "_law_many"]
  d_law_any : DefP K mg "_law_any" (topS 53) ["_law_hand_here", "_law_things"]
  d_law_pool : DefP K mg "_law_pool" (topS 54) ["_law_hand_here", "_law_many"]
  d_law_fed : DefP K mg "_law_fed" (topS 55) ["_law_sketch_here", "_law_name"]
  d_law_poured : DefP K mg "_law_poured" (topS 56) ["_law_one", "_law_other"]
  d_law_sketch : DefP K mg "_law_sketch" (topS 57) ["_law_room", "_law_tree_here"]
  d_law_counted : DefP K mg "_law_counted" (topS 58) ["_law_tree_here"]
  d_law_tree : DefP K mg "_law_tree" (topS 59) ["_law_hand_here", "_law_pool_here", "_law_streams", "_law_most"]
  d_law_lost : DefP K mg "_law_lost" (topS 60) ["_law_sketch_here"]
  d_law_truth : DefP K mg "_law_truth" (topS 61) ["_law_hand_here", "_law_sketch_here", "_law_fresh"]
  d_law_is_int : DefP K mg "_law_is_int" (topS 62) ["_law_thing"]
  d_law_is_name : DefP K mg "_law_is_name" (topS 63) ["_law_thing"]
  d_law_are_counts : DefP K mg "_law_are_counts" (topS 64) ["_law_thing"]
  d_law_is_truth : DefP K mg "_law_is_truth" (topS 65) ["_law_sketch_here", "_law_thing"]
  d_law_joined : DefP K mg "_law_joined" (topS 66) ["_law_counts", "_law_others"]
  k_MOST_IN_NAME : ∃ u, mg "MOST_IN_NAME" = some u ∧ RelV (.int 8) u
  k_LETTERS : ∃ u, mg "LETTERS" = some u ∧ RelV (.str "abcdefghijklmnopqrstuvwxyz") u
  k_MOST_ROOM : ∃ u, mg "MOST_ROOM" = some u ∧ RelV (.int 64) u
  k_ROOM : ∃ u, mg "ROOM" = some u ∧ RelV (.int 0) u
  k_MANY : ∃ u, mg "MANY" = some u ∧ RelV (.int 1) u
  k_OFF : ∃ u, mg "OFF" = some u ∧ RelV (.int 2) u
  k_KEPT : ∃ u, mg "KEPT" = some u ∧ RelV (.int 3) u
  k_MOST_TOLD : ∃ u, mg "MOST_TOLD" = some u ∧ RelV (.int 1500) u
  k_SIGNS : ∃ u, mg "SIGNS" = some u ∧ RelV (.str "abcdefghijklmnopqrstuvwxyz") u
  k_MOST_JOINED : ∃ u, mg "MOST_JOINED" = some u ∧ RelV (.int 16) u
  k_SURELY : ∃ u, mg "SURELY" = some u ∧ RelV (.str "surely") u
  k_PERHAPS : ∃ u, mg "PERHAPS" = some u ∧ RelV (.str "perhaps") u
  k_NEVER : ∃ u, mg "NEVER" = some u ∧ RelV (.str "never") u
  z_isinstance : mg "isinstance" = none
  z_int : mg "int" = none
  z_bool : mg "bool" = none
  z_str : mg "str" = none
  z_tuple : mg "tuple" = none
  z_len : mg "len" = none
  z_all : mg "all" = none
  z_range : mg "range" = none
  z_sum : mg "sum" = none
  z_dict : mg "dict" = none
  z_min : mg "min" = none
  z_max : mg "max" = none
  z_sorted : mg "sorted" = none
  z_list : mg "list" = none
  z_zip : mg "zip" = none
  z_abs : mg "abs" = none
  z_set : mg "set" = none
  g_Portions : mg "Portions" = some (.ref CP)
  cl_Portions : Cls K CP
  mk_Portions : ∃ f fd, Mk K CP f ∧ FunP K "__init__" "Portions.__init__" (inClass (topS 39) 0) ["self", "sketch"] f fd
  m_Portions_choices : ∃ f fd, Meth K CP "choices" f ∧ FunP K "choices" "Portions.choices" (inClass (topS 39) 1) ["self", "full", "rest"] f fd
  m_Portions_left : ∃ f fd, Meth K CP "left" f ∧ FunP K "left" "Portions.left" (inClass (topS 39) 2) ["self", "full", "rest"] f fd
  n_Portions_off : NoAttr K CP "off"
  n_Portions_full : NoAttr K CP "full"
  n_Portions_rest : NoAttr K CP "rest"
  g_Filling : mg "Filling" = some (.ref CF)
  cl_Filling : Cls K CF
  mk_Filling : ∃ f fd, Mk K CF f ∧ FunP K "__init__" "Filling.__init__" (inClass (topS 40) 0) ["self", "one", "other"] f fd
  m_Filling_go_on : ∃ f fd, Meth K CF "go_on" f ∧ FunP K "go_on" "Filling.go_on" (inClass (topS 40) 1) ["self", "count", "other"] f fd
  m_Filling_ended : ∃ f fd, Meth K CF "ended" f ∧ FunP K "ended" "Filling.ended" (inClass (topS 40) 2) ["self"] f fd
  m_Filling_takes : ∃ f fd, Meth K CF "takes" f ∧ FunP K "takes" "Filling.takes" (inClass (topS 40) 3) ["self"] f fd
  n_Filling_first : NoAttr K CF "first"
  n_Filling_second : NoAttr K CF "second"
  n_Filling_names : NoAttr K CF "names"
  n_Filling_best : NoAttr K CF "best"
  n_Filling_done : NoAttr K CF "done"

section
variable {P : Program} {w : World} {K : PySem.W.Frag} {mg : Str → Option Value} {base : Heap}
/-- a promise, by the body -/
theorem mkc {x : Str} {st : Stmt} {N ps : List Str} {k : Nat} {sp : Sp} (D : DefP K mg x st ps) (S : C8.scC N ps (C8.fnScope st) = true) (len : ∀ vs H Q E, sp vs H Q E → vs.length = ps.length)
    (hbody : ∀ (f : Addr) (cdv : Value) (A : Around) (outer : List Env) (s : Shared) (H : Hp) (vs : List V) (Q : VK) (E : XK), Room k (A.deeper (envOfC x (C8.fnScope st) s.heap.objs.size f cdv)) → sp vs H Q E →
      ∃ t, PSs (cxOf C8.CX0 P w K mg base N x (C8.fnScope st) f cdv A outer s H E).nox (C8.fnBody st) t ∧ t { nx := fun _ H' => Q .non H', rt := Q } (start N vs) H) : C8.Cal P w K mg base (k + 1) x sp [] := by
  obtain ⟨f, fd, d, b⟩ := D
  exact C8.cal0 d b .nil (C8.fnScope_by S) len (hbody f)
theorem mkm {C : Addr} {m qual : Str} {st : Stmt} {N ps : List Str} {k : Nat} {sp : Sp} (c : Cls K C) (D : ∃ f fd, Meth K C m f ∧ FunP K m qual st ps f fd) (S : C8.scC N ps (C8.fnScope st) = true) (len : ∀ vs H Q E, sp vs H Q E → vs.length = ps.length)
    (hbody : ∀ (f : Addr) (cdv : Value) (A : Around) (outer : List Env) (s : Shared) (H : Hp) (vs : List V) (Q : VK) (E : XK), Room k (A.deeper (envOfC qual (C8.fnScope st) s.heap.objs.size f cdv)) → sp vs H Q E →
      ∃ t, PSs (cxOf C8.CX0 P w K mg base N qual (C8.fnScope st) f cdv A outer s H E).nox (C8.fnBody st) t ∧ t { nx := fun _ H' => Q .non H', rt := Q } (start N vs) H) : C8.Met P w K mg base (k + 1) C m sp [] := by
  obtain ⟨f, fd, me, F⟩ := D
  exact C8.met0 c me F.fn F.b (C8.fnScope_by S) len (hbody f)
theorem mki {C : Addr} {x qual : Str} {st : Stmt} {N ps : List Str} {k : Nat} {sp : Sp} (g : mg x = some (.ref C)) (D : ∃ f fd, Mk K C f ∧ FunP K "__init__" qual st ps f fd) (S : C8.scC N ps (C8.fnScope st) = true) (len : ∀ vs H Q E, sp vs H Q E → vs.length = ps.length)
    (hbody : ∀ (f : Addr) (cdv : Value) (A : Around) (outer : List Env) (s : Shared) (H : Hp) (vs : List V) (Q : VK) (E : XK), Room k (A.deeper (envOfC qual (C8.fnScope st) s.heap.objs.size f cdv)) → sp vs H Q E →
      ∃ t, PSs (cxOf C8.CX0 P w K mg base N qual (C8.fnScope st) f cdv A outer s H E).nox (C8.fnBody st) t ∧ t { nx := fun _ H' => Q .non H', rt := Q } (start N vs) H) : C8.Mak P w K mg base (k + 1) x C sp [] := by
  obtain ⟨f, fd, M, F⟩ := D
  exact C8.mak0 M g F.fn F.b .nil (C8.fnScope_by S) len (hbody f)
end
end Kn
set_option Elab.async false
set_option linter.all false
set_option maxRecDepth 100000
set_option maxHeartbeats 4000000
/-! What stands in the heap, in words; comprehensions by relation. -/
namespace Kn
open PySem PySem.Spec PyProof.Rows L2 KM

/-! ### heaps -/
/-- a tuple, or one that is known to the object -/
def isT : HO → Bool
  | .tup _ => true
  | .frz _ (.tup _) => true
  | _ => false
/-- all tuples stay -/
def ExT (H H' : Hp) : Prop := ∀ a o, isT o = true → H a = some o → H' a = some o
/-- a tuple whose object has no dict: dict() of it may be asked -/
def FT (H : Hp) (a : Addr) (xs : List V) : Prop := ∃ o : Obj, o.dict = none ∧ H a = some (.frz o (.tup xs))
theorem FT.sq {K : PySem.W.Frag} {H : Hp} {a : Addr} {xs : List V} (h : FT H a xs) : SqT K H a xs := let ⟨o, _, e⟩ := h; .inl (.inr ⟨o, e⟩)
theorem FT.st {H H' : Hp} {a : Addr} {xs : List V} (h : FT H a xs) (e : Same H H') : FT H' a xs := let ⟨o, n, q⟩ := h; ⟨o, n, e _ _ q⟩
theorem FT.mono {H H' : Hp} {a : Addr} {xs : List V} (e : ExT H H') (h : FT H a xs) : FT H' a xs := let ⟨o, n, q⟩ := h; ⟨o, n, e _ _ rfl q⟩
/-- all stays but what stands at a -/
def ExB (a : Addr) (H H' : Hp) : Prop := ∀ b o, b ≠ a → H b = some o → H' b = some o
theorem ExT.refl (H : Hp) : ExT H H := fun _ _ _ h => h
theorem ExT.trans {H H1 H2 : Hp} (a : ExT H H1) (b : ExT H1 H2) : ExT H H2 := fun x o i h => b x o i (a x o i h)
theorem tx {H H' : Hp} (e : Same H H') : ExT H H' := fun a o _ h => e a o h
theorem tx_mut {H : Hp} {a : Addr} {o u : HO} (h : H a = some o) (n : isT o = false) : ExT H (upd H a u) := fun b x i e => by
  have q : b ≠ a := ne_of e h fun z => by rw [z, n] at i; cases i
  rw [upd_ne q]; exact e
theorem sn {H : Hp} {p : Addr} {o : HO} (h : H p = none) : Same H (upd H p o) := fun b x e => by
  rw [upd_ne (ne_of_none e h)]; exact e
theorem sm {H H' : Hp} {p : Addr} {o : HO} (e : Same H H') (h : H p = none) : Same H (upd H' p o) := fun b x q => by
  rw [upd_ne (ne_of_none q h)]; exact e b x q
theorem ExB.refl (a : Addr) (H : Hp) : ExB a H H := fun _ _ _ h => h
theorem ExB.trans {a : Addr} {H H1 H2 : Hp} (x : ExB a H H1) (y : ExB a H1 H2) : ExB a H H2 := fun b o n h => y b o n (x b o n h)
theorem ExB.of {a : Addr} {H H' : Hp} (e : Same H H') : ExB a H H' := fun b o _ h => e b o h
theorem ExB.mut {a : Addr} {H H' : Hp} {o : HO} (e : ExB a H H') : ExB a H (upd H' a o) := fun b u n h => by
  rw [upd_ne n]; exact e b u n h
theorem ExB.new {a p : Addr} {H H' : Hp} {o : HO} (e : ExB a H H') (h : H p = none) : ExB a H (upd H' p o) := fun b u n q => by
  rw [upd_ne (ne_of_none q h)]; exact e b u n q
theorem ExB.tx {a : Addr} {H H' : Hp} {u : HO} (e : ExB a H H') (h : H a = some u) (n : isT u = false) : ExT H H' := fun b o i q =>
  e b _ (ne_of q h fun z => by rw [z, n] at i; cases i) q
/-- nothing that stood is gone -/
theorem sfree {H H' : Hp} {p : Addr} (e : Same H H') (h : H' p = none) : H p = none := e.free h

/-! ### lists that go together -/
section
variable {α β γ : Type} {F : α → β → Prop}
theorem pget : ∀ {l : List α} {m : List β}, Paired F l m → ∀ {i : Nat} {b : β}, m[i]? = some b → ∃ a, l[i]? = some a ∧ F a b
  | _, _, .nil, i, b, h => by simp at h
  | _, _, .cons h t, 0, b, e => by
    have q := Option.some.inj e
    subst q
    exact ⟨_, rfl, h⟩
  | _, _, .cons h t, i + 1, b, e => pget t (i := i) (by simpa using e)
theorem pgetL : ∀ {l : List α} {m : List β}, Paired F l m → ∀ {i : Nat} {a : α}, l[i]? = some a → ∃ b, m[i]? = some b ∧ F a b
  | _, _, .nil, i, b, h => by simp at h
  | _, _, .cons h t, 0, b, e => by
    have q := Option.some.inj e
    subst q
    exact ⟨_, rfl, h⟩
  | _, _, .cons h t, i + 1, b, e => pgetL t (i := i) (by simpa using e)
theorem papp : ∀ {l l' : List α} {m m' : List β}, Paired F l m → Paired F l' m' → Paired F (l ++ l') (m ++ m')
  | _, _, _, _, .nil, q => q
  | _, _, _, _, .cons h t, q => .cons h (papp t q)
theorem pmap {f : γ → α} {g : γ → β} : ∀ {l : List γ}, (∀ c ∈ l, F (f c) (g c)) → Paired F (l.map f) (l.map g)
  | [], _ => .nil
  | c :: r, h => .cons (h c List.mem_cons_self) (pmap fun d hd => h d (List.mem_cons_of_mem _ hd))
theorem peq : ∀ {l : List α} {m : List β} {f : β → α}, Paired (fun a b => a = f b) l m → l = m.map f
  | _, _, _, .nil => rfl
  | _, _, f, .cons h t => by rw [h, peq t]; rfl
end

/-! ### calls of built-ins: their names -/
theorem bo_isinstance : bootBuiltins "isinstance" = some (.builtin "isinstance") := by decide +kernel
theorem bo_int : bootBuiltins "int" = some (.type "int") := by decide +kernel
theorem bo_bool : bootBuiltins "bool" = some (.type "bool") := by decide +kernel
theorem bo_str : bootBuiltins "str" = some (.type "str") := by decide +kernel
theorem bo_tuple : bootBuiltins "tuple" = some (.type "tuple") := by decide +kernel
theorem bo_len : bootBuiltins "len" = some (.builtin "len") := by decide +kernel
theorem bo_all : bootBuiltins "all" = some (.builtin "all") := by decide +kernel
theorem bo_sum : bootBuiltins "sum" = some (.builtin "sum") := by decide +kernel
theorem bo_dict : bootBuiltins "dict" = some (.type "dict") := by decide +kernel
theorem bo_min : bootBuiltins "min" = some (.builtin "min") := by decide +kernel
theorem bo_max : bootBuiltins "max" = some (.builtin "max") := by decide +kernel
theorem bo_sorted : bootBuiltins "sorted" = some (.builtin "sorted") := by decide +kernel
theorem bo_list : bootBuiltins "list" = some (.type "list") := by decide +kernel
theorem bo_zip : bootBuiltins "zip" = some (.type "zip") := by decide +kernel
theorem bo_abs : bootBuiltins "abs" = some (.builtin "abs") := by decide +kernel
theorem bo_set : bootBuiltins "set" = some (.type "set") := by decide +kernel
theorem sz {n : Nat} (h : n ≤ 100000) : n ≤ sizeLine := Nat.le_trans h (by decide)
theorem szl {n : Nat} (h : n ≤ 100000) : n < sizeLine := Nat.lt_of_le_of_lt h (by decide)

/-! ### a comprehension, by relation: S holds of the heap at each turn, T of what is made (it leans on tuples alone) -/
section
variable {J : It} {n : Nat} {G : Hp → Prop} {Y : Nat → Hp → V → Hp → Prop} {β γ : Type} {gt : TG} {tt : TT} {te : TE} {vs : List Nat} {σ : L2.St} {H1 : Hp} {D : Addr} {Qd : Hp → Prop}
theorem lc_gen (w : Walk J n G Y) (S : Hp → Prop) {bs : List β} (hn : bs.length = n) (hz : n ≤ 100000) (p : β → Bool) (g : β → γ) (T : Hp → V → γ → Prop) (mT : ∀ {H H' v c}, ExT H H' → T H v c → T H' v c)
    (s0 : S (upd H1 D (.lst []))) (sD : ∀ H xs ys, S H → H D = some (.lst xs) → S (upd H D (.lst ys))) (hG : ∀ H, S H → G H)
    (turn : ∀ (i : Nat) (b : β) x H H' acc, bs[i]? = some b → S H → H D = some (.lst acc) → Y i H x H' → ∀ (Ny : V → Hp → Prop) (Nn : Hp → Prop),
      (∀ y H2, S H2 → ExT H H2 → H2 D = some (.lst acc) → T H2 y (g b) → p b = true → Ny y H2) → (∀ H2, S H2 → ExT H H2 → H2 D = some (.lst acc) → p b = false → Nn H2) →
      gt x (wipe σ vs) H' fun σ2 H2 => wipe σ2 vs = wipe σ vs ∧ tt σ2 H2 fun c H3 => if c = true then te σ2 H3 Ny else Nn H3)
    (hd : ∀ H ys, S H → H D = some (.lst ys) → Paired (T H) ys ((bs.filter p).map g) → Qd H) :
    ∃ W : Nat → Nat → Hp → Prop, (∃ m, W 0 m (upd H1 D (.lst []))) ∧ ∀ i m H, W i m H →
      (J.stop i H ∧ Qd H) ∨ (J.go i H ∧ ∃ Nx : Hp → Prop, (∀ H', Nx H' → ∃ m', m' < m ∧ W (i + 1) m' H') ∧ ∀ x H', J.yld i H x H' → gt x (wipe σ vs) H' fun σ2 H2 => wipe σ2 vs = wipe σ vs ∧ tt σ2 H2 fun b H3 =>
        if b = true then te σ2 H3 fun y H4 => ∃ acc, H4 D = some (.lst acc) ∧ acc.length < sizeLine ∧ Nx (upd H4 D (.lst (acc ++ [y]))) else Nx H3) := by
  refine lc_it w (fun i H => S H ∧ ∃ ys, H D = some (.lst ys) ∧ Paired (T H) ys (((bs.take i).filter p).map g)) ⟨s0, [], upd_same, ?_⟩ (fun i H _ q => hG H q.1) ?_ ?_
  · rw [List.take_zero]; exact .nil
  · rintro i x H H' hi ⟨s, ys, hy, pr⟩ y
    have hi' : i < bs.length := by omega
    have e : bs[i]? = some bs[i] := List.getElem?_eq_getElem hi'
    have lys : ys.length < sizeLine := by
      refine szl ?_
      rw [pr.length, List.length_map]
      refine Nat.le_trans (List.length_filter_le _ _) ?_
      rw [List.length_take]; omega
    refine turn i bs[i] x H H' ys e s hy y _ _ (fun v H2 s2 x2 d2 t2 pb => ⟨ys, d2, lys, sD _ _ _ s2 d2, _, upd_same, ?_⟩) (fun H2 s2 x2 d2 pb => ⟨s2, ys, d2, ?_⟩)
    · have ex : ExT H2 (upd H2 D (.lst (ys ++ [v]))) := tx_mut d2 rfl
      rw [List.take_add_one, e, List.filter_append, List.map_append]
      have e2 : ((some bs[i]).toList.filter p).map g = [g bs[i]] := by simp [pb]
      rw [e2]
      exact (pr.mono fun a b q => mT (x2.trans ex) q).snoc (mT ex t2)
    · rw [List.take_add_one, e, List.filter_append, List.map_append]
      have e2 : ((some bs[i]).toList.filter p).map g = [] := by simp [pb]
      rw [e2, List.append_nil]
      exact pr.mono fun a b q => mT x2 q
  · rintro H ⟨s, ys, hy, pr⟩
    rw [← hn, List.take_length] at pr
    exact hd H ys s hy pr
/-- .. where nothing that stood changes -/
theorem lc_pure (w : Walk J n G Y) {bs : List β} (hn : bs.length = n) (hz : n ≤ 100000) (hD : H1 D = none) (p : β → Bool) (g : β → γ) (T : Hp → V → γ → Prop) (mT : ∀ {H H' v c}, ExT H H' → T H v c → T H' v c)
    (hG : ∀ H, Same H1 H → G H)
    (turn : ∀ (i : Nat) (b : β) x H H', bs[i]? = some b → Same H1 H → Y i H x H' → ∀ (Ny : V → Hp → Prop) (Nn : Hp → Prop),
      (∀ y H2, Same H H2 → T H2 y (g b) → p b = true → Ny y H2) → (∀ H2, Same H H2 → p b = false → Nn H2) →
      gt x (wipe σ vs) H' fun σ2 H2 => wipe σ2 vs = wipe σ vs ∧ tt σ2 H2 fun c H3 => if c = true then te σ2 H3 Ny else Nn H3)
    (hd : ∀ H ys, Same H1 H → H D = some (.lst ys) → Paired (T H) ys ((bs.filter p).map g) → Qd H) :
    ∃ W : Nat → Nat → Hp → Prop, (∃ m, W 0 m (upd H1 D (.lst []))) ∧ ∀ i m H, W i m H →
      (J.stop i H ∧ Qd H) ∨ (J.go i H ∧ ∃ Nx : Hp → Prop, (∀ H', Nx H' → ∃ m', m' < m ∧ W (i + 1) m' H') ∧ ∀ x H', J.yld i H x H' → gt x (wipe σ vs) H' fun σ2 H2 => wipe σ2 vs = wipe σ vs ∧ tt σ2 H2 fun b H3 =>
        if b = true then te σ2 H3 fun y H4 => ∃ acc, H4 D = some (.lst acc) ∧ acc.length < sizeLine ∧ Nx (upd H4 D (.lst (acc ++ [y]))) else Nx H3) :=
  lc_gen w (Same H1) hn hz p g T mT (sn hD) (fun H xs ys s _ => sm s hD) hG
    (fun i b x H H' acc e s hy y Ny Nn k1 k2 => turn i b x H H' e s y Ny Nn (fun v H2 s2 t2 pb => k1 v H2 (s.trans s2) (tx s2) (s2 _ _ hy) t2 pb) (fun H2 s2 pb => k2 H2 (s.trans s2) (tx s2) (s2 _ _ hy) pb)) hd
/-- .. each item gives one -/
theorem lc_all (w : Walk J n G Y) {bs : List β} (hn : bs.length = n) (hz : n ≤ 100000) (hD : H1 D = none) (g : β → γ) (T : Hp → V → γ → Prop) (mT : ∀ {H H' v c}, ExT H H' → T H v c → T H' v c)
    (hG : ∀ H, Same H1 H → G H)
    (turn : ∀ (i : Nat) (b : β) x H H', bs[i]? = some b → Same H1 H → Y i H x H' → ∀ (Ny : V → Hp → Prop), (∀ y H2, Same H H2 → T H2 y (g b) → Ny y H2) →
      gt x (wipe σ vs) H' fun σ2 H2 => wipe σ2 vs = wipe σ vs ∧ te σ2 H2 Ny)
    (mg : ∀ x σ H (Q Q' : L2.St → Hp → Prop), (∀ σ2 H2, Q σ2 H2 → Q' σ2 H2) → gt x σ H Q → gt x σ H Q')
    (hd : ∀ H ys, Same H1 H → H D = some (.lst ys) → Paired (T H) ys (bs.map g) → Qd H) :
    ∃ W : Nat → Nat → Hp → Prop, (∃ m, W 0 m (upd H1 D (.lst []))) ∧ ∀ i m H, W i m H →
      (J.stop i H ∧ Qd H) ∨ (J.go i H ∧ ∃ Nx : Hp → Prop, (∀ H', Nx H' → ∃ m', m' < m ∧ W (i + 1) m' H') ∧ ∀ x H', J.yld i H x H' → gt x (wipe σ vs) H' fun σ2 H2 => wipe σ2 vs = wipe σ vs ∧ tYes σ2 H2 fun b H3 =>
        if b = true then te σ2 H3 fun y H4 => ∃ acc, H4 D = some (.lst acc) ∧ acc.length < sizeLine ∧ Nx (upd H4 D (.lst (acc ++ [y]))) else Nx H3) :=
  lc_pure w hn hz hD (fun _ => true) g T mT hG (fun i b x H H' e s y Ny Nn k1 k2 => mg _ _ _ _ _ (fun σ2 H2 q => ⟨q.1, by
      show (if true = true then te σ2 H2 Ny else Nn H2)
      rw [if_pos rfl]; exact q.2⟩) (turn i b x H H' e s y Ny fun v H2 s2 t => k1 v H2 s2 t rfl))
    (fun H ys s hy pr => hd H ys s hy (by rw [show bs.filter (fun _ => true) = bs from List.filter_eq_self.mpr fun _ _ => rfl] at pr; exact pr))
theorem mg_name {j : Nat} : ∀ x σ H (Q Q' : L2.St → Hp → Prop), (∀ σ2 H2, Q σ2 H2 → Q' σ2 H2) → gName j x σ H Q → gName j x σ H Q' := fun x σ H Q Q' h q => h _ _ q
theorem mg_pair {K : PySem.W.Frag} {j k : Nat} : ∀ x σ H (Q Q' : L2.St → Hp → Prop), (∀ σ2 H2, Q σ2 H2 → Q' σ2 H2) → gTup K 2 (gCons (gName j) (gCons (gName k) gNil)) x σ H Q → gTup K 2 (gCons (gName j) (gCons (gName k) gNil)) x σ H Q' := fun x σ H Q Q' h q => by
  obtain ⟨a, xs, e, hq, hl, v, r, e1, v2, r2, e2, e3, q⟩ := q
  exact ⟨a, xs, e, hq, hl, v, r, e1, v2, r2, e2, e3, h _ _ q⟩
end

/-- rules that speak of the written part, within a comprehension's block -/
theorem ixL (K : PySem.W.Frag) {X : Cx} (h : X.K = K := by rfl) : IxR X (rIxL K) := h ▸ ix_list
theorem ixT (K : PySem.W.Frag) {X : Cx} (h : X.K = K := by rfl) : IxR X (rIxT K) := h ▸ ix_tup
theorem blT {p : Prop} [Decidable p] (h : p) : V.bl (decide p) = V.bl true := congrArg _ (decide_eq_true h)
theorem blF {p : Prop} [Decidable p] (h : ¬ p) : V.bl (decide p) = V.bl false := congrArg _ (decide_eq_false h)
theorem qT {p : Prop} [Decidable p] {Q : VK} {H : Hp} (h : p) (q : Q (.bl true) H) : Q (.bl (decide p)) H := by rw [decide_eq_true h]; exact q
theorem qF {p : Prop} [Decidable p] {Q : VK} {H : Hp} (h : ¬ p) (q : Q (.bl false) H) : Q (.bl (decide p)) H := by rw [decide_eq_false h]; exact q
/-! ### what stands where -/
/-- a name: 1 to 8 letters -/
def NmOk (z : Str) : Prop := 1 ≤ z.length ∧ z.length ≤ 8 ∧ ∀ c ∈ z.cps.toList, 97 ≤ c ∧ c ≤ 122
def sLt (a b : Str) : Prop := a.cps.toList < b.cps.toList
structure CtOk (cs : List (Str × Int)) : Prop where
  asc : (nms cs).Pairwise sLt
  pos : ∀ p ∈ cs, 0 < p.2
  nm : ∀ p ∈ cs, NmOk p.1
theorem sLt_irrefl (a : Str) : ¬ sLt a a := fun h => List.lt_irrefl _ h
theorem asc_nd {l : List Str} (h : l.Pairwise sLt) : l.Nodup := by
  unfold List.Nodup
  exact h.imp fun {a b} (q : sLt a b) (e : a = b) => sLt_irrefl a (by rw [← e] at q; exact q)
theorem CtOk.nd {cs : List (Str × Int)} (h : CtOk cs) : (nms cs).Nodup := asc_nd h.asc
structure Sk where
  room : Int
  many : Int
  off : Int
  kept : List (Str × Int)
def lost (s : Sk) : Int := s.many - tot s.kept
structure SkOk (s : Sk) : Prop where
  r1 : 1 ≤ s.room
  r2 : s.room ≤ 16
  m0 : 0 ≤ s.many
  m1 : s.many ≤ 1500
  o0 : 0 ≤ s.off
  ct : CtOk s.kept
  len : (s.kept.length : Int) ≤ s.room
  lo : (s.room + 1) * s.off ≤ lost s
  hi : lost s ≤ 2 * s.room * s.off
def PairAt (H : Hp) (v : V) (p : Str × Int) : Prop := ∃ a, v = .ref a ∧ H a = some (.tup [.str p.1, .int p.2])
def CtsAt (H : Hp) (v : V) (cs : List (Str × Int)) : Prop := ∃ a vs, v = .ref a ∧ FT H a vs ∧ Paired (PairAt H) vs cs
def SkAt (H : Hp) (v : V) (s : Sk) : Prop := ∃ a w, v = .ref a ∧ H a = some (.tup [.int s.room, .int s.many, .int s.off, w]) ∧ CtsAt H w s.kept
theorem PairAt.mono {H H' : Hp} {v : V} {p : Str × Int} (e : ExT H H') (h : PairAt H v p) : PairAt H' v p :=
  let ⟨a, h1, h2⟩ := h; ⟨a, h1, e _ _ rfl h2⟩
theorem CtsAt.mono {H H' : Hp} {v : V} {cs : List (Str × Int)} (e : ExT H H') (h : CtsAt H v cs) : CtsAt H' v cs :=
  let ⟨a, vs, h1, h2, h3⟩ := h; ⟨a, vs, h1, h2.mono e, h3.mono fun _ _ q => q.mono e⟩
theorem SkAt.mono {H H' : Hp} {v : V} {s : Sk} (e : ExT H H') (h : SkAt H v s) : SkAt H' v s :=
  let ⟨a, w, h1, h2, h3⟩ := h; ⟨a, w, h1, e _ _ rfl h2, h3.mono e⟩
end Kn
set_option Elab.async false
set_option linter.all false
set_option maxRecDepth 100000
set_option maxHeartbeats 4000000
/-! Plain checks, names, counts, sketches. -/
namespace Kn
open PySem PySem.Spec PyProof.Rows L2 KM
section
variable {P : Program} {w : World} {K : PySem.W.Frag} {mg : Str → Option Value} {base : Heap} {CP CF : Addr}

/-! ### checks -/
def spIsInteger : Sp := fun vs H Q _ => ∃ i : Int, vs = [.int i] ∧ Q (.bl true) H
theorem c_is_integer (T : Txt K mg CP CF) : C8.Cal P w K mg base 1 "is_integer" spIsInteger [] := by
  refine mkc (N := ["thing"]) T.d_is_integer (by decide +kernel) (fun vs H Q E h => ?_) (fun f cdv A outer s H vs Q E hr h => ?_)
  · obtain ⟨i, rfl, _⟩ := h; rfl
  · obtain ⟨i, rfl, q⟩ := h
    refine ⟨_, pss_one (ps_ret (pe_and (pe_callB call_isi (by rfl) T.z_isinstance bo_isinstance (pa_cons (pv 0) (pa_cons (pe_bltn (v := .ty "int") (by rfl) T.z_int bo_int rfl) pa_nil)))
      (pe_one (pe_not (pe_callB call_isi (by rfl) T.z_isinstance bo_isinstance (pa_cons (pv 0) (pa_cons (pe_bltn (v := .ty "bool") (by rfl) T.z_bool bo_bool rfl) pa_nil))))))), ?_⟩
    refine ⟨_, rfl, _, _, _, _, _, rfl, .ty "int", .base (.int i), kit_ty (r := true) (by decide +kernel), true, rfl, iteT ?_⟩
    exact ⟨_, rfl, _, _, _, _, _, rfl, .ty "bool", .base (.int i), kit_ty (r := false) (by decide +kernel), false, rfl, q⟩
def spIsBetween : Sp := fun vs H Q _ => ∃ i a b : Int, vs = [.int i, .int a, .int b] ∧ Q (.bl (decide (a ≤ i ∧ i ≤ b))) H
theorem c_is_between (T : Txt K mg CP CF) : C8.Cal P w K mg base 2 "is_between" spIsBetween [] := by
  refine mkc (N := ["thing", "least", "most"]) T.d_is_between (by decide +kernel) (fun vs H Q E h => ?_) (fun f cdv A outer s H vs Q E hr h => ?_)
  · obtain ⟨i, a, b, rfl, _⟩ := h; rfl
  · obtain ⟨i, a, b, rfl, q⟩ := h
    refine ⟨_, pss_one (ps_ret (pe_and (C8.pe_c (c_is_integer T) hr (by decide) (by rfl) (pa_cons (pv 0) pa_nil)) (pe_one (pe_chain op_le op_le (pv 1) (pv 0) (pv 2))))), ?_⟩
    refine ⟨_, rfl, i, rfl, true, rfl, iteT ?_⟩
    refine ⟨_, rfl, _, rfl, a, i, rfl, rfl, _, rfl, ?_⟩
    by_cases h1 : a ≤ i
    · rw [if_pos (decide_eq_true h1)]
      refine ⟨_, rfl, i, b, rfl, rfl, ?_⟩
      have e : decide (a ≤ i ∧ i ≤ b) = decide (i ≤ b) := by simp [h1]
      rw [e] at q
      exact q
    · rw [if_neg (by simp [h1])]
      have e : decide (a ≤ i ∧ i ≤ b) = false := by simp [h1]
      rw [e] at q
      exact q
def spIsCount : Sp := fun vs H Q _ => ∃ i : Int, vs = [.int i] ∧ Q (.bl (decide (0 ≤ i))) H
theorem c_is_count (T : Txt K mg CP CF) : C8.Cal P w K mg base 2 "is_count" spIsCount [] := by
  refine mkc (N := ["thing"]) T.d_is_count (by decide +kernel) (fun vs H Q E h => ?_) (fun f cdv A outer s H vs Q E hr h => ?_)
  · obtain ⟨i, rfl, _⟩ := h; rfl
  · obtain ⟨i, rfl, q⟩ := h
    refine ⟨_, pss_one (ps_ret (pe_and (C8.pe_c (c_is_integer T) hr (by decide) (by rfl) (pa_cons (pv 0) pa_nil)) (pe_one (pe_cmpR op_ge (pv 0) pe_int (nomark _))))), ?_⟩
    refine ⟨_, rfl, i, rfl, true, rfl, iteT ?_⟩
    exact ⟨_, rfl, i, 0, rfl, rfl, q⟩
def spIsTupleOf : Sp := fun vs H Q _ => ∃ (a : Addr) (xs : List V) (n : Int), vs = [.ref a, .int n] ∧ H a = some (.tup xs) ∧ Q (.bl (decide ((xs.length : Int) = n))) H
theorem c_is_tuple_of (T : Txt K mg CP CF) : C8.Cal P w K mg base 1 "is_tuple_of" spIsTupleOf [] := by
  refine mkc (N := ["thing", "many"]) T.d_is_tuple_of (by decide +kernel) (fun vs H Q E h => ?_) (fun f cdv A outer s H vs Q E hr h => ?_)
  · obtain ⟨a, xs, n, rfl, _⟩ := h; rfl
  · obtain ⟨a, xs, n, rfl, ha, q⟩ := h
    refine ⟨_, pss_one (ps_ret (pe_and (pe_callB call_isi (by rfl) T.z_isinstance bo_isinstance (pa_cons (pv 0) (pa_cons (pe_bltn (v := .ty "tuple") (by rfl) T.z_tuple bo_tuple rfl) pa_nil)))
      (pe_one (pe_cmpR op_eq (pe_callB call_len_seq (by rfl) T.z_len bo_len (pa_cons (pv 0) pa_nil)) (pv 1) (nomark _))))), ?_⟩
    refine ⟨_, rfl, _, _, _, _, _, rfl, .ty "tuple", .base (.tup ha), kit_ty (r := true) (by decide +kernel), true, rfl, iteT ?_⟩
    refine ⟨_, rfl, a, xs, rfl, .inr (SqT.of ha), _, rfl, rfl, ?_⟩
    have e : decide (V.int (xs.length : Int) = V.int n) = decide ((xs.length : Int) = n) := by simp
    rw [e]
    exact q

/-! ### names -/
theorem all_of {n : Nat} : ((List.range n).map fun _ => true).all id = true := by simp
theorem all_true {β : Type} (l : List β) : (l.map fun _ => true).all id = true := by simp
def spAsc : Sp := fun vs H Q _ => ∃ (a : Addr) (ns : List Str), vs = [.ref a] ∧ H a = some (.lst (ns.map V.str)) ∧ ns.length ≤ 1000 ∧ ns.Pairwise sLt ∧ ∀ H', Same H H' → Q (.bl true) H'
theorem c_are_ascending (T : Txt K mg CP CF) : C8.Cal P w K mg base 1 "are_ascending" spAsc [] := by
  refine mkc (N := ["things", "at"]) T.d_are_ascending (by decide +kernel) (fun vs H Q E h => ?_) (fun f cdv A outer s H vs Q E hr h => ?_)
  · obtain ⟨a, ns, rfl, _⟩ := h; rfl
  · obtain ⟨a, ns, rfl, ha, hl, hp, q⟩ := h
    have nd : (["things", "at"] : List Str).Nodup := by decide +kernel
    refine ⟨_, pss_one (ps_ret (pe_callB (cr_all rfl) (by rfl) T.z_all bo_all (pa_cons
      (pe_lc (own := [("at", 1)]) (g := gName 1) (by rfl) nd (pi_range1 (by rfl) T.z_range (pa_cons (pe_op op_sub (pe_callB call_len_seq (by rfl) T.z_len bo_len (pa_cons (pv 0) pa_nil)) pe_int) pa_nil))
        (blkOk_by (own := [("at", 1)]) (N := ["things", "at"]) (sc := C8.fnScope (topS 11)) (by decide +kernel)) (fun _ _ _ _ _ => pg_name (i := 1) nd rfl (Or.inl rfl)) (fun _ _ _ _ _ => pts_nil)
        (fun _ _ _ _ _ => pe_cmpR op_lt_str (pe_ix (ixL K) (pv 0) (pv 1) (fun _ _ => rfl)) (pe_ix (ixL K) (pv 0) (pe_op op_add (pv 1) pe_int) (fun _ _ => rfl)) (nomark _))) pa_nil))), ?_⟩
    refine ⟨_, rfl, a, _, rfl, .inl (SqL.of ha), _, _, rfl, rfl, _, rfl, by rw [List.length_map]; omega, by rw [List.length_map]; omega, fun D hD => ?_⟩
    have en : (((ns.map V.str).length : Int) - 1).toNat = ns.length - 1 := by rw [List.length_map]; omega
    rw [en]
    refine lc_all (walk_range (lo := 0) (n := ns.length - 1)) (bs := List.range (ns.length - 1)) (by simp) (by omega) hD (fun _ => true) (fun _ v c => v = V.bl c) (fun _ h => h) (fun _ _ => trivial) (fun i b x H1 H2 e s y Ny k => ?_) mg_name (fun H1 ys s hy pr => ?_)
    · obtain ⟨rfl, rfl⟩ := y
      have hi : i < ns.length - 1 := by
        have := (List.getElem?_eq_some_iff.mp e).1
        simpa using this
      have h1 : i < ns.length := by omega
      have h2 : i + 1 < ns.length := by omega
      have g1 : (ns.map V.str)[i]? = some (.str ns[i]) := by rw [List.getElem?_map, List.getElem?_eq_getElem h1]; rfl
      have g2 : (ns.map V.str)[i + 1]? = some (.str ns[i + 1]) := by rw [List.getElem?_map, List.getElem?_eq_getElem h2]; rfl
      refine ⟨rfl, _, rfl, _, rfl, a, _, _, _, rfl, rfl, SqL.of (s _ _ ha), at_of (j := i) (by omega) g1, ?_⟩
      refine ⟨_, rfl, _, rfl, _, _, rfl, rfl, a, _, _, _, rfl, rfl, SqL.of (s _ _ ha), at_of (j := i + 1) (by omega) g2, _, _, rfl, rfl, ?_⟩
      exact k _ _ (Same.refl _) (blT (List.pairwise_iff_getElem.mp hp i (i + 1) h1 h2 (by omega)))
    · have ey := peq pr
      refine ⟨D, _, rfl, SqL.of (by rw [hy, ey]), ?_⟩
      rw [all_true]
      exact q _ s
theorem in_letters : ∀ c : Nat, 97 ≤ c → c ≤ 122 → c ∈ ("abcdefghijklmnopqrstuvwxyz" : Str).cps.toList := by
  intro c h1 h2
  have h : ∀ i : Fin 26, (97 + i.val) ∈ ("abcdefghijklmnopqrstuvwxyz" : Str).cps.toList := by decide +kernel
  have := h ⟨c - 97, by omega⟩
  have e : 97 + (c - 97) = c := by omega
  simp only [e] at this
  exact this
def spIsName : Sp := fun vs H Q _ => ∃ z : Str, vs = [.str z] ∧ NmOk z ∧ ∀ H', Same H H' → Q (.bl true) H'
theorem c_is_name (T : Txt K mg CP CF) : C8.Cal P w K mg base 1 "is_name" spIsName [] := by
  refine mkc (N := ["thing", "sign"]) T.d_is_name (by decide +kernel) (fun vs H Q E h => ?_) (fun f cdv A outer s H vs Q E hr h => ?_)
  · obtain ⟨z, rfl, _⟩ := h; rfl
  · obtain ⟨z, rfl, ⟨l1, l8, hz⟩, q⟩ := h
    have nd : (["thing", "sign"] : List Str).Nodup := by decide +kernel
    refine ⟨_, pss_one (ps_ret (pe_and (pe_callB call_isi (by rfl) T.z_isinstance bo_isinstance (pa_cons (pv 0) (pa_cons (pe_bltn (v := .ty "str") (by rfl) T.z_str bo_str rfl) pa_nil)))
      (pe_and (pe_chain op_le op_le pe_int (pe_callB call_len_str (by rfl) T.z_len bo_len (pa_cons (pv 0) pa_nil)) (C8.pe_gc (by rfl) T.k_MOST_IN_NAME))
      (pe_one (pe_callB (cr_all rfl) (by rfl) T.z_all bo_all (pa_cons
        (pe_lc (own := [("sign", 1)]) (g := gName 1) (by rfl) nd (pi_str (pv 0))
          (blkOk_by (own := [("sign", 1)]) (N := ["thing", "sign"]) (sc := C8.fnScope (topS 15)) (by decide +kernel)) (fun _ _ _ _ _ => pg_name (i := 1) nd rfl (Or.inl rfl)) (fun _ _ _ _ _ => pts_nil)
          (fun _ _ _ _ _ => pe_cmpR op_in_sign (pv 1) (C8.pe_gc (by rfl) T.k_LETTERS) (by rfl))) pa_nil)))))), ?_⟩
    refine ⟨_, rfl, _, _, _, _, _, rfl, .ty "str", .base (.str z), kit_ty (r := true) (by decide +kernel), true, rfl, iteT ?_⟩
    have hs : z.length ≤ sizeLine := sz (by omega)
    refine ⟨_, rfl, z, rfl, hs, 1, _, rfl, rfl, _, rfl, ?_⟩
    rw [if_pos (decide_eq_true (by omega))]
    refine ⟨_, 8, rfl, rfl, true, blT (by omega), iteT ?_⟩
    refine ⟨_, rfl, z, rfl, fun D hD => ?_⟩
    refine lc_all (walk_str (z := z)) (bs := z.cps.toList) (by simp) (by have : z.cps.size = z.length := rfl; omega) hD (fun _ => true) (fun _ v c => v = V.bl c) (fun _ h => h) (fun _ _ => trivial) (fun i b x H1 H2 e s y Ny k => ?_) mg_name (fun H1 ys s hy pr => ?_)
    · obtain ⟨rfl, c, hc, rfl⟩ := y
      have hm : c ∈ z.cps.toList := Array.mem_toList_iff.mpr (Array.mem_of_getElem? hc)
      obtain ⟨c1, c2⟩ := hz c hm
      refine ⟨rfl, _, rfl, c, _, rfl, rfl, k _ _ (Same.refl _) ?_⟩
      rw [decide_eq_true (in_letters c c1 c2)]
    · have ey := peq pr
      refine ⟨D, _, rfl, SqL.of (by rw [hy, ey]), ?_⟩
      rw [all_true]
      exact q _ s
/-! ### counts -/
def spAreCounts : Sp := fun vs H Q _ => ∃ (v : V) (cs : List (Str × Int)), vs = [v] ∧ CtsAt H v cs ∧ CtOk cs ∧ cs.length ≤ 1000 ∧ ∀ H', Same H H' → Q (.bl true) H'
theorem c_are_counts (T : Txt K mg CP CF) : C8.Cal P w K mg base 2 "are_counts" spAreCounts [] := by
  refine mkc (N := ["thing", "pair"]) T.d_are_counts (by decide +kernel) (fun vs H Q E h => ?_) (fun f cdv A outer s H vs Q E hr h => ?_)
  · obtain ⟨v, cs, rfl, _⟩ := h; rfl
  · obtain ⟨v, cs, rfl, ⟨a, us, rfl, ha, pr⟩, ok, hl, q⟩ := h
    have nd : (["thing", "pair"] : List Str).Nodup := by decide +kernel
    have hr1 : Room 1 _ := hr.mono (by decide)
    refine ⟨_, pss_cons (ps_if (pt_not (pt_val (pe_callB call_isi (by rfl) T.z_isinstance bo_isinstance (pa_cons (pv 0) (pa_cons (pe_bltn (v := .ty "tuple") (by rfl) T.z_tuple bo_tuple rfl) pa_nil))))) (pss_one (ps_ret pe_bl)) pss_nil)
      (pss_cons (ps_for PassesOwn.never rfl (pi_tup (pv 0)) (pg_name (i := 1) nd rfl (.inl rfl))
        (pss_one (ps_if (PW.pt (pw_or (pt_not (pt_val (C8.pe_c (c_is_tuple_of T) hr1 (by decide) (by rfl) (pa_cons (pv 1) (pa_cons pe_int pa_nil)))))
          (pw_or (pt_not (pt_val (C8.pe_c (c_is_name T) hr1 (by decide) (by rfl) (pa_cons (pe_ix ix_tup (pv 1) pe_int (fun _ _ => rfl)) pa_nil))))
          (pw_or (pt_not (pt_val (C8.pe_c (c_is_integer T) hr1 (by decide) (by rfl) (pa_cons (pe_ix ix_tup (pv 1) pe_int (fun _ _ => rfl)) pa_nil))))
          (pw_or1 (pt_cmpR op_lt (pe_ix ix_tup (pv 1) pe_int (fun _ _ => rfl)) pe_int (nomark _))))))) (pss_one (ps_ret pe_bl)) pss_nil)))
      (pss_one (ps_ret (C8.pe_c (c_are_ascending T) hr1 (by decide) (by rfl) (pa_cons
        (pe_lc (own := [("pair", 1)]) (g := gName 1) (by rfl) nd (pi_tup (pv 0))
          (blkOk_by (own := [("pair", 1)]) (N := ["thing", "pair"]) (sc := C8.fnScope (topS 16)) (by decide +kernel)) (fun _ _ _ _ _ => pg_name (i := 1) nd rfl (Or.inl rfl)) (fun _ _ _ _ _ => pts_nil)
          (fun _ _ _ _ _ => pe_ix (ixT K) (pv 1) pe_int (fun _ _ => rfl))) pa_nil))))), ?_⟩
    refine ⟨_, rfl, _, _, _, _, _, rfl, .ty "tuple", .fTuple ha.choose_spec.2, kit_ty (r := true) (by decide +kernel), true, rfl, iteF ?_⟩
    refine ⟨_, rfl, a, rfl, ⟨_, ha.sq⟩, for_tup (K := K) (a := a) (xs := us) (fun i σ H2 => ∃ y, σ = [some (.ref a), y] ∧ Same H H2) ⟨none, rfl, Same.refl _⟩ (fun i σ H2 _ h => (ha.st h.choose_spec.2).sq) ?_ ?_⟩
    · rintro i x σ H2 hi ⟨y, rfl, s2⟩
      obtain ⟨p, hp, b, rfl, hb⟩ := pgetL pr hi
      have hb2 := s2 _ _ hb
      have hm := List.mem_of_getElem? hp
      refine ⟨_, rfl, b, _, 2, rfl, hb2, true, rfl, iteF ?_⟩
      refine ⟨_, rfl, b, _, 0, _, rfl, rfl, SqT.of hb2, rfl, p.1, rfl, ok.nm p hm, fun H3 s3 => ⟨true, rfl, iteF ?_⟩⟩
      have hb3 := s3 _ _ hb2
      refine ⟨_, rfl, b, _, 1, _, rfl, rfl, SqT.of hb3, rfl, p.2, rfl, true, rfl, iteF ?_⟩
      refine ⟨_, rfl, b, _, 1, _, rfl, rfl, SqT.of hb3, rfl, p.2, 1, rfl, rfl, false, blF (by have := ok.pos p hm; omega), iteF ?_⟩
      exact ⟨_, rfl, s2.trans s3⟩
    · rintro σ H2 ⟨y, rfl, s2⟩
      refine ⟨_, rfl, a, rfl, ⟨_, (ha.st s2).sq⟩, fun D hD => ?_⟩
      refine lc_all (walk_tup (K := K) (a := a) (xs := us)) (bs := cs) pr.length.symm (by rw [pr.length]; omega) hD (fun p => p.1) (fun _ v c => v = V.str c) (fun _ h => h) (fun H3 s3 => ((ha.st s2).st s3).sq) (fun i p x H3 H4 e s3 y Ny k => ?_) mg_name (fun H3 ys s3 hy pr2 => ?_)
      · obtain ⟨rfl, hx⟩ := y
        obtain ⟨p', hp, b, rfl, hb⟩ := pgetL pr hx
        have ep : p' = p := Option.some.inj (hp.symm.trans e)
        subst ep
        refine ⟨rfl, _, rfl, b, _, 0, _, rfl, rfl, SqT.of (s3 _ _ (s2 _ _ hb)), rfl, k _ _ (Same.refl _) rfl⟩
      · have ey := peq pr2
        refine ⟨D, nms cs, rfl, by rw [hy, ey]; rfl, by unfold nms; rw [List.length_map]; omega, ok.asc, fun H4 s4 => ?_⟩
        exact q _ ((s2.trans s3).trans s4)
/-! ### sketches -/
def spLostOf : Sp := fun vs H Q _ => ∃ (v : V) (s : Sk), vs = [v] ∧ SkAt H v s ∧ s.kept.length ≤ 1000 ∧ ∀ H', Same H H' → Q (.int (lost s)) H'
theorem c_lost_of (T : Txt K mg CP CF) : C8.Cal P w K mg base 1 "lost_of" spLostOf [] := by
  refine mkc (N := ["sketch", "pair"]) T.d_lost_of (by decide +kernel) (fun vs H Q E h => ?_) (fun f cdv A outer s H vs Q E hr h => ?_)
  · obtain ⟨v, sk, rfl, _⟩ := h; rfl
  · obtain ⟨v, sk, rfl, ⟨a, w', rfl, ha, b, us, rfl, hb, pr⟩, hl, q⟩ := h
    have nd : (["sketch", "pair"] : List Str).Nodup := by decide +kernel
    refine ⟨_, pss_one (ps_ret (pe_op op_sub (pe_ix ix_tup (pv 0) (C8.pe_gc (by rfl) T.k_MANY) (fun _ _ => rfl)) (pe_callB (cr_sum rfl) (by rfl) T.z_sum bo_sum (pa_cons
      (pe_lc (own := [("pair", 1)]) (g := gName 1) (by rfl) nd (pi_tup (pe_ix ix_tup (pv 0) (C8.pe_gc (by rfl) T.k_KEPT) (fun _ _ => rfl)))
        (blkOk_by (own := [("pair", 1)]) (N := ["sketch", "pair"]) (sc := C8.fnScope (topS 23)) (by decide +kernel)) (fun _ _ _ _ _ => pg_name (i := 1) nd rfl (Or.inl rfl)) (fun _ _ _ _ _ => pts_nil)
        (fun _ _ _ _ _ => pe_ix (ixT K) (pv 1) pe_int (fun _ _ => rfl))) pa_nil)))), ?_⟩
    refine ⟨_, rfl, a, _, 1, _, rfl, rfl, SqT.of ha, rfl, ?_⟩
    refine ⟨_, rfl, a, _, 3, _, rfl, rfl, SqT.of ha, rfl, b, rfl, ⟨_, hb.sq⟩, fun D hD => ?_⟩
    refine lc_all (walk_tup (K := K) (a := b) (xs := us)) (bs := sk.kept) pr.length.symm (by rw [pr.length]; omega) hD (fun p => p.2) (fun _ v c => v = V.int c) (fun _ h => h) (fun H3 s3 => (hb.st s3).sq) (fun i p x H3 H4 e s3 y Ny k => ?_) mg_name (fun H3 ys s3 hy pr2 => ?_)
    · obtain ⟨rfl, hx⟩ := y
      obtain ⟨p', hp, c, rfl, hc⟩ := pgetL pr hx
      have ep : p' = p := Option.some.inj (hp.symm.trans e)
      subst ep
      refine ⟨rfl, _, rfl, c, _, 1, _, rfl, rfl, SqT.of (s3 _ _ hc), rfl, k _ _ (Same.refl _) rfl⟩
    · have ey := peq pr2
      refine ⟨D, sk.kept.map (·.2), rfl, SqL.of (by rw [hy, ey]), _, _, rfl, rfl, ?_⟩
      exact q _ s3
def spSkOk : Sp := fun vs H Q _ => ∃ (v : V) (s : Sk), vs = [v] ∧ SkAt H v s ∧ SkOk s ∧ ∀ H', Same H H' → Q (.bl true) H'
theorem c_is_sketch (T : Txt K mg CP CF) : C8.Cal P w K mg base 3 "is_sketch" spSkOk [] := by
  refine mkc (N := ["thing", "room", "off"]) T.d_is_sketch (by decide +kernel) (fun vs H Q E h => ?_) (fun f cdv A outer s H vs Q E hr h => ?_)
  · obtain ⟨v, sk, rfl, _⟩ := h; rfl
  · obtain ⟨v, sk, rfl, hS, ok, q⟩ := h
    obtain ⟨a, w', rfl, ha, hw⟩ := id hS
    have hlen : sk.kept.length ≤ 16 := by have := ok.len; have := ok.r2; omega
    have nd : (["thing", "room", "off"] : List Str).Nodup := by decide +kernel
    have hr1 : Room 1 _ := hr.mono (by decide)
    have hr2 : Room 2 _ := hr.mono (by decide)
    refine ⟨_, pss_cons (ps_if (PW.pt (pw_or (pt_not (pt_val (C8.pe_c (c_is_tuple_of T) hr1 (by decide) (by rfl) (pa_cons (pv 0) (pa_cons pe_int pa_nil)))))
        (pw_or1 (pt_not (pt_val (C8.pe_c (c_is_between T) hr2 (by decide) (by rfl) (pa_cons (pe_ix ix_tup (pv 0) (C8.pe_gc (by rfl) T.k_ROOM) (fun _ _ => rfl)) (pa_cons pe_int (pa_cons (C8.pe_gc (by rfl) T.k_MOST_ROOM) pa_nil))))))))) (pss_one (ps_ret pe_bl)) pss_nil)
      (pss_cons (ps_if (PW.pt (pw_or (pt_not (pt_val (C8.pe_c (c_is_count T) hr2 (by decide) (by rfl) (pa_cons (pe_ix ix_tup (pv 0) (C8.pe_gc (by rfl) T.k_MANY) (fun _ _ => rfl)) pa_nil))))
        (pw_or (pt_not (pt_val (C8.pe_c (c_is_count T) hr2 (by decide) (by rfl) (pa_cons (pe_ix ix_tup (pv 0) (C8.pe_gc (by rfl) T.k_OFF) (fun _ _ => rfl)) pa_nil))))
        (pw_or1 (pt_not (pt_val (C8.pe_c (c_are_counts T) hr2 (by decide) (by rfl) (pa_cons (pe_ix ix_tup (pv 0) (C8.pe_gc (by rfl) T.k_KEPT) (fun _ _ => rfl)) pa_nil)))))))) (pss_one (ps_ret pe_bl)) pss_nil)
      (pss_cons (ps_par (i := 1) (j := 2) (by rfl) nd rfl rfl (by decide) rfl rfl (pa_cons (pe_ix ix_tup (pv 0) (C8.pe_gc (by rfl) T.k_ROOM) (fun _ _ => rfl)) (pa_cons (pe_ix ix_tup (pv 0) (C8.pe_gc (by rfl) T.k_OFF) (fun _ _ => rfl)) pa_nil)) (by rfl))
      (pss_one (ps_ret (pe_and (pe_cmpR op_le (pe_callB call_len_seq (by rfl) T.z_len bo_len (pa_cons (pe_ix ix_tup (pv 0) (C8.pe_gc (by rfl) T.k_KEPT) (fun _ _ => rfl)) pa_nil)) (pv 1) (nomark _))
        (pe_one (pe_chain op_le op_le (pe_op op_mul (pe_op op_add (pv 1) pe_int) (pv 2)) (C8.pe_c (c_lost_of T) hr1 (by decide) (by rfl) (pa_cons (pv 0) pa_nil)) (pe_op op_mul (pe_op op_mul pe_int (pv 1)) (pv 2))))))))), ?_⟩
    refine ⟨_, rfl, a, _, 4, rfl, ha, true, rfl, iteF ?_⟩
    refine ⟨_, rfl, a, _, 0, _, rfl, rfl, SqT.of ha, rfl, _, 1, 64, rfl, true, blT ⟨ok.r1, by have := ok.r2; omega⟩, iteF ?_⟩
    refine ⟨_, rfl, a, _, 1, _, rfl, rfl, SqT.of ha, rfl, _, rfl, true, blT ok.m0, iteF ?_⟩
    refine ⟨_, rfl, a, _, 2, _, rfl, rfl, SqT.of ha, rfl, _, rfl, true, blT ok.o0, iteF ?_⟩
    refine ⟨_, rfl, a, _, 3, _, rfl, rfl, SqT.of ha, rfl, _, sk.kept, rfl, hw, ok.ct, by omega, fun H1 s1 => ⟨true, rfl, iteF ?_⟩⟩
    have ha1 := s1 _ _ ha
    obtain ⟨b, us, rfl, hb, pr⟩ := id hw
    refine ⟨_, rfl, a, _, 0, _, rfl, rfl, SqT.of ha1, rfl, _, rfl, a, _, 2, _, rfl, rfl, SqT.of ha1, rfl, _, _, rfl, ?_⟩
    refine ⟨_, rfl, a, _, 3, _, rfl, rfl, SqT.of ha1, rfl, b, _, rfl, .inr ((hb.st s1).sq), _, rfl, _, _, rfl, rfl, true, blT (by rw [pr.length]; exact ok.len), iteT ?_⟩
    have r1 := ok.r1
    have r2 := ok.r2
    refine ⟨_, rfl, _, _, rfl, rfl, _, rfl, _, _, rfl, rfl, .inl ⟨by omega, by omega⟩, ?_⟩
    refine ⟨_, rfl, _, sk, rfl, hS.mono (tx s1), by omega, fun H2 s2 => ?_⟩
    refine ⟨_, _, rfl, rfl, true, blT ok.lo, iteT ?_⟩
    refine ⟨_, rfl, _, _, rfl, rfl, .inl ⟨by decide, by decide⟩, _, rfl, _, _, rfl, rfl, .inl ⟨by omega, by omega⟩, _, _, rfl, rfl, ?_⟩
    exact qT (Q := Q) ok.hi (q _ (s1.trans s2))
def spCheck : Sp := fun vs H Q _ => ∃ (v : V) (s : Sk), vs = [v] ∧ SkAt H v s ∧ SkOk s ∧ ∀ H', Same H H' → Q .non H'
theorem c_check_sketch (T : Txt K mg CP CF) : C8.Cal P w K mg base 4 "check_sketch" spCheck [] := by
  refine mkc (N := ["thing"]) T.d_check_sketch (by decide +kernel) (fun vs H Q E h => ?_) (fun f cdv A outer s H vs Q E hr h => ?_)
  · obtain ⟨v, sk, rfl, _⟩ := h; rfl
  · obtain ⟨v, sk, rfl, hS, ok, q⟩ := h
    refine ⟨_, pss_one (ps_if (pt_not (pt_val (C8.pe_c (c_is_sketch T) hr (by decide) (by rfl) (pa_cons (pv 0) pa_nil)))) (pss_one ps_never) pss_nil), ?_⟩
    exact ⟨_, rfl, _, sk, rfl, hS, ok, fun H1 s1 => ⟨true, rfl, iteF (q _ s1)⟩⟩
end
end Kn
set_option Elab.async false
set_option linter.all false
set_option maxRecDepth 100000
set_option maxHeartbeats 4000000
/-! Sorting lists of any length: pairs, texts, a dict's items. -/
namespace Kn
open PySem PySem.Spec PyProof.Rows L2 KM
section
variable {β : Type}
/-- in order, by what the items stand for -/
def Asc (enc : β → PyData) (l : List β) : Prop := l.Pairwise fun a b => PySem.W.dataLt (enc b) (enc a) = false
theorem dle_trans (enc : β → PyData) (a b c : β) (h1 : PySem.W.dataLe false enc a b = true) (h2 : PySem.W.dataLe false enc b c = true) : PySem.W.dataLe false enc a c = true := by
  have e1 : PySem.W.dataLt (enc b) (enc a) = false := by simpa [PySem.W.dataLe_eq] using h1
  have e2 : PySem.W.dataLt (enc c) (enc b) = false := by simpa [PySem.W.dataLe_eq] using h2
  have : PySem.W.dataLt (enc c) (enc a) = false := by
    rcases Bool.eq_false_or_eq_true (PySem.W.dataLt (enc c) (enc a)) with h | h
    · rcases Bool.eq_false_or_eq_true (PySem.W.dataLt (enc a) (enc b)) with g | g
      · have q : PySem.W.dataLt (enc c) (enc b) = true := PyProof.Rows.lex_trans _ _ _ h g
        rw [e2] at q
        cases q
      · have e := PyProof.Rows.lex_total _ _ g e1
        have h' : PySem.W.dataLt (enc c) (enc b) = true := by
          unfold PySem.W.dataLt at h ⊢
          rw [← e]; exact h
        rw [e2] at h'; cases h'
    · exact h
  simpa [PySem.W.dataLe_eq] using this
theorem dle_total (enc : β → PyData) (a b : β) : (PySem.W.dataLe false enc a b || PySem.W.dataLe false enc b a) = true := by
  rcases Bool.eq_false_or_eq_true (PySem.W.dataLt (enc b) (enc a)) with h | h
  · have : PySem.W.dataLt (enc a) (enc b) = false := by
      rcases Bool.eq_false_or_eq_true (PySem.W.dataLt (enc a) (enc b)) with g | g
      · have q : PySem.W.dataLt (enc b) (enc b) = true := PyProof.Rows.lex_trans _ _ _ h g
        unfold PySem.W.dataLt at q
        rw [PyProof.Rows.lex_irrefl] at q
        cases q
      · exact g
    simp [PySem.W.dataLe_eq, this]
  · simp [PySem.W.dataLe_eq, h]
theorem srt_asc (enc : β → PyData) (bs : List β) : Asc enc (bs.mergeSort (PySem.W.dataLe false enc)) := by
  refine (List.pairwise_mergeSort (dle_trans enc) (dle_total enc) bs).imp fun {a b} h => ?_
  simpa [PySem.W.dataLe_eq] using h
end

/-! ### pairs of a text and an int -/
def encP (p : Str × Int) : PyData := .tuple [.str p.1, .int p.2]
theorem str_ext {a b : Str} (h : a.cps.toList = b.cps.toList) : a = b := by
  cases a with | mk x => cases b with | mk y =>
    have : x = y := Array.toList_inj.mp h
    rw [this]
theorem encP_lt {p q : Str × Int} (h : PySem.W.dataLt (encP q) (encP p) = false) : p.1 = q.1 ∨ sLt p.1 q.1 := by
  unfold encP at h
  rw [PySem.W.dataLt_pair (by simp [PySem.W.alike]) (by simp [PySem.W.alike]), PySem.W.dataLt_str] at h
  by_cases e : q.1 = p.1
  · exact .inl e.symm
  · rw [if_neg (by simp [PyData.eqv, e])] at h
    have h' := of_decide_eq_false h
    rcases Nat.lt_or_ge 0 1 with _ | z
    · have le : p.1.cps.toList ≤ q.1.cps.toList := List.not_lt.mp h'
      by_cases g : p.1.cps.toList < q.1.cps.toList
      · exact .inr g
      · exact absurd (str_ext (List.le_antisymm (List.not_lt.mp g) le)) e
    · omega
theorem asc_nms {ds : List (Str × Int)} (h : Asc encP ds) (nd : (nms ds).Nodup) : (nms ds).Pairwise sLt := by
  unfold nms List.Nodup at *
  rw [List.pairwise_map] at *
  refine (List.Pairwise.and h nd).imp fun {a b} q => ?_
  rcases encP_lt q.1 with e | e
  · exact absurd e q.2
  · exact e
theorem asc_strs {ds : List Str} (h : Asc PyData.str ds) (nd : ds.Nodup) : ds.Pairwise sLt := by
  refine (List.Pairwise.and h nd).imp fun {a b} q => ?_
  have h' := of_decide_eq_false ((PySem.W.dataLt_str b a).symm.trans q.1)
  by_cases g : a.cps.toList < b.cps.toList
  · exact g
  · exact absurd (str_ext (List.le_antisymm (List.not_lt.mp h') (List.not_lt.mp g))) q.2
theorem al_P (bs : List (Str × Int)) : PySem.W.AllAlike (bs.map encP) := PySem.W.AllAlike.of fun b b' => by simp [encP, PySem.W.alike, PySem.W.alikeAll]
theorem so_P (bs : List (Str × Int)) : PySem.W.Sortable (bs.map encP) := PySem.W.Sortable.tuples fun b => ⟨_, _, rfl⟩
theorem al_S (bs : List Str) : PySem.W.AllAlike (bs.map PyData.str) := PySem.W.AllAlike.of fun b b' => by simp [PySem.W.alike]
theorem so_S (bs : List Str) : PySem.W.Sortable (bs.map PyData.str) := PySem.W.Sortable.others fun b => ⟨(fun h => nomatch h), fun _ h => nomatch h⟩
theorem dp_P (b : Str × Int) : (encP b).depth ≤ 1 := by simp [encP, PyData.depth, PyData.depthAll]
theorem each_of {α β γ : Type} {F : α → β → Prop} {R : γ → α × β → Prop} : ∀ {us : List γ} {xs : List α} {cs : List β} {G : α → γ → Prop}, Paired G xs us → Paired F xs cs → (∀ u x c, G x u → F x c → R u (x, c)) → PySem.W.EachIs R us (xs.zip cs)
  | _, _, _, _, .nil, .nil, _ => .nil
  | _, _, _, _, .cons g gs, .cons f fs, h => .cons (h _ _ _ g f) (each_of gs fs h)
theorem each_out {α β γ : Type} {F : α → β → Prop} {G : α → γ → Prop} : ∀ {us : List γ} {bs : List (α × β)}, PySem.W.EachIs (fun u b => G b.1 u ∧ F b.1 b.2) us bs → Paired G (bs.map (·.1)) us ∧ Paired F (bs.map (·.1)) (bs.map (·.2))
  | _, _, .nil => ⟨.nil, .nil⟩
  | _, _, .cons h t => let ⟨a, b⟩ := each_out t; ⟨.cons h.1 a, .cons h.2 b⟩
theorem paired_of_idx {α β : Type} {F : α → β → Prop} : ∀ {l : List α} {m : List β}, l.length = m.length → (∀ (j : Nat) (a : α) (b : β), l[j]? = some a → m[j]? = some b → F a b) → Paired F l m
  | [], [], _, _ => .nil
  | a :: l, b :: m, h, k => .cons (k 0 a b rfl rfl) (paired_of_idx (by simpa using h) fun j x y h1 h2 => k (j + 1) x y (by simpa using h1) (by simpa using h2))
  | [], _ :: _, h, _ => by simp at h
  | _ :: _, [], h, _ => by simp at h
theorem pflip {α β : Type} {F : α → β → Prop} : ∀ {l : List α} {m : List β}, Paired F l m → Paired (fun b a => F a b) m l
  | _, _, .nil => .nil
  | _, _, .cons h t => .cons h (pflip t)
theorem vals_pairs {xs : List V} {us : List Value} (h : Vals xs us) : Paired RelV xs us := by
  induction h with
  | nil => exact .nil
  | cons r _ ih => exact .cons r ih
theorem pairs_vals {xs : List V} {us : List Value} (h : Paired RelV xs us) : Vals xs us := by
  induction h with
  | nil => exact .nil
  | cons r _ ih => exact .cons r ih
section
variable {X : Cx}
/-- a tracked pair reads as data -/
theorem pair_reads {pins : List (Addr × Obj)} {σ : L2.St} {H : Hp} {s : Shared} (I : Inv X pins σ H s) {x : V} {u : Value} {c : Str × Int} (r : RelV x u) (p : PairAt H x c) : Reads s.heap u (encP c) [] := by
  obtain ⟨a, rfl, ha⟩ := p
  cases r
  obtain ⟨_, its, rv, o, ho, hc, n, hd⟩ := I.hok _ _ ha
  obtain ⟨u1, u2, rfl, ri, rj⟩ := vals2 rv
  obtain ⟨t1, rfl⟩ := ri
  obtain ⟨t2, rfl⟩ := rj
  exact .tuple ho hc hd (.cons (as := []) (bs := []) (.str _ _) (.cons (as := []) (bs := []) (.int _ _) .nil))
/-- sorted(xs), xs a list of (text, int), any number of them -/
def rSrtP (K : PySem.W.Frag) : List V → Hp → VK → Prop := fun vs H Q => ∃ (a : Addr) (xs : List V) (cs : List (Str × Int)), vs = [.ref a] ∧ SqL K H a xs ∧ Paired (PairAt H) xs cs ∧
  ∀ ys ds p, ds.Perm cs → Asc encP ds → Paired (PairAt H) ys ds → H p = none → Q (.ref p) (upd H p (.lst ys))
theorem cr_srtP (hu : X.A.units + 64 < cLine) : CallR X (.builtin "sorted") (rSrtP X.K) := by
  intro pins s σ H vs us Q I r h
  obtain ⟨a, xs, cs, rfl, hs, hp, q⟩ := h
  obtain ⟨its, rv, hl, hz⟩ := I.list hs
  rw [Vals.ref1 r]
  have ea : PySem.W.EachIs (fun (u : Value) (b : V × (Str × Int)) => RelV b.1 u ∧ PairAt H b.1 b.2) its (xs.zip cs) := each_of (vals_pairs rv) hp fun u x c g f => ⟨g, f⟩
  have l1 : xs.length = cs.length := hp.length
  refine PySem.W.sorted_data (enc := fun b : V × (Str × Int) => encP b.2) (bs := xs.zip cs) (R := fun u b => RelV b.1 u ∧ PairAt H b.1 b.2) hl.isList ea (ea.mono fun u b z => ⟨[], pair_reads I z.1 z.2⟩) ?_ ?_ ?_ ?_ fun out ho eo => ?_
  · rw [show (xs.zip cs).map (fun b => encP b.2) = ((xs.zip cs).map (·.2)).map encP by rw [List.map_map]; rfl]
    exact al_P _
  · rw [show (xs.zip cs).map (fun b => encP b.2) = ((xs.zip cs).map (·.2)).map encP by rw [List.map_map]; rfl]
    exact so_P _
  · rw [List.length_zip]; omega
  · intro b _
    have := dp_P b.2
    omega
  · obtain ⟨e1, e2⟩ := each_out eo
    have pm := List.mergeSort_perm (xs.zip cs) (PySem.W.dataLe false fun b : V × (Str × Int) => encP b.2)
    have as := srt_asc (fun b : V × (Str × Int) => encP b.2) (xs.zip cs)
    obtain ⟨ep, he⟩ := PyProof.Rows.sortedAll_at s.heap its out.toArray
    generalize (xs.zip cs).mergeSort (PySem.W.dataLe false fun b : V × (Str × Int) => encP b.2) = bs' at e1 e2 pm as
    have p2 : (bs'.map (·.2)).Perm cs := by
      have := pm.map (·.2)
      rwa [List.map_snd_zip (Nat.le_of_eq l1.symm)] at this
    have hlen : (bs'.map (·.1)).length ≤ sizeLine := by
      have := p2.length_eq
      rw [List.length_map] at this ⊢
      omega
    exact ⟨.ref _, upd H (s.heap.objs.size + 1) (.lst (bs'.map (·.1))), I.laid (t' := s.toks) (fun _ _ => PyProof.Rows.sortedAll_old) (Nat.le_succ _) ⟨hlen, out, ep, pairs_vals e1, he⟩, rfl,
      q _ _ _ p2 (List.pairwise_map.mpr as) e2 (I.hok.fresh (Nat.le_succ _))⟩
/-- sorted(d) of a dict whose keys are texts, any number of them -/
def rSrtD : List V → Hp → VK → Prop := fun xs H Q => ∃ (a : Addr) (kvs : List (Key × V)) (ks : List Str), xs = [.ref a] ∧ Rd H a (.dK kvs) ∧ kvs.map (·.1) = ks.map Sum.inr ∧
    ∀ ys p, ys.Perm ks → Asc PyData.str ys → H p = none → Q (.ref p) (upd H p (.lst (ys.map V.str)))
theorem each_str {us : List Value} {ks : List Str} (h : StrsAre us ks) : PySem.W.EachIs (fun u k => RelV (.str k) u) us ks := by
  induction h with
  | nil => exact .nil
  | cons k t _ ih => exact .cons ⟨t, rfl⟩ ih
theorem each_vals {us : List Value} {ks : List Str} (h : PySem.W.EachIs (fun u k => RelV (.str k) u) us ks) : Vals (ks.map V.str) us := by
  induction h with
  | nil => exact .nil
  | cons r _ ih => exact .cons r ih
theorem cr_srtD (hc : X.calm = true) (hu : X.A.units + 64 < cLine) : CallR X (.builtin "sorted") rSrtD := by
  intro pins s σ H xs us Q I r q
  obtain ⟨a, kvs, ks, ex, hd, hks, q⟩ := q
  subst ex
  obtain ⟨u, eu, rx⟩ := vals1 r
  subst eu
  cases rx
  obtain ⟨z, lo, vs, rel, dd⟩ := dk_rd I.hok hd
  obtain ⟨ep, hat⟩ := dd.dictAt
  have hkeys : vs.map (·.1) = ks.map Sum.inr := rel.keys.symm.trans hks
  have hl : vs.length = ks.length := by
    have e := congrArg List.length hkeys
    rw [List.length_map, List.length_map] at e
    exact e
  have h16 : vs.length ≤ sizeLine := by rw [← rel.length]; exact z
  refine Calls.call_function_entry PyProof.Rows.kind_sorted PyProof.Rows.plain_sorted PyProof.Rows.entry_sorted (PyProof.Rows.args_sorted1 _) ?_
  unfold Builtin.«sorted»
  refine wpAny_bind (m := checkCount "sorted" 1 1 _) (wpAny_pure ?_)
  refine wpAny_bind (PySem.W.kdu_collect (A := X.A.in1) (PySem.W.kdl_dict (knd := mixKind X.prog X.w) (kvs := vs) (ep := ep) lo) (I.ok.hd hc) hat h16 fun h' tk acc hk hacc => ?_)
  have hal : acc.toList.length = ks.length := by rw [Array.length_toList, hacc.1, hl]
  have hS : StrsAre acc.toList ks := strs_at hal fun j v e => by
    obtain ⟨k, x, e1, e2⟩ := hacc.2 j v (by rw [← Array.getElem?_toList]; exact e)
    have e3 : (vs.map (·.1))[j]? = some k := by rw [List.getElem?_map, e1]; all_goals rfl
    rw [hkeys, List.getElem?_map] at e3
    cases e4 : ks[j]? with
    | none => rw [e4] at e3; cases e3
    | some y =>
      rw [e4] at e3
      have e5 : Sum.inr y = k := Option.some.inj e3
      subst e5
      obtain ⟨t, ev⟩ := Value.isStrOf_shape (x := y) (v := v) e2
      exact ⟨y, t, rfl, ev⟩
  have I1 : Inv X pins σ H { s with heap := h', toks := tk } := I.kept hk
  refine wpAny_bind (wpAny_newList ?_ (by rw [hal, ← hl]; exact h16))
  have hoL : (h'.push (seqObj "list" acc.toList.toArray 0)).get? h'.objs.size = some (seqObj "list" acc.toList.toArray 0) := Heap.get?_push_size _ rfl
  show wpAny _ _ _ _ _ { s with heap := h'.push (seqObj "list" acc.toList.toArray 0), toks := tk }
  have es := each_str hS
  refine wpAny_bind (wpAny_holding (PySem.W.list_sort_data (s := { s with heap := h'.push (seqObj "list" acc.toList.toArray 0), toks := tk }) (enc := PyData.str) (bs := ks) (R := fun u k => RelV (.str k) u) hoL es (es.mono fun u k ⟨t, e⟩ => ⟨[], by rw [e]; exact .str _ _, by simp⟩) (al_S _) (so_S _) (by rw [← hl]; exact h16) (fun b _ => by
      have : (PyData.str b).depth = 0 := by simp [PyData.depth]
      rw [this]
      show X.A.units + 1 + 1 + 0 < cLine
      omega) fun out ho eo => ?_))
  obtain ⟨e', he'⟩ := PyProof.Rows.sortedHeap_at (vs := acc.toList) (out := out.toArray) hoL
  have pm := List.mergeSort_perm ks (PySem.W.dataLe false PyData.str)
  have as := srt_asc PyData.str ks
  generalize ks.mergeSort (PySem.W.dataLe false PyData.str) = ys at eo pm as
  have hlen : (ys.map V.str).length ≤ sizeLine := by
    rw [List.length_map, pm.length_eq, ← hl]; exact h16
  refine wpAny_pure ⟨_, rfl, .ref h'.objs.size, upd H h'.objs.size (.lst (ys.map V.str)), I1.laid (t' := tk) (fun b u e => ?_) (Nat.le_refl _)
    (show ObjOk X.prog X.w _ _ _ (.lst (ys.map V.str)) from ⟨hlen, out, e', each_vals eo, he'⟩), rfl, q ys _ pm as (I1.hok.fresh (Nat.le_refl _))⟩
  have hb : b < h'.objs.size := Heap.lt_size e
  rw [PyProof.Rows.sortedHeap_old (Nat.ne_of_lt hb) (by rw [size_push']; exact Nat.lt_succ_of_lt hb)]
  exact Heap.get?_push_of_some _ e

/-! ### sorted(d.items()) -/
theorem callItemsK {d : Addr} {kvs : List (Key × Value)} {pg : Program} {w : World} {A : Around} {E : Value → Shared → Prop} {s : Shared} {Q : Value → Shared → Prop} (hd : (d == sysModules) = false) (hm : s.heap.DictOf (mixKind pg w) d kvs)
    (h : Q (.ref s.heap.objs.size) { s with heap := s.heap.push { cls := .type "dict_items", data := .fields #[.ref d] } }) : wpAny (model pg w) A (call (.builtin "dict.items") [.ref d]) Q E s := by
  obtain ⟨o, es, ep, h1, h2, h3, _⟩ := hm
  exact DT.callItems (es := es) (ep := ep) hd ⟨o, h1, h2, h3⟩ h
def rItemsK : V → List V → Hp → VK → Prop := fun x xs H Q => ∃ (a : Addr) (kvs : List (Key × V)), x = .ref a ∧ xs = [] ∧ H a = some (.dK kvs) ∧ ∀ p, H p = none → Q (.ref p) (upd H p (DX.itemsO p a))
theorem mt_itemsK : MtR X "dict.items" rItemsK := by
  intro pins s σ H x xs v us Q I rx rxs h
  obtain ⟨a, kvs, rfl, rfl, ha, q⟩ := h
  cases rx
  cases rxs
  obtain ⟨z, lo, vs, rel, dd⟩ := dk_of I.hok ha
  refine callItemsK lo dd ?_
  have hf : H s.heap.objs.size = none := I.hok.fresh (Nat.le_refl _)
  exact ⟨.ref s.heap.objs.size, upd H s.heap.objs.size (DX.itemsO s.heap.objs.size a), I.laid (t' := s.toks) (fun b u e => Heap.get?_push_of_some _ e) (Nat.le_refl _) (DX.itemsO_ok (Heap.get?_push_size _ rfl)), rfl, q _ hf⟩
def kvP (p : Str × Int) : Key × V := (Sum.inr p.1, V.int p.2)
def rSrtIt : List V → Hp → VK → Prop := fun vs H Q => ∃ (p a : Addr) (cs : List (Str × Int)), vs = [.ref p] ∧ H p = some (DX.itemsO p a) ∧ H a = some (.dK (cs.map kvP)) ∧
  ∀ (H' : Hp) (l : Addr) ys ds, Same H H' → ds.Perm cs → Asc encP ds → Paired (PairAt H') ys ds → H' l = some (.lst ys) → Q (.ref l) H'
theorem kv_at {cs : List (Str × Int)} {vs : List (Key × Value)} (rel : KV (cs.map kvP) vs) {j : Nat} {c : Str × Int} (h : cs[j]? = some c) : ∃ t, vs[j]? = some (Sum.inr c.1, Value.int c.2 t) := by
  unfold KV at rel
  have e : (cs.map kvP)[j]? = some (kvP c) := by rw [List.getElem?_map, h]; rfl
  obtain ⟨b, hb, h1, t, h2⟩ := pgetL rel e
  refine ⟨t, ?_⟩
  rw [hb]
  cases b
  exact congrArg some (Prod.ext h1.symm h2)
theorem cr_srtIt (hc : X.calm = true) (hu : X.A.units + 64 < cLine) : CallR X (.builtin "sorted") rSrtIt := by
  intro pins s σ H xs us Q I r h
  obtain ⟨p, a, cs, rfl, hp, ha, q⟩ := h
  obtain rfl := Vals.ref1 r
  have view : s.heap.IsItemsView p a := (show ObjOk X.prog X.w H s.heap p (DX.itemsO p a) from I.hok p _ hp).1
  obtain ⟨z, lo, vs, rel, o, es, ep, ho, hx, hdat, kof, prs, hnd⟩ := dk_of I.hok ha
  have l1 : vs.length = cs.length := by rw [← rel.length, List.length_map]
  have l2 : es.size = cs.length := by rw [← Array.length_toList, prs.length, l1]
  have z' : cs.length ≤ sizeLine := by rw [List.length_map] at z; exact z
  have hh : X.A.handled = none := I.ok.hd hc
  refine DT.sortedI (es := es) (ep := ep) hh view ⟨o, ho, hx, hdat⟩ (by omega) fun h' tk as hk hlt hl hG => ?_
  have lak : as.length = cs.length := by omega
  have nd : as.Nodup := List.Pairwise.imp (fun h => Nat.ne_of_lt h) hG.rise
  have pr : ∀ (j : Nat) (b : Addr), as[j]? = some b → ∃ (c : Str × Int) (t1 t2 : Tok), cs[j]? = some c ∧ h'.get? b = some { cls := .type "tuple", data := .seq #[Value.str c.1 t1, Value.int c.2 t2] } := by
    intro j b hj
    obtain ⟨en, he, hg⟩ := hG.pairs j b hj
    have hjl : j < cs.length := by rw [← lak]; exact (List.getElem?_eq_some_iff.mp hj).1
    have ec : cs[j]? = some cs[j] := List.getElem?_eq_getElem hjl
    obtain ⟨t, ev⟩ := kv_at rel ec
    obtain ⟨k1, k2⟩ := prs.get? (by rw [Array.getElem?_toList]; exact he) ev
    have k1' : keyIs (Sum.inr cs[j].1) en.key = true := k1
    rcases keyIs_shape k1' with ⟨i, t0, e, _⟩ | ⟨x, t0, e, ek⟩
    · cases e
    · cases e
      refine ⟨cs[j], t0, t, ec, ?_⟩
      rw [hg, ek, k2]
  have hob : (h'.push { cls := .type "list", data := .seq (as.map Value.ref).toArray }).get? h'.objs.size = some (seqObj "list" (as.map Value.ref).toArray 0) := Heap.get?_push_size _ rfl
  have kb : ∀ b o, s.heap.get? b = some o → (h'.push { cls := .type "list", data := .seq (as.map Value.ref).toArray }).get? b = some o := fun b o e => Heap.get?_push_of_some _ (hk b o e)
  have ne0 : ∀ b o, h'.get? b = some o → b ≠ h'.objs.size := fun b o e => Nat.ne_of_lt (Heap.lt_size e)
  generalize hh2 : h'.push { cls := .type "list", data := .seq (as.map Value.ref).toArray } = h2 at hob kb ⊢
  have ka : ∀ b o, h'.get? b = some o → h2.get? b = some o := fun b o e => by rw [← hh2]; exact Heap.get?_push_of_some _ e
  let TP : Addr → (Str × Int) → Prop := fun b c => b ∈ as ∧ ∃ t1 t2, h'.get? b = some { cls := .type "tuple", data := .seq #[Value.str c.1 t1, Value.int c.2 t2] }
  have pas : Paired TP as cs := by
    refine paired_of_idx lak fun j b c hb hc => ?_
    obtain ⟨c', t1, t2, e1, e2⟩ := pr j b hb
    cases e1.symm.trans hc
    exact ⟨List.mem_of_getElem? hb, t1, t2, e2⟩
  have pvs : Paired (fun (b : Addr) (u : Value) => u = Value.ref b) as (as.map Value.ref) := by
    clear pas nd pr hG hl lak hh2 hob kb q
    induction as with
    | nil => exact .nil
    | cons b l ih => exact .cons rfl ih
  have ea : PySem.W.EachIs (fun (u : Value) (b : Addr × (Str × Int)) => u = Value.ref b.1 ∧ TP b.1 b.2) (as.map Value.ref) (as.zip cs) := each_of pvs pas fun u x c g f => ⟨g, f⟩
  have rd : ∀ (h3 : Heap), (∀ b o, h'.get? b = some o → h3.get? b = some o) → ∀ (u : Value) (b : Addr × (Str × Int)), (u = Value.ref b.1 ∧ TP b.1 b.2) → Reads h3 u (encP b.2) [] := by
    rintro h3 k3 u b ⟨rfl, _, t1, t2, e⟩
    exact .tuple (k3 _ _ e) rfl rfl (.cons (as := []) (bs := []) (.str _ _) (.cons (as := []) (bs := []) (.int _ _) .nil))
  refine PySem.W.list_sort_data (s := { s with heap := h2, toks := tk }) (enc := fun b : Addr × (Str × Int) => encP b.2) (bs := as.zip cs) (R := fun u b => u = Value.ref b.1 ∧ TP b.1 b.2) hob ea (ea.mono fun u b z => ⟨[], rd h2 ka u b z, by simp⟩) ?_ ?_ ?_ ?_ fun out ho eo => ?_
  · rw [show (as.zip cs).map (fun b => encP b.2) = ((as.zip cs).map (·.2)).map encP by rw [List.map_map]; rfl]
    exact al_P _
  · rw [show (as.zip cs).map (fun b => encP b.2) = ((as.zip cs).map (·.2)).map encP by rw [List.map_map]; rfl]
    exact so_P _
  · rw [List.length_zip]; omega
  · intro b _
    have := dp_P b.2
    show X.A.units + 1 + 1 + _ < cLine
    omega
  · show EP X pins σ Q (.ref h'.objs.size) { s with heap := sortedHeap h2 h'.objs.size (as.map Value.ref) out.toArray, toks := tk }
    obtain ⟨e1, e2⟩ := each_out (G := fun b u => u = Value.ref b) (F := TP) eo
    have pm := List.mergeSort_perm (as.zip cs) (PySem.W.dataLe false fun b : Addr × (Str × Int) => encP b.2)
    have asc := srt_asc (fun b : Addr × (Str × Int) => encP b.2) (as.zip cs)
    generalize (as.zip cs).mergeSort (PySem.W.dataLe false fun b : Addr × (Str × Int) => encP b.2) = bs' at e1 e2 pm asc
    have p2 : (bs'.map (·.2)).Perm cs := by
      have := pm.map (·.2)
      rwa [List.map_snd_zip (Nat.le_of_eq lak.symm)] at this
    have kF : ∀ b o, b ≠ h'.objs.size → h2.get? b = some o → (sortedHeap h2 h'.objs.size (as.map Value.ref) out.toArray).get? b = some o := fun b o hb e => (PyProof.Rows.sortedHeap_old hb (Heap.lt_size e)).trans e
    have kS : ∀ b o, s.heap.get? b = some o → (sortedHeap h2 h'.objs.size (as.map Value.ref) out.toArray).get? b = some o := fun b o e => kF b o (ne0 _ _ (hk b o e)) (kb b o e)
    obtain ⟨eF, heF⟩ := PyProof.Rows.sortedHeap_at (vs := as.map Value.ref) (out := out.toArray) hob
    have I1 : Inv X pins σ H { s with heap := sortedHeap h2 h'.objs.size (as.map Value.ref) out.toArray, toks := tk } := I.kept (t' := tk) kS
    have hn0 : H h'.objs.size = none := I.hok.fresh (Nat.le_of_lt hlt)
    have hlen : ((bs'.map (·.1)).map V.ref).length ≤ sizeLine := by
      have := p2.length_eq
      rw [List.length_map] at this
      rw [List.length_map, List.length_map]
      omega
    have rv : Vals ((bs'.map (·.1)).map V.ref) out := by
      have := peq (l := out) (m := bs'.map (·.1)) (f := Value.ref) (pflip e1)
      rw [this]
      exact vals_maps (fun z : Addr => V.ref z) (fun z => Value.ref z) _ fun _ _ => rfl
    have I2 : Inv X pins σ (upd H h'.objs.size (.lst ((bs'.map (·.1)).map V.ref))) { s with heap := sortedHeap h2 h'.objs.size (as.map Value.ref) out.toArray, toks := tk } :=
      I1.take (h' := sortedHeap h2 h'.objs.size (as.map Value.ref) out.toArray) (t' := tk) (fun b ob _ e => e) (I.fpOk (Nat.le_of_lt hlt) hn0) ⟨hlen, out, eF, rv, heF⟩
    obtain ⟨H2, I3, g, qt⟩ := DX.takeT (P := fun b vs => ∃ (j : Nat) (c : Str × Int), as[j]? = some b ∧ cs[j]? = some c ∧ vs = [.str c.1, .int c.2]) I as _ I2 nd fun b hb => by
      obtain ⟨j, hj⟩ := List.mem_iff_getElem?.mp hb
      obtain ⟨c, t1, t2, hc, hg⟩ := pr j b hj
      have hbl : s.heap.objs.size ≤ b := Nat.le_of_lt (hG.above b hb)
      refine ⟨hbl, ?_, [.str c.1, .int c.2], ⟨j, c, hj, hc, rfl⟩, fun H3 => ⟨(by rw [sizeLine_eq]; show 2 ≤ 16777216; omega), [Value.str c.1 t1, Value.int c.2 t2], .cons ⟨_, rfl⟩ (.cons ⟨_, rfl⟩ .nil), ⟨_, kF _ _ (ne0 _ _ hg) (ka _ _ hg), rfl, 0, rfl⟩⟩⟩
      rw [upd_ne (ne0 _ _ hg)]
      exact I.hok.fresh hbl
    have gr : ∀ b o, H b = some o → H2 b = some o := fun b o e => g b o (by rw [upd_ne (ne_of_none e hn0)]; exact e)
    refine ⟨.ref h'.objs.size, H2, I3, rfl, q H2 h'.objs.size _ (bs'.map (·.2)) gr p2 (show Asc encP (bs'.map (·.2)) from List.pairwise_map.mpr asc) ?_ (g _ _ upd_same)⟩
    rw [List.map_map]
    refine pmap fun zc hz => ?_
    have hz' := pm.mem_iff.mp hz
    obtain ⟨j, hj⟩ := List.mem_iff_getElem?.mp hz'
    obtain ⟨j1, j2⟩ := List.getElem?_zip_eq_some.mp hj
    obtain ⟨vs, ⟨i, c, i1, i2, ev⟩, hH⟩ := qt zc.1 (List.mem_of_getElem? j1)
    have eij : i = j := (List.getElem?_inj (List.getElem?_eq_some_iff.mp i1).1 nd).mp (i1.trans j1.symm)
    subst eij
    have ec : c = zc.2 := Option.some.inj (i2.symm.trans j2)
    rw [ev, ec] at hH
    exact ⟨zc.1, rfl, hH⟩
end
end Kn
set_option Elab.async false
set_option linter.all false
set_option maxRecDepth 100000
set_option maxHeartbeats 4000000
/-! Rules: tuples known to the object, dict of a tuple, text times int, least of three, a dict's items with tuple keys, a display with a tuple key. -/
namespace Kn
open PySem PySem.Spec PyProof.Rows L2 KM
section
variable {X : Cx}
/-! ### tuples known to the object -/
def tTupF (t : TA) : TE := fun σ H Q => t σ H fun xs H1 => xs.length ≤ sizeLine ∧ ∀ p o, o.dict = none → H1 p = none → Q (.ref p) (upd H1 p (.frz o (.tup xs)))
theorem pe_tupF {es : List Expr} {t : TA} {pos : Pos} {x1} (h : PA X es t) : PE X (.Tuple es x1 pos) (tTupF t) := by
  refine ⟨fun pins s σ H Q I hq => ?_⟩
  refine wpAny_Tuple_spliced (thn (h.run pos pins s σ H _ I hq) fun us s1 ⟨xs, H1, I1, r, z, q⟩ => ⟨by rw [← r.length]; exact z, ?_⟩)
  have hf : H1 s1.heap.objs.size = none := I1.hok.fresh (Nat.le_refl _)
  refine ⟨.ref s1.heap.objs.size, upd H1 s1.heap.objs.size (.frz { cls := .type "tuple", data := .seq us.toArray } (.tup xs)), I1.laid (t' := s1.toks) (fun b u e => Heap.get?_push_of_some _ e) (Nat.le_refl _) ?_, rfl, q _ _ rfl hf⟩
  exact ⟨Heap.get?_push_size _ rfl, z, us, r, ⟨_, Heap.get?_push_size _ rfl, rfl, _, rfl⟩⟩
/-- tuple(xs) of a list -/
def rTupF (K : PySem.W.Frag) : List V → Hp → VK → Prop := fun xs H Q => ∃ p ys, xs = [.ref p] ∧ SqL K H p ys ∧ ∀ l o, o.dict = none → H l = none → Q (.ref l) (upd H l (.frz o (.tup ys)))
theorem cr_tupF : CallR X (.type "tuple") (rTupF X.K) := by
  intro pins s σ H xs us Q I r h
  obtain ⟨p, ys, rfl, hq, q⟩ := h
  obtain ⟨u, rfl, rx⟩ := vals1 r
  cases rx
  obtain ⟨its, r', pl, hz⟩ := I.list hq
  have hlen := r'.length
  refine call_tuple_list pl.isList (fun h' kp => ?_) (by simp only [List.size_toArray] <;> omega)
  have I1 : Inv X pins σ H { s with heap := h' } := I.kept (t' := s.toks) kp
  have I2 : Inv X pins σ (upd H h'.objs.size (.frz { cls := .type "tuple", data := .seq its.toArray } (.tup ys))) { s with heap := h'.push { cls := .type "tuple", data := .seq its.toArray } } :=
    I1.laid (t' := s.toks) (fun b o e => Heap.get?_push_of_some _ e) (Nat.le_refl _) ⟨Heap.get?_push_size _ rfl, hz, its, r', IsTup.new _ _⟩
  exact ⟨.ref h'.objs.size, _, I2, rfl, q _ _ rfl (I1.hok.fresh (Nat.le_refl _))⟩

/-! ### dict(xs), xs a tuple of (text, int) with unlike texts -/
theorem pairs_at {pins : List (Addr × Obj)} {σ : L2.St} {H : Hp} {s : Shared} (I : Inv X pins σ H s) : ∀ {xs : List V} {us : List Value} {cs : List (Str × Int)}, Vals xs us → Paired (PairAt H) xs cs →
    ∃ (prs : List (Key × Value)) (kps : List (Value × Value)) (Ts : List Addr), KV (cs.map kvP) prs ∧ prs.length = us.length ∧ kps.length = us.length ∧ Ts.length = us.length ∧
      ∀ (j : Nat) (k v : Value), kps[j]? = some (k, v) → (∃ b, Ts[j]? = some b ∧ us[j]? = some (.ref b) ∧ s.heap.IsTuple b #[k, v]) ∧ ∃ c, prs[j]? = some (c, v) ∧ keyIs c k = true
  | _, _, _, .nil, .nil => ⟨[], [], [], .nil, rfl, rfl, rfl, fun j k v e => by simp at e⟩
  | _, _, _, .cons r rt, .cons h t => by
    obtain ⟨prs, kps, Ts, e1, e2, e3, e4, e5⟩ := pairs_at I rt t
    obtain ⟨a, rfl, ha⟩ := h
    cases r
    obtain ⟨_, its, rv, o, ho, hc, n, hd⟩ := I.hok _ _ ha
    obtain ⟨u1, u2, rfl, ri, rj⟩ := vals2 rv
    refine ⟨(Sum.inr _, u2) :: prs, (u1, u2) :: kps, a :: Ts, .cons ⟨rfl, rj⟩ e1, by simp [e2], by simp [e3], by simp [e4], fun j k v e => ?_⟩
    cases j with
    | zero =>
      have e' : (u1, u2) = (k, v) := Option.some.inj e
      cases e'
      exact ⟨⟨a, rfl, rfl, o, ho, hc, n, hd⟩, _, rfl, kV_is (P := X.prog) (w := X.w) (k := Sum.inr _) ri⟩
    | succ j =>
      obtain ⟨⟨b, b1, b2, b3⟩, c, c1, c2⟩ := e5 j k v (by simpa using e)
      exact ⟨⟨b, by simpa using b1, by simpa using b2, b3⟩, c, by simpa using c1, c2⟩
theorem putK_all : ∀ (more : List (Key × V)) (kvs : List (Key × V)), ((kvs ++ more).map (·.1)).Nodup → mergeK kvs more = kvs ++ more
  | [], kvs, _ => by simp [mergeK]
  | p :: r, kvs, h => by
    have hn : valV kvs p.1 = none := by
      cases e : valV kvs p.1 with
      | none => rfl
      | some v =>
        have a : (kvs.any fun kv => decide (kv.1 = p.1)) = true := by rw [valV_any, e]; rfl
        obtain ⟨kv, m, e2⟩ := List.any_eq_true.mp a
        have e3 := of_decide_eq_true e2
        rw [List.map_append, List.map_cons, List.nodup_append] at h
        exact absurd e3 (h.2.2 _ (List.mem_map.mpr ⟨kv, m, rfl⟩) _ List.mem_cons_self)
    show mergeK (putK kvs p.1 p.2) r = _
    rw [putK_new _ hn, putK_all r _ (by rw [List.append_assoc]; exact h), List.append_assoc]
    rfl
theorem kvP_nd {cs : List (Str × Int)} (h : (nms cs).Nodup) : ((cs.map kvP).map (·.1)).Nodup := by
  rw [List.map_map]
  have : (fun x => x.1) ∘ kvP = fun p : Str × Int => (Sum.inr p.1 : Key) := rfl
  rw [this]
  unfold nms List.Nodup at *
  rw [List.pairwise_map] at *
  exact h.imp fun {a b} q e => q (Sum.inr.inj e)
def rDictT : List V → Hp → VK → Prop := fun xs H Q => ∃ (a : Addr) (ys : List V) (cs : List (Str × Int)), xs = [.ref a] ∧ FT H a ys ∧ Paired (PairAt H) ys cs ∧ (nms cs).Nodup ∧ ∀ p, H p = none → Q (.ref p) (upd H p (.dK (cs.map kvP)))
theorem cr_dictT (hc : X.calm = true) : CallR X (.type "dict") rDictT := by
  intro pins s σ H xs us Q I r h
  obtain ⟨a, ys, cs, rfl, ⟨o, on, ha⟩, hp, nd, q⟩ := h
  obtain ⟨u, rfl, rx⟩ := vals1 r
  cases rx
  obtain ⟨ho, z, its, rv, o', ho', hcl, n, hdat⟩ := I.hok _ _ ha
  rw [ho] at ho'
  cases ho'
  obtain ⟨prs, kps, Ts, rel, l1, l2, l3, hk⟩ := pairs_at I rv hp
  have lz : its.length ≤ sizeLine := by rw [← rv.length]; exact z
  have PA := PairArg.tuple (prog := X.prog) (w := X.w) a its.toArray (fun j => Ts.getD j 0) kps
  refine PySem.call_dict_pairs (knd := mixKind X.prog X.w) (kvs := prs) PA (I.ok.hd hc) ⟨⟨o, n, ho, hcl, on, hdat⟩, ?_, fun j k v e => ?_⟩ ⟨by omega, fun j k v e => ?_⟩ (by omega) fun h' tk hd' kp => ?_
  · rw [List.size_toArray, l2]
  · obtain ⟨⟨b, b1, b2, b3⟩, _⟩ := hk j k v e
    have eb : Ts.getD j 0 = b := by rw [List.getD_eq_getElem?_getD, b1]; rfl
    refine ⟨?_, ?_⟩
    · show its.toArray[j]? = some (.ref (Ts.getD j 0))
      rw [eb, List.getElem?_toArray, b2]
    · show PySem.PairAt s.heap (Ts.getD j 0) k v
      rw [eb]; exact .inl b3
  · obtain ⟨_, c, c1, c2⟩ := hk j k v e
    exact ⟨c, c1, c2⟩
  · have hm : (s.heap.objs.size == sysModules) = false := beq_eq_false_iff_ne.mpr (Nat.ne_of_gt I.big)
    have em : mergeK [] (cs.map kvP) = cs.map kvP := putK_all (cs.map kvP) [] (kvP_nd nd)
    have rel2 : KV (cs.map kvP) (merged [] prs) := by
      have := KV.merge rel .nil
      rwa [em] at this
    have hlen : (cs.map kvP).length ≤ sizeLine := by rw [rel.length, l1]; exact lz
    exact ⟨.ref s.heap.objs.size, upd H s.heap.objs.size (.dK (cs.map kvP)), I.laid (t' := tk) (fun b o e => kp b o (by simp) e) (Nat.le_refl _) (show ObjOk X.prog X.w _ _ _ (.dK (cs.map kvP)) from ⟨hlen, hm, merged [] prs, rel2, hd'⟩), rfl, q _ (I.hok.fresh (Nat.le_refl _))⟩

/-! ### text * int, the least of three -/
theorem op_mulStr : OpR X (binaryOp .Mult) (fun x y H Q => ∃ (z : Str) (n : Int), x = .str z ∧ y = .int n ∧ MulOk z n ∧ Q (.str (Txt.mul z n)) H) := by
  intro pins s σ H x y v u Q I rx ry h
  obtain ⟨z, n, rfl, rfl, hok, q⟩ := h
  obtain ⟨t, rfl⟩ := rx
  obtain ⟨t2, rfl⟩ := ry
  exact SB.mul hok fun t' k => ⟨.str (Txt.mul z n), H, I.tok _, ⟨_, rfl⟩, q⟩
theorem nu3 (a b c : Int) : nuMin3 (.int a) (.int b) (.int c) = some (.int (min (min a b) c)) := by
  have h2 : ∀ x y : Int, nuMin2 (.int x) (.int y) = some (.int (min x y)) := by
    intro x y
    have e : nuLt (.int y) (.int x) = some (decide (y < x)) := rfl
    unfold nuMin2
    rw [e]
    by_cases h : y < x
    · simp [h]; omega
    · simp [h]; omega
  unfold nuMin3
  rw [h2 a b]
  exact h2 _ _

/-! ### for k, v in d.items(), keys tuples -/
/-- the pairs, each a new tuple, the key's own tuple within -/
def ItiT (d : Addr) (o : Obj) (kvs : List (List Key × V)) : It :=
  ⟨fun i H => H d = some (.frz o (.dT kvs)) ∧ i < kvs.length, fun i H x H' => ∃ T q k v, kvs[i]? = some (k, v) ∧ x = .ref T ∧ H T = none ∧ H q = some (.tup (k.map kV)) ∧ H' = upd H T (.tup [.ref q, v]), fun i H => H d = some (.frz o (.dT kvs)) ∧ kvs.length ≤ i⟩
theorem frzT2 {pins : List (Addr × Obj)} {σ : L2.St} {H : Hp} {s : Shared} {d : Addr} {o : Obj} {kvs : List (List Key × V)} (I : Inv X pins σ H s) (h : H d = some (.frz o (.dT kvs))) :
    (d == sysModules) = false ∧ s.heap.get? d = some o ∧ o.ExactDict ∧ ∃ (es : Array DictEntry) (ep : Nat), o.data = .dict es ep ∧ es.size = kvs.length ∧
      ∀ (i : Nat) (k : List Key) (v : V), kvs[i]? = some (k, v) → ∃ (en : DictEntry) (q : Addr), es[i]? = some en ∧ en.key = .ref q ∧ RelV v en.val ∧ H q = some (.tup (k.map kV)) := by
  obtain ⟨hd, z, hs, xs, pr, o', es, ep, ho, hx, hdt, he, _⟩ := I.hok d _ h
  rw [hd] at ho
  cases ho
  refine ⟨hs, hd, hx, es, ep, hdt, ?_, fun i k v e => ?_⟩
  · have l1 : es.size = xs.length := size_of_entries he
    have l2 : kvs.length = xs.length := Paired.length pr
    omega
  · obtain ⟨b, hb, e1, e2, e3⟩ := pgetL pr e
    have q := entry_at he i
    rw [hb] at q
    exact ⟨_, b.2.1, q, rfl, e3, e2⟩
theorem turn_itemsT {P : Program} {w : World} {K : PySem.W.Frag} {d : Addr} {o : Obj} {es : Array DictEntry} {ep : Nat} {kvs : List (List Key × V)} {elts : List Expr} {kk : Nat} {tpos : Pos} (it : Addr) (hod : o.data = .dict es ep) :
    Turn P w K (.Tuple elts kk tpos) (ItiT d o kvs) [it] it (fun i h => ∃ ok ov, IsItemIter h it d i es.size ep ok ov) where
  mem := by simp
  obj := fun i h st b hb => by
    have e : b = it := by simpa using hb
    subst e
    obtain ⟨ok, ov, e⟩ := st
    exact ⟨_, e, fun v z => nomatch z⟩
  keep := fun i h h' st k => let ⟨ok, ov, e⟩ := st; ⟨ok, ov, k it (by simp) _ e⟩
  item := by
    intro X hP hw hK hc i pins s σ H E I hf st hg
    subst hP hw hK
    obtain ⟨hd, hi⟩ := hg
    obtain ⟨hs, hgd, hx, es', ep', hdt, hsz, kv⟩ := frzT2 I hd
    obtain ⟨rfl, rfl⟩ := dict_ep hod hdt
    obtain ⟨⟨k, v⟩, hkv⟩ : ∃ p, kvs[i]? = some p := ⟨kvs[i], List.getElem?_eq_getElem hi⟩
    obtain ⟨en, q, hen, hq, rv, htup⟩ := kv i k v hkv
    obtain ⟨ok, ov, he⟩ := st
    have hlt : it < s.heap.objs.size := Heap.lt_size he
    have hil : i < es'.size := by omega
    have een : es'[i] = en := Option.some.inj ((Array.getElem?_eq_getElem hil).symm.trans hen)
    refine DT.nextI he ⟨o, hgd, hx, hdt⟩ hil fun h' ho hT hz hk => ?_
    rw [een, hq] at hT
    refine ⟨_, rfl, wpAny_letOwnedTupleGo_items (s := { s with heap := h' }) ho fun h'' he' sb => ?_⟩
    have hT2 : h''.get? s.heap.objs.size = some { cls := .type "tuple", data := .seq #[.ref q, en.val] } := (sb.2 _ (Nat.ne_of_gt hlt)).trans hT
    have new : ObjOk X.prog X.w (upd H s.heap.objs.size (.tup [.ref q, v])) h'' s.heap.objs.size (.tup [.ref q, v]) :=
      ⟨by show 2 ≤ sizeLine; decide, [.ref q, en.val], .cons rfl (.cons rv .nil), ⟨_, hT2, rfl, _, rfl⟩⟩
    have I1 : Inv X pins σ (upd H s.heap.objs.size (.tup [.ref q, v])) { s with heap := h'' } :=
      I.turnedNew (t' := s.toks) (ch := [it]) (fun b ob hb e => (sb.2 b (by simpa using hb)).trans (hk b ob (by simpa using hb) e)) hf (Nat.le_refl _) new
    refine ⟨.ref s.heap.objs.size, _, I1, rfl, ⟨_, q, k, v, hkv, rfl, I.hok.fresh (Nat.le_refl _), htup, rfl⟩, ⟨_, _, he'⟩, fun b hb => ?_⟩
    have e : b = it := by simpa using hb
    rw [e, upd_ne (Nat.ne_of_lt hlt)]
    exact (hf it (by simp)).1
  done := by
    intro X hP hw hK hc i pins s σ H E I hf st hg
    subst hP hw hK
    obtain ⟨hd, hi⟩ := hg
    obtain ⟨f0, f1, f2, f3, f4, f5⟩ := hf it (by simp)
    obtain ⟨hs, hgd, hx, es', ep', hdt, hsz, kv⟩ := frzT2 I hd
    obtain ⟨rfl, rfl⟩ := dict_ep hod hdt
    obtain ⟨ok, ov, he⟩ := st
    exact DT.endI (I.ok.hd hc) he ⟨o, hgd, hx, hdt⟩ (by omega) fun h' eb => ⟨rfl, I.turned (t' := s.toks) (fun b ob hb e => eb b ob hb e) f0 f1 f3 f4 f5⟩
  self := fun A i s Q E st h => let ⟨_, _, e⟩ := st; PySem.W.kcp_self e h
def iItemsT (td : TE) : TI := fun σ H R => td σ H fun x H1 => ∃ d o kvs, x = .ref d ∧ H1 d = some (.frz o (.dT kvs)) ∧ R (ItiT d o kvs) H1
theorem pi_itemsT {e : Expr} {td : TE} {apos cpos : Pos} {elts : List Expr} {kk : Nat} {tpos : Pos} (he : PE X e td) (hbase : attributeBase e "items" X.env (eval e X.env) = eval e X.env := by rfl) (hline : (apos.endLine == cpos.line) = true := by rfl) :
    PI X (.Tuple elts kk tpos) (.Call (.Attribute e "items" apos) [] [] cpos) (iItemsT td) := by
  refine ⟨fun pins s σ H R I h => ?_⟩
  refine wpAny_Call_method (T := "dict") (id := "dict.items") hbase rfl hline F.plainAttrs_dict F.slot_dict_items F.type_dict_items (thn (he.run pins s σ H _ I h) fun u s1 ⟨x, H1, I1, rx, d, o, kvs, ex, hd, q⟩ => ?_)
  subst ex
  obtain rfl : u = Value.ref d := rx
  obtain ⟨t1, t2, _⟩ := isD_at I1 (.inr ⟨kvs, .inr ⟨o, hd⟩⟩)
  obtain ⟨hs, hgd, hx, es, ep, hdt, hsz, kv⟩ := frzT2 I1 hd
  refine ⟨t1, t2, ?_⟩
  have I2 : Inv X pins σ H1 { s1 with heap := s1.heap.push { cls := .type "dict_items", data := .fields #[.ref d] } } := I1.kept (t' := s1.toks) fun b ob q => Heap.get?_push_of_some _ q
  have fin : wpAny (model X.prog X.w) X.A (pyIter (.ref s1.heap.objs.size)) (PIE X pins σ (.Tuple elts kk tpos) R) X.xe { s1 with heap := s1.heap.push { cls := .type "dict_items", data := .fields #[.ref d] } } := by
    refine DT.iterI (d := d) (es := es) (ep := ep) ⟨_, Heap.get?_push_size _ rfl, rfl, rfl⟩ (DT.Raw.push ⟨o, hgd, hx, hdt⟩ _) (pi_one (tk := s1.toks) I2 _ (turn_itemsT _ hdt) ⟨.none, .none, ?_⟩ q)
    exact Heap.get?_push_size _ rfl
  show wpAny _ _ (callWith cpos (.builtin "dict.items") [.ref d] [] []) _ X.xe s1
  exact method_meetsIn F.slot_dict_items F.entry_dict_items rfl (PySem.evalArgs_none ⟨rfl, t1, F.args_dict_items_1 _, _, DT.meetsItems (es := es) (ep := ep) hs, ⟨o, hgd, hx, hdt⟩, fin⟩)
theorem walk_itemsT {d : Addr} {o : Obj} {kvs : List (List Key × V)} : Walk (ItiT d o kvs) kvs.length (fun H => H d = some (.frz o (.dT kvs)))
    (fun i H x H' => ∃ T q k v, kvs[i]? = some (k, v) ∧ x = .ref T ∧ H T = none ∧ H q = some (.tup (k.map kV)) ∧ H' = upd H T (.tup [.ref q, v])) :=
  ⟨fun _ _ hi q => ⟨q, hi⟩, fun _ q => ⟨q, Nat.le_refl _⟩, fun _ _ _ _ _ _ y => y⟩

/-! ### {k: v}, k a tuple -/
def tDispT (tk tv : TE) : TE := fun σ H Q => ∀ p, H p = none → tk σ (upd H p (.dT [])) fun x H1 => tv σ H1 fun y H2 => H2 p = some (.dT []) ∧ ∃ b k, x = .ref b ∧ H2 b = some (.tup (k.map kV)) ∧ Q (.ref p) (upd H2 p (.dT [(k, y)]))
theorem pe_dispT {pos : Pos} {k v : Expr} {tk tv : TE} (hu : X.A.units + 64 < cLine) (hk : PE X k tk) (hv : PE X v tv) : PE X (.Dict [some k] [v] pos) (tDispT tk tv) := by
  refine ⟨fun pins s σ H Q I q => ?_⟩
  have hn := I.hok.fresh (Nat.le_refl s.heap.objs.size)
  have I1 := I.laid (a := s.heap.objs.size) (o := .dT []) (h' := s.heap.push { cls := .type "dict", data := .dict #[] }) (t' := s.toks) (fun _ _ q => Heap.get?_push_of_some _ q) (Nat.le_refl _) (dt_empty s.heap I.big)
  rw [arm_eval_Dict, zip_pairTrees [some k] [v] X.env pos rfl rfl, dictDisplay_pairs (pairTrees [some k] [v] X.env pos) (by simp [pairTrees]) (by simp [pairTrees])]
  refine wpAny_bind (wpAny_standAt (wpAny_bind (wpAny_subDictH (knd := tupleKind (mixKind X.prog X.w)) (Q := fun d s' => wpAny (model X.prog X.w) X.A (pure (Value.ref d)) (EP X pins σ Q) X.xe s') (show X.A.units < cLine by omega) (by simp [pairTrees]) ?_)))
  have hp : PPs X pos [some k] [v] [(tk, tv)] := pps_cons hk hv pps_nil
  refine thn (hp.run pins _ σ _ (fun ps H2 => match ps with
    | [(x, y)] => H2 s.heap.objs.size = some (.dT []) ∧ ∃ b k, x = .ref b ∧ H2 b = some (.tup (k.map kV)) ∧ Q (.ref s.heap.objs.size) (upd H2 s.heap.objs.size (.dT [(k, y)]))
    | _ => False) I1 (q _ hn)) fun ws s2 ⟨ps, H2, I2, rel, qq⟩ => ?_
  obtain ⟨x, y, rfl⟩ : ∃ x y, ps = [(x, y)] := by
    match ps, qq with
    | [(x, y)], _ => exact ⟨x, y, rfl⟩
  obtain ⟨e, b, k', ex, hb, q2⟩ := qq
  subst ex
  obtain ⟨w1, w2, rfl, r1, r2⟩ : ∃ w1 w2, ws = [(w1, w2)] ∧ RelV (.ref b) w1 ∧ RelV y w2 := by
    cases rel with
    | cons r rt =>
      cases rt
      exact ⟨_, _, rfl, r.1, r.2⟩
  cases (show w1 = Value.ref b from r1)
  obtain ⟨z, hd, xs, rel, dd⟩ := dt_of I2.hok e
  cases rel
  refine ⟨[(k', b, w2)], ⟨rfl, rfl, key_of I2.hok hb, trivial⟩, dd, fun h' tk' dd' hs => wpAny_pure ⟨.ref s.heap.objs.size, _, ?_, rfl, q2⟩⟩
  obtain ⟨o, es, epp, ho, h2, h3, h4, _, h5⟩ := dd'
  refine d_write I2 (by rw [e]; exact True.intro) hs ⟨o, ho⟩ ⟨by show 1 ≤ sizeLine; decide, hd, [(k', b, w2)], ?_, o, es, epp, ho, h2, h3, h4, h5⟩
  refine .cons ⟨rfl, ?_, r2⟩ .nil
  rw [upd_ne (ne_of hb e fun z => nomatch z)]
  exact hb
end
end Kn
set_option Elab.async false
set_option linter.all false
set_option maxRecDepth 100000
set_option maxHeartbeats 4000000
/-! list(zip(a, b)) of two lists: the new pairs. -/
namespace Kz
open PySem PySem.W PySem.Calls PyProof.Rows PyProof.V PySem.Spec
theorem zip_no_len : typeLookup (.type "zip") "__len__" = pure none := by rw [typeLookup_type, builtinLookup_eq_fast]; kernel_rfl
theorem zip_no_hint : typeLookup (.type "zip") "__length_hint__" = pure none := by rw [typeLookup_type, builtinLookup_eq_fast]; kernel_rfl
/-- zip's state while the list at S is filled -/
def ZS (h : Heap) (z TI TO i1 i2 l1 l2 : Addr) (xs ys : Array Value) (S : Addr) (i : Nat) : Prop :=
  PySem.IsPair h TI (.ref i1) (.ref i2) ∧ h.IsListIter i1 l1 i ∧ h.IsListIter i2 l2 i ∧ h.IsList l1 xs ∧ h.IsList l2 ys ∧
    ((IsZip h z TI TO .none ∧ ∃ a b, PySem.IsPair h TO a b) ∨ ∃ T f oT, IsZipHeld h z TI TO T f ∧ h.get? T = some oT ∧ T ≠ z ∧ T ≠ i1 ∧ T ≠ i2 ∧ T ≠ S)
structure Off (z TI TO i1 i2 l1 l2 S : Addr) : Prop where
  z : z < S
  TI : TI < S
  TO : TO < S
  i1 : i1 < S
  i2 : i2 < S
  l1 : l1 < S
  l2 : l2 < S
theorem ZS.keep {h h' : Heap} {z TI TO i1 i2 l1 l2 S : Addr} {xs ys : Array Value} {i : Nat} (x : ZS h z TI TO i1 i2 l1 l2 xs ys S i) (D : Off z TI TO i1 i2 l1 l2 S) (hk : ∀ b o, b ≠ S → h.get? b = some o → h'.get? b = some o) : ZS h' z TI TO i1 i2 l1 l2 xs ys S i := by
  obtain ⟨hTI, h1, h2, hl1, hl2, hz⟩ := x
  have ne : ∀ {b : Addr}, b < S → b ≠ S := fun h => Nat.ne_of_lt h
  refine ⟨hk _ _ (ne D.TI) hTI, h1.at fun o e => hk _ o (ne D.i1) e, h2.at fun o e => hk _ o (ne D.i2) e, hl1.at fun o e => hk _ o (ne D.l1) e, hl2.at fun o e => hk _ o (ne D.l2) e, ?_⟩
  rcases hz with ⟨hz, a, b, hTO⟩ | ⟨T, f, oT, hz, hT, r1, r2, r3, r4⟩
  · exact .inl ⟨hk _ _ (ne D.z) hz, a, b, hk _ _ (ne D.TO) hTO⟩
  · exact .inr ⟨T, f, oT, hk _ _ (ne D.z) hz, hk _ _ r4 hT, r1, r2, r3, r4⟩
structure Made (xs ys : Array Value) (lo : Addr) (h : Heap) (as : List Addr) : Prop where
  rise : as.Pairwise (· < ·)
  above : ∀ a ∈ as, lo < a
  pairs : ∀ (j : Nat) (a : Addr), as[j]? = some a → ∃ x y, xs[j]? = some x ∧ ys[j]? = some y ∧ h.get? a = some { cls := .type "tuple", data := .seq #[x, y] }
theorem Made.there {xs ys : Array Value} {lo : Addr} {h : Heap} {as : List Addr} (g : Made xs ys lo h as) {a : Addr} (ha : a ∈ as) : a < h.objs.size := by
  obtain ⟨j, hj⟩ := List.mem_iff_getElem?.mp ha
  obtain ⟨_, _, _, _, e⟩ := g.pairs j a hj
  exact Heap.lt_size e
section
variable {prog : Program} {w : World} {A : Around} {E : Value → Shared → Prop} {s : Shared} {R : Result → Shared → Prop} {z TI TO i1 i2 l1 l2 S : Addr} {xs ys : Array Value}
theorem nxt {i : Nat} {Q : Option Value → Shared → Prop} (D : ZipApart z TI TO i1 i2 l1 l2) (F : Off z TI TO i1 i2 l1 l2 S) (st : ZS s.heap z TI TO i1 i2 l1 l2 xs ys S i) (hS : S < s.heap.objs.size) (hi : i < min xs.size ys.size)
    (hQ : ∀ h' x y, xs[i]? = some x → ys[i]? = some y → ZS h' z TI TO i1 i2 l1 l2 xs ys S (i + 1) → h'.get? s.heap.objs.size = some { cls := .type "tuple", data := .seq #[x, y] } → h'.objs.size = s.heap.objs.size + 1 →
      (∀ b o, S ≤ b → s.heap.get? b = some o → h'.get? b = some o) → (∀ b o, b ≠ z → b ≠ TO → b ≠ i1 → b ≠ i2 → s.heap.get? b = some o → h'.get? b = some o) → Q (some (.ref s.heap.objs.size)) { s with heap := h' }) :
    wpAny (model prog w) A (pyNext (.ref z)) Q E s := by
  obtain ⟨hTI, h1, h2, hl1, hl2, hz⟩ := st
  have hix : i < xs.size := Nat.lt_of_lt_of_le hi (Nat.min_le_left ..)
  have hiy : i < ys.size := Nat.lt_of_lt_of_le hi (Nat.min_le_right ..)
  have ex := Array.getElem?_eq_getElem hix
  have ey := Array.getElem?_eq_getElem hiy
  have lt : ∀ {c o}, s.heap.get? c = some o → s.heap.objs.size ≠ c := fun e => Nat.ne_of_gt (Heap.lt_size e)
  have n1 : s.heap.objs.size ≠ i1 := let ⟨_, e, _⟩ := h1; lt e
  have n2 : s.heap.objs.size ≠ i2 := let ⟨_, e, _⟩ := h2; lt e
  have hi1 : ∀ {b c : Addr}, S ≤ b → c < S → b ≠ c := fun h1 h2 => Nat.ne_of_gt (Nat.lt_of_lt_of_le h2 h1)
  rcases hz with ⟨hz, a, b, hTO⟩ | ⟨T, f, oT, hz, hT, r1, r2, r3, r4⟩
  · refine wpAny_pyNext_zip_item D hz hTI hTO h1 h2 hl1 hl2 ex ey fun h' a1 a2 a3 a4 a5 a6 hk => ?_
    exact hQ h' _ _ ex ey ⟨hk _ _ D.TIz D.TITO D.TIi1 D.TIi2 hTI, a3, a4, hl1.at fun o e => hk _ o D.l1z D.l1TO D.l1i1 D.l1i2 e, hl2.at fun o e => hk _ o D.l2z D.l2TO D.l2i1 D.l2i2 e,
        .inr ⟨s.heap.objs.size, false, _, a1, a5, lt hz, n1, n2, Nat.ne_of_gt hS⟩⟩ a5 a6
      (fun b o hb e => hk b o (hi1 hb F.z) (hi1 hb F.TO) (hi1 hb F.i1) (hi1 hb F.i2) e) hk
  · refine wpAny_pyNext_zip_item_held D hz hT hTI h1 h2 hl1 hl2 ex ey fun h' a1 a3 a4 a5 a6 hk => ?_
    exact hQ h' _ _ ex ey ⟨hk _ _ D.TIz D.TIi1 D.TIi2 hTI, a3, a4, hl1.at fun o e => hk _ o D.l1z D.l1i1 D.l1i2 e, hl2.at fun o e => hk _ o D.l2z D.l2i1 D.l2i2 e,
        .inr ⟨T, true, oT, a1, hk _ _ r1 r2 r3 hT, r1, r2, r3, r4⟩⟩ a5 a6
      (fun b o hb e => hk b o (hi1 hb F.z) (hi1 hb F.i1) (hi1 hb F.i2) e) fun b o q1 _ q3 q4 e => hk b o q1 q3 q4 e
theorem fin {Q : Option Value → Shared → Prop} (hh : A.handled = none) (D : ZipApart z TI TO i1 i2 l1 l2) (F : Off z TI TO i1 i2 l1 l2 S) (st : ZS s.heap z TI TO i1 i2 l1 l2 xs ys S (min xs.size ys.size))
    (hQ : ∀ h', (∀ b o, S ≤ b → s.heap.get? b = some o → h'.get? b = some o) → (∀ b o, b ≠ z → b ≠ TO → b ≠ i1 → b ≠ i2 → s.heap.get? b = some o → h'.get? b = some o) → Q none { s with heap := h' }) : wpAny (model prog w) A (pyNext (.ref z)) Q E s := by
  obtain ⟨hTI, h1, h2, hl1, hl2, hz⟩ := st
  have hi1 : ∀ {b c : Addr}, S ≤ b → c < S → b ≠ c := fun h1 h2 => Nat.ne_of_gt (Nat.lt_of_lt_of_le h2 h1)
  have hend : xs[min xs.size ys.size]? = none ∨ ys[min xs.size ys.size]? = none := by
    rcases Nat.le_total xs.size ys.size with h | h
    · exact .inl (Array.getElem?_eq_none (by rw [Nat.min_eq_left h]; exact Nat.le_refl _))
    · exact .inr (Array.getElem?_eq_none (by rw [Nat.min_eq_right h]; exact Nat.le_refl _))
  rcases hz with ⟨hz, a, b, hTO⟩ | ⟨T, f, oT, hz, hT, r1, r2, r3, r4⟩
  · exact wpAny_pyNext_zip_end hh D hz hTI hTO h1 h2 hl1 hl2 hend fun h' hk => hQ h' (fun b o hb e => hk b o (hi1 hb F.z) (hi1 hb F.TO) (hi1 hb F.i1) (hi1 hb F.i2) e) hk
  · exact wpAny_pyNext_zip_end_held hh D hz hT hTI h1 h2 hl1 hl2 hend fun h' hk => hQ h' (fun b o hb e => hk b o (hi1 hb F.z) (hi1 hb F.i1) (hi1 hb F.i2) e) fun b o q1 _ q3 q4 e => hk b o q1 q3 q4 e
theorem loop (hh : A.handled = none) (D : ZipApart z TI TO i1 i2 l1 l2) (F : Off z TI TO i1 i2 l1 l2 S) (hn : min xs.size ys.size ≤ sizeLine) (res : Value) {h₁ : Heap}
    (hR : ∀ h' tk acc c as, (∀ b o, b ≠ S → b ≠ z → b ≠ TO → b ≠ i1 → b ≠ i2 → h₁.get? b = some o → h'.get? b = some o) → h'.get? S = some { cls := .type "list", dict := none, data := .seq acc c, slots := #[] } → as.length = min xs.size ys.size → Made xs ys S h' as →
      acc.toList = as.map Value.ref → R (.ok (.ret res)) { s with heap := h', toks := tk }) :
    ∀ (k i : Nat) (h : Heap) (tk c : Nat) (acc : Array Value) (as : List Addr), min xs.size ys.size - i = k → i ≤ min xs.size ys.size → ZS h z TI TO i1 i2 l1 l2 xs ys S i → (∀ b o, b ≠ S → b ≠ z → b ≠ TO → b ≠ i1 → b ≠ i2 → h₁.get? b = some o → h.get? b = some o) →
      h.get? S = some { cls := .type "list", dict := none, data := .seq acc c, slots := #[] } → acc.toList = as.map Value.ref → as.length = i → Made xs ys S h as →
      codeAny (model prog w) A (.builtin "list.extend.loop" ⟨[.ref S, .ref z, res], []⟩) R { s with heap := h, toks := tk } := by
  have ne : ∀ {b : Addr}, b < S → b ≠ S := fun h => Nat.ne_of_lt h
  intro k
  induction k with
  | zero =>
    intro i h tk c acc as hk hi hst hkeep hS hacc hal hG
    have hie : i = min xs.size ys.size := by omega
    subst hie
    refine codeAny_builtin PySem.F.entry_extend_loop ?_
    rw [Around.under_plainId PySem.F.plain_extend_loop _]
    show wpAny _ A.in1 (pyNext (.ref z) >>= _) _ _ _
    refine wpAny_bind (fin (s := { s with heap := h, toks := tk }) (A := A.in1) hh D F (by rw [← hal] at hst ⊢; first | exact hst | (rw [hie] at hst; exact hst)) fun h' he hk2 => ?_)
    refine wpAny_pure (hR h' tk acc c as (fun b o h1 h2 h3 h4 h5 e => hk2 b o h2 h3 h4 h5 (hkeep b o h1 h2 h3 h4 h5 e)) (he S _ (Nat.le_refl _) hS) (by omega) ⟨hG.rise, hG.above, fun j a hj => ?_⟩ hacc)
    obtain ⟨x, y, e1, e2, e3⟩ := hG.pairs j a hj
    exact ⟨x, y, e1, e2, he a _ (Nat.le_of_lt (hG.above a (List.mem_of_getElem? hj))) e3⟩
  | succ k ih =>
    intro i h tk c acc as hk hi hst hkeep hS hacc hal hG
    have hlt : i < min xs.size ys.size := by omega
    have hsz : acc.size = i := by rw [← Array.length_toList, hacc, List.length_map, hal]
    refine codeAny_builtin PySem.F.entry_extend_loop ?_
    rw [Around.under_plainId PySem.F.plain_extend_loop _]
    show wpAny _ A.in1 (pyNext (.ref z) >>= _) _ _ _
    have hSl : S < h.objs.size := Heap.lt_size hS
    refine wpAny_bind (nxt (s := { s with heap := h, toks := tk }) (S := S) D F hst hSl hlt fun h' x y ex ey hst' ht hz hkp hk2 => ?_)
    dsimp only at ht hz hkp hk2 ⊢
    have hS' := hkp S _ (Nat.le_refl _) hS
    have up : ∀ b o, b ≠ S → h'.get? b = some o → (h'.update S (Obj.mapSeq (·.push (Value.ref h.objs.size)))).get? b = some o := fun b o hb e => (Heap.get?_update_other _ _ (Ne.symm hb)).trans e
    show wpAny _ A.in1 (updateSeq S (·.push (Value.ref h.objs.size)) >>= _) _ _ _
    refine wpAny_bind ?_
    refine wpAny_updateSeq hS' rfl (wpAny_pure ⟨plainId_quiet PySem.F.plain_extend_loop _, ih (i + 1) _ tk _ (acc.push (Value.ref h.objs.size)) (as ++ [h.objs.size]) (by omega) hlt (hst'.keep F up)
      (fun b o h1 h2 h3 h4 h5 e => up b o h1 (hk2 b o h2 h3 h4 h5 (hkeep b o h1 h2 h3 h4 h5 e))) (Heap.get?_update_self _ hS' rfl) (by rw [Array.toList_push, hacc, List.map_append]; rfl) (by rw [List.length_append, hal]; rfl) ⟨?_, ?_, ?_⟩⟩) (by rw [hsz]; omega) (by show (acc.push (Value.ref h.objs.size)).size ≤ sizeLine + 1; rw [Array.size_push, hsz]; omega)
    · refine List.pairwise_append.mpr ⟨hG.rise, List.pairwise_singleton _ _, fun a ha b hb => ?_⟩
      rw [List.mem_singleton.mp hb]
      exact hG.there ha
    · intro a ha
      rcases List.mem_append.mp ha with ha | ha
      · exact hG.above a ha
      · rw [List.mem_singleton.mp ha]; exact hSl
    · intro j b hj
      rcases Nat.lt_trichotomy j as.length with h1 | h1 | h1
      · rw [List.getElem?_append_left h1] at hj
        obtain ⟨x', y', e1, e2, e3⟩ := hG.pairs j b hj
        have hb := hG.above b (List.mem_of_getElem? hj)
        exact ⟨x', y', e1, e2, up b _ (Nat.ne_of_gt hb) (hkp b _ (Nat.le_of_lt hb) e3)⟩
      · subst h1
        have hb : h.objs.size = b := by simpa using hj
        subst hb
        rw [← hal] at ex ey
        exact ⟨x, y, ex, ey, up _ _ (Nat.ne_of_gt hSl) ht⟩
      · have hnone : (as ++ [h.objs.size])[j]? = none := List.getElem?_eq_none (by rw [List.length_append, List.length_singleton]; omega)
        rw [hnone] at hj; cases hj
theorem ext {c₀ : Nat} (hh : A.handled = none) (D : ZipApart z TI TO i1 i2 l1 l2) (F : Off z TI TO i1 i2 l1 l2 S) (hn : min xs.size ys.size ≤ sizeLine) (hz : IsZip s.heap z TI TO .none) (st : ZS s.heap z TI TO i1 i2 l1 l2 xs ys S 0) (res : Value) (hS : s.heap.get? S = some { cls := .type "list", data := .seq #[] c₀ })
    (hR : ∀ h' tk acc c as, (∀ b o, b ≠ S → b ≠ z → b ≠ TO → b ≠ i1 → b ≠ i2 → s.heap.get? b = some o → h'.get? b = some o) → h'.get? S = some { cls := .type "list", dict := none, data := .seq acc c, slots := #[] } → as.length = min xs.size ys.size → Made xs ys S h' as →
      acc.toList = as.map Value.ref → R (.ok (.ret res)) { s with heap := h', toks := tk }) :
    wpAny (model prog w) A.in1 (Builtin.List.listExtendWith (.ref S) (.ref z) res)
      (fun fin s' => match fin with | .done f => R (.ok f) s' | .again c' => c'.quiet = true ∧ codeAny (model prog w) A c' R s') (fun e s' => R (.error e) s') s := by
  have ne : ∀ {b : Addr}, b < S → b ≠ S := fun h => Nat.ne_of_lt h
  have hT : s.TypeIs (.ref z) "zip" := ⟨_, hz, rfl⟩
  unfold Builtin.List.listExtendWith
  refine wpAny_bind (wpAny_typeOf (T := "zip") hT ?_)
  have h1 : Builtin.List.listSameRef (.ref S) (.ref z) = false := by simp [Builtin.List.listSameRef, Ne.symm (ne F.z)]
  have h2 : (Value.type "zip" == Value.type "list") = false := by decide
  have h3 : (Value.type "zip" == Value.type "tuple") = false := by decide
  simp only [h1, h2, h3, Bool.or_false, Bool.false_eq_true, if_false]
  refine wpAny_bind (wpAny_pyIter_zip hz ?_)
  refine wpAny_bind (wpAny_holding ?_)
  unfold Builtin.List.listLengthHint
  refine wpAny_bind (wpAny_specialOf hT zip_no_len ?_)
  show wpAny _ A.in1 (specialOf (Value.ref z) (Str.ofString "__length_hint__") >>= _) _ _ _
  refine wpAny_bind (wpAny_specialOf hT zip_no_hint ?_)
  refine wpAny_pure ?_
  show wpAny _ A.in1 (rule "list.extend.makes-room" >>= fun _ => Builtin.List.listTouch (.ref S) >>= fun _ => again (.builtin "list.extend.loop" ⟨[.ref S, .ref z, res], []⟩)) _ _ _
  refine wpAny_bind (wpAny_rule ?_)
  refine wpAny_bind ?_
  show wpAny _ A.in1 (updateSeq S (·.push .none) >>= fun _ => updateSeq S (·.pop)) _ _ _
  refine wpAny_bind (wpAny_updateSeq hS rfl ?_)
  have hS₂ := Heap.get?_update_self (Obj.mapSeq (·.push Value.none)) hS rfl
  refine wpAny_updateSeq (hz := by seq_fits) hS₂ rfl ?_
  have hS₃ := Heap.get?_update_self (Obj.mapSeq (·.pop)) hS₂ rfl
  have oth : ∀ b o, b ≠ S → s.heap.get? b = some o → ((s.heap.update S (Obj.mapSeq (·.push Value.none))).update S (Obj.mapSeq (·.pop))).get? b = some o := fun b o hb e =>
    (Heap.get?_update_other _ _ (Ne.symm hb)).trans ((Heap.get?_update_other _ _ (Ne.symm hb)).trans e)
  refine wpAny_pure ⟨plainId_quiet PySem.F.plain_extend_loop _, loop (s := s) (h₁ := s.heap) hh D F hn res hR _ 0 _ s.toks _ #[] [] (Nat.sub_zero _) (Nat.zero_le _) (st.keep F oth) (fun b o hb _ _ _ _ e => oth b o hb e) hS₃ rfl rfl ⟨List.Pairwise.nil, (fun _ ha => nomatch ha), (fun j a hj => by simp at hj)⟩⟩
theorem init (hh : A.handled = none) (D : ZipApart z TI TO i1 i2 l1 l2) (F : Off z TI TO i1 i2 l1 l2 S) (hn : min xs.size ys.size ≤ sizeLine) (hz : IsZip s.heap z TI TO .none) (st : ZS s.heap z TI TO i1 i2 l1 l2 xs ys S 0) (hS : s.heap.get? S = some { cls := .type "list", data := .seq #[] })
    (hR : ∀ h' tk acc c as, (∀ b o, b ≠ S → b ≠ z → b ≠ TO → b ≠ i1 → b ≠ i2 → s.heap.get? b = some o → h'.get? b = some o) → h'.get? S = some { cls := .type "list", dict := none, data := .seq acc c, slots := #[] } → as.length = min xs.size ys.size → Made xs ys S h' as →
      acc.toList = as.map Value.ref → R (.ok (.ret .none)) { s with heap := h', toks := tk }) :
    wpAny (model prog w) A.in1 (Builtin.«list.__init__» ⟨[.ref S, .ref z], []⟩)
      (fun fin s' => match fin with | .done f => R (.ok f) s' | .again c' => c'.quiet = true ∧ codeAny (model prog w) A c' R s') (fun e s' => R (.error e) s') s := by
  have ne : ∀ {b : Addr}, b < S → b ≠ S := fun h => Nat.ne_of_lt h
  show wpAny _ _ (do let old ← Builtin.List.listItems (.ref S); Builtin.List.listUpdate (.ref S) (fun _ => #[]); letGo old.toList.reverse; Builtin.List.listExtendWith (.ref S) (.ref z) .none) _ _ s
  refine wpAny_bind ?_
  unfold Builtin.List.listItems
  refine wpAny_bind (wpAny_seqItems hS rfl (wpAny_pure ?_))
  show wpAny _ _ (updateSeq S (fun _ => #[]) >>= fun _ => letGo (#[] : Array Value).toList.reverse >>= fun _ => Builtin.List.listExtendWith (.ref S) (.ref z) .none) _ _ s
  refine wpAny_bind (wpAny_updateSeq hS rfl ?_)
  have hS₂ := Heap.get?_update_self (Obj.mapSeq (fun _ => (#[] : Array Value))) hS rfl
  have oth : ∀ b o, b ≠ S → s.heap.get? b = some o → (s.heap.update S (Obj.mapSeq (fun _ => (#[] : Array Value)))).get? b = some o :=
    fun b o hb e => (Heap.get?_update_other _ _ (Ne.symm hb)).trans e
  refine wpAny_bind (wpAny_letGo ?_)
  exact ext (s := { s with heap := s.heap.update S (Obj.mapSeq (fun _ => (#[] : Array Value))) }) hh D F hn (oth _ _ (ne F.z) hz) (st.keep F oth) .none hS₂ fun h' tk acc c as hk => hR h' tk acc c as fun b o q1 q2 q3 q4 q5 e => hk b o q1 q2 q3 q4 q5 (oth b o q1 e)
/-- list(z), z a new zip of two lists -/
theorem call_list_zip {Q : Value → Shared → Prop} (hh : A.handled = none) (D : ZipApart z TI TO i1 i2 l1 l2) (hn : min xs.size ys.size ≤ sizeLine) (hz : IsZip s.heap z TI TO .none) (hTI : PySem.IsPair s.heap TI (.ref i1) (.ref i2)) (hTO : ∃ a b, PySem.IsPair s.heap TO a b)
    (h1 : s.heap.IsListIter i1 l1 0) (h2 : s.heap.IsListIter i2 l2 0) (hl1 : s.heap.IsList l1 xs) (hl2 : s.heap.IsList l2 ys)
    (hQ : ∀ h' tk acc c as, (∀ b o, b ≠ z → b ≠ TO → b ≠ i1 → b ≠ i2 → s.heap.get? b = some o → h'.get? b = some o) → h'.get? s.heap.objs.size = some { cls := .type "list", dict := none, data := .seq acc c, slots := #[] } → as.length = min xs.size ys.size → Made xs ys s.heap.objs.size h' as →
      acc.toList = as.map Value.ref → Q (.ref s.heap.objs.size) { s with heap := h', toks := tk }) :
    wpAny (model prog w) A (call (.type "list") [.ref z]) Q E s := by
  refine callType_codes (Q₁ := fun obj s₁ => obj = .ref s.heap.objs.size ∧ s₁ = { s with heap := s.heap.push { cls := .type "list", data := .seq #[] } }) PySem.F.called_list (PySem.F.typeCall_list_1 _) PySem.F.entry_list_init
    (code_list_new _ ⟨rfl, rfl⟩) fun obj s₁ h₁ => ?_
  obtain ⟨rfl, rfl⟩ := h₁
  have hS : (s.heap.push { cls := .type "list", data := .seq #[] }).get? s.heap.objs.size = some { cls := .type "list", data := .seq #[] } := Heap.get?_push_size _ rfl
  obtain ⟨ta, tb, hTO⟩ := hTO
  have F : Off z TI TO i1 i2 l1 l2 s.heap.objs.size := ⟨Heap.lt_size hz, Heap.lt_size hTI, Heap.lt_size hTO, (let ⟨_, e, _⟩ := h1; Heap.lt_size e), (let ⟨_, e, _⟩ := h2; Heap.lt_size e), (let ⟨_, e, _⟩ := hl1; Heap.lt_size e), (let ⟨_, e, _⟩ := hl2; Heap.lt_size e)⟩
  have kp : ∀ b o, s.heap.get? b = some o → (s.heap.push { cls := .type "list", data := .seq #[] }).get? b = some o := fun b o e => Heap.get?_push_of_some _ e
  refine ⟨⟨_, hS, rfl⟩, PySem.F.args_list_init_2 _ _, init (s := { s with heap := s.heap.push { cls := .type "list", data := .seq #[] } }) (A := A.in1) hh D F hn (kp _ _ hz)
    ⟨kp _ _ hTI, h1.at fun o e => kp _ o e, h2.at fun o e => kp _ o e, hl1.at fun o e => kp _ o e, hl2.at fun o e => kp _ o e, .inl ⟨kp _ _ hz, ta, tb, kp _ _ hTO⟩⟩ hS fun h' tk acc c as hk hS' hl hG hacc => ?_⟩
  exact ⟨rfl, hQ h' tk acc c as (fun b o q2 q3 q4 q5 e => hk b o (Nat.ne_of_lt (Heap.lt_size e)) q2 q3 q4 q5 (kp b o e)) hS' hl hG hacc⟩
end
end Kz
set_option Elab.async false
set_option linter.all false
set_option maxRecDepth 100000
set_option maxHeartbeats 4000000
/-! list(zip(a, b)), as an expression. -/
namespace Kn
open PySem PySem.Spec PyProof.Rows L2 KM
theorem made_pairs {P : Program} {w : World} {xs ys : List V} {us vs : List Value} (r1 : Vals xs us) (r2 : Vals ys vs) {lo : Addr} {h : Heap} {as : List Addr} (G : Kz.Made us.toArray vs.toArray lo h as) (la : as.length = min xs.length ys.length) {j : Nat} {a : Addr} (hj : as[j]? = some a) :
    ∃ q : V × V, (xs.zip ys)[j]? = some q ∧ ∃ u v, RelV q.1 u ∧ RelV q.2 v ∧ h.get? a = some { cls := .type "tuple", data := .seq #[u, v] } := by
  obtain ⟨u, v, e1, e2, e3⟩ := G.pairs j a hj
  have hj' : j < as.length := (List.getElem?_eq_some_iff.mp hj).1
  have jx : j < xs.length := by omega
  have jy : j < ys.length := by omega
  obtain ⟨u', hu, ru⟩ := r1.get (List.getElem?_eq_getElem jx)
  obtain ⟨v', hv, rv⟩ := r2.get (List.getElem?_eq_getElem jy)
  have eu : u' = u := Option.some.inj (hu.symm.trans (by simpa using e1))
  have ev : v' = v := Option.some.inj (hv.symm.trans (by simpa using e2))
  subst eu ev
  exact ⟨(xs[j], ys[j]), List.getElem?_zip_eq_some.mpr ⟨List.getElem?_eq_getElem jx, List.getElem?_eq_getElem jy⟩, _, _, ru, rv, e3⟩
def tListZip (K : PySem.W.Frag) (ta : TA) : TE := fun σ H Q => ta σ H fun vs H1 => ∃ a b xs ys, vs = [.ref a, .ref b] ∧ SqL K H1 a xs ∧ SqL K H1 b ys ∧
  ∀ H' p zs, Same H1 H' → H' p = some (.lst zs) → Paired (fun v (q : V × V) => ∃ t, v = .ref t ∧ H' t = some (.tup [q.1, q.2])) zs (xs.zip ys) → Q (.ref p) H'
section
variable {X : Cx}
theorem pe_listZip {e e2 : Expr} {ta : TA} {p p2 pos pos2 : Pos} (hc : X.calm = true) (hg : Gl X "list") (hm : X.mg "list" = none) (hg2 : Gl X "zip") (hm2 : X.mg "zip" = none) (ha : PA X [e, e2] ta)
    (hs : starEach [e, e2] X.env = (false, eval e X.env) :: starEach [e2] X.env := by rfl) (hpl : (backTo pos2 (starEach [e2] X.env)).any (·.1) = false := by rfl)
    (hs1 : starEach [.Call (.Name "zip" p2) [e, e2] [] pos2] X.env = (false, eval (.Call (.Name "zip" p2) [e, e2] [] pos2) X.env) :: starEach [] X.env := by rfl) :
    PE X (.Call (.Name "list" p) [.Call (.Name "zip" p2) [e, e2] [] pos2] [] pos) (tListZip X.K ta) := by
  refine ⟨fun pins s σ H Q I h => ?_⟩
  refine wpAny_Call_Name_kw (ld_blt I hg hm bo_list ?_)
  refine PyProof.Rows.callWith_type1 ?_ hs1 rfl
  rw [hs1]
  show wpAny _ _ (spliced ((false, eval (.Call (.Name "zip" p2) [e, e2] [] pos2) X.env) :: backTo pos (starEach [] X.env))) _ _ s
  refine Calls.spliced_cons ?_
  refine wpAny_Call_Name_kw (ld_blt I hg2 hm2 PyProof.Rows.boot_zip (PyProof.Rows.callWith_type1 (thn (ha.run pos2 pins s σ H _ I h) fun us s1 ⟨vs, H1, I1, r1, q1⟩ => ?_) hs hpl))
  obtain ⟨a, b, xs, ys, ex, hqx, hqy, q⟩ := q1
  subst ex
  obtain ⟨u1, u2, rfl, r, r'⟩ := vals2 r1
  cases r
  cases r'
  obtain ⟨its, rv, p1, z1⟩ := I1.list hqx
  obtain ⟨its2, rv2, p2', z2⟩ := I1.list hqy
  have lx := rv.length
  have ly := rv2.length
  refine call_zip_2 p1.isList p2'.isList fun h' hz hTI hTO h1 h2 hsz hk => ?_
  have I2 : Inv X pins σ H1 { s1 with heap := h' } := I1.kept (t' := s1.toks) hk
  refine Calls.spliced_nil ?_
  have D := PySem.W.ktu_apart s1.heap.objs.size a b p1.lt p2'.lt
  refine Kz.call_list_zip (s := { s1 with heap := h' }) (xs := its.toArray) (ys := its2.toArray) (I1.ok.hd hc) D (by rw [List.size_toArray, List.size_toArray]; omega) hz hTI ⟨_, _, hTO⟩ h1 h2 (p1.isList.at fun o e => hk _ o e) (p2'.isList.at fun o e => hk _ o e) fun h'' tk acc c as hk2 hS hl hG hacc => ?_
  rw [List.size_toArray, List.size_toArray] at hl
  have la : as.length = min xs.length ys.length := by omega
  have nd : as.Nodup := List.Pairwise.imp (fun h => Nat.ne_of_lt h) hG.rise
  have szl' : s1.heap.objs.size ≤ h'.objs.size := by omega
  have off : ∀ b : Addr, b < s1.heap.objs.size → ∀ o, h'.get? b = some o → h''.get? b = some o := fun b hb o e =>
    hk2 b o (Nat.ne_of_lt (Nat.lt_of_lt_of_le hb (Nat.le_add_right _ _))) (Nat.ne_of_lt (Nat.lt_of_lt_of_le hb (Nat.le_add_right _ _))) (Nat.ne_of_lt hb) (Nat.ne_of_lt (Nat.lt_of_lt_of_le hb (Nat.le_add_right _ _))) e
  have kk : ∀ b o, s1.heap.get? b = some o → h''.get? b = some o := fun b o e => off b (Heap.lt_size e) o (hk b o e)
  have I3 : Inv X pins σ H1 { s1 with heap := h'', toks := tk } := I1.kept (t' := tk) kk
  have hn0 : H1 h'.objs.size = none := I1.hok.fresh szl'
  have hlen : (as.map V.ref).length ≤ sizeLine := by
    have := z1
    rw [List.length_map]; omega
  have I4 : Inv X pins σ (upd H1 h'.objs.size (.lst (as.map V.ref))) { s1 with heap := h'', toks := tk } :=
    I3.take (h' := h'') (t' := tk) (fun b ob _ e => e) (I1.fpOk szl' hn0) ⟨hlen, acc.toList, c, by rw [hacc]; exact LiI.vals_refs as, by rw [Array.toArray_toList]; exact hS⟩
  obtain ⟨H2, I5, g, qt⟩ := DX.takeT (P := fun b vs => ∃ (j : Nat) (q : V × V), as[j]? = some b ∧ (xs.zip ys)[j]? = some q ∧ vs = [q.1, q.2]) I1 as _ I4 nd fun b hb => by
    obtain ⟨j, hj⟩ := List.mem_iff_getElem?.mp hb
    obtain ⟨q', hq, u, v, ru, rv', hg⟩ := made_pairs (P := X.prog) (w := X.w) rv rv2 hG la hj
    have hbl : h'.objs.size < b := hG.above b hb
    refine ⟨by omega, ?_, [q'.1, q'.2], ⟨j, q', hj, hq, rfl⟩, fun H3 => ⟨(by rw [sizeLine_eq]; show 2 ≤ 16777216; omega), [u, v], .cons ru (.cons rv' .nil), ⟨_, hg, rfl, 0, rfl⟩⟩⟩
    rw [upd_ne (Nat.ne_of_gt hbl)]
    exact I1.hok.fresh (by omega)
  have gr : Same H1 H2 := fun b o e => g b o (by rw [upd_ne (ne_of_none e hn0)]; exact e)
  refine ⟨.ref h'.objs.size, H2, I5, rfl, q H2 h'.objs.size (as.map V.ref) gr (g _ _ upd_same) (paired_of_idx (by rw [List.length_map, List.length_zip]; exact la) fun j v q' hv hq' => ?_)⟩
  rw [List.getElem?_map] at hv
  cases hj : as[j]? with
  | none => rw [hj] at hv; cases hv
  | some t =>
    rw [hj] at hv
    cases hv
    obtain ⟨vs, ⟨i, q2, i1, i2, ev⟩, hH⟩ := qt t (List.mem_of_getElem? hj)
    have eij : i = j := (List.getElem?_inj (List.getElem?_eq_some_iff.mp i1).1 nd).mp (i1.trans hj.symm)
    subst eij
    have ec : q2 = q' := Option.some.inj (i2.symm.trans hq')
    rw [ev, ec] at hH
    exact ⟨t, rfl, hH⟩
end
end Kn
set_option Elab.async false
set_option linter.all false
set_option maxRecDepth 100000
set_option maxHeartbeats 4000000
/-! sorted(set(xs)) of a list of unlike texts. -/
namespace Ks
open PySem PySem.Spec PyProof.Rows L2
def keyT (e : Int × Value) : Str := match e.2 with | .str k _ => k | _ => Str.empty
def GoodT (P : Program) (w : World) (e : Int × Value) : Prop := ∃ k tk, e.2 = Value.str k tk ∧ e.1 = (strKind P w).hash k
/-- the set of texts at a: its table rises and can be walked -/
def SetT (P : Program) (w : World) (h : Heap) (a : Addr) (l : List Str) : Prop :=
  ∃ o es ep t, h.get? a = some o ∧ o.ExactSet ∧ o.data = .set es ep t ∧ (∀ e ∈ es.toList, GoodT P w e) ∧ (es.toList.map keyT).Perm l ∧
    es.size < scanBound ∧ t.fits es.size = true ∧ Ris t.place.toList ∧ (w.params.followText "set-order" = true ∨ t.led = true)
section
variable {P : Program} {w : World} {h h' : Heap} {a : Addr} {l : List Str}
theorem SetT.at (R : SetT P w h a l) (k : ∀ o, h.get? a = some o → h'.get? a = some o) : SetT P w h' a l := by
  obtain ⟨o, es, ep, t, ho, r⟩ := R
  exact ⟨o, es, ep, t, k o ho, r⟩
theorem is_str (k : Str) (u : Tok) : (strKind P w).is k (.str k u) = true := by
  show Value.isStrOf k (.str k u) = true
  first | rfl | simp [Value.isStrOf]
theorem good_elems {l : List (Int × Value)} (g : ∀ e ∈ l, GoodT P w e) : ElemsOf (strKind P w) l := fun e he => by
  obtain ⟨k, tk, h1, h2⟩ := g e he
  exact ⟨⟨k, by rw [h1]; exact is_str k tk, h2⟩, by rw [h1] <;> rfl⟩
theorem good_is {e : Int × Value} (g : GoodT P w e) {k : Str} (h : (strKind P w).is k e.2 = true) : keyT e = k := by
  obtain ⟨k0, tk, h1, _⟩ := g
  unfold keyT
  rw [h1] at h ⊢
  obtain ⟨t, ev⟩ := Value.isStrOf_shape (x := k) (v := .str k0 tk) h
  cases ev
  rfl
end
theorem vget : ∀ {us : List Value} {ks : List Str} (h : StrsAre us ks) {j : Nat} {v : Value}, us[j]? = some v → ∃ k t, ks[j]? = some k ∧ v = .str k t
  | _, _, .nil, j, v, e => by simp at e
  | _, _, .cons k t r, 0, v, e => by
    have q := Option.some.inj e
    subst q
    exact ⟨k, t, rfl, rfl⟩
  | _, _, .cons k t r, j + 1, v, e => by
    obtain ⟨k', t', e1, e2⟩ := vget r (j := j) (v := v) (by simpa using e)
    exact ⟨k', t', by simpa using e1, e2⟩
section
variable {P : Program} {w : World} {A : Around} {E : Value → Shared → Prop} {s : Shared} {a : Addr} {l : List Str}
theorem add_tail {g : Bool → Sem Unit} (hg : ∀ (b : Bool) (s₁ : Shared) (Q' : Unit → Shared → Prop), Q' () s₁ → wpAny (model P w) A (g b) Q' E s₁)
    {o : Obj} {es : Array (Int × Value)} {ep : Nat} {t : SetTable} (ho : s.heap.get? a = some o) (hex : o.ExactSet) (hd : o.data = .set es ep t)
    {es1 : Array (Int × Value)} {t2 : SetTable} (g1 : ∀ e ∈ es1.toList, GoodT P w e) (m1 : (es1.toList.map keyT).Perm l)
    (hb1 : es1.size < scanBound) (hf2 : t2.fits es1.size = true) (hr : Ris t2.place.toList) (hl : w.params.followText "set-order" = true ∨ t2.led = true) {wasDummy : Bool} {R : Option Bool → Shared → Prop}
    (hR : ∀ h', Heap.SameBut a s.heap h' → SetT P w h' a l → R (some true) { s with heap := h' }) :
    wpAny (model P w) A (do
        storeSet a es1 t2
        if (!wasDummy && t2.tooFull) = true then do
            g (relayAll t2 es1 (SetTable.grown es1.size)).2.2
            storeSet a (relayAll t2 es1 (SetTable.grown es1.size)).1 (relayAll t2 es1 (SetTable.grown es1.size)).2.1
            pure (some true)
          else pure (some true)) R E s := by
  refine wpAny_bind (wpAny_storeSet_of ho hd ?_ (fits_of_scanBound hb1))
  have ho1 := L2.store_at (es' := es1) (t' := t2) ho hd
  have sb1 := Heap.SameBut.update s.heap a (Obj.putSet es1 t2)
  split
  · have pm := relayAll_perm t2 es1 (SetTable.grown es1.size)
    have hf3 := relayAll_fits t2 es1 (SetTable.grown es1.size)
    have hr3 := relayAll_ris t2 es1 (SetTable.grown es1.size)
    have hl3 := relayAll_led t2 es1 (SetTable.grown es1.size)
    generalize relayAll t2 es1 (SetTable.grown es1.size) = Z at pm hf3 hr3 hl3 ⊢
    obtain ⟨es2, t3, gave⟩ := Z
    dsimp only at pm hf3 hr3 hl3 ⊢
    have hsz : es2.size = es1.size := by rw [← Array.length_toList, pm.length_eq, Array.length_toList]
    have hb2 : es2.size < scanBound := by rw [hsz]; exact hb1
    refine wpAny_bind (hg _ _ _ ?_)
    refine wpAny_bind (wpAny_storeSet_of ho1 rfl ?_ (fits_of_scanBound hb2))
    have ho2 := L2.store_at (es' := es2) (t' := t3) ho1 rfl
    refine wpAny_pure (hR _ (sb1.trans (Heap.SameBut.update _ a _)) ?_)
    exact ⟨_, es2, _, t3, ho2, hex, rfl, fun e he => g1 e (pm.mem_iff.mp he), (pm.map keyT).trans m1, hb2, hf3, hr3,
      hl.imp id fun z => by rw [hl3]; exact z⟩
  · exact wpAny_pure (hR _ sb1 ⟨_, es1, _, t2, ho1, hex, rfl, g1, m1, hb1, hf2, hr, hl⟩)
theorem add_hashed {k : Str} {tk : Tok} {Q : Bool → Shared → Prop} (R : SetT P w s.heap a l) (room : l.length + 1 < scanBound) (hk : k ∉ l)
    (hQ : ∀ h', Heap.SameBut a s.heap h' → SetT P w h' a (k :: l) → Q true { s with heap := h' }) :
    wpAny (model P w) A (setAddHashed a (.str k tk) ((strKind P w).hash k)) Q E s := by
  obtain ⟨o, es, ep, t, ho, hex, hd, g, pl, hb, hf, hr, hl⟩ := R
  have hkey : (strKind P w).is k (.str k tk) = true := is_str k tk
  have hsc : (Value.str k tk).scannable = true := rfl
  have hel : ElemsOf (strKind P w) es.toList := good_elems g
  have hn : es.size = l.length := by rw [← pl.length_eq, List.length_map, Array.length_toList]
  unfold setAddHashed setAddHashedIn
  refine wpAny_holding (wpAny_bind (wpAny_setState_of ho hd hf ?_))
  dsimp only
  rw [byScan_of hsc hb hel]
  simp only [↓reduceIte]
  unfold setAddByScan
  refine wpAny_bind ?_
  refine wpAny_bind (wpAny_rule ?_)
  refine wpAny_bind (wpAny_setScan_of hkey ho hd hf hel ?_)
  cases hfi : List.findIdx? (fun e => (strKind P w).is k e.2) es.toList with
  | some j =>
    exfalso
    obtain ⟨hj, pj, _⟩ := List.findIdx?_eq_some_iff_getElem.mp hfi
    have e := good_is (g _ (List.getElem_mem hj)) pj
    exact hk (pl.mem_iff.mp (List.mem_map.mpr ⟨_, List.getElem_mem hj, e⟩))
  | none =>
    dsimp only
    have hgw : ∀ (b : Bool) {s₁ : Shared} {Q' : Unit → Shared → Prop}, Q' () s₁ → wpAny (model P w) A (match b with | true => rule "set.scan.the-table-gave-way" | false => pure ()) Q' E s₁ :=
      fun b s₁ Q' q => by cases b <;> first | exact wpAny_pure q | exact wpAny_rule q
    have pm := layNew_perm t es ((strKind P w).hash k) (.str k tk)
    have hf1 := layNew_fits t es ((strKind P w).hash k) (.str k tk)
    have hr1 := layNew_ris t es ((strKind P w).hash k) (.str k tk) hr
    have hl1 := layNew_led t es ((strKind P w).hash k) (.str k tk)
    generalize layNew t es ((strKind P w).hash k) (.str k tk) = Z at pm hf1 hr1 hl1 ⊢
    obtain ⟨es1, t1, wasDummy, gave⟩ := Z
    dsimp only at pm hf1 hr1 hl1 ⊢
    rw [Array.toList_push] at pm
    have pc : es1.toList.Perm (((strKind P w).hash k, Value.str k tk) :: es.toList) := pm.trans (List.perm_append_singleton _ _)
    have pk : (es1.toList.map keyT).Perm (k :: l) := (pc.map keyT).trans (pl.cons _)
    have g1 : ∀ e ∈ es1.toList, GoodT P w e := fun e he => by
      rcases List.mem_cons.mp (pc.mem_iff.mp he) with z | z
      · rw [z]; exact ⟨k, tk, rfl, rfl⟩
      · exact g e z
    have hsz : es1.size = l.length + 1 := by rw [← Array.length_toList, pc.length_eq, List.length_cons, Array.length_toList, hn]
    have hb1 : es1.size < scanBound := by rw [hsz]; exact room
    have hled : w.params.followText "set-order" = true ∨ t1.led = true := hl.imp id fun z => by rw [hl1]; exact z
    have fin : ∀ h', Heap.SameBut a s.heap h' → SetT P w h' a (k :: l) → Q true { s with heap := h' } := fun h' sb r => hQ h' sb r
    refine wpAny_bind (hgw _ ?_)
    split
    · refine wpAny_bind ?_
      rw [hashByValue_scannable 8 hsc]
      refine wpAny_pure ?_
      refine add_tail ?_ ho hex hd g1 pk hb1 ?_ ?_ ?_ ?_
      · intro b s₁ Q' q; cases b <;> first | exact wpAny_pure q | exact wpAny_rule q
      · first | (split <;> first | exact hf1 | exact SetTable.fits_plain_off hf1) | exact hf1
      · first | (split <;> exact hr1) | exact hr1
      · first | (split <;> exact hled) | exact hled
      · intro h' sb r; dsimp only; exact wpAny_pure (fin h' sb r)
    · refine wpAny_bind (wpAny_pure ?_)
      simp only [↓reduceIte]
      refine add_tail ?_ ho hex hd g1 pk hb1 hf1 hr1 hled ?_
      · intro b s₁ Q' q; cases b <;> first | exact wpAny_pure q | exact wpAny_rule q
      · intro h' sb r; dsimp only; exact wpAny_pure (fin h' sb r)
theorem upd_loop {I : Addr} {fp wr : List Addr} {G : Array GenState → Array GenState → Prop} {n : Nat} {Pv : Nat → Value → Prop} {St : Nat → Shared → Prop} {R : Result → Shared → Prop}
    (W : WalksS P w A.in1 I fp wr G n Pv St) (S : Addr) (hSf : S ∉ fp) (ns : List Str) (hn : n = ns.length) (hb : ns.length + 1 < scanBound) (hnd : ns.Nodup) (hval : ∀ i v, Pv i v → ∃ k t, ns[i]? = some k ∧ v = .str k t) :
    ∀ (k i : Nat) (s : Shared), n - i = k → i ≤ n → St i s → (∃ l, l.Perm (ns.take i) ∧ SetT P w s.heap S l) →
      (∀ s' l, Moved (S :: wr) G s s' → l.Perm ns → SetT P w s'.heap S l → R (.ok (.ret .none)) s') →
      codeAny (model P w) A (.builtin "set.update.loop" ⟨[.ref S, .ref I], []⟩) R s := by
  have hSw : S ∉ wr := fun h => hSf (W.sub _ h)
  have hsub : ∀ b ∈ wr, b ∈ S :: wr := fun b hb => List.mem_cons_of_mem _ hb
  intro k
  induction k with
  | zero =>
    intro i s hk' hi hst ⟨c, hc, hS⟩ hR
    have hin : i = n := by omega
    subst hin
    refine codeAny_builtin PyProof.Rows.F.entry_set_update_loop ?_
    rw [Around.under_plainId PyProof.Rows.F.plain_set_update_loop _]
    show wpAny _ A.in1 (pyNext (.ref I) >>= _) _ _ s
    refine wpAny_bind (W.done s _ _ hst fun s' hm => ?_)
    show wpAny _ A.in1 (ret Value.none) _ _ s'
    have e : ns.take i = ns := List.take_of_length_le (by omega)
    rw [e] at hc
    exact wpAny_pure (hR s' c (hm.mono hsub) hc (hS.at fun o e => hm.heap S o hSw e))
  | succ k ih =>
    intro i s hk' hi hst ⟨c, hc, hS⟩ hR
    have hlt : i < n := by omega
    refine codeAny_builtin PyProof.Rows.F.entry_set_update_loop ?_
    rw [Around.under_plainId PyProof.Rows.F.plain_set_update_loop _]
    show wpAny _ A.in1 (pyNext (.ref I) >>= _) _ _ s
    refine wpAny_bind (W.item i s _ _ hlt hst fun v s' hP hst' hm => ?_)
    obtain ⟨z, t, hz, rfl⟩ := hval i v hP
    have hS' : SetT P w s'.heap S c := hS.at fun o e => hm.heap S o hSw e
    have hnew : z ∉ c := fun m => by
      have m2 := hc.mem_iff.mp m
      obtain ⟨j, hj⟩ := List.mem_iff_getElem?.mp m2
      rw [List.getElem?_take] at hj
      split at hj
      · have := (List.getElem?_inj (List.getElem?_eq_some_iff.mp hj).1 hnd).mp (hj.trans hz.symm)
        omega
      · cases hj
    have lc : c.length ≤ ns.length := by rw [hc.length_eq, List.length_take]; omega
    show wpAny _ A.in1 (holding [Value.str z t] (setAdd S (.str z t)) >>= _) _ _ s'
    refine wpAny_bind (wpAny_holding ?_)
    unfold setAdd
    refine wpAny_holding ?_
    refine wpAny_bind ((strKind P w).pyHash (k := z) (is_str _ _) ?_)
    refine add_hashed (s := { s' with toks := s'.toks + 1 }) hS' (by omega) hnew fun h' hsb hS2 => ?_
    have hp : (z :: c).Perm (ns.take (i + 1)) := by
      rw [List.take_add_one, hz]
      exact (hc.cons z).trans (List.perm_append_singleton _ _).symm
    refine wpAny_pure ⟨plainId_quiet PyProof.Rows.F.plain_set_update_loop _, ih (i + 1) _ (by omega) hlt (W.frame _ s' _ _ hst' (Nat.le_succ _) fun b hb o e => ?_) ⟨_, hp, hS2⟩ fun s'' c2 hm'' hc'' hS'' => ?_⟩
    · rw [hsb.2 b (fun h : b = S => hSf (by rw [← h]; exact hb))]; exact e
    · refine hR s'' c2 (Moved.trans W.gtrans ((hm.mono hsub).then_heap (Nat.le_succ _) fun b o hb e => ?_) hm'') hc'' hS''
      rw [hsb.2 b (fun h : b = S => hb (by rw [h]; exact List.mem_cons_self))]; exact e
theorem set_fresh {h : Heap} (ho : h.get? a = some { cls := .type "set", dict := none, data := .set #[] 0 (.fresh 0 0 (!w.params.followText "set-order")) }) : SetT P w h a [] :=
  ⟨_, #[], 0, _, ho, ⟨rfl, rfl, rfl⟩, rfl, (fun e he => by simp at he), (by simp), (by decide), (by rfl), List.Pairwise.nil, by
    show _ ∨ (!w.params.followText "set-order") = true
    cases w.params.followText "set-order"
    · exact .inr rfl
    · exact .inl rfl⟩
set_option maxRecDepth 100000 in
set_option maxHeartbeats 3200000 in
theorem call_set_listT {l : Addr} {items : Array Value} (ns : List Str) {Q : Value → Shared → Prop} (hh : A.handled = none) (hl : s.heap.IsList l items) (hit : StrsAre items.toList ns) (hb : ns.length + 1 < scanBound) (hnd : ns.Nodup)
    (h : ∀ (h' : Heap) (tk : Nat) (c : List Str), SetT P w h' s.heap.objs.size c → c.Perm ns → (∀ b o, s.heap.get? b = some o → h'.get? b = some o) → Q (.ref s.heap.objs.size) { s with heap := h', toks := tk }) :
    wpAny (model P w) A (call (.type "set") [.ref l]) Q E s := by
  have hisz : items.size = ns.length := by
    have q := StrsAre.len_eq hit
    rw [Array.length_toList] at q
    exact q
  obtain ⟨c, tl, hmro⟩ := PySem.F.called_set.mro
  have hmade := PySem.F.called_set.made
  have hsub := PySem.F.called_set.sub
  refine wpAny_call (codeAny_of_tree ?_)
  show wpAny _ _ (callAny (.type "set") _) _ _ _
  refine wpAny_pure ⟨Code.quiet_builtin _ (by decide +kernel), codeAny_builtin PySem.F.entry_type_call ?_⟩
  rw [Around.under_plain (weight_type_call_type "set" [.ref l] []) rfl]
  have h1 := PySem.F.called_set.notType
  have h2 := PySem.F.called_set.canCreate
  have hct := PySem.F.typeCall_set_1 (.ref l)
  repeat (any_goals (first | assumption | wp_step))
  refine codeAny_mono (L2.code_set_led1 (.ref l) (E := E) (Q₁ := fun obj s₁ => obj = .ref s.heap.objs.size ∧ s₁ = { s with heap := s.heap.push { cls := .type "set", dict := none, data := .set #[] 0 (.fresh 0 0 (!w.params.followText "set-order")) } }) ⟨rfl, rfl⟩) fun r s₁ hr => ?_
  cases r with
  | error e => exact hr
  | ok fl =>
    cases fl with
    | ret obj =>
      obtain ⟨rfl, rfl⟩ := hr
      have hS : (s.heap.push { cls := .type "set", dict := none, data := .set #[] 0 (.fresh 0 0 (!w.params.followText "set-order")) }).get? s.heap.objs.size = some { cls := .type "set", dict := none, data := .set #[] 0 (.fresh 0 0 (!w.params.followText "set-order")) } := Heap.get?_push_size _ rfl
      have hT : Shared.TypeIs { s with heap := s.heap.push { cls := .type "set", dict := none, data := .set #[] 0 (.fresh 0 0 (!w.params.followText "set-order")) } } (.ref s.heap.objs.size) "set" := ⟨_, hS, rfl⟩
      have hli := PySem.F.called_set.init.lookup
      have hbi := PySem.F.called_set.init.bind (.ref s.heap.objs.size)
      repeat (any_goals (first | assumption | wp_step))
      refine codeAny_mono (codeAny_call_builtin (R := wants (fun r s₂ => r = .none ∧ ∃ h' tk c, s₂ = { s with heap := h', toks := tk } ∧ SetT P w h' s.heap.objs.size c ∧ c.Perm ns ∧
          (∀ b o, s.heap.get? b = some o → h'.get? b = some o)) E) PySem.F.called_set.init.plain PySem.F.entry_set_init (check_set_init_1 hT ?_)) fun r₂ s₂ hr₂ => ?_
      · obtain ⟨ol, hol, hcl, nl, hdl⟩ := hl
        obtain ⟨ocls, odict, odata, oslots⟩ := ol
        simp only at hcl hdl
        subst hcl; subst hdl
        have hol' : (s.heap.push { cls := .type "set", dict := none, data := .set #[] 0 (.fresh 0 0 (!w.params.followText "set-order")) }).get? l = some { cls := .type "list", dict := odict, data := .seq items nl, slots := oslots } := Heap.get?_push_of_some _ hol
        have hsls := PySem.F.sub_list_set
        have hslf := PySem.F.sub_list_frozenset
        have hne : (Value.type "list" == Value.type "dict") = false := by decide
        have hl1 : (s.heap.push { cls := .type "set", dict := none, data := .set #[] 0 (.fresh 0 0 (!w.params.followText "set-order")) }).IsList l items := ⟨_, hol', rfl, nl, rfl⟩
        unfold Builtin.«set.__init__» noKeywords Builtin.Frozenset.updateFrom
        generalize hPI : pyIter = PI
        wp_walk
        subst hPI
        refine wpAny_pyIter_list hl1 ?_
        refine wpAny_bind (wpAny_runValue ?_)
        have hlS : l < s.heap.objs.size := Heap.lt_size hol
        have hh3 : A.in1.in1.in1.handled = none := by simp [hh]
        have hneI : l ≠ (s.heap.push { cls := .type "set", dict := none, data := .set #[] 0 (.fresh 0 0 (!w.params.followText "set-order")) }).objs.size := by
          rw [Heap.size_push]; exact Nat.ne_of_lt (Nat.lt_succ_of_lt hlS)
        have hSf : s.heap.objs.size ∉ [(s.heap.push { cls := .type "set", dict := none, data := .set #[] 0 (.fresh 0 0 (!w.params.followText "set-order")) }).objs.size, l] := by
          rw [Heap.size_push]; simp only [List.mem_cons, List.mem_singleton, List.not_mem_nil, or_false, not_or]
          exact ⟨Nat.ne_of_lt (Nat.lt_succ_self _), Nat.ne_of_gt hlS⟩
        have hval : ∀ (i : Nat) (v : Value), items[i]? = some v → ∃ k t, ns[i]? = some k ∧ v = .str k t := fun i v hv => by
          have hi : i < ns.length := by rw [← hisz]; exact (Array.getElem?_eq_some_iff.mp hv).1
          have := vget (h := hit) (j := i) (v := v) (by rw [Array.getElem?_toList]; exact hv)
          exact this
        refine upd_loop ((Walks.list hh3 _ l hneI items).toS) s.heap.objs.size
          hSf ns hisz hb hnd hval (items.size - 0) 0 _ (by omega) (Nat.zero_le _)
          ⟨⟨_, Heap.get?_push_size _ rfl, rfl, rfl⟩, (hl1.push _)⟩ ?hS0 ?hR
        case hS0 =>
          have hget : ((s.heap.push { cls := .type "set", dict := none, data := .set #[] 0 (.fresh 0 0 (!w.params.followText "set-order")) }).push { cls := .type "list_iterator", data := .fields #[.ref l, .int 0 0] }).get? s.heap.objs.size
              = some { cls := .type "set", dict := none, data := .set #[] 0 (.fresh 0 0 (!w.params.followText "set-order")) } := Heap.get?_push_of_some _ hS
          exact ⟨[], by rw [List.take_zero], set_fresh hget⟩
        case hR =>
          intro s' c' hm hc' hS'
          obtain ⟨h', g2, d', tk', os'⟩ := s'
          have eg : g2 = s.gens := hm.gens
          have ed : d' = s.drawn := hm.drawn
          have eo : os' = s.os := hm.os
          subst eg; subst ed; subst eo
          show wpAny _ _ _ _ _ _
          refine wpAny_pure ?_
          show wpAny _ _ (ret Value.none) _ _ _
          refine wpAny_pure ⟨rfl, h', tk', c', rfl, hS', hc', fun b o e => ?_⟩
          have hb0 : b < s.heap.objs.size := Heap.lt_size e
          have hb1 : b ≠ s.heap.objs.size := Nat.ne_of_lt hb0
          have hb2 : b ≠ (s.heap.push { cls := .type "set", dict := none, data := .set #[] 0 (.fresh 0 0 (!w.params.followText "set-order")) }).objs.size := by
            rw [Heap.size_push]; exact Nat.ne_of_lt (Nat.lt_succ_of_lt hb0)
          exact hm.heap b o (by simp only [List.mem_cons, List.mem_singleton, List.not_mem_nil, or_false, not_or]; exact ⟨hb1, hb2⟩) (Heap.get?_push_of_some _ (Heap.get?_push_of_some _ e))
      · cases r₂ with
        | error e => exact hr₂
        | ok fl₂ =>
          cases fl₂ with
          | ret r =>
            obtain ⟨rfl, h', tk, c', rfl, hS', hc', hk'⟩ := hr₂
            repeat (any_goals (first | assumption | wp_step))
            exact h _ _ _ hS' hc' hk'
          | _ => exact hr₂.elim
    | _ => exact hr.elim
end
end Ks
set_option Elab.async false
set_option linter.all false
set_option maxRecDepth 100000
set_option maxHeartbeats 4000000
/-! sorted(set(xs)), as an expression. -/
namespace Kn
open PySem PySem.Spec PyProof.Rows L2 KM
theorem strs_keys {P : Program} {w : World} : ∀ (l : List (Int × Value)), (∀ e ∈ l, Ks.GoodT P w e) → StrsAre (l.map (·.2)) (l.map Ks.keyT)
  | [], _ => .nil
  | e :: l, g => by
    obtain ⟨k, tk, h1, h2⟩ := g e List.mem_cons_self
    rw [List.map_cons, List.map_cons]
    have : Ks.keyT e = k := by unfold Ks.keyT; rw [h1]
    rw [this, h1]
    exact .cons k tk (strs_keys l fun u hu => g u (List.mem_cons_of_mem _ hu))
theorem strs_txt : ∀ {us : List Value} {ks : List Str}, StrsAre us ks → us.map (fun v => match v with | .str k _ => k | _ => Str.empty) = ks
  | _, _, .nil => rfl
  | _, _, .cons k t r => congrArg (k :: ·) (strs_txt r)
theorem txt_strs : ∀ {us : List Value}, (∀ u ∈ us, ∃ k t, u = Value.str k t) → StrsAre us (us.map (fun v => match v with | .str k _ => k | _ => Str.empty))
  | [], _ => .nil
  | u :: us, h => by
    obtain ⟨k, t, rfl⟩ := h u List.mem_cons_self
    exact .cons k t (txt_strs fun v hv => h v (List.mem_cons_of_mem _ hv))
/-- two rising lists of the same names are one -/
theorem asc_uniq : ∀ {l m : List Str}, l.Perm m → l.Pairwise sLt → m.Pairwise sLt → l = m
  | [], m, p, _, _ => (List.Perm.eq_nil p.symm).symm
  | x :: l, [], p, _, _ => absurd p.length_eq (by simp)
  | x :: l, y :: m, p, hl, hm => by
    have e : x = y := by
      rcases List.mem_cons.mp (p.mem_iff.mp (List.mem_cons_self (a := x) (l := l))) with e | hx
      · exact e
      · rcases List.mem_cons.mp (p.mem_iff.mpr (List.mem_cons_self (a := y) (l := m))) with e | hy
        · exact e.symm
        · have h1 := (List.pairwise_cons.mp hm).1 x hx
          have h2 := (List.pairwise_cons.mp hl).1 y hy
          exact absurd (List.lt_trans h1 h2) (sLt_irrefl y)
    subst e
    rw [asc_uniq p.cons_inv (List.pairwise_cons.mp hl).2 (List.pairwise_cons.mp hm).2]
def tSortedSet (K : PySem.W.Frag) (te : TE) : TE := fun σ H Q => te σ H fun x H1 => ∃ (a : Addr) (ns : List Str), x = .ref a ∧ SqL K H1 a (ns.map V.str) ∧ ns.Pairwise sLt ∧ ns.length ≤ 1000 ∧ ∀ p, H1 p = none → Q (.ref p) (upd H1 p (.lst (ns.map V.str)))
section
variable {X : Cx}
theorem pe_sortedSet {e : Expr} {te : TE} {p p2 pos pos2 : Pos} (hc : X.calm = true) (hu : X.A.units + 64 < cLine) (hg : Gl X "sorted") (hm : X.mg "sorted" = none) (hg2 : Gl X "set") (hm2 : X.mg "set" = none) (he : PE X e te)
    (hs : starEach [e] X.env = [(false, eval e X.env)] := by rfl)
    (hs1 : starEach [.Call (.Name "set" p2) [e] [] pos2] X.env = (false, eval (.Call (.Name "set" p2) [e] [] pos2) X.env) :: starEach [] X.env := by rfl) :
    PE X (.Call (.Name "sorted" p) [.Call (.Name "set" p2) [e] [] pos2] [] pos) (tSortedSet X.K te) := by
  refine ⟨fun pins s σ H Q I h => ?_⟩
  refine wpAny_Call_Name_kw (ld_blt I hg hm bo_sorted ?_)
  refine PyProof.Rows.callWith_builtin1 ?_ hs1 rfl
  rw [hs1]
  show wpAny _ _ (spliced ((false, eval (.Call (.Name "set" p2) [e] [] pos2) X.env) :: backTo pos (starEach [] X.env))) _ _ s
  refine Calls.spliced_cons ?_
  refine wpAny_Call_Name_kw (ld_blt I hg2 hm2 bo_set (PyProof.Rows.callWith_type1 ?_ hs rfl))
  rw [hs]
  refine Calls.spliced_cons (thn (he.run pins s σ H _ I h) fun u s1 ⟨x, H1, I1, r, a, ns, ex, hq, ha, hl, q⟩ => ?_)
  subst ex
  cases r
  obtain ⟨its, rv, pl, hz⟩ := I1.list hq
  refine Calls.spliced_nil ?_
  have lits : its.length = ns.length := by rw [← rv.length, List.length_map]
  refine Ks.call_set_listT ns (I1.ok.hd hc) pl.isList (by simpa using rv.strs) (by unfold scanBound; omega) (asc_nd ha) fun h' tk c R pc hk => ?_
  refine Calls.spliced_nil ?_
  have I2 : Inv X pins σ H1 { s1 with heap := h', toks := tk } := I1.kept hk
  obtain ⟨o, es, ep, t, ho, hex, hd, g, pk, hb, hf, hr, hled⟩ := R
  have hn : es.size = ns.length := by rw [← pc.length_eq, ← pk.length_eq, List.length_map, Array.length_toList]
  refine Calls.call_function_entry kind_sorted plain_sorted entry_sorted (args_sorted1 _) ?_
  unfold Builtin.«sorted»
  refine wpAny_bind (m := checkCount "sorted" 1 1 _) (wpAny_pure ?_)
  refine wpAny_bind (collect_set (s := { s1 with heap := h', toks := tk }) (A := X.A.in1) (I1.ok.hd hc) ⟨o, ho, hex.1, hd⟩ hf hb hr hled fun s3 vs k1 hz3 g1 o1 pm => ?_)
  have hvl : vs.length = ns.length := by rw [pm.length_eq, List.length_map, Array.length_toList]; exact hn
  have sI := strs_keys (P := X.prog) (w := X.w) es.toList g
  have hS : StrsAre vs (vs.map (fun v => match v with | .str k _ => k | _ => Str.empty)) := txt_strs fun v hv => by
    obtain ⟨e, he, q⟩ := List.mem_map.mp (pm.mem_iff.mp hv)
    obtain ⟨k, tk, h1, _⟩ := g e he
    exact ⟨k, tk, by rw [← q]; exact h1⟩
  have pn : (vs.map (fun v => match v with | .str k _ => k | _ => Str.empty)).Perm ns := by
    have := pm.map (fun v => match v with | .str k _ => k | _ => Str.empty)
    rw [strs_txt sI] at this
    exact (this.trans pk).trans pc
  generalize vs.map (fun v => match v with | .str k _ => k | _ => Str.empty) = ms at hS pn
  refine wpAny_bind (wpAny_newList ?_ (by rw [hvl, sizeLine_eq]; omega))
  have hoL : (s3.heap.push (seqObj "list" vs.toArray 0)).get? s3.heap.objs.size = some (seqObj "list" vs.toArray 0) := Heap.get?_push_size _ rfl
  have es' := each_str hS
  refine wpAny_bind (wpAny_holding (PySem.W.list_sort_data (s := { s3 with heap := s3.heap.push (seqObj "list" vs.toArray 0) }) (enc := PyData.str) (bs := ms) (R := fun u k => RelV (.str k) u) hoL es' (es'.mono fun u k ⟨t, e⟩ => ⟨[], by rw [e]; exact .str _ _, by simp⟩) (al_S _) (so_S _) (by rw [pn.length_eq, sizeLine_eq]; omega) (fun b _ => by
      have : (PyData.str b).depth = 0 := by simp [PyData.depth]
      rw [this]
      show X.A.units + 1 + 1 + 0 < cLine
      omega) fun out ho eo => ?_))
  obtain ⟨e', he'⟩ := PyProof.Rows.sortedHeap_at (vs := vs) (out := out.toArray) hoL
  have pm2 := List.mergeSort_perm ms (PySem.W.dataLe false PyData.str)
  have as := srt_asc PyData.str ms
  generalize ms.mergeSort (PySem.W.dataLe false PyData.str) = ys at eo pm2 as
  have py : ys.Perm ns := pm2.trans pn
  have ey : ys = ns := asc_uniq py (asc_strs as (py.nodup_iff.mpr (asc_nd ha))) ha
  subst ey
  have hlen : (ys.map V.str).length ≤ sizeLine := by rw [List.length_map, sizeLine_eq]; omega
  have hf3 : H1 s3.heap.objs.size = none := I2.hok.fresh hz3
  refine wpAny_pure ⟨_, rfl, .ref s3.heap.objs.size, upd H1 s3.heap.objs.size (.lst (ys.map V.str)), ?_, rfl, q _ hf3⟩
  have kk : ∀ b u, h'.get? b = some u → (sortedHeap (s3.heap.push (seqObj "list" vs.toArray 0)) s3.heap.objs.size vs out.toArray).get? b = some u := fun b u e => by
    have q := k1 b u e
    have hlt := Heap.lt_size q
    rw [sortedHeap_old (Nat.ne_of_lt hlt) (by rw [size_push']; exact Nat.lt_succ_of_lt hlt)]
    exact Heap.get?_push_of_some _ q
  have J := I2.call (ch := []) (g' := s3.gens) (d' := s3.drawn) (t' := s3.toks) (Un.laid kk hz3 hf3) (I2.hok.laid kk hz3 (o := .lst (ys.map V.str)) ⟨hlen, out, e', each_vals eo, he'⟩) (by rw [g1]; exact I2.bare) (fun _ z => nomatch z)
  obtain ⟨h3, g3, d3, t3, o3⟩ := s3
  have o1' : o3 = s1.os := o1
  subst o1'
  exact J
/-- name = {..: ..} on one line, the name a local -/
theorem ps_setDc {i : Nat} {y : Str} {py : Pos} {kx vx tg iter : Expr} {ifs : List Expr} {scope : Scope} {own : List (Str × Nat)} {pos spos : Pos} {wi : TI} {g : TG} {tt : TT} {tk tv : TE} (hc : X.calm = true) (hN : X.N.Nodup) (hy : X.N[i]? = some y) (hyl : X.env.scope.names.lookup y = some .local)
    (hsw : swapsWith (.DictComp kx vx [⟨tg, iter, ifs, 0⟩] scope pos) (some (.Name y py)) spos.line X.env = pure true) (hi : PI X tg iter wi) (ok : BlkOk X.N X.env.scope scope own)
    (hg : ∀ (s : Shared) (H : Hp) (C : Addr) (cl : List (Str × Addr)) (fp : List Addr), PG (X.blk s H scope (compEnvC scope cl C X.env) fp) tg g) (ht : ∀ (s : Shared) (H : Hp) (C : Addr) (cl : List (Str × Addr)) (fp : List Addr), PTs (X.blk s H scope (compEnvC scope cl C X.env) fp) ifs tt)
    (hk : ∀ (s : Shared) (H : Hp) (C : Addr) (cl : List (Str × Addr)) (fp : List Addr), PE (X.blk s H scope (compEnvC scope cl C X.env) fp) kx tk)
    (he : ∀ (s : Shared) (H : Hp) (C : Addr) (cl : List (Str × Addr)) (fp : List Addr), PE (X.blk s H scope (compEnvC scope cl C X.env) fp) vx tv) (hs : ∀ x, foldedSetIterable iter X.env x = pure x := by intro _; rfl) :
    PS X (.Assign [.Name y py] (.DictComp kx vx [⟨tg, iter, ifs, 0⟩] scope pos) spos) (tAsg (tDc wi g tt tk tv (own.map (·.2))) (gName i)) := by
  refine ⟨fun pins s σ H D I h => ?_⟩
  rw [exec_Assign_Name_used _ _ _ _ hsw]
  refine wpAny_bind (wpAny_standAt (wpAny_bind ?_))
  show wpAny _ X.A (do let _ ← comprehension (.DictComp kx vx [⟨tg, iter, ifs, 0⟩] scope pos) scope X.env (firstIterPos [⟨tg, iter, ifs, 0⟩] pos) newDict false (eval iter X.env) (some (assign (.Name y py) X.env))) _ _ s
  have h : tDc wi g tt tk tv (own.map (·.2)) σ H (fun x H1 => gName i x σ H1 D.nx) := h
  refine wpAny_bind (thn (dc_core (Qf := fun _ s' => SP X pins D .next s') hc hN I hi ok hg ht hk he hs h fun L C s' m H' I' q hn f => ?_) fun _ s' hq => wpAny_pure (wpAny_pure hq))
  show wpAny _ _ (assign (.Name y py) X.env (.ref L)) _ _ _
  refine wpAny_assign_Name (store_ok2 (v := V.ref L) I' hN hy (.inl hyl) rfl (fun s2 I2 ⟨a, sb, ha⟩ => ?_) (.inr hyl))
  obtain ⟨f0, f1, f2, f3, f4, f5⟩ := f
  have haC : C ≠ a := by
    rcases ha with z | z
    · rw [z]; exact f1
    · exact fun e => f4 y a z e.symm
  refine ⟨m, hn.sameBut sb haC, fun h3 sb3 => ?_⟩
  exact ⟨_, H', I2.turned (t' := s2.toks) (fun b o hb e => (sb3.2 b hb).trans e) f0 f1 f3 f4 f5, q⟩
end
end Kn
set_option Elab.async false
set_option linter.all false
set_option maxRecDepth 100000
set_option maxHeartbeats 4000000
/-! Dicts of counts; names by number. -/
namespace Kn
open PySem PySem.Spec PyProof.Rows L2 KM

/-! ### a dict of counts -/
/-- counts with that name set -/
def putC (cs : List (Str × Int)) (x : Str) (v : Int) : List (Str × Int) := if x ∈ nms cs then cs.map (fun p => if p.1 = x then (p.1, v) else p) else cs ++ [(x, v)]
theorem inr_eq {a b : Str} : ((Sum.inr a : Key) = Sum.inr b) ↔ a = b := ⟨Sum.inr.inj, fun e => by rw [e]⟩
theorem val_eq (x : Str) : ∀ cs : List (Str × Int), valV (cs.map kvP) (Sum.inr x) = if x ∈ nms cs then some (V.int (cnt cs x)) else none
  | [] => by simp [valV, nms]
  | p :: r => by
    rw [List.map_cons]
    by_cases e : p.1 = x
    · rw [valV_pos (p := kvP p) (inr_eq.mpr e), if_pos (by rw [← e]; exact List.mem_cons_self), KM.cnt_cons, if_pos e]; rfl
    · rw [valV_neg (p := kvP p) (fun z => e (inr_eq.mp z)), val_eq x r, KM.cnt_cons, if_neg e]
      by_cases m : x ∈ nms r
      · have h1 : x ∈ nms (p :: r) := List.mem_cons_of_mem _ m
        rw [if_pos m, if_pos h1]
      · have h1 : x ∉ nms (p :: r) := fun z => (List.mem_cons.mp z).elim (fun q => e q.symm) m
        rw [if_neg m, if_neg h1]
theorem val_getD (cs : List (Str × Int)) (x : Str) : (valV (cs.map kvP) (Sum.inr x)).getD (V.int 0) = V.int (cnt cs x) := by
  rw [val_eq]
  by_cases m : x ∈ nms cs
  · rw [if_pos m]; rfl
  · rw [if_neg m, cnt_no m]; rfl
theorem val_some (cs : List (Str × Int)) (x : Str) : (valV (cs.map kvP) (Sum.inr x)).isSome = decide (x ∈ nms cs) := by
  rw [val_eq]
  by_cases m : x ∈ nms cs
  · rw [if_pos m]; simp [m]
  · rw [if_neg m]; simp [m]
theorem val_in {cs : List (Str × Int)} {x : Str} (m : x ∈ nms cs) : some (V.int (cnt cs x)) = valV (cs.map kvP) (Sum.inr x) := by rw [val_eq, if_pos m]
theorem put_eq (cs : List (Str × Int)) (x : Str) (v : Int) : putK (cs.map kvP) (Sum.inr x) (V.int v) = (putC cs x v).map kvP := by
  unfold putK putC
  rw [valV_any, val_some]
  by_cases m : x ∈ nms cs
  · rw [if_pos (decide_eq_true m), if_pos m, List.map_map, List.map_map]
    refine List.map_congr_left fun p _ => ?_
    show (if (Sum.inr p.1 : Key) = Sum.inr x then _ else _) = kvP (if p.1 = x then (p.1, v) else p)
    by_cases e : p.1 = x
    · rw [if_pos (inr_eq.mpr e), if_pos e]; rfl
    · rw [if_neg (fun z => e (inr_eq.mp z)), if_neg e]
  · rw [if_neg (by simp [m]), if_neg m, List.map_append]; rfl
theorem nms_put (cs : List (Str × Int)) (x : Str) (v : Int) : nms (putC cs x v) = if x ∈ nms cs then nms cs else nms cs ++ [x] := by
  unfold putC
  by_cases m : x ∈ nms cs
  · rw [if_pos m, if_pos m]
    unfold nms
    rw [List.map_map]
    refine List.map_congr_left fun p _ => ?_
    show (if p.1 = x then (p.1, v) else p).1 = p.1
    split <;> rfl
  · rw [if_neg m, if_neg m]
    unfold nms
    rw [List.map_append]; rfl
theorem mem_put {cs : List (Str × Int)} {x y : Str} {v : Int} : y ∈ nms (putC cs x v) ↔ y = x ∨ y ∈ nms cs := by
  rw [nms_put]
  by_cases m : x ∈ nms cs
  · rw [if_pos m]; exact ⟨.inr, fun h => h.elim (fun e => by rw [e]; exact m) id⟩
  · rw [if_neg m, List.mem_append, List.mem_singleton]; exact Or.comm
theorem nd_put {cs : List (Str × Int)} {x : Str} {v : Int} (h : (nms cs).Nodup) : (nms (putC cs x v)).Nodup := by
  rw [nms_put]
  by_cases m : x ∈ nms cs
  · rw [if_pos m]; exact h
  · rw [if_neg m, List.nodup_append]
    exact ⟨h, by simp, fun a ha b hb e => m (by rw [← List.mem_singleton.mp hb, ← e]; exact ha)⟩
theorem cnt_put (cs : List (Str × Int)) (x y : Str) (v : Int) : cnt (putC cs x v) y = if y = x then v else cnt cs y := by
  have h : ∀ l : List (Str × Int), x ∈ nms l → cnt (l.map (fun p => if p.1 = x then (p.1, v) else p)) y = if y = x then v else cnt l y := by
    intro l
    induction l with
    | nil => intro m; cases m
    | cons p r ih =>
      intro m
      rw [List.map_cons, KM.cnt_cons, KM.cnt_cons]
      by_cases e : p.1 = x
      · rw [if_pos e]
        show (if p.1 = y then v else _) = _
        by_cases q : p.1 = y
        · rw [if_pos q, if_pos (q.symm.trans e)]
        · rw [if_neg q, if_neg q, if_neg (fun z => q (e.trans z.symm))]
          by_cases m' : x ∈ nms r
          · rw [ih m', if_neg (fun z => q (e.trans z.symm))]
          · have k : ∀ l : List (Str × Int), x ∉ nms l → l.map (fun p => if p.1 = x then (p.1, v) else p) = l := by
              intro l
              induction l with
              | nil => intro _; rfl
              | cons p l ih2 =>
                intro z
                have z1 : ¬ p.1 = x := fun e => z (by rw [← e]; exact List.mem_cons_self)
                rw [List.map_cons, if_neg z1, ih2 fun z2 => z (List.mem_cons_of_mem _ z2)]
            have := k r m'
            rw [this]
      · rw [if_neg e]
        have m' : x ∈ nms r := (List.mem_cons.mp m).resolve_left fun q => e q.symm
        by_cases q : p.1 = y
        · rw [if_pos q, if_pos q, if_neg (fun z => e (q.trans z))]
        · rw [if_neg q, if_neg q, ih m']
  have h2 : ∀ l : List (Str × Int), x ∉ nms l → cnt (l ++ [(x, v)]) y = if y = x then v else cnt l y := by
    intro l
    induction l with
    | nil =>
      intro _
      rw [List.nil_append, KM.cnt_cons]
      by_cases e : x = y
      · rw [if_pos e, if_pos e.symm]
      · rw [if_neg e, if_neg (fun z => e z.symm)]
    | cons p r ih =>
      intro m
      have m1 : p.1 ≠ x := fun e => m (by rw [← e]; exact List.mem_cons_self)
      rw [List.cons_append, KM.cnt_cons, KM.cnt_cons]
      by_cases q : p.1 = y
      · rw [if_pos q, if_pos q, if_neg (fun z => m1 (q.trans z))]
      · rw [if_neg q, if_neg q, ih fun z => m (List.mem_cons_of_mem _ z)]
  unfold putC
  by_cases m : x ∈ nms cs
  · rw [if_pos m]; exact h cs m
  · rw [if_neg m]; exact h2 cs m
theorem len_put (cs : List (Str × Int)) (x : Str) (v : Int) : (putC cs x v).length ≤ cs.length + 1 := by
  unfold putC
  split
  · rw [List.length_map]; omega
  · rw [List.length_append]; exact Nat.le_refl _
theorem tot_put {cs : List (Str × Int)} {x : Str} {v : Int} (nd : (nms cs).Nodup) : tot (putC cs x v) = tot cs - cnt cs x + v := by
  have hN := nd_put (x := x) (v := v) nd
  have s1 := tot_over (T := putC cs x v) (N := nms (putC cs x v)) hN hN fun n h => h
  have s2 := tot_over (T := cs) (N := nms (putC cs x v)) nd hN fun n h => mem_put.mpr (.inr h)
  have hx : x ∈ nms (putC cs x v) := mem_put.mpr (.inl rfl)
  have e : ((nms (putC cs x v)).map fun n => cnt (putC cs x v) n) = (nms (putC cs x v)).map fun n => cnt cs n + (if x = n then v - cnt cs x else 0) := by
    refine List.map_congr_left fun n _ => ?_
    rw [cnt_put]
    by_cases q : n = x
    · rw [if_pos q, if_pos q.symm, q]; omega
    · rw [if_neg q, if_neg (fun z => q z.symm)]; omega
  rw [e, sum_add, s2, sum_one hN hx] at s1
  omega
/-- the dict of counts at d -/
def DC (H : Hp) (d : Addr) (cs : List (Str × Int)) : Prop := H d = some (.dK (cs.map kvP))
theorem dget {H : Hp} {d : Addr} {cs : List (Str × Int)} {x : Str} (h : DC H d cs) : DGet H d (.str x) (valV (cs.map kvP) (Sum.inr x)) := DGet.k (k := Sum.inr x) h
theorem dput {H : Hp} {d : Addr} {cs : List (Str × Int)} {x : Str} {v : Int} (h : DC H d cs) (hl : cs.length ≤ 100000) : DPut H d (.str x) (.int v) (upd H d (.dK ((putC cs x v).map kvP))) := by
  rw [← put_eq]
  exact DPut.k (k := Sum.inr x) h (by rw [List.length_map]; exact szl hl)

/-! ### unlike things -/
theorem nd_le {α : Type} [DecidableEq α] : ∀ {l m : List α}, l.Nodup → (∀ x ∈ l, x ∈ m) → l.length ≤ m.length
  | [], _, _, _ => Nat.zero_le _
  | x :: l, m, nd, h => by
    obtain ⟨n1, n2⟩ := List.nodup_cons.mp nd
    have hx := h x List.mem_cons_self
    have ih := nd_le (m := m.erase x) n2 fun y hy => by
      have : y ≠ x := fun e => n1 (by rw [← e]; exact hy)
      exact (List.mem_erase_of_ne this).mpr (h y (List.mem_cons_of_mem _ hy))
    have e := List.length_erase_of_mem hx
    have p := List.length_pos_of_mem hx
    simp only [List.length_cons]
    omega

/-! ### names by number -/
def sg (i : Nat) : Str := ⟨#[97 + i]⟩
/-- below 702 -/
def numN (n : Nat) : Str := if n < 26 then sg n else ⟨#[97 + (n / 26 - 1), 97 + n % 26]⟩
theorem numN_ok {n : Nat} (h : n < 702) : NmOk (numN n) := by
  unfold numN
  by_cases q : n < 26
  · rw [if_pos q]
    refine ⟨Nat.le_refl 1, by show 1 ≤ 8; decide, fun c hc => ?_⟩
    have e : c = 97 + n := by simpa [sg] using hc
    omega
  · rw [if_neg q]
    refine ⟨by show 1 ≤ 2; decide, by show 2 ≤ 8; decide, fun c hc => ?_⟩
    have e : c = 97 + (n / 26 - 1) ∨ c = 97 + n % 26 := by simpa using hc
    omega
theorem numN_inj {m n : Nat} (hm : m < 702) (hn : n < 702) (e : numN m = numN n) : m = n := by
  unfold numN at e
  by_cases a : m < 26
  · by_cases b : n < 26
    · rw [if_pos a, if_pos b] at e
      have : (97 + m) = 97 + n := by
        have := congrArg (fun z : Str => z.cps.toList) e
        simpa [sg] using this
      omega
    · rw [if_pos a, if_neg b] at e
      have := congrArg (fun z : Str => z.cps.size) e
      simp [sg] at this
  · by_cases b : n < 26
    · rw [if_neg a, if_pos b] at e
      have := congrArg (fun z : Str => z.cps.size) e
      simp [sg] at this
    · rw [if_neg a, if_neg b] at e
      have := congrArg (fun z : Str => z.cps.toList) e
      have : (97 + (m / 26 - 1) = 97 + (n / 26 - 1)) ∧ 97 + m % 26 = 97 + n % 26 := by simpa using this
      omega
theorem at_letter {i : Nat} (h : i < 26) : ("abcdefghijklmnopqrstuvwxyz" : Str).cps.toList[i]? = some (97 + i) := by
  have : ∀ i : Fin 26, ("abcdefghijklmnopqrstuvwxyz" : Str).cps.toList[i.val]? = some (97 + i.val) := by decide +kernel
  exact this ⟨i, h⟩
theorem at_let (k : Nat) : atI ("abcdefghijklmnopqrstuvwxyz" : Str).cps.toList ((k : Int) % 26) = some (97 + k % 26) := by
  rw [show (k : Int) % 26 = ((k % 26 : Nat) : Int) by omega]
  exact atI_nat (at_letter (by omega))
/-- the int in a slot -/
def slI (σ : L2.St) (i : Nat) : Int := match σ[i]? with
  | some (some (V.int m)) => m
  | _ => 0
section
variable {P : Program} {w : World} {K : PySem.W.Frag} {mg : Str → Option Value} {base : Heap} {CP CF : Addr}
def spNum : Sp := fun vs H Q _ => ∃ n : Nat, vs = [.int (n : Int)] ∧ n < 702 ∧ ∀ H', Same H H' → Q (.str (numN n)) H'
theorem c_numbered_name (T : Txt K mg CP CF) : C8.Cal P w K mg base 1 "numbered_name" spNum [] := by
  refine mkc (N := ["number", "signs"]) T.d_numbered_name (by decide +kernel) (fun vs H Q E h => ?_) (fun f cdv A outer s H vs Q E hr h => ?_)
  · obtain ⟨n, rfl, _⟩ := h; rfl
  · obtain ⟨n, rfl, hn, q⟩ := h
    have nd : (["number", "signs"] : List Str).Nodup := by decide +kernel
    refine ⟨_, pss_cons (ps_set (i := 1) nd rfl (Or.inl rfl) (pe_lst pa_nil))
      (pss_cons (ps_while PassesOwn.never (pt_cmpR op_ge (pv 0) pe_int (nomark _))
        (pss_cons (ps_expr (pe_bm F.plainAttrs_list F.slot_list_append F.type_list_append mt_append (pv 1) (pa_cons (pe_ix ix_str (C8.pe_gc (by rfl) T.k_SIGNS) (pe_op op_mod (pv 0) pe_int) (fun _ _ => rfl)) pa_nil)))
        (pss_one (ps_set (i := 0) nd rfl (Or.inl rfl) (pe_op op_sub (pe_op op_fdiv (pv 0) pe_int) pe_int)))))
      (pss_one (ps_ret (pe_join pe_str (pe_revL (pv 1)))))), ?_⟩
    refine ⟨Nat.zero_le _, fun S hS => ?_⟩
    refine while_by (fun σ H1 => Same H (upd H1 S (.lst [])) ∧ ∃ (m : Int) (zs : List Str), σ = [some (.int m), some (.ref S)] ∧ H1 S = some (.lst (zs.map V.str)) ∧ -1 ≤ m ∧
      ((zs = [] ∧ m = n) ∨ (zs = [sg (n % 26)] ∧ m = (n / 26 : Nat) - 1) ∨ (26 ≤ n ∧ zs = [sg (n % 26), sg (n / 26 - 1)] ∧ m = -1))) (fun σ H1 => (slI σ 0 + 1).toNat) ?_ ?_ ?_
    · refine ⟨?_, n, [], rfl, upd_same, by omega, .inl ⟨rfl, rfl⟩⟩
      rw [upd_upd]; exact sn hS
    · rintro σ H1 ⟨e1, m, zs, rfl, hz, hm, hc⟩
      by_cases hm0 : 0 ≤ m
      · refine ⟨_, rfl, m, 0, rfl, rfl, true, blT hm0, iteT ?_⟩
        obtain ⟨k, rfl⟩ : ∃ k : Nat, m = k := ⟨m.toNat, by omega⟩
        have hl : zs.length ≤ 1 := by
          rcases hc with ⟨rfl, _⟩ | ⟨rfl, _⟩ | ⟨_, _, e⟩
          · exact Nat.zero_le _
          · exact Nat.le_refl _
          · omega
        refine ⟨_, rfl, .inl ⟨rfl, _, SqL.of hz⟩, ?_⟩
        refine ⟨_, rfl, _, _, rfl, rfl, (by decide : (0 : Int) < 26), _, _, (97 + k % 26), rfl, rfl, by decide, at_let k, ?_⟩
        refine ⟨S, _, _, rfl, rfl, hz, by rw [List.length_map]; exact szl (by omega), ?_⟩
        refine ⟨_, rfl, _, _, rfl, rfl, ⟨by decide, by decide⟩, _, _, rfl, rfl, ?_⟩
        refine ⟨⟨by rw [upd_upd]; exact e1, (k : Int) / 26 - 1, zs ++ [sg (k % 26)], rfl, ?_, by omega, ?_⟩, ?_⟩
        · rw [upd_same, List.map_append]; rfl
        · rcases hc with ⟨rfl, e⟩ | ⟨rfl, e⟩ | ⟨_, _, e⟩
          · have : k = n := by omega
            subst this
            exact .inr (.inl ⟨rfl, by omega⟩)
          · have e2 : k = n / 26 - 1 := by omega
            have e3 : 26 ≤ n := by omega
            have e4 : k % 26 = n / 26 - 1 := by omega
            exact .inr (.inr ⟨e3, by rw [e4]; rfl, by omega⟩)
          · omega
        · show ((k : Int) / 26 - 1 + 1).toNat < ((k : Int) + 1).toNat
          omega
      · refine ⟨_, rfl, m, 0, rfl, rfl, false, blF hm0, iteF ?_⟩
        refine ⟨⟨_, rfl⟩, _, rfl, S, _, rfl, SqL.of hz, fun p hp => ?_⟩
        rw [← List.map_reverse]
        have e3 : Same H (upd H1 p (.lst (zs.reverse.map V.str))) := fun b o hb => by
          have z := e1 b o hb
          have nb : b ≠ S := ne_of_none hb hS
          rw [upd_ne nb] at z
          rw [upd_ne (ne_of_none z hp)]; exact z
        have key : Txt.join "" zs.reverse = numN n ∧ zs.reverse.length ≤ 2 ∧ (zs.reverse.map (·.length)).sum ≤ 2 := by
          rcases hc with ⟨_, e⟩ | ⟨rfl, e⟩ | ⟨h26, rfl, e⟩
          · omega
          · have : n < 26 := by omega
            have e5 : n % 26 = n := by omega
            refine ⟨?_, Nat.le_succ 1, Nat.le_succ 1⟩
            unfold numN
            rw [if_pos this, e5]
            rfl
          · refine ⟨?_, Nat.le_refl 2, Nat.le_refl 2⟩
            unfold numN
            rw [if_neg (by omega)]
            rfl
        obtain ⟨k1, k2, k3⟩ := key
        refine ⟨_, p, zs.reverse, rfl, rfl, .inl (SqL.of upd_same), ?_, ?_⟩
        · have : (("" : Str)).length = 0 := rfl
          rw [this]; omega
        · have z := q _ e3
          rw [← k1] at z
          exact z
    · rintro σ H1 Q1 Q2 h ⟨x, e, i, j, e1, e2, b, eb, q⟩
      exact ⟨x, e, i, j, e1, e2, b, eb, h _ _ q⟩
end
end Kn
set_option Elab.async false
set_option linter.all false
set_option maxRecDepth 100000
set_option maxHeartbeats 4000000
/-! New names; sums; truths with. -/
namespace Kn
open PySem PySem.Spec PyProof.Rows L2 KM
theorem u1 {k : Nat} {A : Around} (r : Room k A) : A.units + 1 < cLine := by have := r.units; omega
/-- a dict whose keys are those names -/
def KeysAt (H : Hp) (a : Addr) (ks : List Str) : Prop := ∃ kvs : List (Key × V), H a = some (.dK kvs) ∧ kvs.map (·.1) = ks.map Sum.inr
theorem keys_some {x : Str} : ∀ {kvs : List (Key × V)} {ks : List Str}, kvs.map (·.1) = ks.map Sum.inr → (valV kvs (Sum.inr x)).isSome = decide (x ∈ ks)
  | [], [], _ => by simp [valV]
  | [], _ :: _, e => by simp at e
  | _ :: _, [], e => by simp at e
  | p :: r, k :: ks, e => by
    rw [List.map_cons, List.map_cons] at e
    injection e with e1 e2
    by_cases q : k = x
    · rw [valV_pos (e1.trans (by rw [q]))]
      simp [q]
    · rw [valV_neg (fun z => q (Sum.inr.inj (e1.symm.trans z))), keys_some e2]
      have : x ∈ k :: ks ↔ x ∈ ks := ⟨fun h => (List.mem_cons.mp h).resolve_left fun z => q z.symm, fun h => List.mem_cons_of_mem _ h⟩
      simp [this]
/-- the first names that aren't barred -/
def fnd (ks : List Str) (i : Nat) : List Str := ((List.range i).map numN).filter fun x => decide (x ∉ ks)
theorem range_nd {i : Nat} (h : i ≤ 702) : ((List.range i).map numN).Nodup := by
  unfold List.Nodup
  rw [List.pairwise_map]
  refine (List.nodup_range (n := i)).imp_of_mem fun {a b} ha hb ne e => ne ?_
  exact numN_inj (by have := List.mem_range.mp ha; omega) (by have := List.mem_range.mp hb; omega) e
theorem fnd_nd {ks : List Str} {i : Nat} (h : i ≤ 702) : (fnd ks i).Nodup := List.Pairwise.filter _ (range_nd h)
theorem fnd_len {ks : List Str} {i : Nat} (h : i ≤ 702) : i ≤ (fnd ks i).length + ks.length := by
  have nd := range_nd h
  have h1 : (((List.range i).map numN).filter fun x => decide (x ∈ ks)).length ≤ ks.length := nd_le (List.Pairwise.filter _ nd) fun x hx => by
    have := (List.mem_filter.mp hx).2
    exact of_decide_eq_true this
  have h2 : ∀ l : List Str, l.length = (l.filter fun x => decide (x ∈ ks)).length + (l.filter fun x => decide (x ∉ ks)).length := by
    intro l
    induction l with
    | nil => rfl
    | cons x r ih =>
      by_cases m : x ∈ ks
      · rw [List.filter_cons_of_pos (by simp [m]), List.filter_cons_of_neg (by simp [m])]
        simp only [List.length_cons]; omega
      · rw [List.filter_cons_of_neg (by simp [m]), List.filter_cons_of_pos (by simp [m])]
        simp only [List.length_cons]; omega
  have := h2 ((List.range i).map numN)
  rw [List.length_map, List.length_range] at this
  unfold fnd
  omega
theorem fnd_ok {ks : List Str} {i : Nat} (h : i ≤ 702) : ∀ x ∈ fnd ks i, NmOk x ∧ x ∉ ks := fun x hx => by
  obtain ⟨m, nk⟩ := List.mem_filter.mp hx
  obtain ⟨j, hj, rfl⟩ := List.mem_map.mp m
  exact ⟨numN_ok (by have := List.mem_range.mp hj; omega), of_decide_eq_true nk⟩
theorem fnd_succ (ks : List Str) (i : Nat) : fnd ks (i + 1) = fnd ks i ++ (if numN i ∈ ks then [] else [numN i]) := by
  unfold fnd
  rw [List.range_succ, List.map_append, List.filter_append]
  by_cases m : numN i ∈ ks
  · simp [m]
  · simp [m]
section
variable {P : Program} {w : World} {K : PySem.W.Frag} {mg : Str → Option Value} {base : Heap} {CP CF : Addr}
def spNew : Sp := fun vs H Q _ => ∃ (a : Addr) (ks : List Str) (m : Nat), vs = [.ref a, .int m] ∧ KeysAt H a ks ∧ ks.length + m ≤ 600 ∧
  ∀ (H' : Hp) (p : Addr) (l : List Str), Same H H' → H p = none → H' p = some (.lst (l.map V.str)) → l.length = m → l.Nodup → (∀ x ∈ l, NmOk x ∧ x ∉ ks) → Q (.ref p) H'
theorem c_new_names (T : Txt K mg CP CF) : C8.Cal P w K mg base 2 "new_names" spNew [] := by
  refine mkc (N := ["barred", "many", "found", "number", "name"]) T.d_new_names (by decide +kernel) (fun vs H Q E h => ?_) (fun f cdv A outer s H vs Q E hr h => ?_)
  · obtain ⟨a, ks, m, rfl, _⟩ := h; rfl
  · obtain ⟨a, ks, m, rfl, hk, hm, q⟩ := h
    have nd : (["barred", "many", "found", "number", "name"] : List Str).Nodup := by decide +kernel
    obtain ⟨kvs, ha, hks⟩ := hk
    refine ⟨_, pss_cons (ps_set (i := 2) nd rfl (Or.inl rfl) (pe_lst pa_nil)) (pss_cons (ps_set (i := 3) nd rfl (Or.inl rfl) pe_int)
      (pss_cons (ps_while PassesOwn.never (pt_cmpR op_lt (pe_callB call_len_seq (by rfl) T.z_len bo_len (pa_cons (pv 2) pa_nil)) (pv 1) (nomark _))
        (pss_cons (ps_set (i := 4) nd rfl (Or.inl rfl) (C8.pe_c (c_numbered_name T) hr (by decide) (by rfl) (pa_cons (pv 3) pa_nil)))
        (pss_cons (ps_if (pt_cmp (pc_dnotin (u1 hr) (pv 4) (pv 0)) (by rfl)) (pss_one (ps_expr (pe_bm F.plainAttrs_list F.slot_list_append F.type_list_append mt_append (pv 2) (pa_cons (pv 4) pa_nil)))) pss_nil)
        (pss_one (ps_aug (i := 3) nd rfl (Or.inl rfl) pe_int ip_add)))))
      (pss_one (ps_ret (pv 2))))), ?_⟩
    refine ⟨Nat.zero_le _, fun S hS => ?_⟩
    refine while_by (fun σ H1 => Same H (upd H1 S (.lst [])) ∧ ∃ (i : Nat) (y : Option V), σ = [some (.ref a), some (.int m), some (.ref S), some (.int i), y] ∧ H1 S = some (.lst ((fnd ks i).map V.str)) ∧ i ≤ 601 ∧ (fnd ks i).length ≤ m)
      (fun σ H1 => (601 - slI σ 3).toNat) ?_ ?_ ?_
    · refine ⟨?_, 0, none, rfl, upd_same, by omega, Nat.zero_le _⟩
      rw [upd_upd]; exact sn hS
    · rintro σ H1 ⟨e1, i, y, rfl, hz, hi, hl⟩
      have neS : ∀ b o, H b = some o → b ≠ S := fun b o e => ne_of_none e hS
      have ha1 : H1 a = some (.dK kvs) := by
        have := e1 _ _ ha
        rwa [upd_ne (neS _ _ ha)] at this
      by_cases h1 : (fnd ks i).length < m
      · refine ⟨_, rfl, S, _, rfl, .inl (SqL.of hz), _, rfl, _, _, rfl, rfl, true, blT (by rw [List.length_map]; omega), iteT ?_⟩
        have hi2 : i ≤ 600 := by have := fnd_len (ks := ks) (i := i) (by omega); omega
        refine ⟨_, rfl, i, rfl, by omega, fun H2 s2 => ?_⟩
        have e2 : Same H (upd H2 S (.lst [])) := fun b o hb => by
          have z := e1 b o hb
          rw [upd_ne (neS b o hb)] at z ⊢
          exact s2 b o z
        have hz2 := s2 _ _ hz
        have ha2 := s2 _ _ ha1
        refine ⟨_, rfl, _, rfl, a, _, rfl, DGet.k (k := Sum.inr (numN i)) ha2, _, rfl, ?_⟩
        rw [keys_some hks]
        by_cases h2 : numN i ∈ ks
        · rw [decide_eq_true h2]
          refine iteF ?_
          refine ⟨_, rfl, _, _, rfl, rfl, ⟨e2, i + 1, _, rfl, ?_, by omega, ?_⟩, ?_⟩
          · rw [fnd_succ, if_pos h2, List.append_nil]; exact hz2
          · rw [fnd_succ, if_pos h2, List.append_nil]; omega
          · show (601 - ((i : Int) + 1)).toNat < (601 - (i : Int)).toNat
            omega
        · rw [decide_eq_false h2]
          refine iteT ?_
          refine ⟨_, rfl, .inl ⟨rfl, _, SqL.of hz2⟩, _, rfl, S, _, _, rfl, rfl, hz2, by rw [List.length_map]; exact szl (by omega), ?_⟩
          refine ⟨_, rfl, _, _, rfl, rfl, ⟨by rw [upd_upd]; exact e2, i + 1, _, rfl, ?_, by omega, ?_⟩, ?_⟩
          · rw [upd_same, fnd_succ, if_neg h2, List.map_append]; rfl
          · rw [fnd_succ, if_neg h2, List.length_append]
            show _ + 1 ≤ m
            omega
          · show (601 - ((i : Int) + 1)).toNat < (601 - (i : Int)).toNat
            omega
      · refine ⟨_, rfl, S, _, rfl, .inl (SqL.of hz), _, rfl, _, _, rfl, rfl, false, blF (by rw [List.length_map]; omega), iteF ?_⟩
        refine ⟨_, rfl, q H1 S (fnd ks i) (fun b o hb => ?_) hS hz (by omega) (fnd_nd (by omega)) (fnd_ok (by omega))⟩
        have z := e1 b o hb
        rwa [upd_ne (neS b o hb)] at z
    · rintro σ H1 Q1 Q2 h ⟨x, e, p, ys, e2, hq, y, e3, i, j, e4, e5, b, eb, q⟩
      exact ⟨x, e, p, ys, e2, hq, y, e3, i, j, e4, e5, b, eb, h _ _ q⟩
end
end Kn
set_option Elab.async false
set_option linter.all false
set_option maxRecDepth 100000
set_option maxHeartbeats 4000000
/-! Sums of products; truths with. -/
namespace Kn
open PySem PySem.Spec PyProof.Rows L2 KM
section
variable {P : Program} {w : World} {K : PySem.W.Frag} {mg : Str → Option Value} {base : Heap} {CP CF : Addr}
def spRaw : Sp := fun vs H Q _ => ∃ (v u : V) (cs ds : List (Str × Int)), vs = [v, u] ∧ CtsAt H v cs ∧ CtsAt H u ds ∧ (nms ds).Nodup ∧ cs.length ≤ 1000 ∧ (∀ p ∈ cs, 0 ≤ p.2 ∧ p.2 ≤ 1000000) ∧ ∀ H', Same H H' → Q (.int (jn cs ds)) H'
theorem c_raw_joined (T : Txt K mg CP CF) : C8.Cal P w K mg base 1 "raw_joined" spRaw [] := by
  refine mkc (N := ["counts", "others", "told", "name", "number"]) T.d_raw_joined (by decide +kernel) (fun vs H Q E h => ?_) (fun f cdv A outer s H vs Q E hr h => ?_)
  · obtain ⟨v, u, cs, ds, rfl, _⟩ := h; rfl
  · obtain ⟨v, u, cs, ds, rfl, ⟨a, xs, rfl, ha, pa⟩, ⟨b, ys, rfl, hb, pb⟩, nds, hl, hz, q⟩ := h
    have nd : (["counts", "others", "told", "name", "number"] : List Str).Nodup := by decide +kernel
    refine ⟨_, pss_cons (ps_set (i := 2) nd rfl (Or.inr rfl) (pe_callTy (cr_dictT rfl) (by rfl) T.z_dict bo_dict (pa_cons (pv 1) pa_nil)))
      (pss_one (ps_ret (pe_callB (cr_sum rfl) (by rfl) T.z_sum bo_sum (pa_cons
        (pe_lc (own := [("name", 3), ("number", 4)]) (g := gTup K 2 (gCons (gName 3) (gCons (gName 4) gNil))) (by rfl) nd (pi_tup (pv 0))
          (blkOk_by (own := [("name", 3), ("number", 4)]) (N := ["counts", "others", "told", "name", "number"]) (sc := C8.fnScope (topS 38)) (by decide +kernel))
          (fun _ _ _ _ _ => pg_tup rfl (pgs_cons (pg_name (i := 3) nd rfl (Or.inl rfl)) (pgs_cons (pg_name (i := 4) nd rfl (Or.inl rfl)) pgs_nil))) (fun _ _ _ _ _ => pts_nil)
          (fun _ _ _ _ _ => pe_op op_mul (pv 4) (pe_dget2 (u1 hr) (pv 2) (pv 3) pe_int ⟨by rfl, by rfl, by rfl, by rfl⟩))) pa_nil)))), ?_⟩
    refine ⟨_, rfl, b, ys, ds, rfl, hb, pb, nds, fun d hd => ?_⟩
    have s1 : Same H (upd H d (.dK (ds.map kvP))) := sn hd
    refine ⟨_, rfl, a, rfl, ⟨_, (ha.st s1).sq⟩, fun D hD => ?_⟩
    refine lc_all (walk_tup (K := K) (a := a) (xs := xs)) (bs := cs) pa.length.symm (by rw [pa.length]; omega) hD (fun p => p.2 * cnt ds p.1) (fun _ v c => v = V.int c) (fun _ h => h) (fun H3 s3 => ((ha.st s1).st s3).sq) (fun i p x H3 H4 e s3 y Ny k => ?_) mg_pair (fun H3 ys s3 hy pr2 => ?_)
    · obtain ⟨rfl, hx⟩ := y
      obtain ⟨p', hp, b', rfl, hb'⟩ := pgetL pa hx
      have ep : p' = p := Option.some.inj (hp.symm.trans e)
      subst ep
      have hm := hz p' (List.mem_of_getElem? hp)
      refine ⟨b', _, rfl, SqT.of (s3 _ _ (s1 _ _ hb')), rfl, _, _, rfl, _, _, rfl, rfl, rfl, ?_⟩
      have hd3 := s3 _ _ (upd_same (H := H) (a := d) (o := .dK (ds.map kvP)))
      refine ⟨_, rfl, _, rfl, d, rfl, .inl ⟨_, .inl hd3⟩, _, rfl, _, dget hd3, ?_⟩
      rw [val_getD]
      exact ⟨_, _, rfl, rfl, .inl ⟨by omega, by omega⟩, k _ _ (Same.refl _) rfl⟩
    · have ey := peq pr2
      refine ⟨D, _, rfl, SqL.of (by rw [hy, ey]), ?_⟩
      exact q _ (s1.trans s3)
end
end Kn
set_option Elab.async false
set_option linter.all false
set_option maxRecDepth 100000
set_option maxHeartbeats 4000000
/-! Truths with so much taken. -/
namespace Kn
open PySem PySem.Spec PyProof.Rows L2 KM

/-! ### counts -/
theorem nms_sub {cs : List (Str × Int)} {p : Str × Int → Bool} (h : (nms cs).Nodup) : (nms (cs.filter p)).Nodup := by
  unfold nms List.Nodup at *
  rw [List.pairwise_map] at *
  exact h.filter _
theorem mem_nms {cs : List (Str × Int)} {p : Str × Int} (h : p ∈ cs) : p.1 ∈ nms cs := List.mem_map.mpr ⟨p, h, rfl⟩
theorem nms_mem {cs : List (Str × Int)} {x : Str} (h : x ∈ nms cs) : ∃ v, (x, v) ∈ cs := by
  obtain ⟨p, hp, e⟩ := List.mem_map.mp h
  exact ⟨p.2, by rw [← e]; exact hp⟩
theorem cnt_perm {cs ds : List (Str × Int)} (h : (nms cs).Nodup) (p : ds.Perm cs) (n : Str) : KM.cnt ds n = KM.cnt cs n := by
  have hp : (nms ds).Perm (nms cs) := p.map _
  by_cases m : n ∈ nms ds
  · obtain ⟨v, hv⟩ := nms_mem m
    rw [show n = (n, v).1 from rfl, cnt_mem (hp.nodup_iff.mpr h) hv, cnt_mem h (p.mem_iff.mp hv)]
  · rw [cnt_no m, cnt_no fun z => m (hp.mem_iff.mpr z)]
theorem cnt_filter {cs : List (Str × Int)} (h : (nms cs).Nodup) (nn : ∀ p ∈ cs, 0 ≤ p.2) (n : Str) : KM.cnt (cs.filter fun p => decide (0 < p.2)) n = KM.cnt cs n := by
  by_cases m : n ∈ nms cs
  · obtain ⟨v, hv⟩ := nms_mem m
    have e : KM.cnt cs n = v := cnt_mem (p := (n, v)) h hv
    by_cases q : 0 < v
    · rw [e]
      exact cnt_mem (p := (n, v)) (nms_sub h) (List.mem_filter.mpr ⟨hv, decide_eq_true q⟩)
    · have v0 : v = 0 := by have := nn _ hv; omega
      rw [e, v0]
      refine cnt_no fun z => ?_
      obtain ⟨u, hu⟩ := nms_mem z
      obtain ⟨hu1, hu2⟩ := List.mem_filter.mp hu
      have := cnt_mem (p := (n, u)) h hu1
      have hu3 := of_decide_eq_true hu2
      simp only at hu3 this
      omega
  · rw [cnt_no m]
    refine cnt_no fun z => m ?_
    obtain ⟨u, hu⟩ := nms_mem z
    exact mem_nms (p := (n, u)) (List.mem_filter.mp hu).1
theorem cnt_app (cs ds : List (Str × Int)) (n : Str) : KM.cnt (cs ++ ds) n = if n ∈ nms cs then KM.cnt cs n else KM.cnt ds n := by
  induction cs with
  | nil => simp [nms]
  | cons p r ih =>
    rw [List.cons_append, KM.cnt_cons, KM.cnt_cons]
    by_cases e : p.1 = n
    · rw [if_pos e, if_pos e, if_pos (by rw [← e]; exact List.mem_cons_self)]
    · rw [if_neg e, if_neg e, ih]
      by_cases m : n ∈ nms r
      · have m2 : n ∈ nms (p :: r) := List.mem_cons_of_mem _ m
        rw [if_pos m, if_pos m2]
      · have m2 : n ∉ nms (p :: r) := fun z => (List.mem_cons.mp z).elim (fun q => e q.symm) m
        rw [if_neg m, if_neg m2]
theorem tot_app (cs ds : List (Str × Int)) : tot (cs ++ ds) = tot cs + tot ds := by
  unfold tot
  rw [List.map_append, sum_app]
theorem nms_app (cs ds : List (Str × Int)) : nms (cs ++ ds) = nms cs ++ nms ds := List.map_append ..

/-! ### {name: True for name in ..} -/
theorem dc_keys {K : PySem.W.Frag} {a : Addr} {ns : List Str} {j : Nat} {vs : List Nat} {σ : L2.St} {H1 : Hp} {D : Addr} {Qd : Hp → Prop} (ha : SqL K H1 a (ns.map V.str)) (hD : H1 D = none) (hl : ns.length ≤ 1000)
    (w1 : ∀ x, wipe ((wipe σ vs).set j (some x)) vs = wipe σ vs) (w2 : ∀ x : V, ((wipe σ vs).set j (some x))[j]? = some (some x))
    (hd : ∀ H ks, Same H1 H → KeysAt H D ks → (∀ x, x ∈ ks ↔ x ∈ ns) → ks.length ≤ ns.length → ks.Nodup → Qd H) :
    ∃ W : Nat → Nat → Hp → Prop, (∃ m, W 0 m (upd H1 D (.dK []))) ∧ ∀ i m H, W i m H →
      ((Itl K a).stop i H ∧ Qd H) ∨ ((Itl K a).go i H ∧ ∃ Nx : Hp → Prop, (∀ H', Nx H' → ∃ m', m' < m ∧ W (i + 1) m' H') ∧ ∀ x H', (Itl K a).yld i H x H' → gName j x (wipe σ vs) H' fun σ2 H2 => wipe σ2 vs = wipe σ vs ∧ tYes σ2 H2 fun b H3 =>
        if b = true then tVar j σ2 H3 fun y H4 => tC (.bl true) σ2 H4 fun z H5 => ∃ kvs k, y = kV k ∧ H5 D = some (.dK kvs) ∧ kvs.length < sizeLine ∧ Nx (upd H5 D (.dK (putK kvs k z))) else Nx H3) := by
  have sq : ∀ H, Same H1 H → SqL K H a (ns.map V.str) := fun H s => by
    rcases ha with h | h
    · rcases h with h | ⟨o, h⟩
      · exact .inl (.inl (s _ _ h))
      · exact .inl (.inr ⟨o, s _ _ h⟩)
    · exact .inr h
  refine ⟨fun i m H => m = ns.length - i ∧ i ≤ ns.length ∧ Same H1 H ∧ ∃ ks, KeysAt H D ks ∧ (∀ x, x ∈ ks ↔ x ∈ ns.take i) ∧ ks.length ≤ i ∧ ks.Nodup, ⟨ns.length, by simp, Nat.zero_le _, sn hD, [], ⟨[], upd_same, rfl⟩, by simp, Nat.le_refl _, List.nodup_nil⟩, ?_⟩
  rintro i m H ⟨rfl, hi, s1, ks, ⟨kvs, hk, ek⟩, hks, kl, kn⟩
  by_cases hlt : i < ns.length
  · have ex : (ns.map V.str)[i]? = some (.str ns[i]) := by rw [List.getElem?_map, List.getElem?_eq_getElem hlt]; rfl
    refine .inr ⟨⟨_, _, sq H s1, ex⟩, fun H' => i + 1 ≤ ns.length ∧ Same H1 H' ∧ ∃ ks, KeysAt H' D ks ∧ (∀ x, x ∈ ks ↔ x ∈ ns.take (i + 1)) ∧ ks.length ≤ i + 1 ∧ ks.Nodup, fun H' ⟨q1, q2⟩ => ⟨ns.length - (i + 1), by omega, rfl, q1, q2⟩, fun x H' y => ?_⟩
    obtain ⟨rfl, y⟩ := y
    have e := y _ (sq _ s1)
    have ex2 : x = .str ns[i] := Option.some.inj (e.symm.trans ex)
    subst ex2
    refine ⟨w1 _, ?_⟩
    unfold tYes
    dsimp only
    rw [if_pos rfl]
    refine ⟨_, w2 _, kvs, Sum.inr ns[i], rfl, hk, ?_, hlt, ?_, ?_⟩
    · have e1 := congrArg List.length ek
      rw [List.length_map, List.length_map] at e1
      rw [e1]; exact szl (by omega)
    · exact sm s1 hD
    · have tk : ns.take (i + 1) = ns.take i ++ [ns[i]] := by rw [List.take_add_one, List.getElem?_eq_getElem hlt]; rfl
      by_cases h : ns[i] ∈ ks
      · refine ⟨ks, ⟨_, upd_same, ?_⟩, fun x => ?_, by omega, kn⟩
        · unfold putK
          rw [valV_any, keys_some ek, if_pos (decide_eq_true h), ← ek, List.map_map]
          refine List.map_congr_left fun p _ => ?_
          show (if p.1 = _ then _ else p).1 = p.1
          split <;> rfl
        · rw [tk, List.mem_append, List.mem_singleton, hks x]
          exact ⟨.inl, fun z => z.elim id fun e => by rw [e, ← hks]; exact h⟩
      · refine ⟨ks ++ [ns[i]], ⟨_, upd_same, ?_⟩, fun x => ?_, by rw [List.length_append]; show _ + 1 ≤ _; omega, List.nodup_append.mpr ⟨kn, by simp, fun a ha b hb e => h (by rw [← List.mem_singleton.mp hb, ← e]; exact ha)⟩⟩
        · unfold putK
          rw [valV_any, keys_some ek, if_neg (by simp [h]), List.map_append, List.map_append, ek]; rfl
        · rw [tk, List.mem_append, List.mem_append, hks x]
  · have e : i = ns.length := by omega
    subst e
    rw [List.take_length] at hks
    exact .inl ⟨⟨_, sq H s1, by rw [List.length_map]; exact Nat.le_refl _⟩, hd H ks s1 ⟨kvs, hk, ek⟩ hks kl kn⟩
end Kn
set_option Elab.async false
set_option linter.all false
set_option maxRecDepth 100000
set_option maxHeartbeats 4000000
/-! tuple(sorted([(name, d[name]) for name in d if d[name] > 0])). -/
namespace Kn
open PySem PySem.Spec PyProof.Rows L2 KM
theorem sqlS {K : PySem.W.Frag} {H H' : Hp} {a : Addr} {xs : List V} (h : SqL K H a xs) (s : Same H H') : SqL K H' a xs := by
  rcases h with h | h
  · rcases h with h | ⟨o, h⟩
    · exact .inl (.inl (s _ _ h))
    · exact .inl (.inr ⟨o, s _ _ h⟩)
  · exact .inr h
theorem sqtS {K : PySem.W.Frag} {H H' : Hp} {a : Addr} {xs : List V} (h : SqT K H a xs) (s : Same H H') : SqT K H' a xs := by
  rcases h with h | h
  · rcases h with h | ⟨o, h⟩
    · exact .inl (.inl (s _ _ h))
    · exact .inl (.inr ⟨o, s _ _ h⟩)
  · exact .inr h
theorem lock_same {H H' : Hp} {d : Addr} {u f : HO} (h : H d = some u) (s : Same (upd H d f) H') : Same H (upd H' d u) := fun b o e => by
  by_cases q : b = d
  · subst q
    rw [h] at e
    cases e
    exact upd_same
  · rw [upd_ne q]
    exact s b o (by rw [upd_ne q]; exact e)
theorem mut_dK {kvs : List (Key × V)} : Mut (some (.dK kvs)) := True.intro
theorem dgetF {H : Hp} {d : Addr} {o : Obj} {cs : List (Str × Int)} {x : Str} (h : H d = some (.frz o (.dK (cs.map kvP)))) (m : x ∈ nms cs) : DGet H d (.str x) (some (.int (KM.cnt cs x))) := .inl ⟨_, Sum.inr x, .inr ⟨o, h⟩, rfl, val_in m⟩
theorem kv_ix {cs : List (Str × Int)} {i : Nat} {q : Str × Int} {k : Key} {v : V} (e : cs[i]? = some q) (h : (cs.map kvP)[i]? = some (k, v)) : k = Sum.inr q.1 ∧ v = .int q.2 := by
  rw [List.getElem?_map, e] at h
  have := Option.some.inj h
  cases this
  exact ⟨rfl, rfl⟩
theorem pos_tail {K : PySem.W.Frag} {d : Addr} {cs : List (Str × Int)} {a0 a1 a2 a3 a5 a6 a7 a8 : Option V} {H : Hp} {Q : VK} (nd : (nms cs).Nodup) (hl : cs.length ≤ 1000) (hd : DC H d cs)
    (q : ∀ H' r ds, Same H H' → CtsAt H' r ds → ds.Perm (cs.filter fun p => decide (0 < p.2)) → Asc encP ds → Q r H') :
    tCB (rTupF K) (tCons (tCB (rSrtP K) (tCons (tLockE (tLc (iKeys (tVar 4)) (gName 6) (tTest (tOp (rI0 fun i j => .bl (decide (j < i))) (tDGet (tVar 4) (tVar 6)) (tC (.int 0)))) (tTup (tCons (tVar 6) (tCons (tDGet (tVar 4) (tVar 6)) tNil))) [6])) tNil)) tNil)
      [a0, a1, a2, a3, some (.ref d), a5, a6, a7, a8] H Q := by
  refine ⟨d, _, hd, mut_dK, fun od => ?_⟩
  refine ⟨_, rfl, d, od, rfl, .inl ⟨_, upd_same, fun D hD => ?_⟩⟩
  refine lc_pure (walk_keys (d := d) (o := od) (kvs := cs.map kvP)) (bs := cs) (by rw [List.length_map]) (by rw [List.length_map]; omega) hD (fun p => decide (0 < p.2)) id PairAt (fun e h => h.mono e) (fun H3 s3 => s3 _ _ upd_same) (fun i p x H3 H4 e s3 y Ny Nn k1 k2 => ?_) (fun H3 ys s3 hy pr => ?_)
  · obtain ⟨rfl, k, v, hkv, rfl⟩ := y
    obtain ⟨rfl, rfl⟩ := kv_ix e hkv
    have hd3 := s3 _ _ upd_same
    have hm : p.1 ∈ nms cs := mem_nms (List.mem_of_getElem? e)
    have hc : KM.cnt cs p.1 = p.2 := cnt_mem nd (List.mem_of_getElem? e)
    by_cases h0 : 0 < p.2
    · refine ⟨rfl, _, rfl, _, rfl, d, _, rfl, dgetF hd3 hm, _, _, rfl, rfl, true, blT (by rw [hc]; exact h0), iteT ?_⟩
      refine ⟨_, rfl, _, rfl, _, rfl, d, _, rfl, dgetF hd3 hm, (by show 2 ≤ sizeLine; decide), fun t ht => k1 _ _ (sn ht) ⟨t, rfl, ?_⟩ (decide_eq_true h0)⟩
      rw [upd_same, hc]; rfl
    · exact ⟨rfl, _, rfl, _, rfl, d, _, rfl, dgetF hd3 hm, _, _, rfl, rfl, false, blF (by rw [hc]; exact h0), iteF (k2 _ (Same.refl _) (by simp [h0]))⟩
  · have hd3 : H3 d = some (.frz od (.dK (cs.map kvP))) := s3 _ _ upd_same
    have neD : D ≠ d := fun z => by rw [z, upd_same] at hD; cases hD
    rw [List.map_id] at pr
    have s4 := lock_same hd s3
    have xt : ExT H3 (upd H3 d (.dK (cs.map kvP))) := tx_mut hd3 rfl
    refine ⟨hd3, D, ys, _, rfl, SqL.of (by rw [upd_ne neD]; exact hy), pr.mono fun _ _ z => z.mono xt, fun zs ds p pm as pz hp => ?_⟩
    refine ⟨p, zs, rfl, SqL.of upd_same, fun l o on hlo => ?_⟩
    have s5a : Same H (upd (upd H3 d (.dK (cs.map kvP))) p (.lst zs)) := sm s4 (s4.free hp)
    have s5 : Same H (upd (upd (upd H3 d (.dK (cs.map kvP))) p (.lst zs)) l (.frz o (.tup zs))) := sm s5a (s5a.free hlo)
    have s6 : Same (upd H3 d (.dK (cs.map kvP))) (upd (upd (upd H3 d (.dK (cs.map kvP))) p (.lst zs)) l (.frz o (.tup zs))) := sm (sn hp) ((sn hp).free hlo)
    exact q _ _ ds s5 ⟨l, zs, rfl, ⟨o, on, upd_same⟩, pz.mono fun _ _ z => z.mono (tx s6)⟩ pm as
end Kn
set_option Elab.async false
set_option linter.all false
set_option maxRecDepth 100000
set_option maxHeartbeats 4000000
/-! truth_with. -/
namespace Kn
open PySem PySem.Spec PyProof.Rows L2 KM
/-- what truth_with makes: fs are the new names with what they take -/
structure Made (kept ts : List (Str × Int)) (bs : List Str) (left size : Int) (ds fs : List (Str × Int)) : Prop where
  nf : (nms fs).Nodup
  ff : ∀ p ∈ fs, NmOk p.1 ∧ p.1 ∉ bs ∧ p.1 ∉ nms kept ∧ p.1 ∉ nms ts ∧ 0 < p.2 ∧ p.2 ≤ size
  tf : tot fs = left
  asc : (nms ds).Pairwise sLt
  pos : ∀ p ∈ ds, 0 < p.2
  nm : ∀ p ∈ ds, NmOk p.1
  val : ∀ n, KM.cnt ds n = KM.cnt kept n + KM.cnt ts n + KM.cnt fs n
  len : ds.length ≤ kept.length + ts.length + fs.length
  fl : fs.length ≤ 40
def NamesAt (K : PySem.W.Frag) (H : Hp) (v : V) (bs : List Str) : Prop := ∃ a, v = .ref a ∧ (SqL K H a (bs.map V.str) ∨ SqT K H a (bs.map V.str))
def spTW (K : PySem.W.Frag) : Sp := fun vs H Q _ => ∃ (v u : V) (size : Int) (tk : Addr) (s : Sk) (xs : List V) (ts : List (Str × Int)) (bs : List Str), vs = [v, .ref tk, .int size, u] ∧ SkAt H v s ∧ CtOk s.kept ∧ s.kept.length ≤ 100 ∧
  H tk = some (.lst xs) ∧ Paired (PairAt H) xs ts ∧ (nms ts).Nodup ∧ ts.length ≤ 100 ∧ (∀ p ∈ ts, NmOk p.1 ∧ 0 ≤ p.2) ∧ NamesAt K H u bs ∧ bs.length ≤ 200 ∧ tot ts ≤ lost s ∧ (tot ts < lost s → 0 < size ∧ size < 1000000 ∧ lost s - tot ts ≤ 40 * size) ∧
  ∀ H' r ds fs, Same H H' → CtsAt H' r ds → Made s.kept ts bs (lost s - tot ts) size ds fs → Q r H'
/-- counts behind the first loop -/
structure Tk1 (kept ts : List (Str × Int)) (i : Nat) (cs : List (Str × Int)) : Prop where
  nd : (nms cs).Nodup
  val : ∀ n, KM.cnt cs n = KM.cnt kept n + if n ∈ nms (ts.take i) then KM.cnt ts n else 0
  sub : ∀ n, n ∈ nms cs ↔ n ∈ nms kept ∨ n ∈ nms (ts.take i)
  len : cs.length ≤ kept.length + i
theorem tk1_0 {kept ts : List (Str × Int)} (h : (nms kept).Nodup) : Tk1 kept ts 0 kept := ⟨h, fun n => by simp [nms], fun n => by simp [nms], by omega⟩
theorem take_nms {ts : List (Str × Int)} {i : Nat} {p : Str × Int} (h : ts[i]? = some p) : nms (ts.take (i + 1)) = nms (ts.take i) ++ [p.1] := by
  rw [List.take_add_one, h]
  unfold nms
  rw [List.map_append]; rfl
theorem take_tot {ts : List (Str × Int)} {i : Nat} {p : Str × Int} (h : ts[i]? = some p) : tot (ts.take (i + 1)) = tot (ts.take i) + p.2 := by
  rw [List.take_add_one, h, tot_app]
  show _ + (p.2 + 0) = _
  omega
theorem take_new {ts : List (Str × Int)} {i : Nat} {p : Str × Int} (nd : (nms ts).Nodup) (h : ts[i]? = some p) : p.1 ∉ nms (ts.take i) := fun m => by
  obtain ⟨v, hv⟩ := nms_mem m
  obtain ⟨j, hj⟩ := List.mem_iff_getElem?.mp hv
  rw [List.getElem?_take] at hj
  split at hj
  · rename_i hlt
    have h1 : (nms ts)[j]? = some p.1 := by unfold nms; rw [List.getElem?_map, hj]; rfl
    have h2 : (nms ts)[i]? = some p.1 := by unfold nms; rw [List.getElem?_map, h]; rfl
    have := (List.getElem?_inj (List.getElem?_eq_some_iff.mp h1).1 nd).mp (h1.trans h2.symm)
    omega
  · cases hj
theorem tk1_s {kept ts cs : List (Str × Int)} {i : Nat} {p : Str × Int} (nd : (nms ts).Nodup) (h : ts[i]? = some p) (T : Tk1 kept ts i cs) : Tk1 kept ts (i + 1) (putC cs p.1 (KM.cnt cs p.1 + p.2)) := by
  refine ⟨nd_put T.nd, fun n => ?_, fun n => ?_, ?_⟩
  · rw [cnt_put, take_nms h]
    by_cases e : n = p.1
    · rw [if_pos e, if_pos (by rw [e]; exact List.mem_append_right _ (List.mem_singleton.mpr rfl)), T.val, if_neg (take_new nd h), e, cnt_mem nd (List.mem_of_getElem? h)]
      omega
    · rw [if_neg e, T.val]
      by_cases m : n ∈ nms (ts.take i)
      · rw [if_pos m, if_pos (List.mem_append_left _ m)]
      · rw [if_neg m, if_neg fun z => (List.mem_append.mp z).elim m fun q => e (List.mem_singleton.mp q)]
  · rw [mem_put, T.sub, take_nms h, List.mem_append, List.mem_singleton]
    constructor
    · rintro (q | q | q)
      · exact .inr (.inr q)
      · exact .inl q
      · exact .inr (.inl q)
    · rintro (q | q | q)
      · exact .inr (.inl q)
      · exact .inr (.inr q)
      · exact .inl q
  · have := len_put cs p.1 (KM.cnt cs p.1 + p.2)
    have := T.len
    omega
theorem tk1_end {kept ts cs : List (Str × Int)} (T : Tk1 kept ts ts.length cs) : (∀ n, KM.cnt cs n = KM.cnt kept n + KM.cnt ts n) ∧ ∀ n, n ∈ nms cs ↔ n ∈ nms kept ∨ n ∈ nms ts := by
  have e : ts.take ts.length = ts := List.take_length
  refine ⟨fun n => ?_, fun n => by rw [T.sub, e]⟩
  rw [T.val, e]
  by_cases m : n ∈ nms ts
  · rw [if_pos m]
  · rw [if_neg m, cnt_no m]
/-- the end: the counts that are more than nothing -/
theorem made_of {kept ts cs fs ds : List (Str × Int)} {bs : List Str} {left size : Int} (ck : CtOk kept) (ht : ∀ p ∈ ts, NmOk p.1 ∧ 0 ≤ p.2) (nf : (nms fs).Nodup) (ff : ∀ p ∈ fs, NmOk p.1 ∧ p.1 ∉ bs ∧ p.1 ∉ nms kept ∧ p.1 ∉ nms ts ∧ 0 < p.2 ∧ p.2 ≤ size) (tf : tot fs = left)
    (nd : (nms cs).Nodup) (val : ∀ n, KM.cnt cs n = KM.cnt kept n + KM.cnt ts n + KM.cnt fs n) (sub : ∀ n ∈ nms cs, n ∈ nms kept ∨ n ∈ nms ts ∨ n ∈ nms fs) (len : cs.length ≤ kept.length + ts.length + fs.length)
    (pm : ds.Perm (cs.filter fun p => decide (0 < p.2))) (as : Asc encP ds) (fl : fs.length ≤ 40) : Made kept ts bs left size ds fs := by
  have ndf := nms_sub (p := fun p => decide (0 < p.2)) nd
  have ndd : (nms ds).Nodup := (show (nms ds).Perm _ from pm.map _).nodup_iff.mpr ndf
  have nn : ∀ p ∈ cs, 0 ≤ p.2 := fun p hp => by
    have e := cnt_mem nd hp
    have := val p.1
    have h1 := cnt_nonneg (cs := kept) (fun p hp => Int.le_of_lt (ck.pos p hp)) p.1
    have h2 := cnt_nonneg (cs := ts) (fun p hp => (ht p hp).2) p.1
    have h3 := cnt_nonneg (cs := fs) (fun p hp => Int.le_of_lt (ff p hp).2.2.2.2.1) p.1
    omega
  refine ⟨nf, ff, tf, asc_nms as ndd, fun p hp => ?_, fun p hp => ?_, fun n => ?_, ?_, fl⟩
  · exact of_decide_eq_true (List.mem_filter.mp (pm.mem_iff.mp hp)).2
  · have := sub p.1 (mem_nms (List.mem_filter.mp (pm.mem_iff.mp hp)).1)
    rcases this with q | q | q
    · obtain ⟨v, hv⟩ := nms_mem q
      exact ck.nm (p.1, v) hv
    · obtain ⟨v, hv⟩ := nms_mem q
      exact (ht (p.1, v) hv).1
    · obtain ⟨v, hv⟩ := nms_mem q
      exact (ff (p.1, v) hv).1
  · rw [cnt_perm ndf pm, cnt_filter nd nn, val]
  · rw [pm.length_eq]
    exact Nat.le_trans (List.length_filter_le _ _) len
section
variable {P : Program} {w : World} {K : PySem.W.Frag} {mg : Str → Option Value} {base : Heap} {CP CF : Addr}
theorem c_truth_with (T : Txt K mg CP CF) : C8.Cal P w K mg base 3 "truth_with" (spTW K) [] := by
  refine mkc (N := ["sketch", "taken", "size", "barred", "told", "left", "name", "number", "avoid"]) T.d_truth_with (by decide +kernel) (fun vs H Q E h => ?_) (fun f cdv A outer s H vs Q E hr h => ?_)
  · obtain ⟨v, u, size, tk, sk, xs, ts, bs, rfl, _⟩ := h; rfl
  · obtain ⟨v, u, size, tk, sk, xs, ts, bs, rfl, hS, ck, lk, htk, pts, ndt, lt, ht, ⟨ba, rfl, hb⟩, lb, htot, hsz, q⟩ := h
    obtain ⟨a, w', rfl, ha, kb, ks, rfl, hkb, pk⟩ := id hS
    have nd : (["sketch", "taken", "size", "barred", "told", "left", "name", "number", "avoid"] : List Str).Nodup := by decide +kernel
    have hr1 : Room 1 _ := hr.mono (by decide)
    refine ⟨_, pss_cons (ps_set (i := 4) nd rfl (Or.inr rfl) (pe_callTy (cr_dictT rfl) (by rfl) T.z_dict bo_dict (pa_cons (pe_ix ix_tup (pv 0) (C8.pe_gc (by rfl) T.k_KEPT) (fun _ _ => rfl)) pa_nil)))
      (pss_cons (ps_set (i := 5) nd rfl (Or.inl rfl) (C8.pe_c (c_lost_of T) hr (by decide) (by rfl) (pa_cons (pv 0) pa_nil)))
      (pss_cons (ps_for PassesOwn.never rfl (pi_list (pv 1)) (pg_tup rfl (pgs_cons (pg_name (i := 6) nd rfl (.inl rfl)) (pgs_cons (pg_name (i := 7) nd rfl (.inl rfl)) pgs_nil)))
        (pss_cons (ps_dput (u1 hr) (pv 4) (pv 6) (pe_op op_add (pe_dget2 (u1 hr) (pv 4) (pv 6) pe_int ⟨by rfl, by rfl, by rfl, by rfl⟩) (pv 7)) (by rfl))
        (pss_one (ps_aug (i := 5) nd rfl (Or.inl rfl) (pv 7) ip_sub))))
      (pss_cons (ps_if (pt_cmpR op_gt (pv 5) pe_int (nomark _))
        (pss_cons (ps_setDc (i := 8) (own := [("name", 6)]) (g := gName 6) (by rfl) nd rfl rfl (by rfl)
            (pi_list (pe_op op_cat (pe_callTy call_list_of (by rfl) T.z_list bo_list (pa_cons (pv 3) pa_nil)) (pe_callTy (call_listD rfl) (by rfl) T.z_list bo_list (pa_cons (pv 4) pa_nil))))
            (blkOk_by (own := [("name", 6)]) (N := ["sketch", "taken", "size", "barred", "told", "left", "name", "number", "avoid"]) (sc := C8.fnScope (topS 32)) (by decide +kernel))
            (fun _ _ _ _ _ => pg_name (i := 6) nd rfl (Or.inl rfl)) (fun _ _ _ _ _ => pts_nil) (fun _ _ _ _ _ => pv 6) (fun _ _ _ _ _ => pe_bl))
        (pss_one (ps_for PassesOwn.never rfl (pi_list (C8.pe_c (c_new_names T) hr (by decide) (by rfl) (pa_cons (pv 8) (pa_cons (pe_op op_fdiv (pe_op op_sub (pe_op op_add (pv 5) (pv 2)) pe_int) (pv 2)) pa_nil)))) (pg_name (i := 6) nd rfl (.inl rfl))
          (pss_cons (ps_dput (u1 hr) (pv 4) (pv 6) (pe_callB (call_min2 rfl) (by rfl) T.z_min bo_min (pa_cons (pv 2) (pa_cons (pv 5) pa_nil))) (by rfl))
          (pss_one (ps_aug (i := 5) nd rfl (Or.inl rfl) (pe_dget (u1 hr) (pv 4) (pv 6) (fun _ _ => rfl)) ip_sub)))))) pss_nil)
      (pss_one (ps_ret (pe_callTy cr_tupF (by rfl) T.z_tuple bo_tuple (pa_cons (pe_callB (cr_srtP hr.units) (by rfl) T.z_sorted bo_sorted (pa_cons
        (pe_lock (pe_lc (own := [("name", 6)]) (g := gName 6) (by rfl) nd (pi_keys (pv 4))
          (blkOk_by (own := [("name", 6)]) (N := ["sketch", "taken", "size", "barred", "told", "left", "name", "number", "avoid"]) (sc := C8.fnScope (topS 32)) (by decide +kernel))
          (fun _ _ _ _ _ => pg_name (i := 6) nd rfl (Or.inl rfl)) (fun _ _ _ _ _ => pts_one (pt_cmpR op_gt (pe_dget (u1 hr) (pv 4) (pv 6) (fun _ _ => rfl)) pe_int (nomark _)))
          (fun _ _ _ _ _ => pe_tup (pa_cons (pv 6) (pa_cons (pe_dget (u1 hr) (pv 4) (pv 6) (fun _ _ => rfl)) pa_nil))))) pa_nil)) pa_nil))))))), ?_⟩
    refine ⟨_, rfl, a, _, 3, _, rfl, rfl, SqT.of ha, rfl, kb, ks, sk.kept, rfl, hkb, pk, ck.nd, fun d hd => ?_⟩
    have s1 : Same H (upd H d (.dK (sk.kept.map kvP))) := sn hd
    refine ⟨_, rfl, _, sk, rfl, hS.mono (tx s1), by omega, fun H1 s2 => ?_⟩
    have s3 : Same H H1 := s1.trans s2
    have hd1 : DC H1 d sk.kept := s2 _ _ upd_same
    refine ⟨_, rfl, tk, rfl, ⟨_, SqL.of (s3 _ _ htk)⟩, for_list (K := K) (a := tk) (xs := xs) (fun i σ H2 => ∃ y6 y7 cs, σ = [some (.ref a), some (.ref tk), some (.int size), some (.ref ba), some (.ref d), some (.int (lost sk - tot (ts.take i))), y6, y7, none] ∧ Same H H2 ∧ DC H2 d cs ∧ Tk1 sk.kept ts i cs)
      ⟨none, none, sk.kept, by rw [List.take_zero, tot_nil, Int.sub_zero]; rfl, s3, hd1, tk1_0 ck.nd⟩ (fun i σ H2 _ ⟨_, _, _, _, s4, _⟩ => SqL.of (s4 _ _ htk)) ?_ ?_⟩
    · rintro i x σ H2 hi ⟨y6, y7, cs, rfl, s4, hdc, tk1⟩
      obtain ⟨p, hp, b, rfl, hb'⟩ := pgetL pts hi
      have il : i < ts.length := (List.getElem?_eq_some_iff.mp hp).1
      refine ⟨b, _, rfl, SqT.of (s4 _ _ hb'), rfl, _, _, rfl, _, _, rfl, rfl, ?_⟩
      refine ⟨_, rfl, d, rfl, .inl ⟨_, .inl hdc⟩, _, rfl, _, dget hdc, ?_⟩
      rw [val_getD]
      refine ⟨_, rfl, _, _, rfl, rfl, _, rfl, _, rfl, d, _, rfl, dput hdc (by have := tk1.len; omega), ?_⟩
      refine ⟨_, rfl, _, rfl, _, _, rfl, rfl, ?_⟩
      exact ⟨_, _, _, by rw [take_tot hp, ← Int.sub_sub]; rfl, sm s4 hd, upd_same, tk1_s ndt hp tk1⟩
    · rintro σ H2 ⟨y6, y7, cs, rfl, s4, hdc, tk1⟩
      have pl : xs.length = ts.length := pts.length
      rw [pl] at tk1 ⊢
      rw [List.take_length]
      obtain ⟨val1, sub1⟩ := tk1_end tk1
      have len1 := tk1.len
      by_cases hlt : 0 < lost sk - tot ts
      · refine ⟨_, rfl, _, 0, rfl, rfl, true, blT hlt, iteT ?_⟩
        obtain ⟨z1, z2, z3⟩ := hsz (by omega)
        -- the names to avoid
        refine ⟨_, rfl, ba, bs.map V.str, rfl, hb.imp (fun h => sqlS h s4) (fun h => sqtS h s4), fun l1 hl1 => ?_⟩
        have s5 := sm s4 (s4.free hl1) (o := .lst (bs.map V.str))
        have hdc5 : DC (upd H2 l1 (.lst (bs.map V.str))) d cs := sn hl1 _ _ hdc
        refine ⟨_, rfl, d, _, rfl, .inl hdc5, fun l2 hl2 => ?_⟩
        have s6 := sm s5 (s5.free hl2) (o := .lst ((cs.map kvP).map fun kv => kV kv.1))
        have ne12 : l1 ≠ l2 := fun z => by rw [z, upd_same] at hl2; cases hl2
        refine ⟨l1, l2, bs.map V.str, _, rfl, rfl, by rw [upd_ne ne12, upd_same], upd_same, by rw [List.length_map, List.length_map, List.length_map]; exact sz (by omega), fun l3 hl3 => ?_⟩
        have s7 := sm s6 (s6.free hl3) (o := .lst (bs.map V.str ++ (cs.map kvP).map fun kv => kV kv.1))
        have en : bs.map V.str ++ (cs.map kvP).map (fun kv => kV kv.1) = (bs ++ nms cs).map V.str := by
          rw [List.map_append, List.map_map]
          unfold nms
          rw [List.map_map]
          rfl
        have lnm : (nms cs).length = cs.length := by unfold nms; rw [List.length_map]
        have hdc7 : DC (upd (upd (upd H2 l1 (.lst (bs.map V.str))) l2 (.lst ((cs.map kvP).map fun kv => kV kv.1))) l3 (.lst (bs.map V.str ++ (cs.map kvP).map fun kv => kV kv.1))) d cs := sn hl3 _ _ (sn hl2 _ _ hdc5)
        refine ⟨l3, rfl, ⟨_, SqL.of upd_same⟩, fun D hD => dc_keys (ns := bs ++ nms cs) (by rw [← en]; exact SqL.of upd_same) hD (by rw [List.length_append]; omega) (fun _ => rfl) (fun _ => rfl) fun H3 kk s8 hkk mem lkk _ => ?_⟩
        have hdc8 : DC H3 d cs := s8 _ _ hdc7
        have s9 := s7.trans s8
        obtain ⟨m, hm⟩ : ∃ m : Nat, (lost sk - tot ts + size - 1) / size = m := ⟨((lost sk - tot ts + size - 1) / size).toNat, by
          have : 0 ≤ (lost sk - tot ts + size - 1) / size := Int.ediv_nonneg (by omega) (by omega)
          omega⟩
        have hq1 := Int.mul_ediv_self_le (x := lost sk - tot ts + size - 1) (k := size) (by omega)
        have hq2 := Int.lt_mul_ediv_self_add (x := lost sk - tot ts + size - 1) (k := size) (by omega)
        rw [hm] at hq1 hq2
        have m40 : m ≤ 40 := by
          rcases Nat.lt_or_ge 40 m with h | h
          · have : size * 41 ≤ size * (m : Int) := Int.mul_le_mul_of_nonneg_left (by omega) (by omega)
            omega
          · exact h
        rw [List.length_append, lnm] at lkk
        refine ⟨_, rfl, _, rfl, _, rfl, _, _, rfl, rfl, _, _, rfl, rfl, _, rfl, _, _, rfl, rfl, ⟨by omega, by omega⟩, D, kk, m, (by show [V.ref D, V.int ((lost sk - tot ts + size - 1) / size)] = _; rw [hm]), hkk, by omega, fun Hn lp l s10 _ hlp hlen hnd hok => ?_⟩
        have hdn : DC Hn d cs := s10 _ _ hdc8
        have sHn := s9.trans s10
        have nel : lp ≠ d := ne_of hlp hdn fun z => nomatch z
        refine ⟨lp, rfl, ⟨_, SqL.of hlp⟩, for_list (K := K) (a := lp) (xs := l.map V.str) (fun j σ H4 => ∃ y6 y7 fs cs', σ = [some (.ref a), some (.ref tk), some (.int size), some (.ref ba), some (.ref d), some (.int (lost sk - tot ts - tot fs)), y6, y7, some (.ref D)] ∧ ExB d Hn H4 ∧ DC H4 d cs' ∧
            nms fs = l.take j ∧ (∀ q ∈ fs, 0 < q.2 ∧ q.2 ≤ size) ∧ ((tot fs = size * j ∧ tot fs ≤ lost sk - tot ts) ∨ (tot fs = lost sk - tot ts ∧ lost sk - tot ts ≤ size * j)) ∧
            (nms cs').Nodup ∧ (∀ n, KM.cnt cs' n = KM.cnt cs n + KM.cnt fs n) ∧ (∀ n ∈ nms cs', n ∈ nms cs ∨ n ∈ nms fs) ∧ cs'.length ≤ cs.length + fs.length)
          ⟨_, _, [], cs, by rw [tot_nil, Int.sub_zero]; rfl, ExB.refl _ _, hdn, by rw [List.take_zero]; rfl, (fun q hq => nomatch hq), .inl ⟨by rw [tot_nil]; omega, by rw [tot_nil]; omega⟩, tk1.nd, (fun n => by rw [KM.cnt_nil]; omega), (fun n h => .inl h), by rw [List.length_nil]; omega⟩
          (fun j σ H4 _ ⟨_, _, _, _, _, x, _⟩ => SqL.of (x _ _ nel hlp)) ?_ ?_⟩
        · rintro j x σ H4 hj ⟨y6, y7, fs, cs', rfl, x4, hdc4, nf, ff, tf, nd4, val4, sub4, len4⟩
          rw [List.getElem?_map] at hj
          have jl : j < l.length := by
            have := List.getElem?_eq_some_iff.mp (show (l.map V.str)[j]? = some x by rw [List.getElem?_map]; exact hj)
            simpa using this.1
          rw [List.getElem?_eq_getElem jl] at hj
          have ex : x = .str l[j] := (Option.some.inj hj).symm
          subst ex
          have hnew := hok l[j] (List.getElem_mem jl)
          have nks : l[j] ∉ nms cs := fun z => hnew.2 ((mem _).mpr (List.mem_append_right _ z))
          have nfs : l[j] ∉ nms fs := fun z => by
            rw [nf] at z
            obtain ⟨k, hk⟩ := List.mem_iff_getElem?.mp z
            rw [List.getElem?_take] at hk
            split at hk
            · have := (List.getElem?_inj (List.getElem?_eq_some_iff.mp hk).1 hnd).mp (hk.trans (List.getElem?_eq_getElem jl).symm)
              omega
            · cases hk
          have lf : fs.length ≤ j := by
            have e := congrArg List.length nf
            unfold nms at e
            rw [List.length_map, List.length_take] at e
            omega
          have jm : size * (j + 1 : Int) ≤ size * m := Int.mul_le_mul_of_nonneg_left (by omega) (by omega)
          rw [Int.mul_add, Int.mul_one] at jm
          have tfl : tot fs = size * j ∧ tot fs < lost sk - tot ts := by
            rcases tf with ⟨t1, t2⟩ | ⟨t1, t2⟩
            · exact ⟨t1, by omega⟩
            · omega
          obtain ⟨t1, t2⟩ := tfl
          generalize hv : (if lost sk - tot ts - tot fs < size then lost sk - tot ts - tot fs else size) = v
          have v0 : 0 < v ∧ v ≤ size := by
            rw [← hv]; split <;> omega
          refine ⟨_, rfl, _, rfl, _, _, rfl, ?_⟩
          rw [hv]
          refine ⟨_, rfl, _, rfl, d, _, rfl, dput hdc4 (by omega), ?_⟩
          have hdc5 : DC (upd H4 d (.dK ((putC cs' l[j] v).map kvP))) d (putC cs' l[j] v) := upd_same
          have hin : l[j] ∈ nms (putC cs' l[j] v) := mem_put.mpr (.inl rfl)
          refine ⟨_, rfl, _, rfl, _, rfl, d, _, rfl, .inl ⟨_, _, .inl hdc5, rfl, val_in hin⟩, _, _, rfl, rfl, ?_⟩
          rw [cnt_put, if_pos rfl]
          refine ⟨some (.str l[j]), y7, fs ++ [(l[j], v)], putC cs' l[j] v, ?_, x4.mut, hdc5, ?_, fun q hq => ?_, ?_, nd_put nd4, fun n => ?_, fun n hn => ?_, ?_⟩
          · rw [tot_app]
            show _ = [_, _, _, _, _, some (V.int (lost sk - tot ts - (tot fs + (v + 0)))), _, _, _]
            rw [show lost sk - tot ts - (tot fs + (v + 0)) = lost sk - tot ts - tot fs - v by omega]
            rfl
          · rw [nms_app, nf, List.take_add_one, List.getElem?_eq_getElem jl]; rfl
          · rcases List.mem_append.mp hq with h | h
            · exact ff q h
            · rw [List.mem_singleton.mp h]; exact v0
          · rw [tot_app]
            have e1 : tot [(l[j], v)] = v := by show v + 0 = v; omega
            have e2 : size * ((j + 1 : Nat) : Int) = size * (j : Int) + size := by
              rw [show ((j + 1 : Nat) : Int) = (j : Int) + 1 by omega, Int.mul_add, Int.mul_one]
            rw [e1, e2]
            by_cases hc : lost sk - tot ts - tot fs < size
            · rw [if_pos hc] at hv
              exact .inr ⟨by omega, by omega⟩
            · rw [if_neg hc] at hv
              exact .inl ⟨by omega, by omega⟩
          · rw [cnt_put, cnt_app]
            by_cases q : n = l[j]
            · rw [if_pos q, q, if_neg nfs, cnt_no nks, KM.cnt_cons, if_pos rfl]; omega
            · rw [if_neg q, val4]
              by_cases m1 : n ∈ nms fs
              · rw [if_pos m1]
              · rw [if_neg m1, cnt_no m1, KM.cnt_cons, if_neg (fun z => q z.symm), KM.cnt_nil]
          · rw [nms_app]
            rcases mem_put.mp hn with h | h
            · exact .inr (List.mem_append_right _ (by rw [h]; exact List.mem_singleton.mpr rfl))
            · exact (sub4 n h).imp id fun z => List.mem_append_left _ z
          · have := len_put cs' l[j] v
            rw [List.length_append]
            show _ ≤ _ + (_ + 1)
            omega
        · rintro σ H4 ⟨y6, y7, fs, cs', rfl, x4, hdc4, nf, ff, tf, nd4, val4, sub4, len4⟩
          rw [List.length_map] at nf tf
          rw [List.take_length] at nf
          have lf : fs.length = m := by
            have e := congrArg List.length nf
            unfold nms at e
            rw [List.length_map] at e
            omega
          have tf2 : tot fs = lost sk - tot ts := by
            rw [hlen] at tf
            rcases tf with ⟨t1, t2⟩ | ⟨t1, _⟩
            · omega
            · exact t1
          have s11 : Same H H4 := fun b o e => x4 b o (ne_of_none e hd) (sHn b o e)
          refine pos_tail nd4 (by omega) hdc4 fun H' r ds sH cH pm as => q H' r ds fs (s11.trans sH) cH ?_
          refine made_of ck ht (by rw [nf]; exact hnd) (fun p hp => ?_) tf2 nd4 (fun n => by rw [val4, val1]) (fun n hn => ?_) (by omega) pm as (by omega)
          · have hpl : p.1 ∈ l := by rw [← nf]; exact mem_nms hp
            obtain ⟨o1, o2⟩ := hok _ hpl
            exact ⟨o1, fun z => o2 ((mem _).mpr (List.mem_append_left _ z)), fun z => o2 ((mem _).mpr (List.mem_append_right _ ((sub1 _).mpr (.inl z)))), fun z => o2 ((mem _).mpr (List.mem_append_right _ ((sub1 _).mpr (.inr z)))), ff p hp⟩
          · rcases sub4 n hn with h | h
            · exact ((sub1 n).mp h).imp id .inl
            · exact .inr (.inr h)
      · refine ⟨_, rfl, _, 0, rfl, rfl, false, blF hlt, iteF ?_⟩
        refine pos_tail tk1.nd (by omega) hdc fun H' r ds sH cH pm as => q H' r ds [] (s4.trans sH) cH ?_
        exact made_of ck ht (by simp [nms]) (fun p hp => nomatch hp) (by rw [tot_nil]; omega) tk1.nd (fun n => by rw [val1, KM.cnt_nil]; omega) (fun n hn => ((sub1 n).mp hn).imp id .inl) (by rw [List.length_nil]; omega) pm as (Nat.zero_le _)
end
end Kn
set_option Elab.async false
set_option linter.all false
set_option maxRecDepth 100000
set_option maxHeartbeats 4000000
/-! Checks of two sketches; portions. -/
namespace Kn
open PySem PySem.Spec PyProof.Rows L2 KM
section
variable {P : Program} {w : World} {K : PySem.W.Frag} {mg : Str → Option Value} {base : Heap} {CP CF : Addr}
def spTold : Sp := fun vs H Q _ => ∃ (v : V) (s : Sk), vs = [v] ∧ SkAt H v s ∧ s.many ≤ 1500 ∧ Q .non H
theorem c_check_told (T : Txt K mg CP CF) : C8.Cal P w K mg base 1 "check_told" spTold [] := by
  refine mkc (N := ["sketch"]) T.d_check_told (by decide +kernel) (fun vs H Q E h => ?_) (fun f cdv A outer s H vs Q E hr h => ?_)
  · obtain ⟨v, sk, rfl, _⟩ := h; rfl
  · obtain ⟨v, sk, rfl, ⟨a, w', rfl, ha, _⟩, hm, q⟩ := h
    refine ⟨_, pss_one (ps_if (pt_cmpR op_gt (pe_ix ix_tup (pv 0) (C8.pe_gc (by rfl) T.k_MANY) (fun _ _ => rfl)) (C8.pe_gc (by rfl) T.k_MOST_TOLD) (nomark _)) (pss_one ps_never) pss_nil), ?_⟩
    exact ⟨_, rfl, a, _, 1, _, rfl, rfl, SqT.of ha, rfl, _, _, rfl, rfl, false, blF (by omega), iteF q⟩
def spBoth : Sp := fun vs H Q _ => ∃ (v u : V) (s t : Sk), vs = [v, u] ∧ SkAt H v s ∧ SkAt H u t ∧ SkOk s ∧ SkOk t ∧ s.room = t.room ∧ ∀ H', Same H H' → Q .non H'
theorem c_check_both (T : Txt K mg CP CF) : C8.Cal P w K mg base 5 "check_both" spBoth [] := by
  refine mkc (N := ["one", "other"]) T.d_check_both (by decide +kernel) (fun vs H Q E h => ?_) (fun f cdv A outer s H vs Q E hr h => ?_)
  · obtain ⟨v, u, sk, tk, rfl, _⟩ := h; rfl
  · obtain ⟨v, u, sk, tk, rfl, hS, hT, ok, ok2, er, q⟩ := h
    obtain ⟨a, w1, rfl, ha, _⟩ := id hS
    obtain ⟨b, w2, rfl, hb, _⟩ := id hT
    refine ⟨_, pss_cons (ps_expr (C8.pe_c (c_check_sketch T) hr (by decide) (by rfl) (pa_cons (pv 0) pa_nil)))
      (pss_cons (ps_expr (C8.pe_c (c_check_sketch T) hr (by decide) (by rfl) (pa_cons (pv 1) pa_nil)))
      (pss_cons (ps_if (pt_cmpR op_ne (pe_ix ix_tup (pv 0) (C8.pe_gc (by rfl) T.k_ROOM) (fun _ _ => rfl)) (pe_ix ix_tup (pv 1) (C8.pe_gc (by rfl) T.k_ROOM) (fun _ _ => rfl)) (nomark _)) (pss_one ps_never) pss_nil)
      (pss_one (ps_if (pt_cmpR op_gt (pe_ix ix_tup (pv 0) (C8.pe_gc (by rfl) T.k_ROOM) (fun _ _ => rfl)) (C8.pe_gc (by rfl) T.k_MOST_JOINED) (nomark _)) (pss_one ps_never) pss_nil)))), ?_⟩
    refine ⟨_, rfl, _, sk, rfl, hS, ok, fun H1 s1 => ?_⟩
    refine ⟨_, rfl, _, tk, rfl, hT.mono (tx s1), ok2, fun H2 s2 => ?_⟩
    have s3 := s1.trans s2
    refine ⟨_, rfl, a, _, 0, _, rfl, rfl, SqT.of (s3 _ _ ha), rfl, _, rfl, b, _, 0, _, rfl, rfl, SqT.of (s3 _ _ hb), rfl, rfl, false, ?_, iteF ?_⟩
    · rw [er]; simp
    · exact ⟨_, rfl, a, _, 0, _, rfl, rfl, SqT.of (s3 _ _ ha), rfl, _, _, rfl, rfl, false, blF (by have := ok.r2; omega), iteF (q _ s3)⟩
theorem kept_le {s : Sk} (ok : SkOk s) : ∀ p ∈ s.kept, 0 ≤ p.2 ∧ p.2 ≤ 1500 := fun p hp => by
  have h0 := ok.ct.pos p hp
  have hl := ok.lo
  have r1 := ok.r1
  have o0 := ok.o0
  have hz : 0 ≤ (s.room + 1) * s.off := Int.mul_nonneg (by omega) o0
  have ht : p.2 ≤ tot s.kept := by
    have : ∀ l : List (Str × Int), (∀ q ∈ l, 0 ≤ q.2) → ∀ q ∈ l, q.2 ≤ tot l := by
      intro l
      induction l with
      | nil => intro _ q h; cases h
      | cons x r ih =>
        intro h q hq
        have hx := h x List.mem_cons_self
        have hr := tot_nonneg (cs := r) fun y hy => h y (List.mem_cons_of_mem _ hy)
        rw [tot_cons]
        rcases List.mem_cons.mp hq with e | hq
        · rw [e]; omega
        · have := ih (fun y hy => h y (List.mem_cons_of_mem _ hy)) q hq
          omega
    exact this _ (fun q hq => Int.le_of_lt (ok.ct.pos q hq)) p hp
  have := ok.m1
  unfold lost at hl
  omega
theorem off_le {s : Sk} (ok : SkOk s) : s.off ≤ 1500 := by
  have hl := ok.lo
  have r1 := ok.r1
  have o0 := ok.o0
  have : s.off * 2 ≤ (s.room + 1) * s.off := by rw [Int.mul_comm (s.room + 1)]; exact Int.mul_le_mul_of_nonneg_left (by omega) o0
  have ht : 0 ≤ tot s.kept := tot_nonneg fun p hp => Int.le_of_lt (ok.ct.pos p hp)
  have := ok.m1
  unfold lost at hl
  omega
theorem lost_b {s : Sk} (ok : SkOk s) : 0 ≤ lost s ∧ lost s ≤ 1500 ∧ lost s ≤ 32 * s.off := by
  have hl := ok.lo
  have hh := ok.hi
  have r1 := ok.r1
  have o0 := ok.o0
  have hz : 0 ≤ (s.room + 1) * s.off := Int.mul_nonneg (by omega) o0
  have ht : 0 ≤ tot s.kept := tot_nonneg fun p hp => Int.le_of_lt (ok.ct.pos p hp)
  have h2 : 2 * s.room * s.off ≤ 32 * s.off := Int.mul_le_mul_of_nonneg_right (by have := ok.r2; omega) o0
  have := ok.m1
  refine ⟨by omega, by unfold lost; omega, by omega⟩
theorem len_le {s : Sk} (ok : SkOk s) : s.kept.length ≤ 16 := by have := ok.len; have := ok.r2; omega
def spPlain : Sp := fun vs H Q _ => ∃ (v u : V) (s t : Sk), vs = [v, u] ∧ SkAt H v s ∧ SkAt H u t ∧ SkOk s ∧ SkOk t ∧ ∀ H', Same H H' → Q (.int (jn s.kept t.kept)) H'
theorem c_plain_sum (T : Txt K mg CP CF) : C8.Cal P w K mg base 2 "plain_sum" spPlain [] := by
  refine mkc (N := ["one", "other"]) T.d_plain_sum (by decide +kernel) (fun vs H Q E h => ?_) (fun f cdv A outer s H vs Q E hr h => ?_)
  · obtain ⟨v, u, sk, tk, rfl, _⟩ := h; rfl
  · obtain ⟨v, u, sk, tk, rfl, ⟨a, w1, rfl, ha, ca⟩, ⟨b, w2, rfl, hb, cb⟩, ok, ok2, q⟩ := h
    refine ⟨_, pss_one (ps_ret (C8.pe_c (c_raw_joined T) hr (by decide) (by rfl) (pa_cons (pe_ix ix_tup (pv 0) (C8.pe_gc (by rfl) T.k_KEPT) (fun _ _ => rfl)) (pa_cons (pe_ix ix_tup (pv 1) (C8.pe_gc (by rfl) T.k_KEPT) (fun _ _ => rfl)) pa_nil)))), ?_⟩
    exact ⟨_, rfl, a, _, 3, _, rfl, rfl, SqT.of ha, rfl, _, rfl, b, _, 3, _, rfl, rfl, SqT.of hb, rfl, _, _, sk.kept, tk.kept, rfl, ca, cb, ok2.ct.nd, by have := len_le ok; omega, fun p hp => by have := kept_le ok p hp; omega, q⟩
theorem c_check_both_told (T : Txt K mg CP CF) : C8.Cal P w K mg base 6 "check_both_told" spBoth [] := by
  refine mkc (N := ["one", "other"]) T.d_check_both_told (by decide +kernel) (fun vs H Q E h => ?_) (fun f cdv A outer s H vs Q E hr h => ?_)
  · obtain ⟨v, u, sk, tk, rfl, _⟩ := h; rfl
  · obtain ⟨v, u, sk, tk, rfl, hS, hT, ok, ok2, er, q⟩ := h
    refine ⟨_, pss_cons (ps_expr (C8.pe_c (c_check_both T) hr (by decide) (by rfl) (pa_cons (pv 0) (pa_cons (pv 1) pa_nil))))
      (pss_cons (ps_expr (C8.pe_c (c_check_told T) hr (by decide) (by rfl) (pa_cons (pv 0) pa_nil)))
      (pss_one (ps_expr (C8.pe_c (c_check_told T) hr (by decide) (by rfl) (pa_cons (pv 1) pa_nil))))), ?_⟩
    refine ⟨_, rfl, _, rfl, _, _, sk, tk, rfl, hS, hT, ok, ok2, er, fun H1 s1 => ?_⟩
    exact ⟨_, rfl, _, sk, rfl, hS.mono (tx s1), ok.m1, _, rfl, _, tk, rfl, hT.mono (tx s1), ok2.m1, q _ s1⟩

/-! ### portions -/
/-- an instance: off, full portions, the rest -/
def PAt (CP : Addr) (H : Hp) (x : Addr) (o f r : Int) : Prop := ∃ dx, H x = some (.ins CP dx [("off", .int o), ("full", .int f), ("rest", .int r)])
def fullOf (s : Sk) : Int := if s.off = 0 then 0 else lost s / s.off
def restOf (s : Sk) : Int := if s.off = 0 then 0 else lost s % s.off
def spPor (CP : Addr) : Sp := fun vs H Q _ => ∃ (x dx : Addr) (v : V) (s : Sk), vs = [.ref x, v] ∧ H x = some (.ins CP dx []) ∧ SkAt H v s ∧ SkOk s ∧ ∀ H', ExB x H H' → PAt CP H' x s.off (fullOf s) (restOf s) → Q .non H'
theorem c_Portions (T : Txt K mg CP CF) : C8.Mak P w K mg base 2 "Portions" CP (spPor CP) [] := by
  refine mki (N := ["self", "sketch", "lost"]) T.g_Portions T.mk_Portions (by decide +kernel) (fun vs H Q E h => ?_) (fun f cdv A outer s H vs Q E hr h => ?_)
  · obtain ⟨x, dx, v, sk, rfl, _⟩ := h; rfl
  · obtain ⟨x, dx, v, sk, rfl, hx, hS, ok, q⟩ := h
    have nd : (["self", "sketch", "lost"] : List Str).Nodup := by decide +kernel
    obtain ⟨a, w1, rfl, ha, _⟩ := id hS
    refine ⟨_, pss_cons (ps_set (i := 2) nd rfl (Or.inl rfl) (C8.pe_c (c_lost_of T) hr (by decide) (by rfl) (pa_cons (pv 1) pa_nil)))
      (pss_cons (ps_fld (pv 0) (pe_ix ix_tup (pv 1) (C8.pe_gc (by rfl) T.k_OFF) (fun _ _ => rfl)) (by rfl))
      (pss_cons (ps_fld (pv 0) (pe_ifExp (pt_cmpR op_eq (pe_fld (pv 0) (by rfl)) pe_int (nomark _)) pe_int (pe_op op_fdiv (pv 2) (pe_fld (pv 0) (by rfl)))) (by rfl))
      (pss_one (ps_fld (pv 0) (pe_ifExp (pt_cmpR op_eq (pe_fld (pv 0) (by rfl)) pe_int (nomark _)) pe_int (pe_op op_mod (pv 2) (pe_fld (pv 0) (by rfl)))) (by rfl))))), ?_⟩
    have o0 := ok.o0
    have o1 := off_le ok
    refine ⟨_, rfl, _, sk, rfl, hS, by have := len_le ok; omega, fun H1 s1 => ?_⟩
    have hx1 := s1 _ _ hx
    refine ⟨_, rfl, a, _, 2, _, rfl, rfl, SqT.of (s1 _ _ ha), rfl, _, rfl, x, CP, dx, _, rfl, hx1, T.cl_Portions, T.n_Portions_off, by decide, ?_⟩
    have e1 : ExB x H (upd H1 x (.ins CP dx [("off", .int sk.off)])) := (ExB.of s1).mut
    by_cases h0 : sk.off = 0
    · refine ⟨_, rfl, x, CP, dx, _, _, rfl, upd_same, T.cl_Portions, T.n_Portions_off, rfl, rfl, true, blT (congrArg V.int h0), iteT ?_⟩
      refine ⟨_, rfl, x, CP, dx, _, rfl, upd_same, T.cl_Portions, T.n_Portions_full, (by show 1 < 1000; decide), ?_⟩
      refine ⟨_, rfl, x, CP, dx, _, _, rfl, upd_same, T.cl_Portions, T.n_Portions_off, rfl, rfl, true, blT (congrArg V.int h0), iteT ?_⟩
      refine ⟨_, rfl, x, CP, dx, _, rfl, upd_same, T.cl_Portions, T.n_Portions_rest, (by show 2 < 1000; decide), ?_⟩
      refine q _ (by rw [upd_upd, upd_upd]; exact (ExB.of s1).mut) ⟨dx, ?_⟩
      unfold fullOf restOf
      rw [upd_same, if_pos h0, if_pos h0]; rfl
    · refine ⟨_, rfl, x, CP, dx, _, _, rfl, upd_same, T.cl_Portions, T.n_Portions_off, rfl, rfl, false, blF (fun z => h0 (V.int.inj z)), iteF ?_⟩
      refine ⟨_, rfl, _, rfl, x, CP, dx, _, _, rfl, upd_same, T.cl_Portions, T.n_Portions_off, rfl, _, _, rfl, rfl, ⟨by omega, by omega⟩, ?_⟩
      refine ⟨_, rfl, x, CP, dx, _, rfl, upd_same, T.cl_Portions, T.n_Portions_full, (by show 1 < 1000; decide), ?_⟩
      refine ⟨_, rfl, x, CP, dx, _, _, rfl, upd_same, T.cl_Portions, T.n_Portions_off, rfl, rfl, false, blF (fun z => h0 (V.int.inj z)), iteF ?_⟩
      refine ⟨_, rfl, _, rfl, x, CP, dx, _, _, rfl, upd_same, T.cl_Portions, T.n_Portions_off, rfl, _, _, rfl, rfl, (by show 0 < sk.off; omega), ?_⟩
      refine ⟨_, rfl, x, CP, dx, _, rfl, upd_same, T.cl_Portions, T.n_Portions_rest, (by show 2 < 1000; decide), ?_⟩
      refine q _ (by rw [upd_upd, upd_upd]; exact (ExB.of s1).mut) ⟨dx, ?_⟩
      unfold fullOf restOf
      rw [upd_same, if_neg h0, if_neg h0]; rfl
end
end Kn
set_option Elab.async false
set_option linter.all false
set_option maxRecDepth 100000
set_option maxHeartbeats 4000000
/-! Portions' choices, what is left. -/
namespace Kn
open PySem PySem.Spec PyProof.Rows L2 KM
def TriAt (H : Hp) (v : V) (t : Int × Int × Int) : Prop := ∃ a, v = .ref a ∧ H a = some (.tup [.int t.1, .int t.2.1, .int t.2.2])
theorem TriAt.mono {H H' : Hp} {v : V} {p : Int × Int × Int} (e : ExT H H') (h : TriAt H v p) : TriAt H' v p := let ⟨a, h1, h2⟩ := h; ⟨a, h1, e _ _ rfl h2⟩
def pch (o F R f r : Int) : List (Int × Int × Int) := ((0, f, r) :: if f < F then [(o, f + 1, r)] else []) ++ if r = 0 ∧ 0 < R then [(R, f, 1)] else []
theorem pch_kds (o F R f r : Int) : pch o F R f r = (kds F R f r).map fun k => (k.val o R, f + fb k, r + rb k) := by
  unfold pch kds
  rw [List.map_append, List.map_cons]
  have e1 : (f + fb .z) = f := by show f + 0 = f; omega
  have e2 : (r + rb .z) = r := by show r + 0 = r; omega
  have e3 : (r + rb .f) = r := by show r + 0 = r; omega
  have e4 : (f + fb .r) = f := by show f + 0 = f; omega
  rw [e1, e2]
  by_cases h1 : f < F <;> by_cases h2 : r = 0 ∧ 0 < R
  · rw [if_pos h1, if_pos h1, if_pos h2, if_pos h2, List.map_singleton, List.map_singleton, e3, e4, h2.1]; rfl
  · rw [if_pos h1, if_pos h1, if_neg h2, if_neg h2, List.map_singleton, e3]; rfl
  · rw [if_neg h1, if_neg h1, if_pos h2, if_pos h2, List.map_singleton, e4, h2.1]; rfl
  · rw [if_neg h1, if_neg h1, if_neg h2, if_neg h2]; rfl
section
variable {P : Program} {w : World} {K : PySem.W.Frag} {mg : Str → Option Value} {base : Heap} {CP CF : Addr}
theorem PAt.st {H H' : Hp} {x : Addr} {o f r : Int} (h : PAt CP H x o f r) (e : Same H H') : PAt CP H' x o f r := let ⟨dx, q⟩ := h; ⟨dx, e _ _ q⟩
def spCh (CP : Addr) : Sp := fun vs H Q _ => ∃ (x : Addr) (o G R fu re : Int), vs = [.ref x, .int fu, .int re] ∧ PAt CP H x o G R ∧ ∀ (H' : Hp) (p : Addr) (us : List V), Same H H' → H' p = some (.lst us) → Paired (TriAt H') us (pch o G R fu re) → Q (.ref p) H'
theorem c_choices (T : Txt K mg CP CF) : C8.Met P w K mg base 1 CP "choices" (spCh CP) [] := by
  refine mkm (N := ["self", "full", "rest", "found"]) T.cl_Portions T.m_Portions_choices (by decide +kernel) (fun vs H Q E h => ?_) (fun f cdv A outer s H vs Q E hr h => ?_)
  · obtain ⟨x, o, G, R, fu, re, rfl, _⟩ := h; rfl
  · obtain ⟨x, o, G, R, fu, re, rfl, hx, q⟩ := h
    have nd : (["self", "full", "rest", "found"] : List Str).Nodup := by decide +kernel
    refine ⟨_, pss_cons (ps_set (i := 3) nd rfl (Or.inl rfl) (pe_lst (pa_cons (pe_tup (pa_cons pe_int (pa_cons (pv 1) (pa_cons (pv 2) pa_nil)))) pa_nil)))
      (C8.pss_cut (ps_if (pt_cmpR op_lt (pv 1) (pe_fld (pv 0) (by rfl)) (nomark _)) (pss_one (ps_expr (pe_bm F.plainAttrs_list F.slot_list_append F.type_list_append mt_append (pv 3) (pa_cons (pe_tup (pa_cons (pe_fld (pv 0) (by rfl)) (pa_cons (pe_op op_add (pv 1) pe_int) (pa_cons (pv 2) pa_nil)))) pa_nil)))) pss_nil)
      (C8.pss_cut (ps_if (pt_chain op_eq op_lt (pv 2) pe_int (pe_fld (pv 0) (by rfl))) (pss_one (ps_expr (pe_bm F.plainAttrs_list F.slot_list_append F.type_list_append mt_append (pv 3) (pa_cons (pe_tup (pa_cons (pe_fld (pv 0) (by rfl)) (pa_cons (pv 1) (pa_cons pe_int pa_nil)))) pa_nil)))) pss_nil)
      (pss_one (ps_ret (pv 3))))), ?_⟩
    obtain ⟨dx, hx⟩ := hx
    refine ⟨_, rfl, _, rfl, (by show 3 ≤ sizeLine; decide), fun t ht => ⟨(by show 1 ≤ sizeLine; decide), fun S hS => ?_⟩⟩
    have s1 : Same H (upd H t (.tup [.int 0, .int fu, .int re])) := sn ht
    have s2 : Same H (upd (upd H t (.tup [.int 0, .int fu, .int re])) S (.lst [.ref t])) := sm s1 (s1.free hS)
    have nS : H S = none := s1.free hS
    have hx2 := s2 _ _ hx
    have p2 : Paired (TriAt (upd (upd H t (.tup [.int 0, .int fu, .int re])) S (.lst [.ref t]))) [V.ref t] [((0 : Int), fu, re)] := .cons ⟨t, rfl, sn hS _ _ upd_same⟩ .nil
    refine ⟨fun σ' H3 => σ' = [some (.ref x), some (.int fu), some (.int re), some (.ref S)] ∧ Same H H3 ∧ ∃ us, H3 S = some (.lst us) ∧ Paired (TriAt H3) us ((0, fu, re) :: if fu < G then [(o, fu + 1, re)] else []), ?_, ?_⟩
    · by_cases h1 : fu < G
      · refine ⟨_, rfl, _, rfl, x, CP, dx, _, _, rfl, hx2, T.cl_Portions, T.n_Portions_full, rfl, _, _, rfl, rfl, true, blT h1, iteT ?_⟩
        refine ⟨_, rfl, .inl ⟨rfl, _, SqL.of upd_same⟩, ?_⟩
        refine ⟨_, rfl, x, CP, dx, _, _, rfl, hx2, T.cl_Portions, T.n_Portions_off, rfl, _, rfl, _, _, rfl, rfl, _, rfl, (by show 3 ≤ sizeLine; decide), fun t2 ht2 => ?_⟩
        have s3 := sm s2 (s2.free ht2) (o := .tup [.int o, .int (fu + 1), .int re])
        have neS : S ≠ t2 := fun z => by rw [← z, upd_same] at ht2; cases ht2
        have hl : upd (upd (upd H t (.tup [.int 0, .int fu, .int re])) S (.lst [.ref t])) t2 (.tup [.int o, .int (fu + 1), .int re]) S = some (.lst [.ref t]) := by rw [upd_ne neS, upd_same]
        refine ⟨S, _, _, rfl, rfl, hl, (by show 1 < sizeLine; decide), ?_⟩
        have xt := tx_mut (u := .lst ([V.ref t] ++ [V.ref t2])) hl rfl
        refine ⟨rfl, sm s3 nS, _, upd_same, ?_⟩
        rw [if_pos h1]
        exact .cons ((p2.mono fun _ _ z => z.mono ((tx (sn ht2)).trans xt)).casesOn (motive := fun l m _ => ∀ a b l' m', l = a :: l' → m = b :: m' → TriAt _ a b) (fun _ _ _ _ e => nomatch e) (fun h _ _ _ _ _ e1 e2 => by cases e1; cases e2; exact h) _ _ _ _ rfl rfl) (.cons ⟨t2, rfl, xt _ _ rfl upd_same⟩ .nil)
      · refine ⟨_, rfl, _, rfl, x, CP, dx, _, _, rfl, hx2, T.cl_Portions, T.n_Portions_full, rfl, _, _, rfl, rfl, false, blF h1, iteF ?_⟩
        refine ⟨rfl, s2, _, upd_same, ?_⟩
        rw [if_neg h1]; exact p2
    · rintro σ' H3 ⟨rfl, s3, us, hu, pu⟩
      have hx3 := s3 _ _ hx
      have lu : us.length ≤ 2 := by
        rw [pu.length]; split <;> simp
      refine ⟨fun σ' H4 => σ' = [some (.ref x), some (.int fu), some (.int re), some (.ref S)] ∧ Same H H4 ∧ ∃ us, H4 S = some (.lst us) ∧ Paired (TriAt H4) us (pch o G R fu re), ?_, ?_⟩
      · by_cases h1 : re = 0
        · refine ⟨_, rfl, rfl, true, blT (congrArg V.int h1), iteT ?_⟩
          by_cases h2 : 0 < R
          · refine ⟨_, rfl, x, CP, dx, _, _, rfl, hx3, T.cl_Portions, T.n_Portions_rest, rfl, _, _, rfl, rfl, true, blT h2, iteT ?_⟩
            refine ⟨_, rfl, .inl ⟨rfl, _, SqL.of hu⟩, ?_⟩
            refine ⟨_, rfl, x, CP, dx, _, _, rfl, hx3, T.cl_Portions, T.n_Portions_rest, rfl, _, rfl, (by show 3 ≤ sizeLine; decide), fun t2 ht2 => ?_⟩
            have s4 := sm s3 (s3.free ht2) (o := .tup [.int R, .int fu, .int 1])
            have hl := sn ht2 (o := .tup [.int R, .int fu, .int 1]) _ _ hu
            refine ⟨S, _, _, rfl, rfl, hl, szl (by omega), ?_⟩
            have xt := tx_mut (u := .lst (us ++ [V.ref t2])) hl rfl
            refine ⟨rfl, sm s4 nS, _, upd_same, ?_⟩
            unfold pch
            rw [if_pos (c := re = 0 ∧ 0 < R) ⟨h1, h2⟩]
            exact papp (pu.mono fun _ _ z => z.mono ((tx (sn ht2)).trans xt)) (.cons ⟨t2, rfl, xt _ _ rfl upd_same⟩ .nil)
          · refine ⟨_, rfl, x, CP, dx, _, _, rfl, hx3, T.cl_Portions, T.n_Portions_rest, rfl, _, _, rfl, rfl, false, blF h2, iteF ?_⟩
            refine ⟨rfl, s3, _, hu, ?_⟩
            unfold pch
            rw [if_neg (c := re = 0 ∧ 0 < R) (fun z => h2 z.2), List.append_nil]; exact pu
        · refine ⟨_, rfl, rfl, false, blF (fun z => h1 (V.int.inj z)), iteF ?_⟩
          refine ⟨_, rfl, iteF ?_⟩
          refine ⟨rfl, s3, _, hu, ?_⟩
          unfold pch
          rw [if_neg (c := re = 0 ∧ 0 < R) (fun z => h1 z.1), List.append_nil]; exact pu
      · rintro σ' H4 ⟨rfl, s4, us, hu, pu⟩
        exact ⟨_, rfl, q _ _ _ s4 hu pu⟩
def spLeft (CP : Addr) : Sp := fun vs H Q _ => ∃ (x : Addr) (o G R fu re : Int), vs = [.ref x, .int fu, .int re] ∧ PAt CP H x o G R ∧ 0 ≤ fu ∧ fu ≤ G ∧ G ≤ 10000 ∧ ∀ (H' : Hp) (p : Addr), Same H H' → H p = none → H' p = some (.lst ((pleft o G R fu re).map V.int)) → Q (.ref p) H'
theorem c_left (T : Txt K mg CP CF) : C8.Met P w K mg base 1 CP "left" (spLeft CP) [] := by
  refine mkm (N := ["self", "full", "rest", "found"]) T.cl_Portions T.m_Portions_left (by decide +kernel) (fun vs H Q E h => ?_) (fun f cdv A outer s H vs Q E hr h => ?_)
  · obtain ⟨x, o, G, R, fu, re, rfl, _⟩ := h; rfl
  · obtain ⟨x, o, G, R, fu, re, rfl, hx, f0, f1, g1, q⟩ := h
    have nd : (["self", "full", "rest", "found"] : List Str).Nodup := by decide +kernel
    refine ⟨_, pss_cons (ps_set (i := 3) nd rfl (Or.inl rfl) (pe_op op_rep (pe_lst (pa_cons (pe_fld (pv 0) (by rfl)) pa_nil)) (pe_op op_sub (pe_fld (pv 0) (by rfl)) (pv 1))))
      (pss_one (ps_ret (pe_ifExp (pt_chain op_eq op_lt (pv 2) pe_int (pe_fld (pv 0) (by rfl))) (pe_op op_cat (pv 3) (pe_lst (pa_cons (pe_fld (pv 0) (by rfl)) pa_nil))) (pv 3)))), ?_⟩
    obtain ⟨dx, hx⟩ := hx
    refine ⟨_, rfl, x, CP, dx, _, _, rfl, hx, T.cl_Portions, T.n_Portions_off, rfl, (by show 1 ≤ sizeLine; decide), fun l1 hl1 => ?_⟩
    have s1 := sn hl1 (o := .lst [.int o])
    have hx1 := s1 _ _ hx
    refine ⟨_, rfl, x, CP, dx, _, _, rfl, hx1, T.cl_Portions, T.n_Portions_full, rfl, _, rfl, _, _, rfl, rfl, ?_⟩
    refine ⟨l1, G - fu, _, rfl, rfl, upd_same, by omega, by omega, ?_, fun l2 hl2 => ?_⟩
    · show 1 * (G - fu).toNat ≤ sizeLine
      exact sz (by omega)
    rw [List.flatten_replicate_singleton]
    have s2 := sm s1 (s1.free hl2) (o := .lst (List.replicate (G - fu).toNat (V.int o)))
    have hx2 := s2 _ _ hx
    by_cases h1 : re = 0
    · refine ⟨_, rfl, rfl, true, blT (congrArg V.int h1), iteT ?_⟩
      by_cases h2 : 0 < R
      · refine ⟨_, rfl, x, CP, dx, _, _, rfl, hx2, T.cl_Portions, T.n_Portions_rest, rfl, _, _, rfl, rfl, true, blT h2, iteT ?_⟩
        refine ⟨_, rfl, _, rfl, x, CP, dx, _, _, rfl, hx2, T.cl_Portions, T.n_Portions_rest, rfl, (by show 1 ≤ sizeLine; decide), fun l3 hl3 => ?_⟩
        have s3 := sm s2 (s2.free hl3) (o := .lst [V.int R])
        have ne : l2 ≠ l3 := fun z => by rw [← z, upd_same] at hl3; cases hl3
        refine ⟨l2, l3, _, _, rfl, rfl, by rw [upd_ne ne, upd_same], upd_same, ?_, fun l4 hl4 => ?_⟩
        · rw [List.length_replicate]
          exact sz (by show _ + 1 ≤ _; omega)
        refine q _ l4 (sm s3 (s3.free hl4)) (s3.free hl4) ?_
        rw [upd_same]
        unfold pleft
        rw [if_pos (c := re = 0 ∧ 0 < R) ⟨h1, h2⟩, List.map_append, List.map_replicate]; rfl
      · refine ⟨_, rfl, x, CP, dx, _, _, rfl, hx2, T.cl_Portions, T.n_Portions_rest, rfl, _, _, rfl, rfl, false, blF h2, iteF ?_⟩
        refine ⟨_, rfl, q _ l2 s2 (s1.free hl2) ?_⟩
        rw [upd_same]
        unfold pleft
        rw [if_neg (c := re = 0 ∧ 0 < R) (fun z => h2 z.2), List.append_nil, List.map_replicate]
    · refine ⟨_, rfl, rfl, false, blF (fun z => h1 (V.int.inj z)), iteF ?_⟩
      refine ⟨_, rfl, iteF ?_⟩
      refine ⟨_, rfl, q _ l2 s2 (s1.free hl2) ?_⟩
      rw [upd_same]
      unfold pleft
      rw [if_neg (c := re = 0 ∧ 0 < R) (fun z => h1 z.1), List.append_nil, List.map_replicate]
end
end Kn
set_option Elab.async false
set_option linter.all false
set_option maxRecDepth 100000
set_option maxHeartbeats 4000000
/-! The table of ways, in the heap; go_on. -/
namespace Kn
open PySem PySem.Spec PyProof.Rows L2 KM
theorem ExB.nw {a p : Addr} {H H' : Hp} {o : HO} (e : ExB a H H') (h : H' p = none) : ExB a H (upd H' p o) := fun b u n q => by
  have z := e b u n q
  rw [upd_ne (ne_of_none z h)]; exact z
theorem st_uniq {l : List Cand} (nd : (l.map Cand.st).Nodup) {a b : Cand} (ha : a ∈ l) (hb : b ∈ l) (e : a.st = b.st) : a = b := by
  induction l with
  | nil => cases ha
  | cons x r ih =>
    rw [List.map_cons, List.nodup_cons] at nd
    rcases List.mem_cons.mp ha with h1 | h1 <;> rcases List.mem_cons.mp hb with h2 | h2
    · rw [h1, h2]
    · exact absurd (List.mem_map.mpr ⟨b, h2, by rw [← e, h1]⟩) nd.1
    · exact absurd (List.mem_map.mpr ⟨a, h1, by rw [e, h2]⟩) nd.1
    · exact ih nd.2 h1 h2
/-- a way: the last name's portions first -/
def WayAt (H : Hp) : V → List (Int × Int) → Prop
  | v, [] => v = .non
  | v, p :: r => ∃ a u, v = .ref a ∧ H a = some (.tup [u, .int p.1, .int p.2]) ∧ WayAt H u r
theorem WayAt.mono {H H' : Hp} (x : ExT H H') : ∀ {ws : List (Int × Int)} {v : V}, WayAt H v ws → WayAt H' v ws
  | [], _, h => h
  | _ :: _, _, ⟨a, u, e, h, t⟩ => ⟨a, u, e, x _ _ rfl h, WayAt.mono x t⟩
def ToldAt (H : Hp) (v : V) (e : Cand) : Prop := ∃ a u, v = .ref a ∧ H a = some (.tup [.int e.tot, u]) ∧ WayAt H u e.ws
theorem ToldAt.mono {H H' : Hp} {v : V} {e : Cand} (x : ExT H H') (h : ToldAt H v e) : ToldAt H' v e := let ⟨a, u, e1, h1, h2⟩ := h; ⟨a, u, e1, x _ _ rfl h1, h2.mono x⟩
def keyL (e : Cand) : List Key := [.inl e.f1, .inl e.r1, .inl e.f2, .inl e.r2]
theorem key_st {a b : Cand} : keyL a = keyL b ↔ a.st = b.st := by
  unfold keyL Cand.st
  simp only [List.cons.injEq, Sum.inl.injEq, and_true, Prod.mk.injEq]
abbrev KvAt (H : Hp) : (List Key × V) → Cand → Prop := fun kv e => kv.1 = keyL e ∧ ToldAt H kv.2 e
theorem kv_get {H : Hp} {c : Cand} : ∀ {kvs : List (List Key × V)} {l : List Cand}, Paired (KvAt H) kvs l →
    (∃ e v, e ∈ l ∧ e.st = c.st ∧ valV kvs (keyL c) = some v ∧ ToldAt H v e) ∨ (c.st ∉ l.map Cand.st ∧ valV kvs (keyL c) = none)
  | _, _, .nil => .inr ⟨by simp, rfl⟩
  | _, _, .cons (a := kv) (b := e) ⟨h1, h2⟩ t => by
    by_cases q : e.st = c.st
    · exact .inl ⟨e, kv.2, List.mem_cons_self, q, valV_pos (h1.trans (key_st.mpr q)), h2⟩
    · have n : ¬ kv.1 = keyL c := fun z => q (key_st.mp (h1.symm.trans z))
      rw [valV_neg n]
      rcases kv_get t with ⟨e', v, m, e1, e2, e3⟩ | ⟨m, e2⟩
      · exact .inl ⟨e', v, List.mem_cons_of_mem _ m, e1, e2, e3⟩
      · exact .inr ⟨fun z => (List.mem_cons.mp z).elim (fun z => q z.symm) m, e2⟩
theorem kv_any {H : Hp} {c : Cand} {kvs : List (List Key × V)} {l : List Cand} (p : Paired (KvAt H) kvs l) : (kvs.any fun kv => decide (kv.1 = keyL c)) = decide (c.st ∈ l.map Cand.st) := by
  induction p with
  | nil => simp
  | @cons kv e ks es hh t ih =>
    obtain ⟨h1, h2⟩ := hh
    rw [List.any_cons, ih, List.map_cons]
    by_cases q : e.st = c.st
    · rw [decide_eq_true (h1.trans (key_st.mpr q)), decide_eq_true (List.mem_cons.mpr (.inl q.symm))]; rfl
    · rw [decide_eq_false (fun z => q (key_st.mp (h1.symm.trans z))), Bool.false_or]
      have : c.st ∈ e.st :: es.map Cand.st ↔ c.st ∈ es.map Cand.st := ⟨fun z => (List.mem_cons.mp z).resolve_left fun z => q z.symm, List.mem_cons_of_mem _⟩
      simp [this]
theorem kv_put {H : Hp} {c : Cand} {v : V} {kvs : List (List Key × V)} {l : List Cand} (p : Paired (KvAt H) kvs l) (h : ToldAt H v c) : Paired (KvAt H) (putK kvs (keyL c) v) (put1 l c) := by
  unfold putK put1
  rw [kv_any p]
  by_cases m : c.st ∈ l.map Cand.st
  · rw [if_pos (decide_eq_true m), if_pos m]
    clear m
    induction p with
    | nil => exact .nil
    | @cons kv e _ _ hh t ih =>
      obtain ⟨h1, h2⟩ := hh
      rw [List.map_cons, List.map_cons]
      refine .cons ?_ ih
      by_cases q : e.st = c.st
      · rw [if_pos q, if_pos (h1.trans (key_st.mpr q))]
        exact ⟨h1.trans (key_st.mpr q), h⟩
      · rw [if_neg q, if_neg (fun z => q (key_st.mp (h1.symm.trans z)))]
        exact ⟨h1, h2⟩
  · rw [if_neg (by simp [m]), if_neg m]
    exact papp p (.cons ⟨rfl, h⟩ .nil)
def BestAt (H : Hp) (d : Addr) (l : List Cand) : Prop := ∃ kvs, H d = some (.dT kvs) ∧ Paired (KvAt H) kvs l
/-- states within the box are not many -/
def boxL : List (Int × Int × Int × Int) := (List.range 33).flatMap fun (a : Nat) => ([0, 1] : List Int).flatMap fun b => (List.range 33).flatMap fun (c : Nat) => ([0, 1] : List Int).map fun d => ((a : Int), b, (c : Int), d)
theorem boxL_len : boxL.length = 4356 := by decide +kernel
theorem box_mem {G1 G2 : Int} {e : Cand} (h : Box G1 G2 e) (g1 : G1 ≤ 32) (g2 : G2 ≤ 32) : e.st ∈ boxL := by
  obtain ⟨⟨a, b⟩, c, ⟨a2, b2⟩, c2⟩ := h
  refine List.mem_flatMap.mpr ⟨e.f1.toNat, List.mem_range.mpr (by omega), List.mem_flatMap.mpr ⟨e.r1, ?_, List.mem_flatMap.mpr ⟨e.f2.toNat, List.mem_range.mpr (by omega), List.mem_map.mpr ⟨e.r2, ?_, ?_⟩⟩⟩⟩
  · rcases c with h | h <;> rw [h] <;> simp
  · rcases c2 with h | h <;> rw [h] <;> simp
  · unfold Cand.st
    rw [Int.toNat_of_nonneg a, Int.toNat_of_nonneg a2]
theorem box_len {G1 G2 : Int} {l : List Cand} (nd : (l.map Cand.st).Nodup) (h : ∀ e ∈ l, Box G1 G2 e) (g1 : G1 ≤ 32) (g2 : G2 ≤ 32) : l.length ≤ 4356 := by
  have := nd_le nd (m := boxL) fun x hx => by
    obtain ⟨e, he, rfl⟩ := List.mem_map.mp hx
    exact box_mem (h e he) g1 g2
  rw [boxL_len, List.length_map] at this
  exact this
end Kn
set_option Elab.async false
set_option linter.all false
set_option maxRecDepth 100000
set_option maxHeartbeats 4000000
set_option pp.maxSteps 300
/-! go_on. -/
namespace Kn
open PySem PySem.Spec PyProof.Rows L2 KM
abbrev FF (p1 p2 nl b : Addr) : List (Str × V) := [("first", .ref p1), ("second", .ref p2), ("names", .ref nl), ("best", .ref b)]
structure Bd (o1 G1 R1 o2 G2 R2 c d : Int) : Prop where
  g1 : G1 ≤ 32
  g2 : G2 ≤ 32
  o1 : 0 ≤ o1 ∧ o1 ≤ 1000000
  r1 : 0 ≤ R1 ∧ R1 ≤ 1000000
  o2 : 0 ≤ o2 ∧ o2 ≤ 1000000
  r2 : 0 ≤ R2 ∧ R2 ≤ 1000000
  c : 0 ≤ c ∧ c ≤ 1000000
  d : 0 ≤ d ∧ d ≤ 1000000
theorem val_b {o R : Int} (h1 : 0 ≤ o ∧ o ≤ 1000000) (h2 : 0 ≤ R ∧ R ≤ 1000000) (k : Kd) : 0 ≤ k.val o R ∧ k.val o R ≤ 1000000 := by
  cases k
  · show 0 ≤ (0 : Int) ∧ (0 : Int) ≤ 1000000; omega
  · exact h1
  · exact h2
theorem flat_s {α β : Type} {f : α → List β} {l : List α} {i : Nat} {e : α} (h : l[i]? = some e) : (l.take (i + 1)).flatMap f = (l.take i).flatMap f ++ f e := by
  rw [List.take_add_one, h, List.flatMap_append]
  simp
section
variable {P : Program} {w : World} {K : PySem.W.Frag} {mg : Str → Option Value} {base : Heap} {CP CF : Addr}
def spGo (CP CF : Addr) : Sp := fun vs H Q _ => ∃ (x dx p1 p2 nl b : Addr) (o1 G1 R1 o2 G2 R2 c d : Int) (L : List Cand), vs = [.ref x, .int c, .int d] ∧ H x = some (.ins CF dx (FF p1 p2 nl b)) ∧ PAt CP H p1 o1 G1 R1 ∧ PAt CP H p2 o2 G2 R2 ∧ BestAt H b L ∧ (∀ e ∈ L, Box G1 G2 e) ∧ Bd o1 G1 R1 o2 G2 R2 c d ∧
  ∀ H' b' L', ExB x H H' → H' x = some (.ins CF dx (FF p1 p2 nl b')) → BestAt H' b' L' → Fd L' (steps o1 G1 R1 o2 G2 R2 c d L) → Q .non H'
theorem c_go_on (T : Txt K mg CP CF) : C8.Met P w K mg base 2 CF "go_on" (spGo CP CF) [] := by
  refine mkm (N := ["self", "count", "other", "later", "state", "told", "taken", "full", "rest", "more", "second", "last", "total", "key"]) T.cl_Filling T.m_Filling_go_on (by decide +kernel) (fun vs H Q E h => ?_) (fun f cdv A outer s H vs Q E hr h => ?_)
  · obtain ⟨x, dx, p1, p2, nl, b, o1, G1, R1, o2, G2, R2, c, d, L, rfl, _⟩ := h; rfl
  · obtain ⟨x, dx, p1, p2, nl, b, o1, G1, R1, o2, G2, R2, c, d, L, rfl, hx, hp1, hp2, ⟨kvs, hb, pkv⟩, hbox, bd, q⟩ := h
    have nd : (["self", "count", "other", "later", "state", "told", "taken", "full", "rest", "more", "second", "last", "total", "key"] : List Str).Nodup := by decide +kernel
    refine ⟨_, pss_cons (ps_set (i := 3) nd rfl (Or.inl rfl) pe_dnewT)
      (pss_cons (ps_lock (ps_for PassesOwn.never rfl (pi_itemsT (pe_fld (pv 0) (by rfl))) (pg_tup rfl (pgs_cons (pg_name (i := 4) nd rfl (.inl rfl)) (pgs_cons (pg_name (i := 5) nd rfl (.inl rfl)) pgs_nil)))
        (pss_one (ps_for PassesOwn.never rfl (pi_list (C8.pe_mt (c_choices T) hr (by decide) (pe_fld (pv 0) (by rfl)) (pa_cons (pe_ix ix_tup (pv 4) pe_int (fun _ _ => rfl)) (pa_cons (pe_ix ix_tup (pv 4) pe_int (fun _ _ => rfl)) pa_nil))))
          (pg_tup rfl (pgs_cons (pg_name (i := 6) nd rfl (.inl rfl)) (pgs_cons (pg_name (i := 7) nd rfl (.inl rfl)) (pgs_cons (pg_name (i := 8) nd rfl (.inl rfl)) pgs_nil))))
          (pss_one (ps_for PassesOwn.never rfl (pi_list (C8.pe_mt (c_choices T) hr (by decide) (pe_fld (pv 0) (by rfl)) (pa_cons (pe_ix ix_tup (pv 4) pe_int (fun _ _ => rfl)) (pa_cons (pe_ix ix_tup (pv 4) pe_int (fun _ _ => rfl)) pa_nil))))
            (pg_tup rfl (pgs_cons (pg_name (i := 9) nd rfl (.inl rfl)) (pgs_cons (pg_name (i := 10) nd rfl (.inl rfl)) (pgs_cons (pg_name (i := 11) nd rfl (.inl rfl)) pgs_nil))))
            (pss_cons (ps_set (i := 12) nd rfl (Or.inl rfl) (pe_op op_add (pe_ix ix_tup (pv 5) pe_int (fun _ _ => rfl)) (pe_op op_mul (pe_op op_add (pv 1) (pv 6)) (pe_op op_add (pv 2) (pv 9)))))
            (pss_cons (ps_set (i := 13) nd rfl (Or.inl rfl) (pe_tup (pa_cons (pv 7) (pa_cons (pv 8) (pa_cons (pv 10) (pa_cons (pv 11) pa_nil))))))
            (pss_one (ps_if (PW.pt (pw_or (pt_cmp (pc_dnotin (u1 hr) (pv 13) (pv 3)) (by rfl)) (pw_or1 (pt_cmpR op_lt (pe_ix ix_tup (pe_dget (u1 hr) (pv 3) (pv 13) (fun _ _ => rfl)) pe_int (fun _ _ => rfl)) (pv 12) (nomark _)))))
              (pss_one (ps_dput (u1 hr) (pv 3) (pv 13) (pe_tup (pa_cons (pv 12) (pa_cons (pe_tup (pa_cons (pe_ix ix_tup (pv 5) pe_int (fun _ _ => rfl)) (pa_cons (pv 6) (pa_cons (pv 9) pa_nil)))) pa_nil))) (by rfl))) pss_nil))))))))))
      (pss_one (ps_fld (pv 0) (pv 3) (by rfl)))), ?_⟩
    obtain ⟨dp1, hp1⟩ := hp1
    obtain ⟨dp2, hp2⟩ := hp2
    intro D hD
    have hb1 : upd H D (.dT []) b = some (.dT kvs) := sn hD _ _ hb
    have nDb : D ≠ b := fun z => by rw [z, hb] at hD; cases hD
    refine ⟨b, _, hb1, True.intro, fun od => ?_⟩
    have hx1 : upd (upd H D (.dT [])) b (.frz od (.dT kvs)) x = some (.ins CF dx (FF p1 p2 nl b)) := by
      rw [upd_ne (ne_of hx hb fun z => nomatch z)]; exact sn hD _ _ hx
    -- what stays
    have keepH : ∀ H2, ExB D (upd (upd H D (.dT [])) b (.frz od (.dT kvs))) H2 → ∀ a o, a ≠ b → H a = some o → H2 a = some o := fun H2 e a o n h => by
      have nD : a ≠ D := ne_of_none h hD
      exact e a o nD (by rw [upd_ne n, upd_ne nD]; exact h)
    have xtH : ∀ H2, ExB D (upd (upd H D (.dT [])) b (.frz od (.dT kvs))) H2 → ExT H H2 := fun H2 e a o i h => keepH H2 e a o (ne_of h hb fun z => by rw [z] at i; cases i) h
    have nxb : x ≠ b := ne_of hx hb fun z => nomatch z
    have np1 : p1 ≠ b := ne_of hp1 hb fun z => nomatch z
    have np2 : p2 ≠ b := ne_of hp2 hb fun z => nomatch z
    refine ⟨_, rfl, x, CF, dx, _, _, rfl, hx1, T.cl_Filling, T.n_Filling_best, rfl, b, od, kvs, rfl, upd_same, for_it walk_itemsT
      (fun i σ H2 => ∃ y4 y5 y6 y7 y8 y9 y10 y11 y12 y13, σ = [some (.ref x), some (.int c), some (.int d), some (.ref D), y4, y5, y6, y7, y8, y9, y10, y11, y12, y13] ∧ ExB D (upd (upd H D (.dT [])) b (.frz od (.dT kvs))) H2 ∧
        ∃ l', BestAt H2 D l' ∧ Fd l' (steps o1 G1 R1 o2 G2 R2 c d (L.take i)))
      ⟨none, none, none, none, none, none, none, none, none, none, rfl, ExB.refl _ _, [], ⟨[], by rw [upd_ne nDb, upd_same], .nil⟩, fd_nil⟩ (fun i σ H2 _ ⟨_, _, _, _, _, _, _, _, _, _, _, e, _⟩ => e _ _ (Ne.symm nDb) upd_same) ?_ ?_⟩
    · rintro i x' σ H2 H2' hi ⟨y4, y5, y6, y7, y8, y9, y10, y11, y12, y13, rfl, xb, l0, hl0, F0⟩ ⟨Tt, qa, kk, vv, hkv, rfl, hTt, hqa, rfl⟩
      obtain ⟨e, hLi, hk, htold0⟩ := pgetL pkv hkv
      have hk : kk = keyL e := hk
      subst hk
      have heL : e ∈ L := List.mem_of_getElem? hLi
      have hbe := hbox e heL
      refine ⟨Tt, _, rfl, SqT.of upd_same, rfl, _, _, rfl, _, _, rfl, rfl, ?_⟩
      have xb1 := xb.nw hTt (o := .tup [.ref qa, vv])
      have hqa1 : upd H2 Tt (.tup [.ref qa, vv]) qa = some (.tup [.int e.f1, .int e.r1, .int e.f2, .int e.r2]) := sn hTt _ _ hqa
      have hl1 : BestAt (upd H2 Tt (.tup [.ref qa, vv])) D l0 := by
        obtain ⟨kv0, a1, a2⟩ := hl0
        exact ⟨kv0, sn hTt _ _ a1, a2.mono fun _ _ z => ⟨z.1, z.2.mono (tx (sn hTt))⟩⟩
      generalize upd H2 Tt (.tup [.ref qa, vv]) = Ha at xb1 hqa1 hl1 ⊢
      refine ⟨_, rfl, x, CF, dx, _, _, rfl, keepH _ xb1 _ _ nxb hx, T.cl_Filling, T.n_Filling_first, rfl, p1, dp1, _, rfl, keepH _ xb1 _ _ np1 hp1, rfl,
        _, rfl, qa, _, 0, _, rfl, rfl, SqT.of hqa1, rfl, _, rfl, qa, _, 1, _, rfl, rfl, SqT.of hqa1, rfl, p1, o1, G1, R1, e.f1, e.r1, rfl, ⟨dp1, keepH _ xb1 _ _ np1 hp1⟩, fun Hm pl us sm hpl pus => ?_⟩
      rw [pch_kds] at pus
      have xm := xb1.trans (ExB.of sm)
      have hlm : BestAt Hm D l0 := by
        obtain ⟨kv0, a1, a2⟩ := hl1
        exact ⟨kv0, sm _ _ a1, a2.mono fun _ _ z => ⟨z.1, z.2.mono (tx sm)⟩⟩
      have hqm := sm _ _ hqa1
      have nplD : pl ≠ D := by
        obtain ⟨kv0, a1, _⟩ := hlm
        exact ne_of hpl a1 fun z => nomatch z
      have lus : us.length = (kds G1 R1 e.f1 e.r1).length := by rw [pus.length, List.length_map]
      refine ⟨pl, rfl, ⟨_, SqL.of hpl⟩, for_list (K := K) (a := pl) (xs := us) (fun j σ H3 => ∃ y6 y7 y8 y9 y10 y11 y12 y13, σ = [some (.ref x), some (.int c), some (.int d), some (.ref D), some (.ref qa), some vv, y6, y7, y8, y9, y10, y11, y12, y13] ∧ ExB D Hm H3 ∧
          ∃ l', BestAt H3 D l' ∧ Fd l' (steps o1 G1 R1 o2 G2 R2 c d (L.take i) ++ ((kds G1 R1 e.f1 e.r1).take j).flatMap (steps2 o1 R1 o2 G2 R2 c d e)))
        ⟨_, _, _, _, _, _, _, _, rfl, ExB.refl _ _, l0, hlm, by rw [List.take_zero, List.flatMap_nil, List.append_nil]; exact F0⟩ (fun j σ H3 _ ⟨_, _, _, _, _, _, _, _, _, e, _⟩ => SqL.of (e _ _ nplD hpl)) ?_ ?_⟩
      · rintro j x1 σ H3 hj ⟨y6, y7, y8, y9, y10, y11, y12, y13, rfl, xb2, l1, hl1', F1⟩
        obtain ⟨tr, htr, ta, rfl, hta⟩ := pgetL pus hj
        rw [List.getElem?_map] at htr
        cases hkj : (kds G1 R1 e.f1 e.r1)[j]? with
        | none => rw [hkj] at htr; cases htr
        | some k =>
        rw [hkj] at htr
        cases htr
        have hkm : k ∈ kds G1 R1 e.f1 e.r1 := List.mem_of_getElem? hkj
        have xtm : ExT Hm H3 := by
          obtain ⟨kv0, a1, _⟩ := hlm
          exact xb2.tx a1 rfl
        have hta3 := xtm _ _ rfl hta
        refine ⟨ta, _, rfl, SqT.of hta3, rfl, _, _, rfl, _, _, rfl, _, _, rfl, rfl, ?_⟩
        have xs3 := xm.trans xb2
        have hq3 := xtm _ _ rfl hqm
        refine ⟨_, rfl, x, CF, dx, _, _, rfl, keepH _ xs3 _ _ nxb hx, T.cl_Filling, T.n_Filling_second, rfl, p2, dp2, _, rfl, keepH _ xs3 _ _ np2 hp2, rfl,
          _, rfl, qa, _, 2, _, rfl, rfl, SqT.of hq3, rfl, _, rfl, qa, _, 3, _, rfl, rfl, SqT.of hq3, rfl, p2, o2, G2, R2, e.f2, e.r2, rfl, ⟨dp2, keepH _ xs3 _ _ np2 hp2⟩, fun Hn pl2 us2 sm2 hpl2 pus2 => ?_⟩
        rw [pch_kds] at pus2
        have xn := xs3.trans (ExB.of sm2)
        have hln : BestAt Hn D l1 := by
          obtain ⟨kv0, a1, a2⟩ := hl1'
          exact ⟨kv0, sm2 _ _ a1, a2.mono fun _ _ z => ⟨z.1, z.2.mono (tx sm2)⟩⟩
        have nplD2 : pl2 ≠ D := by
          obtain ⟨kv0, a1, _⟩ := hln
          exact ne_of hpl2 a1 fun z => nomatch z
        refine ⟨pl2, rfl, ⟨_, SqL.of hpl2⟩, for_list (K := K) (a := pl2) (xs := us2) (fun m σ H4 => ∃ y9 y10 y11 y12 y13, σ = [some (.ref x), some (.int c), some (.int d), some (.ref D), some (.ref qa), some vv, some (.int (k.val o1 R1)), some (.int (e.f1 + fb k)), some (.int (e.r1 + rb k)), y9, y10, y11, y12, y13] ∧ ExB D Hn H4 ∧
            ∃ l', BestAt H4 D l' ∧ Fd l' (steps o1 G1 R1 o2 G2 R2 c d (L.take i) ++ ((kds G1 R1 e.f1 e.r1).take j).flatMap (steps2 o1 R1 o2 G2 R2 c d e) ++ ((kds G2 R2 e.f2 e.r2).take m).map (step o1 R1 o2 R2 c d e k)))
          ⟨_, _, _, _, _, rfl, ExB.refl _ _, l1, hln, by rw [List.take_zero, List.map_nil, List.append_nil]; exact F1⟩ (fun m σ H4 _ ⟨_, _, _, _, _, _, e, _⟩ => SqL.of (e _ _ nplD2 hpl2)) ?_ ?_⟩
        · rintro m x2 σ H4 hm ⟨y9, y10, y11, y12, y13, rfl, xb4, l4, ⟨kvs', hD4, pk4⟩, F4⟩
          obtain ⟨tr2, htr2, ta2, rfl, hta2⟩ := pgetL pus2 hm
          rw [List.getElem?_map] at htr2
          cases hkm2 : (kds G2 R2 e.f2 e.r2)[m]? with
          | none => rw [hkm2] at htr2; cases htr2
          | some l =>
          rw [hkm2] at htr2
          cases htr2
          have hlm2 : l ∈ kds G2 R2 e.f2 e.r2 := List.mem_of_getElem? hkm2
          have xtn : ExT Hn H4 := by
            obtain ⟨kv0, a1, _⟩ := hln
            exact xb4.tx a1 rfl
          have xs4 := xn.trans xb4
          have xt4 := xtH _ xs4
          obtain ⟨a0, u0, rfl, htold1, hway1⟩ := htold0.mono xt4
          refine ⟨ta2, _, rfl, SqT.of (xtn _ _ rfl hta2), rfl, _, _, rfl, _, _, rfl, _, _, rfl, rfl, ?_⟩
          have vb1 := val_b bd.o1 bd.r1 k
          have vb2 := val_b bd.o2 bd.r2 l
          have bc := bd.c
          have bdd := bd.d
          refine ⟨_, rfl, a0, _, 0, _, rfl, rfl, SqT.of htold1, rfl, _, rfl, _, rfl, _, _, rfl, rfl, _, rfl, _, rfl, _, _, rfl, rfl, _, _, rfl, rfl, .inl ⟨by omega, by omega⟩, _, _, rfl, rfl, ?_⟩
          refine ⟨_, rfl, _, rfl, _, rfl, _, rfl, (by show 4 ≤ sizeLine; decide), fun t ht => ?_⟩
          have hkey : upd H4 t (.tup [.int (e.f1 + fb k), .int (e.r1 + rb k), .int (e.f2 + fb l), .int (e.r2 + rb l)]) t = some (.tup ((keyL (KM.step o1 R1 o2 R2 c d e k l)).map kV)) := by
            rw [upd_same]; rfl
          have sn4 := sn ht (o := .tup [.int (e.f1 + fb k), .int (e.r1 + rb k), .int (e.f2 + fb l), .int (e.r2 + rb l)])
          have hD3 := sn4 _ _ hD4
          have pk3 := pk4.mono fun _ _ z => (⟨z.1, z.2.mono (tx sn4)⟩ : KvAt _ _ _)
          have htold3 := sn4 _ _ htold1
          have hway3 := hway1.mono (tx sn4)
          have xb3 := xb4.nw ht (o := .tup [.int (e.f1 + fb k), .int (e.r1 + rb k), .int (e.f2 + fb l), .int (e.r2 + rb l)])
          have ht3' := hkey
          have bx4 : ∀ z ∈ l4, Box G1 G2 z := fun z hz => by
            have hz2 := F4.sub z hz
            rcases List.mem_append.mp hz2 with h | h
            · rcases List.mem_append.mp h with h | h
              · obtain ⟨e', he', k', hk', l', hl', rfl⟩ := steps_mem h
                exact box_step (hbox e' (List.mem_of_mem_take he')) hk' hl'
              · obtain ⟨k', hk', h⟩ := List.mem_flatMap.mp h
                obtain ⟨l', hl', rfl⟩ := List.mem_map.mp h
                exact box_step hbe (List.mem_of_mem_take hk') hl'
            · obtain ⟨l', hl', rfl⟩ := List.mem_map.mp h
              exact box_step hbe hkm (List.mem_of_mem_take hl')
          have ecl : ∀ A : List Cand, A ++ ((kds G2 R2 e.f2 e.r2).take (m + 1)).map (step o1 R1 o2 R2 c d e k) = (A ++ ((kds G2 R2 e.f2 e.r2).take m).map (step o1 R1 o2 R2 c d e k)) ++ [(KM.step o1 R1 o2 R2 c d e k l)] := fun A => by
            rw [List.take_add_one, hkm2, List.map_append, ← List.append_assoc]; rfl
          have hwt : (KM.step o1 R1 o2 R2 c d e k l).ws = (k.val o1 R1, l.val o2 R2) :: e.ws := rfl
          generalize upd H4 t (.tup [.int (e.f1 + fb k), .int (e.r1 + rb k), .int (e.f2 + fb l), .int (e.r2 + rb l)]) = H3 at hkey hD3 pk3 htold3 hway3 xb3 ht3' ⊢
          refine ⟨_, rfl, _, rfl, D, _, rfl, DGet.t hD3 hkey, _, rfl, ?_⟩
          rcases kv_get (c := KM.step o1 R1 o2 R2 c d e k l) pk3 with ⟨e', v', m', e1, e2, e3⟩ | ⟨m', e2⟩
          · rw [e2]
            refine iteF ?_
            obtain ⟨a5, u5, rfl, h5, _⟩ := id e3
            by_cases hlt : e'.tot < (KM.step o1 R1 o2 R2 c d e k l).tot
            · refine ⟨_, rfl, _, rfl, D, _, rfl, by rw [← e2]; exact DGet.t hD3 hkey, a5, _, 0, _, rfl, rfl, SqT.of h5, rfl, _, rfl, _, _, rfl, rfl, true, blT hlt, iteT ?_⟩
              have good : ∀ z ∈ l4, z.st = (KM.step o1 R1 o2 R2 c d e k l).st → z.tot ≤ (KM.step o1 R1 o2 R2 c d e k l).tot := fun z hz hs => by
                have : z = e' := st_uniq F4.nd hz m' (hs.trans e1.symm)
                rw [this]; omega
              refine ⟨_, rfl, _, rfl, a0, _, 1, _, rfl, rfl, SqT.of htold3, rfl, _, rfl, _, rfl, (by show 3 ≤ sizeLine; decide), fun t2 ht2 => ⟨(by show 2 ≤ sizeLine; decide), fun t3 ht3 => ?_⟩⟩
              have x2 : ExT H3 (upd H3 t2 (.tup [u0, .int (k.val o1 R1), .int (l.val o2 R2)])) := tx (sn ht2)
              have x3 : ExT H3 (upd (upd H3 t2 (.tup [u0, .int (k.val o1 R1), .int (l.val o2 R2)])) t3 (.tup [.int (KM.step o1 R1 o2 R2 c d e k l).tot, .ref t2])) := x2.trans (tx (sn ht3))
              have hD5 : upd (upd H3 t2 (.tup [u0, .int (k.val o1 R1), .int (l.val o2 R2)])) t3 (.tup [.int (KM.step o1 R1 o2 R2 c d e k l).tot, .ref t2]) D = some (.dT kvs') := sn ht3 _ _ (sn ht2 _ _ hD3)
              refine ⟨_, rfl, _, rfl, D, _, rfl, DPut.t hD5 (x3 _ _ rfl hkey) (Nat.lt_of_le_of_lt (by rw [pk3.length]; exact box_len F4.nd bx4 bd.g1 bd.g2) (by decide)), ?_⟩
              have xD := tx_mut (u := .dT (putK kvs' (keyL (KM.step o1 R1 o2 R2 c d e k l)) (.ref t3))) hD5 rfl
              have htold : ToldAt (upd (upd (upd H3 t2 (.tup [u0, .int (k.val o1 R1), .int (l.val o2 R2)])) t3 (.tup [.int (KM.step o1 R1 o2 R2 c d e k l).tot, .ref t2])) D (.dT (putK kvs' (keyL (KM.step o1 R1 o2 R2 c d e k l)) (.ref t3)))) (.ref t3) (KM.step o1 R1 o2 R2 c d e k l) := by
                refine ⟨t3, .ref t2, rfl, xD _ _ rfl upd_same, ?_⟩
                rw [hwt]
                exact ⟨t2, u0, rfl, xD _ _ rfl (sn ht3 _ _ upd_same), hway3.mono (x3.trans xD)⟩
              exact ⟨_, _, _, _, _, rfl, ((xb3.nw ht2).nw ht3).mut, _, ⟨_, upd_same, kv_put (pk3.mono fun _ _ z => ⟨z.1, z.2.mono (x3.trans xD)⟩) htold⟩, by rw [ecl]; exact fd_put F4 good⟩
            · refine ⟨_, rfl, _, rfl, D, _, rfl, by rw [← e2]; exact DGet.t hD3 hkey, a5, _, 0, _, rfl, rfl, SqT.of h5, rfl, _, rfl, _, _, rfl, rfl, false, blF hlt, iteF ?_⟩
              exact ⟨_, _, _, _, _, rfl, xb3, l4, ⟨_, hD3, pk3⟩, by rw [ecl]; exact fd_skip F4 m' e1 (by omega)⟩
          · rw [e2]
            refine iteT ?_
            have good : ∀ z ∈ l4, z.st = (KM.step o1 R1 o2 R2 c d e k l).st → z.tot ≤ (KM.step o1 R1 o2 R2 c d e k l).tot := fun z hz hs => absurd (List.mem_map.mpr ⟨z, hz, hs⟩) m'
            refine ⟨_, rfl, _, rfl, a0, _, 1, _, rfl, rfl, SqT.of htold3, rfl, _, rfl, _, rfl, (by show 3 ≤ sizeLine; decide), fun t2 ht2 => ⟨(by show 2 ≤ sizeLine; decide), fun t3 ht3 => ?_⟩⟩
            have x2 : ExT H3 (upd H3 t2 (.tup [u0, .int (k.val o1 R1), .int (l.val o2 R2)])) := tx (sn ht2)
            have x3 : ExT H3 (upd (upd H3 t2 (.tup [u0, .int (k.val o1 R1), .int (l.val o2 R2)])) t3 (.tup [.int (KM.step o1 R1 o2 R2 c d e k l).tot, .ref t2])) := x2.trans (tx (sn ht3))
            have hD5 : upd (upd H3 t2 (.tup [u0, .int (k.val o1 R1), .int (l.val o2 R2)])) t3 (.tup [.int (KM.step o1 R1 o2 R2 c d e k l).tot, .ref t2]) D = some (.dT kvs') := sn ht3 _ _ (sn ht2 _ _ hD3)
            refine ⟨_, rfl, _, rfl, D, _, rfl, DPut.t hD5 (x3 _ _ rfl hkey) (Nat.lt_of_le_of_lt (by rw [pk3.length]; exact box_len F4.nd bx4 bd.g1 bd.g2) (by decide)), ?_⟩
            have xD := tx_mut (u := .dT (putK kvs' (keyL (KM.step o1 R1 o2 R2 c d e k l)) (.ref t3))) hD5 rfl
            have htold : ToldAt (upd (upd (upd H3 t2 (.tup [u0, .int (k.val o1 R1), .int (l.val o2 R2)])) t3 (.tup [.int (KM.step o1 R1 o2 R2 c d e k l).tot, .ref t2])) D (.dT (putK kvs' (keyL (KM.step o1 R1 o2 R2 c d e k l)) (.ref t3)))) (.ref t3) (KM.step o1 R1 o2 R2 c d e k l) := by
              refine ⟨t3, .ref t2, rfl, xD _ _ rfl upd_same, ?_⟩
              rw [hwt]
              exact ⟨t2, u0, rfl, xD _ _ rfl (sn ht3 _ _ upd_same), hway3.mono (x3.trans xD)⟩
            exact ⟨_, _, _, _, _, rfl, ((xb3.nw ht2).nw ht3).mut, _, ⟨_, upd_same, kv_put (pk3.mono fun _ _ z => ⟨z.1, z.2.mono (x3.trans xD)⟩) htold⟩, by rw [ecl]; exact fd_put F4 good⟩
        · rintro σ H4 ⟨y9, y10, y11, y12, y13, rfl, xb4, l4, hl4, F4⟩
          refine ⟨_, _, _, _, _, _, _, _, rfl, (xb2.trans (ExB.of sm2)).trans xb4, l4, hl4, ?_⟩
          rw [pus2.length, List.length_map, List.take_length] at F4
          rw [flat_s hkj, ← List.append_assoc]
          exact F4
      · rintro σ H3 ⟨y6, y7, y8, y9, y10, y11, y12, y13, rfl, xb2, l1, hl1', F1⟩
        refine ⟨_, _, _, _, _, _, _, _, _, _, rfl, xm.trans xb2, l1, hl1', ?_⟩
        rw [lus, List.take_length] at F1
        unfold steps at F1 ⊢
        rw [flat_s hLi]
        exact F1
    · rintro σ H2 ⟨y4, y5, y6, y7, y8, y9, y10, y11, y12, y13, rfl, xb, l', ⟨kvs', hD', pk'⟩, F'⟩
      have hfz := xb _ _ (Ne.symm nDb) upd_same
      rw [pkv.length, List.take_length] at F'
      have xt : ExT H2 (upd H2 b (.dT kvs)) := tx_mut hfz rfl
      have hx3 : upd H2 b (.dT kvs) x = some (.ins CF dx (FF p1 p2 nl b)) := by
        rw [upd_ne nxb]; exact keepH _ xb _ _ nxb hx
      refine ⟨hfz, _, rfl, _, rfl, x, CF, dx, _, rfl, hx3, T.cl_Filling, T.n_Filling_best, (by show 4 < 1000; decide), ?_⟩
      have nDx : D ≠ x := fun z => by rw [z, hx] at hD; cases hD
      have hxe : putF "best" (V.ref D) (FF p1 p2 nl b) = FF p1 p2 nl D := rfl
      rw [hxe]
      have xt2 : ExT (upd H2 b (.dT kvs)) (upd (upd H2 b (.dT kvs)) x (.ins CF dx (FF p1 p2 nl D))) := tx_mut hx3 rfl
      refine q _ D l' (fun a o n h => ?_) upd_same ⟨kvs', by rw [upd_ne nDx, upd_ne nDb]; exact hD', pk'.mono fun _ _ z => ⟨z.1, z.2.mono (xt.trans xt2)⟩⟩ F'
      rw [upd_ne n]
      by_cases e : a = b
      · subst e
        rw [hb] at h
        cases h
        exact upd_same
      · rw [upd_ne e]; exact keepH _ xb _ _ e h
end
end Kn
set_option Elab.async false
set_option linter.all false
set_option maxRecDepth 100000
set_option maxHeartbeats 4000000
set_option pp.maxSteps 300
/-! ended. -/
namespace Kn
open PySem PySem.Spec PyProof.Rows L2 KM
/-- the best sum, its state, its way -/
def DoneAt (H : Hp) (v : V) (e : Cand) (W : Int) : Prop := ∃ a q u, v = .ref a ∧ H a = some (.tup [.int W, .ref q, u]) ∧ H q = some (.tup [.int e.f1, .int e.r1, .int e.f2, .int e.r2]) ∧ WayAt H u e.ws
theorem DoneAt.mono {H H' : Hp} {v : V} {e : Cand} {W : Int} (x : ExT H H') (h : DoneAt H v e W) : DoneAt H' v e W := let ⟨a, q, u, e1, h1, h2, h3⟩ := h; ⟨a, q, u, e1, x _ _ rfl h1, x _ _ rfl h2, h3.mono x⟩
theorem zs_zip : ∀ l m : List Int, ((l.zip m).map fun p => p.1 * p.2).sum = zs l m
  | [], m => by rw [zs_nil_l]; rfl
  | _ :: _, [] => rfl
  | x :: l, y :: m => by
    rw [List.zip_cons_cons, List.map_cons, List.sum_cons, zs_zip l m]
    rfl
theorem pleft_b {o G R f r : Int} (ho : 0 ≤ o ∧ o ≤ 1000000) (hR : 0 ≤ R ∧ R ≤ 1000000) (hf : 0 ≤ f) (hG : G ≤ 32) : (∀ x ∈ pleft o G R f r, 0 ≤ x ∧ x ≤ 1000000) ∧ (pleft o G R f r).length ≤ 33 := by
  unfold pleft
  refine ⟨fun x hx => ?_, ?_⟩
  · rcases List.mem_append.mp hx with h | h
    · rw [(List.mem_replicate.mp h).2]; exact ho
    · split at h
      · rw [List.mem_singleton.mp h]; exact hR
      · cases h
  · rw [List.length_append, List.length_replicate]
    split
    · show _ + 1 ≤ _; omega
    · show _ + 0 ≤ _; omega
section
variable {P : Program} {w : World} {K : PySem.W.Frag} {mg : Str → Option Value} {base : Heap} {CP CF : Addr}
def spEnded (CP CF : Addr) : Sp := fun vs H Q _ => ∃ (x dx p1 p2 nl b : Addr) (o1 G1 R1 o2 G2 R2 : Int) (L : List Cand), vs = [.ref x] ∧ H x = some (.ins CF dx (FF p1 p2 nl b)) ∧ PAt CP H p1 o1 G1 R1 ∧ PAt CP H p2 o2 G2 R2 ∧ BestAt H b L ∧ (∀ e ∈ L, Box G1 G2 e) ∧ L ≠ [] ∧ Bd o1 G1 R1 o2 G2 R2 0 0 ∧
  ∀ H' v e, Same H H' → e ∈ L → (∀ y ∈ L, wholeOf o1 G1 R1 o2 G2 R2 y ≤ wholeOf o1 G1 R1 o2 G2 R2 e) → DoneAt H' v e (wholeOf o1 G1 R1 o2 G2 R2 e) → Q v H'
theorem c_ended (T : Txt K mg CP CF) : C8.Met P w K mg base 2 CF "ended" (spEnded CP CF) [] := by
  refine mkm (N := ["self", "found", "state", "told", "mine", "others", "total", "one", "other"]) T.cl_Filling T.m_Filling_ended (by decide +kernel) (fun vs H Q E h => ?_) (fun f cdv A outer s H vs Q E hr h => ?_)
  · obtain ⟨x, dx, p1, p2, nl, b, o1, G1, R1, o2, G2, R2, L, rfl, _⟩ := h; rfl
  · obtain ⟨x, dx, p1, p2, nl, b, o1, G1, R1, o2, G2, R2, L, rfl, hx, hp1, hp2, ⟨kvs, hb, pkv⟩, hbox, hne, bd, q⟩ := h
    have nd : (["self", "found", "state", "told", "mine", "others", "total", "one", "other"] : List Str).Nodup := by decide +kernel
    refine ⟨_, pss_cons (ps_set (i := 1) nd rfl (Or.inl rfl) pe_non)
      (pss_cons (ps_lock (ps_for PassesOwn.never rfl (pi_itemsT (pe_fld (pv 0) (by rfl))) (pg_tup rfl (pgs_cons (pg_name (i := 2) nd rfl (.inl rfl)) (pgs_cons (pg_name (i := 3) nd rfl (.inl rfl)) pgs_nil)))
        (pss_cons (ps_par (i := 4) (j := 5) (by rfl) nd rfl rfl (by decide) rfl rfl (pa_cons (C8.pe_mt (c_left T) hr (by decide) (pe_fld (pv 0) (by rfl)) (pa_cons (pe_ix ix_tup (pv 2) pe_int (fun _ _ => rfl)) (pa_cons (pe_ix ix_tup (pv 2) pe_int (fun _ _ => rfl)) pa_nil)))
          (pa_cons (C8.pe_mt (c_left T) hr (by decide) (pe_fld (pv 0) (by rfl)) (pa_cons (pe_ix ix_tup (pv 2) pe_int (fun _ _ => rfl)) (pa_cons (pe_ix ix_tup (pv 2) pe_int (fun _ _ => rfl)) pa_nil))) pa_nil)) (by rfl))
        (pss_cons (ps_set (i := 6) nd rfl (Or.inl rfl) (pe_op op_add (pe_ix ix_tup (pv 3) pe_int (fun _ _ => rfl)) (pe_callB (cr_sum rfl) (by rfl) T.z_sum bo_sum (pa_cons
          (pe_lc (own := [("one", 7), ("other", 8)]) (g := gTup K 2 (gCons (gName 7) (gCons (gName 8) gNil))) (by rfl) nd (RZ.pi_zipA (by rfl) T.z_zip (pa_cons (pv 4) (pa_cons (pv 5) pa_nil)))
            (blkOk_by (own := [("one", 7), ("other", 8)]) (N := ["self", "found", "state", "told", "mine", "others", "total", "one", "other"]) (sc := C8.fnScope (inClass (topS 40) 2)) (by decide +kernel))
            (fun _ _ _ _ _ => pg_tup rfl (pgs_cons (pg_name (i := 7) nd rfl (Or.inl rfl)) (pgs_cons (pg_name (i := 8) nd rfl (Or.inl rfl)) pgs_nil))) (fun _ _ _ _ _ => pts_nil)
            (fun _ _ _ _ _ => pe_op op_mul (pv 7) (pv 8))) pa_nil))))
        (pss_one (ps_if (PW.pt (pw_or (pt_cmp (pc_isN (pv 1)) (by rfl)) (pw_or1 (pt_cmpR op_lt (pe_ix ix_tup (pv 1) pe_int (fun _ _ => rfl)) (pv 6) (nomark _)))))
          (pss_one (ps_set (i := 1) nd rfl (Or.inl rfl) (pe_tup (pa_cons (pv 6) (pa_cons (pv 2) (pa_cons (pe_ix ix_tup (pv 3) pe_int (fun _ _ => rfl)) pa_nil)))))) pss_nil))))))
      (pss_one (ps_ret (pv 1)))), ?_⟩
    obtain ⟨dp1, hp1⟩ := hp1
    obtain ⟨dp2, hp2⟩ := hp2
    have nxb : x ≠ b := ne_of hx hb fun z => nomatch z
    have np1 : p1 ≠ b := ne_of hp1 hb fun z => nomatch z
    have np2 : p2 ≠ b := ne_of hp2 hb fun z => nomatch z
    refine ⟨b, _, hb, True.intro, fun od => ?_⟩
    have k1 : ∀ a o, a ≠ b → H a = some o → upd H b (.frz od (.dT kvs)) a = some o := fun a o n h => by rw [upd_ne n]; exact h
    have xt0 : ExT H (upd H b (.frz od (.dT kvs))) := tx_mut hb rfl
    refine ⟨_, rfl, x, CF, dx, _, _, rfl, k1 _ _ nxb hx, T.cl_Filling, T.n_Filling_best, rfl, b, od, kvs, rfl, upd_same, for_it walk_itemsT
      (fun i σ H2 => ∃ y1 y2 y3 y4 y5 y6, σ = [some (.ref x), some y1, y2, y3, y4, y5, y6, none, none] ∧ Same (upd H b (.frz od (.dT kvs))) H2 ∧
        ((i = 0 ∧ y1 = .non) ∨ ∃ e, e ∈ L.take i ∧ (∀ y ∈ L.take i, wholeOf o1 G1 R1 o2 G2 R2 y ≤ wholeOf o1 G1 R1 o2 G2 R2 e) ∧ DoneAt H2 y1 e (wholeOf o1 G1 R1 o2 G2 R2 e)))
      ⟨_, _, _, _, _, _, rfl, Same.refl _, .inl ⟨rfl, rfl⟩⟩ (fun i σ H2 _ ⟨_, _, _, _, _, _, _, e, _⟩ => e _ _ upd_same) ?_ ?_⟩
    · rintro i x' σ H2 H2' hi ⟨y1, y2, y3, y4, y5, y6, rfl, s2, hf⟩ ⟨Tt, qa, kk, vv, hkv, rfl, hTt, hqa, rfl⟩
      obtain ⟨e, hLi, hk, htold0⟩ := pgetL pkv hkv
      have hk : kk = keyL e := hk
      subst hk
      have heL : e ∈ L := List.mem_of_getElem? hLi
      have hbe := hbox e heL
      obtain ⟨⟨b1, b2⟩, _, ⟨b3, b4⟩, _⟩ := id hbe
      refine ⟨Tt, _, rfl, SqT.of upd_same, rfl, _, _, rfl, _, _, rfl, rfl, ?_⟩
      have s3 := s2.trans (sn hTt (o := .tup [.ref qa, vv]))
      have hqa1 : upd H2 Tt (.tup [.ref qa, vv]) qa = some (.tup [.int e.f1, .int e.r1, .int e.f2, .int e.r2]) := sn hTt _ _ hqa
      have hf1 : (i = 0 ∧ y1 = .non) ∨ ∃ e, e ∈ L.take i ∧ (∀ y ∈ L.take i, wholeOf o1 G1 R1 o2 G2 R2 y ≤ wholeOf o1 G1 R1 o2 G2 R2 e) ∧ DoneAt (upd H2 Tt (.tup [.ref qa, vv])) y1 e (wholeOf o1 G1 R1 o2 G2 R2 e) :=
        hf.imp id fun ⟨e, h1, h2, h3⟩ => ⟨e, h1, h2, h3.mono (tx (sn hTt))⟩
      generalize upd H2 Tt (.tup [.ref qa, vv]) = Ha at s3 hqa1 hf1 ⊢
      refine ⟨_, rfl, x, CF, dx, _, _, rfl, s3 _ _ (k1 _ _ nxb hx), T.cl_Filling, T.n_Filling_first, rfl, p1, dp1, _, rfl, s3 _ _ (k1 _ _ np1 hp1), rfl,
        _, rfl, qa, _, 0, _, rfl, rfl, SqT.of hqa1, rfl, _, rfl, qa, _, 1, _, rfl, rfl, SqT.of hqa1, rfl, p1, o1, G1, R1, e.f1, e.r1, rfl, ⟨dp1, s3 _ _ (k1 _ _ np1 hp1)⟩, b1, b2, by have := bd.g1; omega, fun Hb l1 sb _ hl1 => ?_⟩
      have s4 := s3.trans sb
      have hqa2 := sb _ _ hqa1
      refine ⟨_, rfl, x, CF, dx, _, _, rfl, s4 _ _ (k1 _ _ nxb hx), T.cl_Filling, T.n_Filling_second, rfl, p2, dp2, _, rfl, s4 _ _ (k1 _ _ np2 hp2), rfl,
        _, rfl, qa, _, 2, _, rfl, rfl, SqT.of hqa2, rfl, _, rfl, qa, _, 3, _, rfl, rfl, SqT.of hqa2, rfl, p2, o2, G2, R2, e.f2, e.r2, rfl, ⟨dp2, s4 _ _ (k1 _ _ np2 hp2)⟩, b3, b4, by have := bd.g2; omega, fun Hc l2 sc _ hl2 => ?_⟩
      have s5 := s4.trans sc
      have hl1c := sc _ _ hl1
      refine ⟨_, _, rfl, ?_⟩
      obtain ⟨a0, u0, rfl, htold1, hway1⟩ := htold0.mono (xt0.trans (tx s5))
      refine ⟨_, rfl, a0, _, 0, _, rfl, rfl, SqT.of htold1, rfl, _, rfl, _, rfl, l1, l2, _, _, rfl, .inl ⟨SqL.of hl1c, SqL.of hl2, fun D hD => ?_⟩⟩
      obtain ⟨pb1, pl1⟩ := pleft_b (o := o1) (G := G1) (R := R1) (f := e.f1) (r := e.r1) bd.o1 bd.r1 b1 bd.g1
      obtain ⟨pb2, pl2⟩ := pleft_b (o := o2) (G := G2) (R := R2) (f := e.f2) (r := e.r2) bd.o2 bd.r2 b3 bd.g2
      refine lc_all (walk_zip (K := K) (n := ((pleft o1 G1 R1 e.f1 e.r1).zip (pleft o2 G2 R2 e.f2 e.r2)).length) (by rw [List.length_zip, List.length_map, List.length_map])) (bs := (pleft o1 G1 R1 e.f1 e.r1).zip (pleft o2 G2 R2 e.f2 e.r2)) rfl (by rw [List.length_zip]; omega) hD (fun p => p.1 * p.2) (fun _ v c => v = V.int c) (fun _ h => h)
        (fun H3 s6 => ⟨SqL.of (s6 _ _ hl1c), SqL.of (s6 _ _ hl2)⟩) (fun j p x2 H3 H4 hp s6 y Ny k => ?_) mg_pair (fun H3 ys s6 hy pr => ?_)
      · obtain ⟨T2, z1, z2, rfl, hT2, rfl, g1, g2⟩ := y
        obtain ⟨j1, j2⟩ := List.getElem?_zip_eq_some.mp hp
        dsimp only at g1 g2
        rw [List.getElem?_map, j1] at g1
        rw [List.getElem?_map, j2] at g2
        cases g1
        cases g2
        have m1 := pb1 _ (List.mem_of_getElem? j1)
        exact ⟨T2, _, rfl, SqT.of upd_same, rfl, _, _, rfl, _, _, rfl, rfl, rfl, _, rfl, _, rfl, _, _, rfl, rfl, .inl ⟨by omega, by omega⟩, k _ _ (sn hT2) rfl⟩
      · have ey := peq pr
        refine ⟨D, _, rfl, SqL.of (by rw [hy, ey]), ?_⟩
        rw [zs_zip]
        refine ⟨_, _, rfl, rfl, ?_⟩
        have s7 := s5.trans s6
        have xt7 : ExT Ha H3 := tx ((sb.trans sc).trans s6)
        have hw : e.tot + zs (pleft o1 G1 R1 e.f1 e.r1) (pleft o2 G2 R2 e.f2 e.r2) = wholeOf o1 G1 R1 o2 G2 R2 e := rfl
        have htold2 := s6 _ _ htold1
        have hqa3 := xt7 _ _ rfl hqa1
        have hway2 := hway1.mono (tx s6)
        have tk : L.take (i + 1) = L.take i ++ [e] := by rw [List.take_add_one, hLi]; rfl
        rcases hf1 with ⟨i0, rfl⟩ | ⟨e', he', hmax, hdone⟩
        · refine ⟨_, rfl, true, blT rfl, iteT ?_⟩
          refine ⟨_, rfl, _, rfl, _, rfl, a0, _, 1, _, rfl, rfl, SqT.of htold2, rfl, (by show 3 ≤ sizeLine; decide), fun t ht => ?_⟩
          subst i0
          refine ⟨_, _, _, _, _, _, rfl, sm s7 (s7.free ht), .inr ⟨e, by rw [tk]; exact List.mem_append_right _ (List.mem_singleton.mpr rfl), fun y hy => ?_, t, qa, u0, rfl, upd_same, sn ht _ _ hqa3, hway2.mono (tx (sn ht))⟩⟩
          rw [tk, List.take_zero, List.nil_append] at hy
          rw [List.mem_singleton.mp hy]; exact Int.le_refl _
        · obtain ⟨a5, q5, u5, rfl, h5, h6, h7⟩ := hdone.mono xt7
          refine ⟨_, rfl, false, blF (fun z => nomatch z), iteF ?_⟩
          by_cases hlt : wholeOf o1 G1 R1 o2 G2 R2 e' < wholeOf o1 G1 R1 o2 G2 R2 e
          · refine ⟨_, rfl, a5, _, 0, _, rfl, rfl, SqT.of h5, rfl, _, rfl, _, _, rfl, rfl, true, blT hlt, iteT ?_⟩
            refine ⟨_, rfl, _, rfl, _, rfl, a0, _, 1, _, rfl, rfl, SqT.of htold2, rfl, (by show 3 ≤ sizeLine; decide), fun t ht => ?_⟩
            refine ⟨_, _, _, _, _, _, rfl, sm s7 (s7.free ht), .inr ⟨e, by rw [tk]; exact List.mem_append_right _ (List.mem_singleton.mpr rfl), fun y hy => ?_, t, qa, u0, rfl, upd_same, sn ht _ _ hqa3, hway2.mono (tx (sn ht))⟩⟩
            rw [tk] at hy
            rcases List.mem_append.mp hy with h | h
            · have := hmax y h; omega
            · rw [List.mem_singleton.mp h]; exact Int.le_refl _
          · refine ⟨_, rfl, a5, _, 0, _, rfl, rfl, SqT.of h5, rfl, _, rfl, _, _, rfl, rfl, false, blF hlt, iteF ?_⟩
            refine ⟨_, _, _, _, _, _, rfl, s7, .inr ⟨e', by rw [tk]; exact List.mem_append_left _ he', fun y hy => ?_, a5, q5, u5, rfl, h5, h6, h7⟩⟩
            rw [tk] at hy
            rcases List.mem_append.mp hy with h | h
            · exact hmax y h
            · rw [List.mem_singleton.mp h]; omega
    · rintro σ H2 ⟨y1, y2, y3, y4, y5, y6, rfl, s2, hf⟩
      have hfz := s2 _ _ upd_same
      rw [pkv.length, List.take_length] at hf
      have s3 := lock_same hb s2
      have xt : ExT H2 (upd H2 b (.dT kvs)) := tx_mut hfz rfl
      rcases hf with ⟨i0, _⟩ | ⟨e, he, hmax, hd⟩
      · exact absurd (List.length_eq_zero_iff.mp i0) hne
      · exact ⟨hfz, _, rfl, q _ _ e s3 he hmax (hd.mono xt)⟩
end
end Kn
set_option Elab.async false
set_option linter.all false
set_option maxRecDepth 100000
set_option maxHeartbeats 4000000
set_option pp.maxSteps 300
/-! takes. -/
namespace Kn
open PySem PySem.Spec PyProof.Rows L2 KM
abbrev FG (p1 p2 nl b : Addr) (dv : V) : List (Str × V) := [("first", .ref p1), ("second", .ref p2), ("names", .ref nl), ("best", .ref b), ("done", dv)]
def Ex2 (r0 r1 : Addr) (H H' : Hp) : Prop := ∀ a o, a ≠ r0 → a ≠ r1 → H a = some o → H' a = some o
theorem Ex2.nw {r0 r1 p : Addr} {H H' : Hp} {o : HO} (e : Ex2 r0 r1 H H') (h : H' p = none) : Ex2 r0 r1 H (upd H' p o) := fun b u n1 n2 q => by
  have z := e b u n1 n2 q
  rw [upd_ne (ne_of_none z h)]; exact z
theorem Ex2.m0 {r0 r1 : Addr} {H H' : Hp} {o : HO} (e : Ex2 r0 r1 H H') : Ex2 r0 r1 H (upd H' r0 o) := fun b u n1 n2 q => by rw [upd_ne n1]; exact e b u n1 n2 q
theorem Ex2.m1 {r0 r1 : Addr} {H H' : Hp} {o : HO} (e : Ex2 r0 r1 H H') : Ex2 r0 r1 H (upd H' r1 o) := fun b u n1 n2 q => by rw [upd_ne n2]; exact e b u n1 n2 q
theorem Ex2.st {r0 r1 : Addr} {H H1 H2 : Hp} (e : Ex2 r0 r1 H H1) (s : Same H1 H2) : Ex2 r0 r1 H H2 := fun b u n1 n2 q => s _ _ (e b u n1 n2 q)
theorem zip_take_s {α β : Type} {l : List α} {m : List β} {i : Nat} {a : α} {b : β} (h1 : l[i]? = some a) (h2 : m[i]? = some b) : (l.zip m).take (i + 1) = (l.zip m).take i ++ [(a, b)] := by
  rw [List.take_add_one, (List.getElem?_zip_eq_some (z := (a, b))).mpr ⟨h1, h2⟩]; rfl
theorem pmapR {α β γ : Type} {F : α → β → Prop} {h : γ → β} : ∀ {l : List α} {m : List γ}, Paired F l (m.map h) → Paired (fun a c => F a (h c)) l m
  | [], [], _ => .nil
  | [], _ :: _, p => by cases p
  | _ :: _, [], p => by cases p
  | _ :: _, _ :: _, .cons q t => .cons q (pmapR t)
theorem zip_pairs {H : Hp} {zs : List V} {fr : List Str} {mi : List Int} (p : Paired (fun v (q : V × V) => ∃ t, v = .ref t ∧ H t = some (.tup [q.1, q.2])) zs ((fr.map V.str).zip (mi.map V.int))) : Paired (PairAt H) zs (fr.zip mi) := by
  rw [List.zip_map] at p
  exact (pmapR (F := fun (v : V) (q : V × V) => ∃ t, v = V.ref t ∧ H t = some (HO.tup [q.1, q.2])) p).mono fun _ _ z => z
section
variable {P : Program} {w : World} {K : PySem.W.Frag} {mg : Str → Option Value} {base : Heap} {CP CF : Addr}
def spTakes (CP CF : Addr) : Sp := fun vs H Q _ => ∃ (x dx p1 p2 nl b : Addr) (dv : V) (o1 G1 R1 o2 G2 R2 W : Int) (e : Cand) (ns : List Str), vs = [.ref x] ∧ H x = some (.ins CF dx (FG p1 p2 nl b dv)) ∧ PAt CP H p1 o1 G1 R1 ∧ PAt CP H p2 o2 G2 R2 ∧
  H nl = some (.lst (ns.map V.str)) ∧ ns.length ≤ 64 ∧ DoneAt H dv e W ∧ Box G1 G2 e ∧ e.ws.length = ns.length ∧ Bd o1 G1 R1 o2 G2 R2 0 0 ∧
  ∀ (H' : Hp) (r r0 r1 : Addr) (xs0 xs1 : List V) (fresh : List Str), Same H H' → H' r = some (.lst [.ref r0, .ref r1]) → H' r0 = some (.lst xs0) → H' r1 = some (.lst xs1) →
    Paired (PairAt H') xs0 (ns.reverse.zip (e.ws.map (·.1)) ++ fresh.zip (pleft o1 G1 R1 e.f1 e.r1)) → Paired (PairAt H') xs1 (ns.reverse.zip (e.ws.map (·.2)) ++ fresh.zip (pleft o2 G2 R2 e.f2 e.r2)) →
    fresh.Nodup → (∀ z ∈ fresh, NmOk z ∧ z ∉ ns) → (pleft o1 G1 R1 e.f1 e.r1).length ≤ fresh.length → (pleft o2 G2 R2 e.f2 e.r2).length ≤ fresh.length → fresh.length ≤ 33 → Q (.ref r) H'
theorem c_takes (T : Txt K mg CP CF) : C8.Met P w K mg base 3 CF "takes" (spTakes CP CF) [] := by
  refine mkm (N := ["self", "rows", "total", "state", "way", "name", "taken", "more", "mine", "others", "fresh"]) T.cl_Filling T.m_Filling_takes (by decide +kernel) (fun vs H Q E h => ?_) (fun f cdv A outer s H vs Q E hr h => ?_)
  · obtain ⟨x, dx, p1, p2, nl, b, dv, o1, G1, R1, o2, G2, R2, W, e, ns, rfl, _⟩ := h; rfl
  · obtain ⟨x, dx, p1, p2, nl, b, dv, o1, G1, R1, o2, G2, R2, W, e, ns, rfl, hx, hp1, hp2, hnl, hl, hdone, hbox, hws, bd, q⟩ := h
    have nd : (["self", "rows", "total", "state", "way", "name", "taken", "more", "mine", "others", "fresh"] : List Str).Nodup := by decide +kernel
    refine ⟨_, pss_cons (ps_set (i := 1) nd rfl (Or.inl rfl) (pe_lst (pa_cons (pe_lst pa_nil) (pa_cons (pe_lst pa_nil) pa_nil))))
      (pss_cons (ps_asg (pe_fld (pv 0) (by rfl)) (pg_tup rfl (pgs_cons (pg_name (i := 2) nd rfl (.inl rfl)) (pgs_cons (pg_name (i := 3) nd rfl (.inl rfl)) (pgs_cons (pg_name (i := 4) nd rfl (.inl rfl)) pgs_nil)))))
      (pss_cons (ps_for PassesOwn.never rfl (pi_list (pe_revL (pe_fld (pv 0) (by rfl)))) (pg_name (i := 5) nd rfl (.inl rfl))
        (pss_cons (ps_asg (pv 4) (pg_tup rfl (pgs_cons (pg_name (i := 4) nd rfl (.inl rfl)) (pgs_cons (pg_name (i := 6) nd rfl (.inl rfl)) (pgs_cons (pg_name (i := 7) nd rfl (.inl rfl)) pgs_nil)))))
        (pss_cons (ps_expr (pe_bm F.plainAttrs_list F.slot_list_append F.type_list_append mt_append (pe_ix ix_list (pv 1) pe_int (fun _ _ => rfl)) (pa_cons (pe_tup (pa_cons (pv 5) (pa_cons (pv 6) pa_nil))) pa_nil)))
        (pss_one (ps_expr (pe_bm F.plainAttrs_list F.slot_list_append F.type_list_append mt_append (pe_ix ix_list (pv 1) pe_int (fun _ _ => rfl)) (pa_cons (pe_tup (pa_cons (pv 5) (pa_cons (pv 7) pa_nil))) pa_nil)))))))
      (pss_cons (ps_par (i := 8) (j := 9) (by rfl) nd rfl rfl (by decide) rfl rfl (pa_cons (C8.pe_mt (c_left T) hr (by decide) (pe_fld (pv 0) (by rfl)) (pa_cons (pe_ix ix_tup (pv 3) pe_int (fun _ _ => rfl)) (pa_cons (pe_ix ix_tup (pv 3) pe_int (fun _ _ => rfl)) pa_nil)))
          (pa_cons (C8.pe_mt (c_left T) hr (by decide) (pe_fld (pv 0) (by rfl)) (pa_cons (pe_ix ix_tup (pv 3) pe_int (fun _ _ => rfl)) (pa_cons (pe_ix ix_tup (pv 3) pe_int (fun _ _ => rfl)) pa_nil))) pa_nil)) (by rfl))
      (pss_cons (ps_set (i := 10) nd rfl (Or.inl rfl) (C8.pe_c (c_new_names T) hr (by decide) (by rfl) (pa_cons
          (pe_dc (own := [("name", 5)]) (g := gName 5) (by rfl) nd (pi_list (pe_fld (pv 0) (by rfl)))
            (blkOk_by (own := [("name", 5)]) (N := ["self", "rows", "total", "state", "way", "name", "taken", "more", "mine", "others", "fresh"]) (sc := C8.fnScope (inClass (topS 40) 3)) (by decide +kernel))
            (fun _ _ _ _ _ => pg_name (i := 5) nd rfl (Or.inl rfl)) (fun _ _ _ _ _ => pts_nil) (fun _ _ _ _ _ => pv 5) (fun _ _ _ _ _ => pe_bl))
          (pa_cons (pe_callB (call_max2 rfl) (by rfl) T.z_max bo_max (pa_cons (pe_callB call_len_seq (by rfl) T.z_len bo_len (pa_cons (pv 8) pa_nil)) (pa_cons (pe_callB call_len_seq (by rfl) T.z_len bo_len (pa_cons (pv 9) pa_nil)) pa_nil))) pa_nil))))
      (pss_cons (ps_expr (pe_bm F.plainAttrs_list F.slot_list_extend F.type_list_extend mt_extend (pe_ix ix_list (pv 1) pe_int (fun _ _ => rfl)) (pa_cons (pe_listZip rfl (by rfl) T.z_list (by rfl) T.z_zip (pa_cons (pv 10) (pa_cons (pv 8) pa_nil))) pa_nil)))
      (pss_cons (ps_expr (pe_bm F.plainAttrs_list F.slot_list_extend F.type_list_extend mt_extend (pe_ix ix_list (pv 1) pe_int (fun _ _ => rfl)) (pa_cons (pe_listZip rfl (by rfl) T.z_list (by rfl) T.z_zip (pa_cons (pv 10) (pa_cons (pv 9) pa_nil))) pa_nil)))
      (pss_one (ps_ret (pv 1))))))))), ?_⟩
    obtain ⟨dp1, hp1⟩ := hp1
    obtain ⟨dp2, hp2⟩ := hp2
    obtain ⟨da, sq, u, rfl, hda, hsq, hway⟩ := hdone
    obtain ⟨⟨b1, b2⟩, _, ⟨b3, b4⟩, _⟩ := id hbox
    refine ⟨Nat.zero_le _, fun r0 h0 => ⟨Nat.zero_le _, fun r1 h1 => ⟨(by show 2 ≤ sizeLine; decide), fun r hr' => ?_⟩⟩⟩
    have n0 : H r0 = none := h0
    have s0 : Same H (upd H r0 (.lst [])) := sn h0
    have n1 : H r1 = none := s0.free h1
    have s1 : Same H (upd (upd H r0 (.lst [])) r1 (.lst [])) := sm s0 n1
    have s2 : Same H (upd (upd (upd H r0 (.lst [])) r1 (.lst [])) r (.lst [.ref r0, .ref r1])) := sm s1 (s1.free hr')
    have n01 : r0 ≠ r1 := fun z => by rw [← z, upd_same] at h1; cases h1
    have nr0 : r ≠ r0 := fun z => by rw [z, upd_ne n01, upd_same] at hr'; cases hr'
    have nr1 : r ≠ r1 := fun z => by rw [z, upd_same] at hr'; cases hr'
    refine ⟨_, rfl, x, CF, dx, _, _, rfl, s2 _ _ hx, T.cl_Filling, T.n_Filling_done, rfl, da, _, rfl, SqT.of (s2 _ _ hda), rfl, _, _, rfl, _, _, rfl, _, _, rfl, rfl, ?_⟩
    refine ⟨_, rfl, x, CF, dx, _, _, rfl, s2 _ _ hx, T.cl_Filling, T.n_Filling_names, rfl, nl, _, rfl, SqL.of (s2 _ _ hnl), fun rl hrl => ?_⟩
    have g0 : upd (upd (upd H r0 (.lst [])) r1 (.lst [])) r (.lst [.ref r0, .ref r1]) r0 = some (.lst []) := by rw [upd_ne (Ne.symm nr0), upd_ne n01, upd_same]
    have g1 : upd (upd (upd H r0 (.lst [])) r1 (.lst [])) r (.lst [.ref r0, .ref r1]) r1 = some (.lst []) := by rw [upd_ne (Ne.symm nr1), upd_same]
    have gr : upd (upd (upd H r0 (.lst [])) r1 (.lst [])) r (.lst [.ref r0, .ref r1]) r = some (.lst [.ref r0, .ref r1]) := upd_same
    generalize upd (upd (upd H r0 (.lst [])) r1 (.lst [])) r (.lst [.ref r0, .ref r1]) = Ha at s2 hrl g0 g1 gr ⊢
    have sb := sn hrl (o := .lst (ns.map V.str).reverse)
    have s3 := s2.trans sb
    have hrl2 : upd Ha rl (.lst (ns.map V.str).reverse) rl = some (.lst (ns.map V.str).reverse) := upd_same
    have nl0 : rl ≠ r0 := fun z => by rw [z, g0] at hrl; cases hrl
    have nl1 : rl ≠ r1 := fun z => by rw [z, g1] at hrl; cases hrl
    have g0 := sb _ _ g0
    have g1 := sb _ _ g1
    have gr := sb _ _ gr
    generalize upd Ha rl (.lst (ns.map V.str).reverse) = Hb at s3 hrl2 g0 g1 gr ⊢
    have ks : ∀ H2, Ex2 r0 r1 Hb H2 → Same H H2 := fun H2 e2 a o h => e2 a o (ne_of_none h n0) (ne_of_none h n1) (s3 a o h)
    refine ⟨rl, rfl, ⟨_, SqL.of hrl2⟩, for_list (K := K) (a := rl) (xs := (ns.map V.str).reverse) (fun i σ H2 => ∃ v y5 y6 y7 xs0 xs1, σ = [some (.ref x), some (.ref r), some (.int W), some (.ref sq), some v, y5, y6, y7, none, none, none] ∧ Ex2 r0 r1 Hb H2 ∧ WayAt H2 v (e.ws.drop i) ∧
        H2 r0 = some (.lst xs0) ∧ H2 r1 = some (.lst xs1) ∧ Paired (PairAt H2) xs0 ((ns.reverse.zip (e.ws.map (·.1))).take i) ∧ Paired (PairAt H2) xs1 ((ns.reverse.zip (e.ws.map (·.2))).take i))
      ⟨_, _, _, _, [], [], rfl, fun _ _ _ _ h => h, by rw [List.drop_zero]; exact hway.mono (tx s3), g0, g1, by rw [List.take_zero]; exact .nil, by rw [List.take_zero]; exact .nil⟩ (fun i σ H2 _ ⟨_, _, _, _, _, _, _, e2, _⟩ => SqL.of (e2 _ _ nl0 nl1 hrl2)) ?_ ?_⟩
    · rintro i x' σ H2 hi ⟨v, y5, y6, y7, xs0, xs1, rfl, e2, hw, q0, q1, pa0, pa1⟩
      rw [← List.map_reverse] at hi
      have il : i < ns.length := by
        have := (List.getElem?_eq_some_iff.mp hi).1
        rw [List.length_map, List.length_reverse] at this
        exact this
      obtain ⟨nm, hnm⟩ : ∃ nm, ns.reverse[i]? = some nm := ⟨_, List.getElem?_eq_getElem (by rw [List.length_reverse]; exact il)⟩
      rw [List.getElem?_map, hnm] at hi
      cases hi
      obtain ⟨p, hp⟩ : ∃ p, e.ws[i]? = some p := ⟨_, List.getElem?_eq_getElem (by omega)⟩
      have hdr : e.ws.drop i = p :: e.ws.drop (i + 1) := by
        obtain ⟨hlt, rfl⟩ := List.getElem?_eq_some_iff.mp hp
        exact List.drop_eq_getElem_cons hlt
      rw [hdr] at hw
      obtain ⟨wa, wu, rfl, hwa, hw2⟩ := hw
      refine ⟨_, rfl, wa, _, rfl, SqT.of hwa, rfl, _, _, rfl, _, _, rfl, _, _, rfl, rfl, ?_⟩
      have hr2 := e2 _ _ nr0 nr1 gr
      have l0 : xs0.length ≤ 64 := by rw [pa0.length, List.length_take, List.length_zip, List.length_reverse]; omega
      have l1 : xs1.length ≤ 64 := by rw [pa1.length, List.length_take, List.length_zip, List.length_reverse]; omega
      refine ⟨_, rfl, r, _, 0, _, rfl, rfl, SqL.of hr2, rfl, .inl ⟨rfl, _, SqL.of q0⟩, _, rfl, _, rfl, (by show 2 ≤ sizeLine; decide), fun t ht => ⟨r0, xs0, _, rfl, rfl, sn ht _ _ q0, szl (by omega), ?_⟩⟩
      have x1 : ExT H2 (upd (upd H2 t (.tup [.str nm, .int p.1])) r0 (.lst (xs0 ++ [.ref t]))) := (tx (sn ht)).trans (tx_mut (sn ht _ _ q0) rfl)
      have e3 := (e2.nw ht (o := .tup [.str nm, .int p.1])).m0 (o := .lst (xs0 ++ [.ref t]))
      have hr3 := e3 _ _ nr0 nr1 gr
      have nt1 : r1 ≠ t := fun z => by rw [z, ht] at q1; cases q1
      have q1' : upd (upd H2 t (.tup [.str nm, .int p.1])) r0 (.lst (xs0 ++ [.ref t])) r1 = some (.lst xs1) := by rw [upd_ne (Ne.symm n01), upd_ne nt1]; exact q1
      have q0' : upd (upd H2 t (.tup [.str nm, .int p.1])) r0 (.lst (xs0 ++ [.ref t])) r0 = some (.lst (xs0 ++ [.ref t])) := upd_same
      have pn0 : PairAt (upd (upd H2 t (.tup [.str nm, .int p.1])) r0 (.lst (xs0 ++ [.ref t]))) (.ref t) (nm, p.1) := ⟨t, rfl, tx_mut (sn ht _ _ q0) rfl _ _ rfl upd_same⟩
      refine ⟨_, rfl, r, _, 1, _, rfl, rfl, SqL.of hr3, rfl, .inl ⟨rfl, _, SqL.of q1'⟩, _, rfl, _, rfl, (by show 2 ≤ sizeLine; decide), fun t2 ht2 => ⟨r1, xs1, _, rfl, rfl, sn ht2 _ _ q1', szl (by omega), ?_⟩⟩
      generalize upd (upd H2 t (.tup [.str nm, .int p.1])) r0 (.lst (xs0 ++ [.ref t])) = H3 at x1 e3 hr3 q1' q0' pn0 ht2 ⊢
      have x2 : ExT H3 (upd (upd H3 t2 (.tup [.str nm, .int p.2])) r1 (.lst (xs1 ++ [.ref t2]))) := (tx (sn ht2)).trans (tx_mut (sn ht2 _ _ q1') rfl)
      have pn1 : PairAt (upd (upd H3 t2 (.tup [.str nm, .int p.2])) r1 (.lst (xs1 ++ [.ref t2]))) (.ref t2) (nm, p.2) := ⟨t2, rfl, tx_mut (sn ht2 _ _ q1') rfl _ _ rfl upd_same⟩
      have hz1 : (e.ws.map (·.1))[i]? = some p.1 := by rw [List.getElem?_map, hp]; rfl
      have hz2 : (e.ws.map (·.2))[i]? = some p.2 := by rw [List.getElem?_map, hp]; rfl
      refine ⟨wu, _, _, _, xs0 ++ [.ref t], xs1 ++ [.ref t2], rfl, (e3.nw ht2).m1, hw2.mono (x1.trans x2), ?_, upd_same, ?_, ?_⟩
      · rw [upd_ne n01]; exact sn ht2 _ _ q0'
      · rw [zip_take_s hnm hz1]
        exact papp (pa0.mono fun _ _ z => z.mono (x1.trans x2)) (.cons (pn0.mono x2) .nil)
      · rw [zip_take_s hnm hz2]
        exact papp (pa1.mono fun _ _ z => z.mono (x1.trans x2)) (.cons pn1 .nil)
    · rintro σ H2 ⟨v, y5, y6, y7, xs0, xs1, rfl, e2, hw, q0, q1, pa0, pa1⟩
      have lz : ((ns.map V.str).reverse).length = ns.length := by rw [List.length_reverse, List.length_map]
      rw [lz, List.take_of_length_le (by rw [List.length_zip, List.length_reverse]; omega)] at pa0 pa1
      have l0 : xs0.length ≤ 64 := by rw [pa0.length, List.length_zip, List.length_reverse]; omega
      have l1 : xs1.length ≤ 64 := by rw [pa1.length, List.length_zip, List.length_reverse]; omega
      have sH := ks _ e2
      have hsq2 := sH _ _ hsq
      refine ⟨_, rfl, x, CF, dx, _, _, rfl, sH _ _ hx, T.cl_Filling, T.n_Filling_first, rfl, p1, dp1, _, rfl, sH _ _ hp1, rfl,
        _, rfl, sq, _, 0, _, rfl, rfl, SqT.of hsq2, rfl, _, rfl, sq, _, 1, _, rfl, rfl, SqT.of hsq2, rfl, p1, o1, G1, R1, e.f1, e.r1, rfl, ⟨dp1, sH _ _ hp1⟩, b1, b2, by have := bd.g1; omega, fun Hc m1 sc fm1 hm1 => ?_⟩
      have sH1 := sH.trans sc
      have hsq3 := sc _ _ hsq2
      refine ⟨_, rfl, x, CF, dx, _, _, rfl, sH1 _ _ hx, T.cl_Filling, T.n_Filling_second, rfl, p2, dp2, _, rfl, sH1 _ _ hp2, rfl,
        _, rfl, sq, _, 2, _, rfl, rfl, SqT.of hsq3, rfl, _, rfl, sq, _, 3, _, rfl, rfl, SqT.of hsq3, rfl, p2, o2, G2, R2, e.f2, e.r2, rfl, ⟨dp2, sH1 _ _ hp2⟩, b3, b4, by have := bd.g2; omega, fun Hd m2 sd fm2 hm2 => ?_⟩
      have sH2 := sH1.trans sd
      have hm1 := sd _ _ hm1
      obtain ⟨pb1, pl1⟩ := pleft_b (o := o1) (G := G1) (R := R1) (f := e.f1) (r := e.r1) bd.o1 bd.r1 b1 bd.g1
      obtain ⟨pb2, pl2⟩ := pleft_b (o := o2) (G := G2) (R := R2) (f := e.f2) (r := e.r2) bd.o2 bd.r2 b3 bd.g2
      refine ⟨_, _, rfl, ?_⟩
      refine ⟨_, rfl, x, CF, dx, _, _, rfl, sH2 _ _ hx, T.cl_Filling, T.n_Filling_names, rfl, nl, rfl, ⟨_, SqL.of (sH2 _ _ hnl)⟩, fun D hD => dc_keys (ns := ns) (SqL.of (sH2 _ _ hnl)) hD (by omega) (fun _ => rfl) (fun _ => rfl) fun He kk se hkk mem lkk _ => ?_⟩
      have sH3 := sH2.trans se
      have hm1 := se _ _ hm1
      have hm2 := se _ _ hm2
      obtain ⟨m, hm⟩ : ∃ m : Nat, m = max (pleft o1 G1 R1 e.f1 e.r1).length (pleft o2 G2 R2 e.f2 e.r2).length := ⟨_, rfl⟩
      refine ⟨_, rfl, m1, _, rfl, .inl (SqL.of hm1), _, rfl, m2, _, rfl, .inl (SqL.of hm2), _, _, rfl, D, kk, m, ?_, hkk, by omega, fun Hf fl fresh sf ffl hfl hlen hnd hok => ?_⟩
      · rw [List.length_map, List.length_map]
        have : (if ((pleft o2 G2 R2 e.f2 e.r2).length : Int) > ((pleft o1 G1 R1 e.f1 e.r1).length : Int) then ((pleft o2 G2 R2 e.f2 e.r2).length : Int) else ((pleft o1 G1 R1 e.f1 e.r1).length : Int)) = (m : Int) := by
          split <;> omega
        rw [this]; rfl
      have sAll := ((sc.trans sd).trans se).trans sf
      have sH4 := sH3.trans sf
      have hm1 := sf _ _ hm1
      have hm2 := sf _ _ hm2
      have hr2 := sAll _ _ (e2 _ _ nr0 nr1 gr)
      have q0' := q0
      have q0 := sAll _ _ q0
      have q1 := sAll _ _ q1
      have pa0 := pa0.mono fun _ _ z => (z.mono (tx sAll) : PairAt Hf _ _)
      have pa1 := pa1.mono fun _ _ z => (z.mono (tx sAll) : PairAt Hf _ _)
      refine ⟨_, rfl, r, _, 0, _, rfl, rfl, SqL.of hr2, rfl, .inl ⟨rfl, _, SqL.of q0⟩, _, rfl, _, rfl, fl, m1, _, _, rfl, SqL.of hfl, SqL.of hm1, fun Hg z0 zs0 sg hz0 pz0 => ?_⟩
      have pz0 := zip_pairs pz0
      have lz0 : zs0.length ≤ 33 := by rw [pz0.length, List.length_zip]; omega
      refine ⟨r0, z0, xs0, zs0, rfl, rfl, sg _ _ q0, hz0, sz (by omega), ?_⟩
      have x5 : ExT Hg (upd Hg r0 (.lst (xs0 ++ zs0))) := tx_mut (sg _ _ q0) rfl
      have ks5 : ∀ a o, a ≠ r0 → Hf a = some o → upd Hg r0 (.lst (xs0 ++ zs0)) a = some o := fun a o n h => by rw [upd_ne n]; exact sg _ _ h
      have hr5 := ks5 _ _ nr0 hr2
      have q15 := ks5 _ _ (Ne.symm n01) q1
      have nfl : fl ≠ r0 := fun z => by
        rw [z, ((sc.trans sd).trans se) _ _ q0'] at ffl; cases ffl
      have nm2 : m2 ≠ r0 := fun z => by
        rw [z, sc _ _ q0'] at fm2; cases fm2
      have hfl5 := ks5 _ _ nfl hfl
      have hm25 := ks5 _ _ nm2 hm2
      have q05 : upd Hg r0 (.lst (xs0 ++ zs0)) r0 = some (.lst (xs0 ++ zs0)) := upd_same
      have pa05 := papp (pa0.mono fun _ _ z => (z.mono ((tx sg).trans x5) : PairAt (upd Hg r0 (.lst (xs0 ++ zs0))) _ _)) (pz0.mono fun _ _ z => (z.mono x5 : PairAt (upd Hg r0 (.lst (xs0 ++ zs0))) _ _))
      have pa15 := pa1.mono fun _ _ z => (z.mono ((tx sg).trans x5) : PairAt (upd Hg r0 (.lst (xs0 ++ zs0))) _ _)
      have sH5 : Same H (upd Hg r0 (.lst (xs0 ++ zs0))) := fun a o h => ks5 a o (ne_of_none h n0) (sH4 a o h)
      generalize upd Hg r0 (.lst (xs0 ++ zs0)) = Hh at x5 hr5 q15 hfl5 hm25 q05 pa05 pa15 sH5 ⊢
      refine ⟨_, rfl, r, _, 1, _, rfl, rfl, SqL.of hr5, rfl, .inl ⟨rfl, _, SqL.of q15⟩, _, rfl, _, rfl, fl, m2, _, _, rfl, SqL.of hfl5, SqL.of hm25, fun Hk z1 zs1 sk hz1 pz1 => ?_⟩
      have pz1 := zip_pairs pz1
      have lz1 : zs1.length ≤ 33 := by rw [pz1.length, List.length_zip]; omega
      refine ⟨r1, z1, xs1, zs1, rfl, rfl, sk _ _ q15, hz1, sz (by omega), ?_⟩
      have x6 : ExT Hk (upd Hk r1 (.lst (xs1 ++ zs1))) := tx_mut (sk _ _ q15) rfl
      have ks6 : ∀ a o, a ≠ r1 → Hh a = some o → upd Hk r1 (.lst (xs1 ++ zs1)) a = some o := fun a o n h => by rw [upd_ne n]; exact sk _ _ h
      refine ⟨_, rfl, q _ r r0 r1 _ _ fresh (fun a o h => ks6 a o (ne_of_none h n1) (sH5 a o h)) (ks6 _ _ nr1 hr5) (ks6 _ _ n01 q05) upd_same (pa05.mono fun _ _ z => z.mono ((tx sk).trans x6))
        (papp (pa15.mono fun _ _ z => z.mono ((tx sk).trans x6)) (pz1.mono fun _ _ z => z.mono x6)) hnd (fun z hz => ⟨(hok z hz).1, fun m => (hok z hz).2 ((mem z).mpr m)⟩) (by omega) (by omega) (by omega)⟩
end
end Kn
set_option Elab.async false
set_option linter.all false
set_option maxRecDepth 100000
set_option maxHeartbeats 4000000
set_option pp.maxSteps 300
/-! Filling: made. -/
namespace Kn
open PySem PySem.Spec PyProof.Rows L2 KM
theorem por_ok {s : Sk} (ok : SkOk s) : Por s.off (fullOf s) (restOf s) (lost s) := by
  obtain ⟨l0, l1, l2⟩ := lost_b ok
  have o0 := ok.o0
  unfold fullOf restOf
  by_cases h : s.off = 0
  · rw [if_pos h, if_pos h]
    exact ⟨Int.le_refl _, Int.le_refl _, .inr ⟨h, rfl, rfl⟩, by rw [h] at l2; omega⟩
  · rw [if_neg h, if_neg h]
    have hp : 0 < s.off := by omega
    exact ⟨Int.ediv_nonneg l0 (by omega), Int.emod_nonneg _ (by omega), .inl (Int.emod_lt_of_pos _ hp), (Int.mul_ediv_add_emod _ _).symm⟩
theorem full_le {s : Sk} (ok : SkOk s) : 0 ≤ fullOf s ∧ fullOf s ≤ 32 := by
  obtain ⟨l0, l1, l2⟩ := lost_b ok
  have P := por_ok ok
  refine ⟨P.f0, ?_⟩
  unfold fullOf
  have o0 := ok.o0
  by_cases h : s.off = 0
  · rw [if_pos h]; omega
  · rw [if_neg h]
    exact Int.ediv_le_of_le_mul (by omega) l2
theorem rest_le {s : Sk} (ok : SkOk s) : 0 ≤ restOf s ∧ restOf s ≤ 1500 := by
  have P := por_ok ok
  have := off_le ok
  refine ⟨P.r0, ?_⟩
  rcases P.ro with h | ⟨_, _, h⟩ <;> omega
theorem cnt_b {s : Sk} (ok : SkOk s) (n : Str) : 0 ≤ KM.cnt s.kept n ∧ KM.cnt s.kept n ≤ 1500 := by
  by_cases m : n ∈ nms s.kept
  · obtain ⟨v, hv⟩ := nms_mem m
    have e : KM.cnt s.kept n = v := cnt_mem (p := (n, v)) ok.ct.nd hv
    rw [e]; exact kept_le ok _ hv
  · rw [cnt_no m]; omega
theorem bd_of {s t : Sk} (ok : SkOk s) (ok2 : SkOk t) {c d : Int} (hc : 0 ≤ c ∧ c ≤ 1500) (hd : 0 ≤ d ∧ d ≤ 1500) : Bd s.off (fullOf s) (restOf s) t.off (fullOf t) (restOf t) c d := by
  have := off_le ok
  have := off_le ok2
  have := ok.o0
  have := ok2.o0
  have := rest_le ok
  have := rest_le ok2
  exact ⟨(full_le ok).2, (full_le ok2).2, by omega, by omega, by omega, by omega, by omega, by omega⟩
theorem tab_box {o1 G1 R1 o2 G2 R2 : Int} {cs ds : List Int} {L : List Cand} (T : Tab o1 G1 R1 o2 G2 R2 cs ds L) : ∀ e ∈ L, Box G1 G2 e := fun e he => by
  obtain ⟨ks, ls, w, a1, a2, a3, a4, _⟩ := T.sound e he
  have n1 := w.n1
  have n2 := w.n2
  have b1 : rN R1 ≤ 1 := by unfold rN; split <;> omega
  have b2 : rN R2 ≤ 1 := by unfold rN; split <;> omega
  have f1 := w.f1
  have f2 := w.f2
  exact ⟨⟨by omega, by omega⟩, by omega, ⟨by omega, by omega⟩, by omega⟩
theorem tab_ne {o1 G1 R1 o2 G2 R2 : Int} {cs ds : List Int} {L : List Cand} (T : Tab o1 G1 R1 o2 G2 R2 cs ds L) (g1 : 0 ≤ G1) (g2 : 0 ≤ G2) : L ≠ [] := fun e => by
  have hz : ∀ n, nF (List.replicate n Kd.z) = 0 ∧ nR (List.replicate n Kd.z) = 0 := fun n => by
    unfold nF nR
    rw [List.count_replicate, List.count_replicate]
    exact ⟨by simp, by simp⟩
  obtain ⟨h1, h2⟩ := hz cs.length
  obtain ⟨x, hx, _⟩ := T.all (List.replicate cs.length .z) (List.replicate cs.length .z) ⟨by simp, by simp, by rw [h1]; exact g1, by rw [h2]; exact Nat.zero_le _, by rw [h1]; exact g2, by rw [h2]; exact Nat.zero_le _⟩
  rw [e] at hx; cases hx
section
variable {P : Program} {w : World} {K : PySem.W.Frag} {mg : Str → Option Value} {base : Heap} {CP CF : Addr}
def spFil (CP CF : Addr) : Sp := fun vs H Q _ => ∃ (x dx : Addr) (v u : V) (s t : Sk), vs = [.ref x, v, u] ∧ H x = some (.ins CF dx []) ∧ SkAt H v s ∧ SkAt H u t ∧ SkOk s ∧ SkOk t ∧
  ∀ (H' : Hp) (p1 p2 nl b : Addr) (dv : V) (e : Cand) (ns : List Str) (L : List Cand), ExB x H H' → H' x = some (.ins CF dx (FG p1 p2 nl b dv)) → PAt CP H' p1 s.off (fullOf s) (restOf s) → PAt CP H' p2 t.off (fullOf t) (restOf t) → H' nl = some (.lst (ns.map V.str)) →
    ns.Pairwise sLt → (∀ n, n ∈ ns ↔ n ∈ nms s.kept ∨ n ∈ nms t.kept) → ns.length ≤ 32 → Tab s.off (fullOf s) (restOf s) t.off (fullOf t) (restOf t) (ns.map (KM.cnt s.kept)) (ns.map (KM.cnt t.kept)) L → e ∈ L →
    (∀ y ∈ L, wholeOf s.off (fullOf s) (restOf s) t.off (fullOf t) (restOf t) y ≤ wholeOf s.off (fullOf s) (restOf s) t.off (fullOf t) (restOf t) e) → DoneAt H' dv e (wholeOf s.off (fullOf s) (restOf s) t.off (fullOf t) (restOf t) e) → Q .non H'
theorem c_Filling (T : Txt K mg CP CF) : C8.Mak P w K mg base 4 "Filling" CF (spFil CP CF) [] := by
  refine mki (N := ["self", "one", "other", "counts", "others", "name"]) T.g_Filling T.mk_Filling (by decide +kernel) (fun vs H Q E h => ?_) (fun f cdv A outer s H vs Q E hr h => ?_)
  · obtain ⟨x, dx, v, u, sk, tk, rfl, _⟩ := h; rfl
  · obtain ⟨x, dx, v, u, sk, tk, rfl, hx, hS, hT, ok, ok2, q⟩ := h
    have nd : (["self", "one", "other", "counts", "others", "name"] : List Str).Nodup := by decide +kernel
    refine ⟨_, pss_cons (ps_fld (pv 0) (C8.pe_mk (c_Portions T) hr (by decide) (by rfl) (pa_cons (pv 1) pa_nil)) (by rfl))
      (pss_cons (ps_fld (pv 0) (C8.pe_mk (c_Portions T) hr (by decide) (by rfl) (pa_cons (pv 2) pa_nil)) (by rfl))
      (pss_cons (ps_par (i := 3) (j := 4) (by rfl) nd rfl rfl (by decide) rfl rfl (pa_cons (pe_callTy (cr_dictT rfl) (by rfl) T.z_dict bo_dict (pa_cons (pe_ix ix_tup (pv 1) (C8.pe_gc (by rfl) T.k_KEPT) (fun _ _ => rfl)) pa_nil))
          (pa_cons (pe_callTy (cr_dictT rfl) (by rfl) T.z_dict bo_dict (pa_cons (pe_ix ix_tup (pv 2) (C8.pe_gc (by rfl) T.k_KEPT) (fun _ _ => rfl)) pa_nil)) pa_nil)) (by rfl))
      (pss_cons (ps_fld (pv 0) (pe_callB (cr_srtD rfl hr.units) (by rfl) T.z_sorted bo_sorted (pa_cons
          (pe_dc (own := [("name", 5)]) (g := gName 5) (by rfl) nd (pi_list (pe_op op_cat (pe_callTy (call_listD rfl) (by rfl) T.z_list bo_list (pa_cons (pv 3) pa_nil)) (pe_callTy (call_listD rfl) (by rfl) T.z_list bo_list (pa_cons (pv 4) pa_nil))))
            (blkOk_by (own := [("name", 5)]) (N := ["self", "one", "other", "counts", "others", "name"]) (sc := C8.fnScope (inClass (topS 40) 0)) (by decide +kernel))
            (fun _ _ _ _ _ => pg_name (i := 5) nd rfl (Or.inl rfl)) (fun _ _ _ _ _ => pts_nil) (fun _ _ _ _ _ => pv 5) (fun _ _ _ _ _ => pe_bl)) pa_nil)) (by rfl))
      (pss_cons (ps_fld (pv 0) (pe_dispT hr.units (pe_tup (pa_cons pe_int (pa_cons pe_int (pa_cons pe_int (pa_cons pe_int pa_nil))))) (pe_tup (pa_cons pe_int (pa_cons pe_non pa_nil)))) (by rfl))
      (pss_cons (ps_for PassesOwn.never rfl (pi_list (pe_fld (pv 0) (by rfl))) (pg_name (i := 5) nd rfl (.inl rfl))
        (pss_one (ps_expr (C8.pe_mt (c_go_on T) hr (by decide) (pv 0) (pa_cons (pe_dget2 (u1 hr) (pv 3) (pv 5) pe_int ⟨by rfl, by rfl, by rfl, by rfl⟩) (pa_cons (pe_dget2 (u1 hr) (pv 4) (pv 5) pe_int ⟨by rfl, by rfl, by rfl, by rfl⟩) pa_nil))))))
      (pss_one (ps_fld (pv 0) (C8.pe_mt0 (c_ended T) hr (by decide) (pv 0)) (by rfl)))))))), ?_⟩
    obtain ⟨a1, w1, rfl, ha1, kb1, ks1, rfl, hk1, pk1⟩ := id hS
    obtain ⟨a2, w2, rfl, ha2, kb2, ks2, rfl, hk2, pk2⟩ := id hT
    -- the first portions
    refine ⟨_, rfl, fun p1 dp1 hp1 hdp1 n1 => ?_⟩
    have sA : Same H (upd (upd H dp1 (.own p1)) p1 (.ins CP dp1 [])) := sm (sn hdp1) hp1
    refine ⟨p1, dp1, _, sk, rfl, upd_same, hS.mono (tx sA), ok, fun H1 e1 hP1 => ⟨rfl, ?_⟩⟩
    have s1 : Same H H1 := fun a o h => e1 a o (ne_of_none h hp1) (sA a o h)
    refine ⟨_, rfl, x, CF, dx, _, rfl, s1 _ _ hx, T.cl_Filling, T.n_Filling_first, (by show 0 < 1000; decide), ?_⟩
    have np1 : p1 ≠ x := fun z => by rw [z, hx] at hp1; cases hp1
    have x2 : ExB x H (upd H1 x (.ins CF dx (putF "first" (.ref p1) []))) := (ExB.of s1).mut
    have hx2 : upd H1 x (.ins CF dx (putF "first" (.ref p1) [])) x = some (.ins CF dx [("first", .ref p1)]) := upd_same
    have hP1 : PAt CP (upd H1 x (.ins CF dx (putF "first" (.ref p1) []))) p1 sk.off (fullOf sk) (restOf sk) := by
      obtain ⟨d', h'⟩ := hP1
      exact ⟨d', by rw [upd_ne np1]; exact h'⟩
    generalize upd H1 x (.ins CF dx (putF "first" (.ref p1) [])) = H2 at x2 hx2 hP1 ⊢
    have xt2 := x2.tx hx rfl
    -- the second
    refine ⟨_, rfl, fun p2 dp2 hp2 hdp2 n2 => ?_⟩
    have sB : Same H2 (upd (upd H2 dp2 (.own p2)) p2 (.ins CP dp2 [])) := sm (sn hdp2) hp2
    refine ⟨p2, dp2, _, tk, rfl, upd_same, hT.mono (xt2.trans (tx sB)), ok2, fun H3 e3 hP2 => ⟨rfl, ?_⟩⟩
    have s3 : Same H2 H3 := fun a o h => e3 a o (ne_of_none h hp2) (sB a o h)
    refine ⟨_, rfl, x, CF, dx, _, rfl, s3 _ _ hx2, T.cl_Filling, T.n_Filling_second, (by show 1 < 1000; decide), ?_⟩
    have np2 : p2 ≠ x := fun z => by rw [z, hx2] at hp2; cases hp2
    have x4 : ExB x H (upd H3 x (.ins CF dx (putF "second" (.ref p2) [("first", .ref p1)]))) := (x2.trans (ExB.of s3)).mut
    have hx4 : upd H3 x (.ins CF dx (putF "second" (.ref p2) [("first", .ref p1)])) x = some (.ins CF dx [("first", .ref p1), ("second", .ref p2)]) := upd_same
    have hP1 : PAt CP (upd H3 x (.ins CF dx (putF "second" (.ref p2) [("first", .ref p1)]))) p1 sk.off (fullOf sk) (restOf sk) := by
      obtain ⟨d', h'⟩ := hP1
      exact ⟨d', by rw [upd_ne np1]; exact s3 _ _ h'⟩
    have hP2 : PAt CP (upd H3 x (.ins CF dx (putF "second" (.ref p2) [("first", .ref p1)]))) p2 tk.off (fullOf tk) (restOf tk) := by
      obtain ⟨d', h'⟩ := hP2
      exact ⟨d', by rw [upd_ne np2]; exact h'⟩
    generalize upd H3 x (.ins CF dx (putF "second" (.ref p2) [("first", .ref p1)])) = H4 at x4 hx4 hP1 hP2 ⊢
    have xt4 := x4.tx hx rfl
    -- the counts
    refine ⟨_, rfl, a1, _, 3, _, rfl, rfl, SqT.of (xt4 _ _ rfl ha1), rfl, kb1, ks1, sk.kept, rfl, hk1.mono xt4, pk1.mono (fun _ _ z => z.mono xt4), ok.ct.nd, fun d1 hd1 => ?_⟩
    have s5 := sn hd1 (o := .dK (sk.kept.map kvP))
    have xt5 := xt4.trans (tx s5)
    refine ⟨_, rfl, a2, _, 3, _, rfl, rfl, SqT.of (xt5 _ _ rfl ha2), rfl, kb2, ks2, tk.kept, rfl, hk2.mono xt5, pk2.mono (fun _ _ z => z.mono xt5), ok2.ct.nd, fun d2 hd2 => ⟨_, _, rfl, ?_⟩⟩
    have s6 := s5.trans (sn hd2 (o := .dK (tk.kept.map kvP)))
    have c1 : DC (upd (upd H4 d1 (.dK (sk.kept.map kvP))) d2 (.dK (tk.kept.map kvP))) d1 sk.kept := sn hd2 _ _ upd_same
    have c2 : DC (upd (upd H4 d1 (.dK (sk.kept.map kvP))) d2 (.dK (tk.kept.map kvP))) d2 tk.kept := upd_same
    generalize upd (upd H4 d1 (.dK (sk.kept.map kvP))) d2 (.dK (tk.kept.map kvP)) = H6 at s6 c1 c2 ⊢
    -- the names
    refine ⟨_, rfl, d1, _, rfl, .inl c1, fun l1 hl1 => ⟨_, rfl, d2, _, rfl, .inl (sn hl1 _ _ c2), fun l2 hl2 => ?_⟩⟩
    have lk1 := len_le ok
    have lk2 := len_le ok2
    have ne12 : l1 ≠ l2 := fun z => by rw [z, upd_same] at hl2; cases hl2
    refine ⟨l1, l2, _, _, rfl, rfl, by rw [upd_ne ne12, upd_same], upd_same, by rw [List.length_map, List.length_map, List.length_map, List.length_map]; exact sz (by omega), fun l3 hl3 => ?_⟩
    have s7 := sm (sm (sn hl1 (o := .lst ((sk.kept.map kvP).map fun kv => kV kv.1))) ((sn hl1).free hl2) (o := .lst ((tk.kept.map kvP).map fun kv => kV kv.1))) ((sm (sn hl1) ((sn hl1).free hl2)).free hl3) (o := .lst ((sk.kept.map kvP).map (fun kv => kV kv.1) ++ (tk.kept.map kvP).map fun kv => kV kv.1))
    have en : (sk.kept.map kvP).map (fun kv => kV kv.1) ++ (tk.kept.map kvP).map (fun kv => kV kv.1) = (nms sk.kept ++ nms tk.kept).map V.str := by
      rw [List.map_append, List.map_map, List.map_map]
      unfold nms
      rw [List.map_map, List.map_map]
      rfl
    have lnm : ∀ l : List (Str × Int), (nms l).length = l.length := fun l => by unfold nms; rw [List.length_map]
    refine ⟨l3, rfl, ⟨_, SqL.of upd_same⟩, fun D hD => dc_keys (ns := nms sk.kept ++ nms tk.kept) (by rw [← en]; exact SqL.of upd_same) hD (by rw [List.length_append, lnm, lnm]; omega) (fun _ => rfl) (fun _ => rfl) fun H8 kk s8 hkk mem lkk ndk => ?_⟩
    obtain ⟨kvs, hkk, ek⟩ := hkk
    rw [List.length_append, lnm, lnm] at lkk
    refine ⟨D, kvs, kk, rfl, .inl hkk, ek, fun ns nl pm as hnl => ?_⟩
    have nds : ns.Nodup := pm.nodup_iff.mpr ndk
    have mns : ∀ n, n ∈ ns ↔ n ∈ nms sk.kept ∨ n ∈ nms tk.kept := fun n => by rw [pm.mem_iff, mem, List.mem_append]
    have lns : ns.length ≤ 32 := by rw [pm.length_eq]; omega
    have s9 := (s6.trans (s7.trans s8)).trans (sn hnl (o := .lst (ns.map V.str)))
    have s9' := ((s7.trans s8)).trans (sn hnl (o := .lst (ns.map V.str)))
    refine ⟨_, rfl, x, CF, dx, _, rfl, s9 _ _ hx4, T.cl_Filling, T.n_Filling_names, (by show 2 < 1000; decide), ?_⟩
    have nlx : nl ≠ x := fun z => by
      have := (s7.trans s8) _ _ (s6 _ _ hx4)
      rw [z, this] at hnl; cases hnl
    have mk10 : ∀ a o, a ≠ x → H4 a = some o → upd (upd H8 nl (.lst (ns.map V.str))) x (.ins CF dx (putF "names" (.ref nl) [("first", .ref p1), ("second", .ref p2)])) a = some o := fun a o n h => by rw [upd_ne n]; exact s9 _ _ h
    have mk11 : ∀ a o, a ≠ x → H6 a = some o → upd (upd H8 nl (.lst (ns.map V.str))) x (.ins CF dx (putF "names" (.ref nl) [("first", .ref p1), ("second", .ref p2)])) a = some o := fun a o n h => by rw [upd_ne n]; exact s9' _ _ h
    have nd1 : d1 ≠ x := ne_of c1 (s6 _ _ hx4) fun z => nomatch z
    have nd2 : d2 ≠ x := ne_of c2 (s6 _ _ hx4) fun z => nomatch z
    have x10 : ExB x H (upd (upd H8 nl (.lst (ns.map V.str))) x (.ins CF dx (putF "names" (.ref nl) [("first", .ref p1), ("second", .ref p2)]))) := fun a o n h => mk10 a o n (x4 a o n h)
    have hx10 : upd (upd H8 nl (.lst (ns.map V.str))) x (.ins CF dx (putF "names" (.ref nl) [("first", .ref p1), ("second", .ref p2)])) x = some (.ins CF dx [("first", .ref p1), ("second", .ref p2), ("names", .ref nl)]) := upd_same
    have hnl10 : upd (upd H8 nl (.lst (ns.map V.str))) x (.ins CF dx (putF "names" (.ref nl) [("first", .ref p1), ("second", .ref p2)])) nl = some (.lst (ns.map V.str)) := by rw [upd_ne nlx, upd_same]
    obtain ⟨dq1, hP1⟩ := hP1
    obtain ⟨dq2, hP2⟩ := hP2
    have hP1 := mk10 _ _ np1 hP1
    have hP2 := mk10 _ _ np2 hP2
    have c1 : DC _ d1 sk.kept := mk11 _ _ nd1 c1
    have c2 : DC _ d2 tk.kept := mk11 _ _ nd2 c2
    generalize upd (upd H8 nl (.lst (ns.map V.str))) x (.ins CF dx (putF "names" (.ref nl) [("first", .ref p1), ("second", .ref p2)])) = Ha at x10 hx10 hnl10 hP1 hP2 c1 c2 ⊢
    -- the empty way
    intro b hb
    refine ⟨(by show 4 ≤ sizeLine; decide), fun t1 ht1 => ⟨(by show 2 ≤ sizeLine; decide), fun t2 ht2 => ?_⟩⟩
    have sb1 := (sn hb (o := .dT [])).trans (sn ht1 (o := .tup [.int 0, .int 0, .int 0, .int 0]))
    have sb2 := sb1.trans (sn ht2 (o := .tup [.int 0, .non]))
    have hbT : upd (upd (upd Ha b (.dT [])) t1 (.tup [.int 0, .int 0, .int 0, .int 0])) t2 (.tup [.int 0, .non]) b = some (.dT []) := sn ht2 _ _ (sn ht1 _ _ upd_same)
    have hk1' : upd (upd (upd Ha b (.dT [])) t1 (.tup [.int 0, .int 0, .int 0, .int 0])) t2 (.tup [.int 0, .non]) t1 = some (.tup ((keyL ⟨0, 0, 0, 0, 0, []⟩).map kV)) := sn ht2 _ _ upd_same
    have ht2' : upd (upd (upd Ha b (.dT [])) t1 (.tup [.int 0, .int 0, .int 0, .int 0])) t2 (.tup [.int 0, .non]) t2 = some (.tup [.int 0, .non]) := upd_same
    refine ⟨hbT, t1, keyL ⟨0, 0, 0, 0, 0, []⟩, rfl, hk1', ?_⟩
    have nbx : b ≠ x := fun z => by rw [z, hx10] at hb; cases hb
    generalize upd (upd (upd Ha b (.dT [])) t1 (.tup [.int 0, .int 0, .int 0, .int 0])) t2 (.tup [.int 0, .non]) = Hc at sb2 hbT hk1' ht2' ⊢
    have ks : ∀ a o, Ha a = some o → upd Hc b (.dT [(keyL ⟨0, 0, 0, 0, 0, []⟩, .ref t2)]) a = some o := fun a o h => by
      rw [upd_ne (ne_of_none h hb)]; exact sb2 _ _ h
    refine ⟨_, rfl, x, CF, dx, _, rfl, ks _ _ hx10, T.cl_Filling, T.n_Filling_best, (by show 3 < 1000; decide), ?_⟩
    have ntb : t2 ≠ b := ne_of ht2' hbT fun z => nomatch z
    have ntx : t2 ≠ x := ne_of ht2' (sb2 _ _ hx10) fun z => nomatch z
    have mk12 : ∀ a o, a ≠ x → Ha a = some o → upd (upd Hc b (.dT [(keyL ⟨0, 0, 0, 0, 0, []⟩, .ref t2)])) x (.ins CF dx (putF "best" (.ref b) [("first", .ref p1), ("second", .ref p2), ("names", .ref nl)])) a = some o := fun a o n h => by rw [upd_ne n]; exact ks _ _ h
    have x12 : ExB x H (upd (upd Hc b (.dT [(keyL ⟨0, 0, 0, 0, 0, []⟩, .ref t2)])) x (.ins CF dx (putF "best" (.ref b) [("first", .ref p1), ("second", .ref p2), ("names", .ref nl)]))) := fun a o n h => mk12 a o n (x10 a o n h)
    have hx12 : upd (upd Hc b (.dT [(keyL ⟨0, 0, 0, 0, 0, []⟩, .ref t2)])) x (.ins CF dx (putF "best" (.ref b) [("first", .ref p1), ("second", .ref p2), ("names", .ref nl)])) x = some (.ins CF dx (FF p1 p2 nl b)) := upd_same
    have hb12 : BestAt (upd (upd Hc b (.dT [(keyL ⟨0, 0, 0, 0, 0, []⟩, .ref t2)])) x (.ins CF dx (putF "best" (.ref b) [("first", .ref p1), ("second", .ref p2), ("names", .ref nl)]))) b [⟨0, 0, 0, 0, 0, []⟩] :=
      ⟨_, by rw [upd_ne nbx, upd_same], .cons ⟨rfl, t2, .non, rfl, by rw [upd_ne ntx, upd_ne ntb]; exact ht2', rfl⟩ .nil⟩
    have hnl10 := mk12 _ _ nlx hnl10
    have hP1 := mk12 _ _ np1 hP1
    have hP2 := mk12 _ _ np2 hP2
    have c1 : DC _ d1 sk.kept := mk12 _ _ nd1 c1
    have c2 : DC _ d2 tk.kept := mk12 _ _ nd2 c2
    generalize upd (upd Hc b (.dT [(keyL ⟨0, 0, 0, 0, 0, []⟩, .ref t2)])) x (.ins CF dx (putF "best" (.ref b) [("first", .ref p1), ("second", .ref p2), ("names", .ref nl)])) = Hd at x12 hx12 hb12 hnl10 hP1 hP2 c1 c2 ⊢
    have g1 := full_le ok
    have g2 := full_le ok2
    -- name by name
    refine ⟨_, rfl, x, CF, dx, _, _, rfl, hx12, T.cl_Filling, T.n_Filling_names, rfl, nl, rfl, ⟨_, SqL.of hnl10⟩, for_list (K := K) (a := nl) (xs := ns.map V.str)
      (fun i σ H2 => ∃ y5 b' L, σ = [some (.ref x), some (.ref a1), some (.ref a2), some (.ref d1), some (.ref d2), y5] ∧ ExB x Hd H2 ∧ H2 x = some (.ins CF dx (FF p1 p2 nl b')) ∧ BestAt H2 b' L ∧
        Tab sk.off (fullOf sk) (restOf sk) tk.off (fullOf tk) (restOf tk) ((ns.take i).map (KM.cnt sk.kept)) ((ns.take i).map (KM.cnt tk.kept)) L)
      ⟨none, b, _, rfl, ExB.refl _ _, hx12, hb12, tab_nil g1.1 g2.1⟩ (fun i σ H2 _ ⟨_, _, _, _, e2, _⟩ => SqL.of (e2 _ _ nlx hnl10)) ?_ ?_⟩
    · rintro i x' σ H2 hi ⟨y5, b', L, rfl, e2, hx2', hbL, tab⟩
      rw [List.getElem?_map] at hi
      cases hn : ns[i]? with
      | none => rw [hn] at hi; cases hi
      | some n =>
      rw [hn] at hi
      cases hi
      have c1' : DC H2 d1 sk.kept := e2 _ _ nd1 c1
      have c2' : DC H2 d2 tk.kept := e2 _ _ nd2 c2
      refine ⟨_, rfl, x, dx, _, rfl, hx2', rfl, _, rfl, d1, rfl, .inl ⟨_, .inl c1'⟩, _, rfl, _, dget c1', ?_⟩
      rw [val_getD]
      refine ⟨_, rfl, d2, rfl, .inl ⟨_, .inl c2'⟩, _, rfl, _, dget c2', ?_⟩
      rw [val_getD]
      refine ⟨x, dx, p1, p2, nl, b', _, _, _, _, _, _, _, _, L, rfl, hx2', ⟨dq1, e2 _ _ np1 hP1⟩, ⟨dq2, e2 _ _ np2 hP2⟩, hbL, tab_box tab, bd_of ok ok2 (cnt_b ok n) (cnt_b ok2 n), fun H3 b3 L3 e3 hx3 hb3 F3 => ?_⟩
      refine ⟨_, b3, L3, rfl, e2.trans e3, hx3, hb3, ?_⟩
      rw [List.take_add_one, hn, List.map_append, List.map_append]
      exact tab_step tab (by rw [List.length_map, List.length_map]) F3
    · rintro σ H2 ⟨y5, b', L, rfl, e2, hx2', hbL, tab⟩
      rw [List.length_map, List.take_length] at tab
      refine ⟨_, rfl, x, dx, _, rfl, hx2', rfl, x, dx, p1, p2, nl, b', _, _, _, _, _, _, L, rfl, hx2', ⟨dq1, e2 _ _ np1 hP1⟩, ⟨dq2, e2 _ _ np2 hP2⟩, hbL, tab_box tab, tab_ne tab g1.1 g2.1, bd_of ok ok2 (by omega) (by omega), fun H3 dv e s3' heL hmax hdn => ?_⟩
      refine ⟨_, rfl, x, CF, dx, _, rfl, s3' _ _ hx2', T.cl_Filling, T.n_Filling_done, (by show 4 < 1000; decide), ?_⟩
      have xt : ExT H3 (upd H3 x (.ins CF dx (putF "done" dv (FF p1 p2 nl b')))) := tx_mut (s3' _ _ hx2') rfl
      have mk : ∀ a o, a ≠ x → Hd a = some o → upd H3 x (.ins CF dx (putF "done" dv (FF p1 p2 nl b'))) a = some o := fun a o n h => by rw [upd_ne n]; exact s3' _ _ (e2 a o n h)
      exact q _ p1 p2 nl b' dv e ns L (fun a o n h => mk a o n (x12 a o n h)) upd_same ⟨dq1, mk _ _ np1 hP1⟩ ⟨dq2, mk _ _ np2 hP2⟩ (mk _ _ nlx hnl10) (asc_strs as nds) mns lns tab heL hmax (hdn.mono xt)
end
end Kn
set_option Elab.async false
set_option linter.all false
set_option maxRecDepth 100000
set_option maxHeartbeats 4000000
set_option pp.maxSteps 300
/-! Truths made, and their sums of products. -/
namespace Kn
open PySem PySem.Spec PyProof.Rows L2 KM
/-- the best of all ways -/
def IsMax (s t : Sk) (W : Int) : Prop := ∃ ns : List Str, ns.Pairwise sLt ∧ (∀ n, n ∈ ns ↔ n ∈ nms s.kept ∨ n ∈ nms t.kept) ∧
  (∀ ks ls, Way (fullOf s) (restOf s) (fullOf t) (restOf t) ns.length ks ls → whole s.off (fullOf s) (restOf s) t.off (fullOf t) (restOf t) (ns.map (KM.cnt s.kept)) (ns.map (KM.cnt t.kept)) ks ls ≤ W) ∧
  ∃ ks ls, Way (fullOf s) (restOf s) (fullOf t) (restOf t) ns.length ks ls ∧ whole s.off (fullOf s) (restOf s) t.off (fullOf t) (restOf t) (ns.map (KM.cnt s.kept)) (ns.map (KM.cnt t.kept)) ks ls = W
theorem names_uniq {s t : Sk} {l m : List Str} (hl : l.Pairwise sLt) (hm : m.Pairwise sLt) (e : ∀ n, n ∈ l ↔ n ∈ m) : l = m := by
  refine asc_uniq ?_ hl hm
  exact (List.perm_ext_iff_of_nodup (asc_nd hl) (asc_nd hm)).mpr e
theorem max_uniq {s t : Sk} {W W' : Int} (h : IsMax s t W) (h' : IsMax s t W') : W = W' := by
  obtain ⟨ns, a1, a2, a3, ks, ls, a4, a5⟩ := h
  obtain ⟨ms, b1, b2, b3, ks', ls', b4, b5⟩ := h'
  have e : ns = ms := names_uniq (s := s) (t := t) a1 b1 fun n => by rw [a2, b2]
  subst e
  have x := b3 ks ls a4
  have y := a3 ks' ls' b4
  omega
theorem way_sym {G1 R1 G2 R2 : Int} {n : Nat} {ks ls : List Kd} (w : Way G1 R1 G2 R2 n ks ls) : Way G2 R2 G1 R1 n ls ks := ⟨w.ll, w.lk, w.f2, w.n2, w.f1, w.n1⟩
theorem whole_sym {o1 G1 R1 o2 G2 R2 : Int} {cs ds : List Int} {ks ls : List Kd} : whole o1 G1 R1 o2 G2 R2 cs ds ks ls = whole o2 G2 R2 o1 G1 R1 ds cs ls ks := by
  unfold whole psum
  rw [zs_comm, zs_comm (port o1 R1 _ _)]
theorem max_sym {s t : Sk} {W : Int} (h : IsMax s t W) : IsMax t s W := by
  obtain ⟨ns, a1, a2, a3, ks, ls, a4, a5⟩ := h
  exact ⟨ns, a1, fun n => by rw [a2, Or.comm], fun ks' ls' w => by rw [whole_sym]; exact a3 ls' ks' (way_sym w), ls, ks, way_sym a4, by rw [whole_sym]; exact a5⟩
theorem max_tab {s t : Sk} {ns : List Str} {L : List Cand} {e : Cand} (ok : SkOk s) (ok2 : SkOk t) (h1 : ns.Pairwise sLt) (h2 : ∀ n, n ∈ ns ↔ n ∈ nms s.kept ∨ n ∈ nms t.kept)
    (T : Tab s.off (fullOf s) (restOf s) t.off (fullOf t) (restOf t) (ns.map (KM.cnt s.kept)) (ns.map (KM.cnt t.kept)) L) (he : e ∈ L) (hm : ∀ y ∈ L, wholeOf s.off (fullOf s) (restOf s) t.off (fullOf t) (restOf t) y ≤ wholeOf s.off (fullOf s) (restOf s) t.off (fullOf t) (restOf t) e) :
    IsMax s t (wholeOf s.off (fullOf s) (restOf s) t.off (fullOf t) (restOf t) e) := by
  refine ⟨ns, h1, h2, fun ks ls w => tab_best T he hm ks ls (by rw [List.length_map]; exact w), ?_⟩
  obtain ⟨ks, ls, w, a1, a2, a3, a4, a5, _⟩ := T.sound e he
  refine ⟨ks, ls, by rw [List.length_map] at w; exact w, ?_⟩
  unfold whole wholeOf
  rw [a1, a2, a3, a4, a5, pleft_port w.f1 w.n1, pleft_port w.f2 w.n2]
/-- truths of both lie below it -/
theorem max_upper {s t : Sk} {W : Int} (ok : SkOk s) (ok2 : SkOk t) (h : IsMax s t W) {T1 T2 : List (Str × Int)} (t1 : Tru s.kept s.off s.many T1) (t2 : Tru t.kept t.off t.many T2) : jn T1 T2 ≤ W := by
  obtain ⟨ns, a1, a2, a3, _⟩ := h
  obtain ⟨ks, ls, w, le⟩ := upper t1 t2 ok.ct.nd ok2.ct.nd (t1.sub ok.ct.pos) (t2.sub ok2.ct.pos) (por_ok ok) (por_ok ok2) (asc_nd a1) a2
  exact Int.le_trans le (a3 ks ls w)
/-- and above the sum of what is kept -/
theorem jn_lower {s t : Sk} (ok : SkOk s) (ok2 : SkOk t) {T1 T2 : List (Str × Int)} (t1 : Tru s.kept s.off s.many T1) (t2 : Tru t.kept t.off t.many T2) : jn s.kept t.kept ≤ jn T1 T2 := by
  have sub1 := t1.sub ok.ct.pos
  rw [← jn_over (N := nms T1) ok.ct.nd t1.nd sub1, ← jn_over (N := nms T1) t1.nd t1.nd fun _ h => h]
  refine sum_le fun n _ => ?_
  have l1 := t1.lo n
  have l2 := t2.lo n
  have p1 : 0 ≤ KM.cnt s.kept n := (cnt_b ok n).1
  have p2 : 0 ≤ KM.cnt t.kept n := (cnt_b ok2 n).1
  exact Int.mul_le_mul l1 l2 p2 (by omega)
/-! ### truths made -/
theorem made_nd {k ts : List (Str × Int)} {bs : List Str} {l z : Int} {ds fs : List (Str × Int)} (M : Made k ts bs l z ds fs) : (nms ds).Nodup := asc_nd M.asc
theorem made_tot {k ts : List (Str × Int)} {bs : List Str} {l z : Int} {ds fs : List (Str × Int)} (M : Made k ts bs l z ds fs) (nk : (nms k).Nodup) (nt : (nms ts).Nodup) : tot ds = tot k + tot ts + tot fs := by
  have hN : (dd (nms ds ++ (nms k ++ (nms ts ++ nms fs)))).Nodup := nd_dd
  rw [← tot_over (N := dd (nms ds ++ (nms k ++ (nms ts ++ nms fs)))) (made_nd M) hN (fun n h => mem_dd.mpr (by simp [h])),
    ← tot_over (T := k) (N := dd (nms ds ++ (nms k ++ (nms ts ++ nms fs)))) nk hN (fun n h => mem_dd.mpr (by simp [h])),
    ← tot_over (T := ts) (N := dd (nms ds ++ (nms k ++ (nms ts ++ nms fs)))) nt hN (fun n h => mem_dd.mpr (by simp [h])),
    ← tot_over (T := fs) (N := dd (nms ds ++ (nms k ++ (nms ts ++ nms fs)))) M.nf hN (fun n h => mem_dd.mpr (by simp [h])), ← sum_add, ← sum_add]
  exact sum_congr fun n _ => M.val n
theorem cnt_le {cs : List (Str × Int)} {b : Int} (h0 : 0 ≤ b) (h : ∀ p ∈ cs, p.2 ≤ b) (n : Str) (nd : (nms cs).Nodup) : KM.cnt cs n ≤ b := by
  by_cases m : n ∈ nms cs
  · obtain ⟨v, hv⟩ := nms_mem m
    rw [show n = (n, v).1 from rfl, cnt_mem nd hv]
    exact h _ hv
  · rw [cnt_no m]; exact h0
/-- what is made is a truth -/
theorem made_tru {s : Sk} {ts ds fs : List (Str × Int)} {bs : List Str} (ok : SkOk s) (M : Made s.kept ts bs (lost s - tot ts) s.off ds fs) (nt : (nms ts).Nodup) (ht : ∀ p ∈ ts, 0 ≤ p.2 ∧ p.2 ≤ s.off) : Tru s.kept s.off s.many ds := by
  have f0 : ∀ n, 0 ≤ KM.cnt fs n := fun n => cnt_nonneg (fun p hp => Int.le_of_lt (M.ff p hp).2.2.2.2.1) n
  have t0 : ∀ n, 0 ≤ KM.cnt ts n := fun n => cnt_nonneg (fun p hp => (ht p hp).1) n
  refine ⟨made_nd M, M.pos, fun n => ?_, fun n => ?_, ?_⟩
  · rw [M.val]
    have := f0 n
    have := t0 n
    omega
  · rw [M.val]
    have h1 := cnt_le ok.o0 (fun p hp => (ht p hp).2) n nt
    have h2 := cnt_le ok.o0 (fun p hp => (M.ff p hp).2.2.2.2.2) n M.nf
    by_cases m : n ∈ nms fs
    · obtain ⟨v, hv⟩ := nms_mem m
      have : KM.cnt ts n = 0 := cnt_no (M.ff _ hv).2.2.2.1
      omega
    · rw [cnt_no m]; omega
  · rw [made_tot M ok.ct.nd nt, M.tf]
    unfold lost
    omega
/-- two truths of which no more names stand in both than need be -/
theorem apart_jn {s t : Sk} {ds1 fs1 ds2 fs2 : List (Str × Int)} {bs : List Str} (ok : SkOk s) (ok2 : SkOk t) (hb : ∀ n, n ∈ bs ↔ n ∈ nms s.kept ∨ n ∈ nms t.kept)
    (M1 : Made s.kept [] bs (lost s - tot ([] : List (Str × Int))) s.off ds1 fs1) (M2 : Made t.kept [] (bs ++ nms ds1) (lost t - tot ([] : List (Str × Int))) t.off ds2 fs2) : jn ds1 ds2 = jn s.kept t.kept := by
  have hN : (dd (nms ds1 ++ nms s.kept)).Nodup := nd_dd
  rw [← jn_over (N := dd (nms ds1 ++ nms s.kept)) (made_nd M1) hN (fun n h => mem_dd.mpr (by simp [h])), ← jn_over (T := s.kept) (N := dd (nms ds1 ++ nms s.kept)) ok.ct.nd hN (fun n h => mem_dd.mpr (by simp [h]))]
  refine sum_congr fun n _ => ?_
  rw [M1.val, M2.val, KM.cnt_nil]
  by_cases m1 : n ∈ nms fs1
  · obtain ⟨v, hv⟩ := nms_mem m1
    have h1 := M1.ff _ hv
    have nb : n ∉ bs := h1.2.1
    have k1 : KM.cnt s.kept n = 0 := cnt_no fun z => nb ((hb n).mpr (.inl z))
    have k2 : KM.cnt t.kept n = 0 := cnt_no fun z => nb ((hb n).mpr (.inr z))
    have hv1 : KM.cnt fs1 n = v := cnt_mem (p := (n, v)) M1.nf hv
    have v0 : 0 < v := h1.2.2.2.2.1
    have inD : n ∈ nms ds1 := by
      refine mem_of_cnt ?_
      rw [M1.val, k1, KM.cnt_nil, hv1]; omega
    have k3 : KM.cnt fs2 n = 0 := by
      refine cnt_no fun z => ?_
      obtain ⟨u, hu⟩ := nms_mem z
      exact (M2.ff _ hu).2.1 (List.mem_append_right _ inD)
    rw [k1, k2, k3]; simp
  · rw [cnt_no m1]
    by_cases m2 : n ∈ nms fs2
    · obtain ⟨u, hu⟩ := nms_mem m2
      have nb : n ∉ bs := fun z => (M2.ff _ hu).2.1 (List.mem_append_left _ z)
      have k1 : KM.cnt s.kept n = 0 := cnt_no fun z => nb ((hb n).mpr (.inl z))
      rw [k1]; simp
    · rw [cnt_no m2]; simp
/-! ### the greatest -/
theorem zip_nms {ns : List Str} {vs : List Int} (h : ns.length ≤ vs.length) : nms (ns.zip vs) = ns := List.map_fst_zip h
theorem map_cnt_zip0 : ∀ {ns : List Str} {vs : List Int}, ns.Nodup → vs.length ≤ ns.length → ns.map (KM.cnt (ns.zip vs)) = vs ++ List.replicate (ns.length - vs.length) 0
  | [], [], _, _ => rfl
  | [], _ :: _, _, h => by simp at h
  | n :: ns, [], nd, h => by
    rw [List.zip_nil_right, List.nil_append, List.length_nil, Nat.sub_zero]
    exact List.eq_replicate_iff.mpr ⟨by rw [List.length_map], fun b hb => by obtain ⟨m, _, rfl⟩ := List.mem_map.mp hb; rfl⟩
  | n :: ns, v :: vs, nd, h => by
    obtain ⟨n1, n2⟩ := List.nodup_cons.mp nd
    have ih := map_cnt_zip0 (vs := vs) n2 (by simpa using h)
    rw [List.zip_cons_cons, List.map_cons, KM.cnt_cons, if_pos rfl, List.cons_append, List.length_cons, List.length_cons, Nat.add_sub_add_right]
    congr 1
    rw [← ih]
    refine List.map_congr_left fun m hm => ?_
    rw [KM.cnt_cons, if_neg (fun z : n = m => n1 (by rw [z]; exact hm))]
theorem map_cnt_zip {ns : List Str} {vs : List Int} (nd : ns.Nodup) (h : ns.length = vs.length) : ns.map (KM.cnt (ns.zip vs)) = vs := by
  rw [map_cnt_zip0 nd (by omega), h, Nat.sub_self]
  simp
theorem tot_zip {ns : List Str} {vs : List Int} (h : vs.length ≤ ns.length) : tot (ns.zip vs) = vs.sum := by
  unfold tot
  rw [List.map_snd_zip h]
theorem sum_rev (l : List Int) : l.reverse.sum = l.sum := by
  induction l with
  | nil => rfl
  | cons x r ih =>
    rw [List.reverse_cons, sum_app, ih, List.sum_cons, List.sum_cons, List.sum_nil]
    omega
theorem sum_rep (n : Nat) (x : Int) : (List.replicate n x).sum = n * x := by
  induction n with
  | zero => simp
  | succ n ih =>
    rw [List.replicate_succ, List.sum_cons, ih, Int.natCast_succ, Int.add_mul]
    omega
theorem pleft_sum {o G R : Int} {ks : List Kd} (r0 : 0 ≤ R) (h1 : (nF ks : Int) ≤ G) (h2 : nR ks ≤ rN R) : (pleft o G R (nF ks) (nR ks)).sum = o * (G - nF ks) + R * (1 - nR ks) := by
  unfold pleft rN at *
  rw [sum_app, sum_rep, Int.toNat_of_nonneg (by omega), Int.mul_comm]
  by_cases h : 0 < R
  · rw [if_pos h] at h2
    by_cases q : nR ks = 0
    · rw [if_pos ⟨by omega, h⟩, q]
      show _ + (R + 0) = _
      simp
    · have : nR ks = 1 := by omega
      rw [if_neg (fun z => q (by omega)), this]
      simp
  · have : R = 0 := by omega
    rw [if_neg (fun z => h z.2), this]
    simp
theorem zip_nd : ∀ {ns : List Str} {vs : List Int}, ns.Nodup → (nms (ns.zip vs)).Nodup
  | [], _, _ => List.nodup_nil
  | _ :: _, [], _ => List.nodup_nil
  | n :: ns, v :: vs, nd => by
    obtain ⟨n1, n2⟩ := List.nodup_cons.mp nd
    refine List.nodup_cons.mpr ⟨fun h => n1 ?_, zip_nd n2⟩
    obtain ⟨u, hu⟩ := nms_mem h
    exact (List.of_mem_zip hu).1
/-- what one sketch takes on a way -/
structure Takes (o G R : Int) (ns fresh : List Str) (ks : List Kd) (ts : List (Str × Int)) : Prop where
  nd : (nms ts).Nodup
  sub : ∀ n ∈ nms ts, n ∈ ns ∨ n ∈ fresh
  val : ∀ p ∈ ts, 0 ≤ p.2 ∧ p.2 ≤ o
  tot : KM.tot ts = o * G + R
  on : ns.map (KM.cnt ts) = ks.map (Kd.val o R)
  fr : fresh.map (KM.cnt ts) = pleft o G R (nF ks) (nR ks) ++ List.replicate (fresh.length - (pleft o G R (nF ks) (nR ks)).length) 0
theorem takes_of {o G R l : Int} {ns fresh : List Str} {ks : List Kd} (P : Por o G R l) (nn : ns.Nodup) (nf : fresh.Nodup) (ap : ∀ n ∈ fresh, n ∉ ns) (lk : ks.length = ns.length) (h1 : (nF ks : Int) ≤ G) (h2 : nR ks ≤ rN R) (hl : (pleft o G R (nF ks) (nR ks)).length ≤ fresh.length) :
    Takes o G R ns fresh ks (ns.reverse.zip ((ks.map (Kd.val o R)).reverse) ++ fresh.zip (pleft o G R (nF ks) (nR ks))) := by
  have o0 : 0 ≤ o ∧ R ≤ o := by
    have := P.r0
    rcases P.ro with h | ⟨h, _, h'⟩ <;> omega
  have r0 := P.r0
  have lr : ns.reverse.length = ((ks.map (Kd.val o R)).reverse).length := by rw [List.length_reverse, List.length_reverse, List.length_map, lk]
  have e1 : nms (ns.reverse.zip ((ks.map (Kd.val o R)).reverse)) = ns.reverse := zip_nms (by omega)
  have e2 : ∀ n ∈ nms (fresh.zip (pleft o G R (nF ks) (nR ks))), n ∈ fresh := fun n h => by
    obtain ⟨v, hv⟩ := nms_mem h
    exact (List.of_mem_zip hv).1
  have nd2 : (nms (fresh.zip (pleft o G R (nF ks) (nR ks)))).Nodup := zip_nd nf
  have vb : ∀ k : Kd, 0 ≤ k.val o R ∧ k.val o R ≤ o := fun k => by
    cases k
    · show 0 ≤ (0 : Int) ∧ (0 : Int) ≤ o; omega
    · show 0 ≤ o ∧ o ≤ o; omega
    · show 0 ≤ R ∧ R ≤ o; omega
  refine ⟨?_, fun n h => ?_, fun p hp => ?_, ?_, ?_, ?_⟩
  · rw [nms_app, e1, List.nodup_append]
    refine ⟨(List.reverse_perm ns).nodup_iff.mpr nn, nd2, fun a ha b hb e => ap b (e2 b hb) ?_⟩
    rw [← e]; exact List.mem_reverse.mp ha
  · rw [nms_app, e1] at h
    rcases List.mem_append.mp h with h | h
    · exact .inl (List.mem_reverse.mp h)
    · exact .inr (e2 n h)
  · rcases List.mem_append.mp hp with h | h
    · have := (List.of_mem_zip h).2
      obtain ⟨k, _, e⟩ := List.mem_map.mp (List.mem_reverse.mp this)
      rw [← e]; exact vb k
    · have := (List.of_mem_zip h).2
      unfold pleft at this
      rcases List.mem_append.mp this with h | h
      · rw [(List.mem_replicate.mp h).2]; omega
      · split at h
        · rw [List.mem_singleton.mp h]; omega
        · cases h
  · rw [tot_app, tot_zip (by omega), tot_zip hl, sum_rev, pleft_sum r0 h1 h2]
    have := vsum_eq (off := o) (rest := R) ks
    unfold vsum at this
    rw [this, Int.mul_sub, Int.mul_sub]
    omega
  · have h := map_cnt_zip (ns := ns.reverse) (vs := (ks.map (Kd.val o R)).reverse) ((List.reverse_perm ns).nodup_iff.mpr nn) lr
    have h2' : (ns.reverse.map (KM.cnt (ns.reverse.zip ((ks.map (Kd.val o R)).reverse) ++ fresh.zip (pleft o G R (nF ks) (nR ks))))) = (ks.map (Kd.val o R)).reverse := by
      refine (List.map_congr_left fun n hn => ?_).trans h
      rw [cnt_app, e1, if_pos hn]
    rw [List.map_reverse] at h2'
    exact List.reverse_inj.mp h2'
  · refine (List.map_congr_left fun n hn => ?_).trans (map_cnt_zip0 nf hl)
    rw [cnt_app, e1, if_neg (fun z => ap n hn (List.mem_reverse.mp z))]
/-- the sum of products of the truths made on a way -/
theorem great_jn {s t : Sk} {ns fresh : List Str} {ks ls : List Kd} {ts1 ts2 ds1 fs1 ds2 fs2 : List (Str × Int)} {bs1 bs2 : List Str} (ok : SkOk s) (ok2 : SkOk t) (nn : ns.Nodup) (nf : fresh.Nodup) (ap : ∀ n ∈ fresh, n ∉ ns)
    (hn : ∀ n, n ∈ ns ↔ n ∈ nms s.kept ∨ n ∈ nms t.kept) (w : Way (fullOf s) (restOf s) (fullOf t) (restOf t) ns.length ks ls) (T1 : Takes s.off (fullOf s) (restOf s) ns fresh ks ts1) (T2 : Takes t.off (fullOf t) (restOf t) ns fresh ls ts2)
    (M1 : Made s.kept ts1 bs1 (lost s - tot ts1) s.off ds1 fs1) (M2 : Made t.kept ts2 bs2 (lost t - tot ts2) t.off ds2 fs2) :
    jn ds1 ds2 = psum s.off (restOf s) t.off (restOf t) (ns.map (KM.cnt s.kept)) (ns.map (KM.cnt t.kept)) ks ls + zs (pleft s.off (fullOf s) (restOf s) (nF ks) (nR ks)) (pleft t.off (fullOf t) (restOf t) (nF ls) (nR ls)) := by
  have z1 : fs1 = [] := by
    have := M1.tf
    rw [T1.tot, (por_ok ok).eq] at this
    cases hf : fs1 with
    | nil => rfl
    | cons p r =>
      rw [hf] at this
      have p0 := (M1.ff p (by rw [hf]; exact List.mem_cons_self)).2.2.2.2.1
      have r0 := tot_nonneg (cs := r) fun q hq => Int.le_of_lt (M1.ff q (by rw [hf]; exact List.mem_cons_of_mem _ hq)).2.2.2.2.1
      rw [tot_cons] at this
      omega
  have z2 : fs2 = [] := by
    have := M2.tf
    rw [T2.tot, (por_ok ok2).eq] at this
    cases hf : fs2 with
    | nil => rfl
    | cons p r =>
      rw [hf] at this
      have p0 := (M2.ff p (by rw [hf]; exact List.mem_cons_self)).2.2.2.2.1
      have r0 := tot_nonneg (cs := r) fun q hq => Int.le_of_lt (M2.ff q (by rw [hf]; exact List.mem_cons_of_mem _ hq)).2.2.2.2.1
      rw [tot_cons] at this
      omega
  have v1 : ∀ n, KM.cnt ds1 n = KM.cnt s.kept n + KM.cnt ts1 n := fun n => by rw [M1.val, z1, KM.cnt_nil]; omega
  have v2 : ∀ n, KM.cnt ds2 n = KM.cnt t.kept n + KM.cnt ts2 n := fun n => by rw [M2.val, z2, KM.cnt_nil]; omega
  have nN : (ns ++ fresh).Nodup := List.nodup_append.mpr ⟨nn, nf, fun a ha b hb e => ap b hb (by rw [← e]; exact ha)⟩
  have sub1 : ∀ n ∈ nms ds1, n ∈ ns ++ fresh := fun n h => by
    have p := cnt_pos M1.pos h
    rw [v1] at p
    by_cases m : n ∈ nms s.kept
    · exact List.mem_append_left _ ((hn n).mpr (.inl m))
    · rw [cnt_no m] at p
      rcases T1.sub n (mem_of_cnt (by omega)) with h | h
      · exact List.mem_append_left _ h
      · exact List.mem_append_right _ h
  have k1 : ∀ n ∈ fresh, KM.cnt s.kept n = 0 := fun n h => cnt_no fun z => ap n h ((hn n).mpr (.inl z))
  have k2 : ∀ n ∈ fresh, KM.cnt t.kept n = 0 := fun n h => cnt_no fun z => ap n h ((hn n).mpr (.inr z))
  rw [← jn_over (made_nd M1) nN sub1, ← zs_map, List.map_append, List.map_append, zs_app (by rw [List.length_map, List.length_map])]
  congr 1
  · unfold psum
    rw [← T1.on, ← T2.on, pl_map, pl_map]
    congr 1
    · exact List.map_congr_left fun n _ => v1 n
    · exact List.map_congr_left fun n _ => v2 n
  · have a1 : fresh.map (KM.cnt ds1) = fresh.map (KM.cnt ts1) := List.map_congr_left fun n h => by rw [v1, k1 n h]; omega
    have a2 : fresh.map (KM.cnt ds2) = fresh.map (KM.cnt ts2) := List.map_congr_left fun n h => by rw [v2, k2 n h]; omega
    rw [a1, a2, T1.fr, T2.fr, zs_zeros]
end Kn
set_option Elab.async false
set_option linter.all false
set_option maxRecDepth 100000
set_option maxHeartbeats 4000000
set_option pp.maxSteps 300
/-! join, join_truths. -/
namespace Kn
open PySem PySem.Spec PyProof.Rows L2 KM
/-- t + u, whichever tuple it gives -/
def rCatS (K : PySem.W.Frag) : R2 := fun x y H Q => ∃ a b xs ys, x = .ref a ∧ y = .ref b ∧ SqT K H a xs ∧ SqT K H b ys ∧ xs.length + ys.length ≤ sizeLine ∧ ∀ H' p, Same H H' → SqT K H' p (xs ++ ys) → Q (.ref p) H'
theorem op_catS {X : Cx} : OpR X (binaryOp .Add) (rCatS X.K) := by
  intro pins s σ H x y v u Q I rx ry h
  obtain ⟨a, b, xs, ys, rfl, rfl, ha, hb, hz, q⟩ := h
  refine op_catA pins s σ H _ _ v u Q I rx ry ⟨a, b, xs, ys, rfl, rfl, ha, hb, hz, fun e => q H b (Same.refl _) (by rw [e]; exact hb), fun _ e => q H a (Same.refl _) (by rw [e, List.append_nil]; exact ha), fun _ _ p hp => q _ p (sn hp) (SqT.of upd_same)⟩
section
variable {P : Program} {w : World} {K : PySem.W.Frag} {mg : Str → Option Value} {base : Heap} {CP CF : Addr}
def spJoin : Sp := fun vs H Q _ => ∃ (v u : V) (s t : Sk), vs = [v, u] ∧ SkAt H v s ∧ SkAt H u t ∧ SkOk s ∧ SkOk t ∧ s.room = t.room ∧ ∀ H' p W, Same H H' → H' p = some (.tup [.int (jn s.kept t.kept), .int W]) → IsMax s t W → Q (.ref p) H'
theorem c_join (T : Txt K mg CP CF) : C8.Cal P w K mg base 6 "join" spJoin [] := by
  refine mkc (N := ["one", "other"]) T.d_join (by decide +kernel) (fun vs H Q E h => ?_) (fun f cdv A outer s H vs Q E hr h => ?_)
  · obtain ⟨v, u, sk, tk, rfl, _⟩ := h; rfl
  · obtain ⟨v, u, sk, tk, rfl, hS, hT, ok, ok2, er, q⟩ := h
    refine ⟨_, pss_cons (ps_expr (C8.pe_c (c_check_both T) hr (by decide) (by rfl) (pa_cons (pv 0) (pa_cons (pv 1) pa_nil))))
      (pss_one (ps_ret (pe_tup (pa_cons (C8.pe_c (c_plain_sum T) hr (by decide) (by rfl) (pa_cons (pv 0) (pa_cons (pv 1) pa_nil)))
        (pa_cons (pe_ix ix_tup (pe_fld (C8.pe_mk (c_Filling T) hr (by decide) (by rfl) (pa_cons (pv 0) (pa_cons (pv 1) pa_nil))) (by rfl)) pe_int (fun _ _ => rfl)) pa_nil))))), ?_⟩
    refine ⟨_, rfl, _, rfl, _, _, sk, tk, rfl, hS, hT, ok, ok2, er, fun H1 s1 => ?_⟩
    refine ⟨_, rfl, _, rfl, _, _, sk, tk, rfl, hS.mono (tx s1), hT.mono (tx s1), ok, ok2, fun H2 s2 => ?_⟩
    have s3 := s1.trans s2
    refine ⟨_, rfl, _, rfl, fun x dx hx hdx ne => ?_⟩
    have sA : Same H2 (upd (upd H2 dx (.own x)) x (.ins CF dx [])) := sm (sn hdx) hx
    have s4 := s3.trans sA
    refine ⟨x, dx, _, _, sk, tk, rfl, upd_same, hS.mono (tx s4), hT.mono (tx s4), ok, ok2, fun H3 p1 p2 nl b dv e ns L xb hx3 _ _ _ h1 h2 _ tab he hm hd => ⟨rfl, ?_⟩⟩
    have s5 : Same H2 H3 := fun a o h => xb a o (ne_of_none h hx) (sA a o h)
    obtain ⟨a, q0, u0, rfl, ha, _, _⟩ := hd
    refine ⟨x, CF, dx, _, _, rfl, hx3, T.cl_Filling, T.n_Filling_done, rfl, a, _, 0, _, rfl, rfl, SqT.of ha, rfl, (by show 2 ≤ sizeLine; decide), fun p hp => ?_⟩
    exact q _ p _ ((s3.trans s5).trans (sn hp)) upd_same (max_tab ok ok2 h1 h2 tab he hm)
def spApart : Sp := fun vs H Q _ => ∃ (v u : V) (s t : Sk), vs = [v, u] ∧ SkAt H v s ∧ SkAt H u t ∧ SkOk s ∧ SkOk t ∧ ∀ H' p r1 r2 ds1 ds2, Same H H' → H' p = some (.tup [r1, r2]) → CtsAt H' r1 ds1 → CtsAt H' r2 ds2 →
  CtOk ds1 → CtOk ds2 → ds1.length ≤ 100 → ds2.length ≤ 100 → Tru s.kept s.off s.many ds1 → Tru t.kept t.off t.many ds2 → jn ds1 ds2 = jn s.kept t.kept → Q (.ref p) H'
theorem lost_pos {s : Sk} (ok : SkOk s) : (0 : Int) < lost s → 0 < s.off ∧ s.off < 1000000 ∧ lost s ≤ 40 * s.off := fun h => by
  obtain ⟨l0, l1, l2⟩ := lost_b ok
  have o0 := ok.o0
  have := off_le ok
  omega
theorem c_apart (T : Txt K mg CP CF) : C8.Cal P w K mg base 4 "apart_truths" spApart [] := by
  refine mkc (N := ["one", "other", "barred", "first", "name", "number"]) T.d_apart_truths (by decide +kernel) (fun vs H Q E h => ?_) (fun f cdv A outer s H vs Q E hr h => ?_)
  · obtain ⟨v, u, sk, tk, rfl, _⟩ := h; rfl
  · obtain ⟨v, u, sk, tk, rfl, hS, hT, ok, ok2, q⟩ := h
    have nd : (["one", "other", "barred", "first", "name", "number"] : List Str).Nodup := by decide +kernel
    refine ⟨_, pss_cons (ps_setLc (i := 2) (own := [("name", 4), ("number", 5)]) (g := gTup K 2 (gCons (gName 4) (gCons (gName 5) gNil))) (by rfl) nd rfl rfl (by rfl)
          (pi_tup (pe_op op_catS (pe_ix ix_tup (pv 0) (C8.pe_gc (by rfl) T.k_KEPT) (fun _ _ => rfl)) (pe_ix ix_tup (pv 1) (C8.pe_gc (by rfl) T.k_KEPT) (fun _ _ => rfl))))
          (blkOk_by (own := [("name", 4), ("number", 5)]) (N := ["one", "other", "barred", "first", "name", "number"]) (sc := C8.fnScope (topS 45)) (by decide +kernel))
          (fun _ _ _ _ _ => pg_tup rfl (pgs_cons (pg_name (i := 4) nd rfl (Or.inl rfl)) (pgs_cons (pg_name (i := 5) nd rfl (Or.inl rfl)) pgs_nil))) (fun _ _ _ _ _ => pts_nil) (fun _ _ _ _ _ => pv 4))
      (pss_cons (ps_set (i := 3) nd rfl (Or.inl rfl) (C8.pe_c (c_truth_with T) hr (by decide) (by rfl) (pa_cons (pv 0) (pa_cons (pe_lst pa_nil) (pa_cons (pe_ix ix_tup (pv 0) (C8.pe_gc (by rfl) T.k_OFF) (fun _ _ => rfl)) (pa_cons (pv 2) pa_nil))))))
      (pss_one (ps_ret (pe_tup (pa_cons (pv 3) (pa_cons (C8.pe_c (c_truth_with T) hr (by decide) (by rfl) (pa_cons (pv 1) (pa_cons (pe_lst pa_nil) (pa_cons (pe_ix ix_tup (pv 1) (C8.pe_gc (by rfl) T.k_OFF) (fun _ _ => rfl))
        (pa_cons (pe_op op_cat (pv 2) (pe_lc (own := [("name", 4), ("number", 5)]) (g := gTup K 2 (gCons (gName 4) (gCons (gName 5) gNil))) (by rfl) nd (pi_tup (pv 3))
          (blkOk_by (own := [("name", 4), ("number", 5)]) (N := ["one", "other", "barred", "first", "name", "number"]) (sc := C8.fnScope (topS 45)) (by decide +kernel))
          (fun _ _ _ _ _ => pg_tup rfl (pgs_cons (pg_name (i := 4) nd rfl (Or.inl rfl)) (pgs_cons (pg_name (i := 5) nd rfl (Or.inl rfl)) pgs_nil))) (fun _ _ _ _ _ => pts_nil) (fun _ _ _ _ _ => pv 4))) pa_nil))))) pa_nil)))))), ?_⟩
    obtain ⟨a1, w1, rfl, ha1, kb1, ks1, rfl, hk1, pk1⟩ := id hS
    obtain ⟨a2, w2, rfl, ha2, kb2, ks2, rfl, hk2, pk2⟩ := id hT
    have l1 := len_le ok
    have l2 := len_le ok2
    refine ⟨_, rfl, a1, _, 3, _, rfl, rfl, SqT.of ha1, rfl, _, rfl, a2, _, 3, _, rfl, rfl, SqT.of ha2, rfl, kb1, kb2, ks1, ks2, rfl, rfl, hk1.sq, hk2.sq, sz (by rw [pk1.length, pk2.length]; omega), fun H1 pt s1 hpt => ?_⟩
    have pp := papp (pk1.mono fun _ _ z => (z.mono (tx s1) : PairAt H1 _ _)) (pk2.mono fun _ _ z => (z.mono (tx s1) : PairAt H1 _ _))
    refine ⟨pt, rfl, ⟨_, hpt⟩, fun D hD => ?_⟩
    refine lc_all (walk_tup (K := K) (a := pt) (xs := ks1 ++ ks2)) (bs := sk.kept ++ tk.kept) pp.length.symm (by rw [pp.length, List.length_append]; omega) hD (fun p => p.1) (fun _ v c => v = V.str c) (fun _ h => h) (fun H3 s3 => sqtS hpt s3) (fun i p x H3 H4 e s3 y Ny k => ?_) mg_pair (fun H3 ys s3 hy pr2 => ?_)
    · obtain ⟨rfl, hx⟩ := y
      obtain ⟨p', hp, b', rfl, hb'⟩ := pgetL pp hx
      have ep : p' = p := Option.some.inj (hp.symm.trans e)
      subst ep
      exact ⟨b', _, rfl, SqT.of (s3 _ _ hb'), rfl, _, _, rfl, _, _, rfl, rfl, rfl, _, rfl, k _ _ (Same.refl _) rfl⟩
    have ey := peq pr2
    have s4 := s1.trans s3
    have en : (sk.kept ++ tk.kept).map (fun p => p.1) = nms sk.kept ++ nms tk.kept := nms_app _ _
    rw [en] at ey
    subst ey
    have lnm : ∀ l : List (Str × Int), (nms l).length = l.length := fun l => by unfold nms; rw [List.length_map]
    -- the first truth
    refine ⟨_, rfl, Nat.zero_le _, fun l hl => ?_⟩
    have s5 := s4.trans (sn hl (o := .lst []))
    refine ⟨_, rfl, a1, _, 2, _, rfl, rfl, SqT.of (s5 _ _ ha1), rfl, _, rfl, _, _, sk.off, l, sk, [], [], nms sk.kept ++ nms tk.kept, rfl, hS.mono (tx s5), ok.ct, by omega, upd_same, .nil, List.nodup_nil, Nat.zero_le _, (fun p hp => nomatch hp), ⟨D, rfl, .inl (SqL.of (sn hl _ _ hy))⟩, by rw [List.length_append, lnm, lnm]; omega, by rw [tot_nil]; exact (lost_b ok).1,
      (fun h => by rw [tot_nil] at h ⊢; have := lost_pos ok h; omega), fun H5 r1 ds1 fs1 s6 hr1 M1 => ?_⟩
    have s7 := s5.trans s6
    have hy5 := s6 _ _ (sn hl _ _ hy)
    obtain ⟨f1, us1, rfl, hf1, pf1⟩ := id hr1
    have ld1 : ds1.length ≤ 56 := by
      have e1 := M1.len
      have e2 := M1.fl
      rw [List.length_nil] at e1
      omega
    -- the second
    refine ⟨_, rfl, _, rfl, Nat.zero_le _, fun l' hl' => ?_⟩
    have s8 := s7.trans (sn hl' (o := .lst []))
    have s8' := sn hl' (o := .lst [])
    refine ⟨_, rfl, a2, _, 2, _, rfl, rfl, SqT.of (s8 _ _ ha2), rfl, _, rfl, _, rfl, f1, rfl, ⟨_, (hf1.st s8').sq⟩, fun D2 hD2 => ?_⟩
    refine lc_all (walk_tup (K := K) (a := f1) (xs := us1)) (bs := ds1) pf1.length.symm (by rw [pf1.length]; omega) hD2 (fun p => p.1) (fun _ v c => v = V.str c) (fun _ h => h) (fun H3 s3 => ((hf1.st s8').st s3).sq) (fun i p x H3 H4 e s3 y Ny k => ?_) mg_pair (fun H6 ys2 s9 hy2 pr3 => ?_)
    · obtain ⟨rfl, hx⟩ := y
      obtain ⟨p', hp, b', rfl, hb'⟩ := pgetL pf1 hx
      have ep : p' = p := Option.some.inj (hp.symm.trans e)
      subst ep
      exact ⟨b', _, rfl, SqT.of (s3 _ _ (s8' _ _ hb')), rfl, _, _, rfl, _, _, rfl, rfl, rfl, _, rfl, k _ _ (Same.refl _) rfl⟩
    have ey2 := peq pr3
    have en2 : ds1.map (fun p => p.1) = nms ds1 := rfl
    rw [en2] at ey2
    subst ey2
    have hyD := s9 _ _ (s8' _ _ hy5)
    have s10 := s8.trans s9
    have neD : D ≠ D2 := fun z => by rw [← z, s8' _ _ hy5] at hD2; cases hD2
    refine ⟨D, D2, _, _, rfl, rfl, hyD, hy2, by rw [List.length_map, List.length_map, List.length_append, lnm, lnm, lnm]; exact sz (by omega), fun D3 hD3 => ?_⟩
    have s11 := s10.trans (sn hD3 (o := .lst ((nms sk.kept ++ nms tk.kept).map V.str ++ (nms ds1).map V.str)))
    have hl6 := sn hD3 (o := .lst ((nms sk.kept ++ nms tk.kept).map V.str ++ (nms ds1).map V.str)) _ _ (s9 _ _ (upd_same (H := H5) (a := l') (o := .lst [])))
    refine ⟨_, _, tk.off, l', tk, [], [], (nms sk.kept ++ nms tk.kept) ++ nms ds1, rfl, hT.mono (tx s11), ok2.ct, by omega, hl6, .nil, List.nodup_nil, Nat.zero_le _, (fun p hp => nomatch hp), ⟨D3, rfl, .inl (SqL.of (by rw [upd_same, List.map_append (l₁ := nms sk.kept ++ nms tk.kept)]))⟩, by rw [List.length_append, List.length_append, lnm, lnm, lnm]; omega, by rw [tot_nil]; exact (lost_b ok2).1,
      (fun h => by rw [tot_nil] at h ⊢; have := lost_pos ok2 h; omega), fun H7 r2 ds2 fs2 s12 hr2 M2 => ?_⟩
    have ld2 : ds2.length ≤ 56 := by
      have e1 := M2.len
      have e2 := M2.fl
      rw [List.length_nil] at e1
      omega
    refine ⟨(by show 2 ≤ sizeLine; decide), fun p hp => ?_⟩
    have s13 := sn hp (o := .tup [.ref f1, r2])
    have xt1 : ExT H5 (upd H7 p (.tup [.ref f1, r2])) := tx ((((s8'.trans s9).trans (sn hD3)).trans s12).trans s13)
    exact q _ p _ _ ds1 ds2 ((s11.trans s12).trans s13) upd_same (hr1.mono xt1) (hr2.mono (tx s13)) ⟨M1.asc, M1.pos, M1.nm⟩ ⟨M2.asc, M2.pos, M2.nm⟩ (by omega) (by omega)
      (made_tru ok M1 List.nodup_nil fun p hp => nomatch hp) (made_tru ok2 M2 List.nodup_nil fun p hp => nomatch hp) (apart_jn ok ok2 (fun n => List.mem_append) M1 M2)
def spJT : Sp := fun vs H Q _ => ∃ (v u : V) (s t : Sk), vs = [v, u] ∧ SkAt H v s ∧ SkAt H u t ∧ SkOk s ∧ SkOk t ∧ s.room = t.room ∧ ∀ H' p a b r1 r2 r3 r4 ds1 ds2 ds3 ds4 W, Same H H' → H' p = some (.tup [.ref a, .ref b]) → H' a = some (.tup [r1, r2]) → H' b = some (.tup [r3, r4]) → CtsAt H' r1 ds1 → CtsAt H' r2 ds2 → CtsAt H' r3 ds3 → CtsAt H' r4 ds4 →
  CtOk ds1 → CtOk ds2 → CtOk ds3 → CtOk ds4 → ds1.length ≤ 200 → ds2.length ≤ 200 → ds3.length ≤ 200 → ds4.length ≤ 200 → Tru s.kept s.off s.many ds1 → Tru t.kept t.off t.many ds2 → Tru s.kept s.off s.many ds3 → Tru t.kept t.off t.many ds4 → jn ds1 ds2 = jn s.kept t.kept → jn ds3 ds4 = W → IsMax s t W → Q (.ref p) H'
theorem c_join_truths (T : Txt K mg CP CF) : C8.Cal P w K mg base 7 "join_truths" spJT [] := by
  refine mkc (N := ["one", "other", "takes", "greatest"]) T.d_join_truths (by decide +kernel) (fun vs H Q E h => ?_) (fun f cdv A outer s H vs Q E hr h => ?_)
  · obtain ⟨v, u, sk, tk, rfl, _⟩ := h; rfl
  · obtain ⟨v, u, sk, tk, rfl, hS, hT, ok, ok2, er, q⟩ := h
    have nd : (["one", "other", "takes", "greatest"] : List Str).Nodup := by decide +kernel
    refine ⟨_, pss_cons (ps_expr (C8.pe_c (c_check_both_told T) hr (by decide) (by rfl) (pa_cons (pv 0) (pa_cons (pv 1) pa_nil))))
      (pss_cons (ps_set (i := 2) nd rfl (Or.inl rfl) (C8.pe_mt0 (c_takes T) hr (by decide) (C8.pe_mk (c_Filling T) hr (by decide) (by rfl) (pa_cons (pv 0) (pa_cons (pv 1) pa_nil)))))
      (pss_cons (ps_set (i := 3) nd rfl (Or.inl rfl) (pe_tup (pa_cons (C8.pe_c (c_truth_with T) hr (by decide) (by rfl) (pa_cons (pv 0) (pa_cons (pe_ix ix_list (pv 2) pe_int (fun _ _ => rfl)) (pa_cons (pe_ix ix_tup (pv 0) (C8.pe_gc (by rfl) T.k_OFF) (fun _ _ => rfl)) (pa_cons (pe_tup pa_nil) pa_nil)))))
          (pa_cons (C8.pe_c (c_truth_with T) hr (by decide) (by rfl) (pa_cons (pv 1) (pa_cons (pe_ix ix_list (pv 2) pe_int (fun _ _ => rfl)) (pa_cons (pe_ix ix_tup (pv 1) (C8.pe_gc (by rfl) T.k_OFF) (fun _ _ => rfl)) (pa_cons (pe_tup pa_nil) pa_nil))))) pa_nil))))
      (pss_one (ps_ret (pe_tup (pa_cons (C8.pe_c (c_apart T) hr (by decide) (by rfl) (pa_cons (pv 0) (pa_cons (pv 1) pa_nil))) (pa_cons (pv 3) pa_nil))))))), ?_⟩
    obtain ⟨a1, w1, rfl, ha1, _⟩ := id hS
    obtain ⟨a2, w2, rfl, ha2, _⟩ := id hT
    have g1 := full_le ok
    have g2 := full_le ok2
    have lk1 := len_le ok
    have lk2 := len_le ok2
    refine ⟨_, rfl, _, rfl, _, _, sk, tk, rfl, hS, hT, ok, ok2, er, fun H1 s1 => ?_⟩
    refine ⟨_, rfl, _, rfl, fun x dx hx hdx ne => ?_⟩
    have sA : Same H1 (upd (upd H1 dx (.own x)) x (.ins CF dx [])) := sm (sn hdx) hx
    have sA' := s1.trans sA
    refine ⟨x, dx, _, _, sk, tk, rfl, upd_same, hS.mono (tx sA'), hT.mono (tx sA'), ok, ok2, fun H3 p1 p2 nl b dv e ns L xb hx3 hP1 hP2 hnl h1 h2 hl tab he hm hd => ⟨rfl, ?_⟩⟩
    have s3 : Same H H3 := fun a o h => xb a o (ne_of_none (s1 _ _ h) hx) (sA' a o h)
    have IM := max_tab ok ok2 h1 h2 tab he hm
    obtain ⟨ks, ls, wy, b1, b2, b3, b4, b5, b6⟩ := tab.sound e he
    rw [List.length_map] at wy
    have nn := asc_nd h1
    have lw : e.ws.length = ns.length := by rw [b6, List.length_reverse, List.length_zip, List.length_map, List.length_map, wy.lk, wy.ll]; omega
    refine ⟨x, dx, _, rfl, hx3, rfl, x, dx, p1, p2, nl, b, dv, _, _, _, _, _, _, _, e, ns, rfl, hx3, hP1, hP2, hnl, by omega, hd, tab_box tab e he, lw, bd_of ok ok2 (by omega) (by omega), fun H4 r r0 r1 xs0 xs1 fresh s4 hr hr0 hr1 pa0 pa1 nf fok lp1 lp2 lfr => ?_⟩
    have e1 : e.ws.map (·.1) = (ks.map (Kd.val sk.off (restOf sk))).reverse := by
      rw [b6, List.map_reverse, List.map_fst_zip (by rw [List.length_map, List.length_map, wy.lk, wy.ll]; exact Nat.le_refl _)]
    have e2 : e.ws.map (·.2) = (ls.map (Kd.val tk.off (restOf tk))).reverse := by
      rw [b6, List.map_reverse, List.map_snd_zip (by rw [List.length_map, List.length_map, wy.lk, wy.ll]; exact Nat.le_refl _)]
    rw [e1, b1, b2] at pa0
    rw [e2, b3, b4] at pa1
    rw [b1, b2] at lp1
    rw [b3, b4] at lp2
    have T1 := takes_of (por_ok ok) nn nf (fun n h => (fok n h).2) wy.lk wy.f1 wy.n1 lp1
    have T2 := takes_of (por_ok ok2) nn nf (fun n h => (fok n h).2) wy.ll wy.f2 wy.n2 lp2
    have nmok : ∀ n, n ∈ ns ∨ n ∈ fresh → NmOk n := fun n h => by
      rcases h with h | h
      · rcases (h2 n).mp h with h | h
        · obtain ⟨v, hv⟩ := nms_mem h
          exact ok.ct.nm _ hv
        · obtain ⟨v, hv⟩ := nms_mem h
          exact ok2.ct.nm _ hv
      · exact (fok n h).1
    have lt1 : (ns.reverse.zip ((ks.map (Kd.val sk.off (restOf sk))).reverse) ++ fresh.zip (pleft sk.off (fullOf sk) (restOf sk) (nF ks) (nR ks))).length ≤ 65 := by
      rw [List.length_append, List.length_zip, List.length_zip, List.length_reverse]; omega
    have lt2 : (ns.reverse.zip ((ls.map (Kd.val tk.off (restOf tk))).reverse) ++ fresh.zip (pleft tk.off (fullOf tk) (restOf tk) (nF ls) (nR ls))).length ≤ 65 := by
      rw [List.length_append, List.length_zip, List.length_zip, List.length_reverse]; omega
    generalize ns.reverse.zip ((ks.map (Kd.val sk.off (restOf sk))).reverse) ++ fresh.zip (pleft sk.off (fullOf sk) (restOf sk) (nF ks) (nR ks)) = ts1 at pa0 T1 lt1
    generalize ns.reverse.zip ((ls.map (Kd.val tk.off (restOf tk))).reverse) ++ fresh.zip (pleft tk.off (fullOf tk) (restOf tk) (nF ls) (nR ls)) = ts2 at pa1 T2 lt2
    have tt1 : tot ts1 = lost sk := by rw [T1.tot, ← (por_ok ok).eq]
    have tt2 : tot ts2 = lost tk := by rw [T2.tot, ← (por_ok ok2).eq]
    have s5 := s3.trans s4
    -- the truth of the first
    refine ⟨_, rfl, _, rfl, r, _, 0, _, rfl, rfl, SqL.of hr, rfl, _, rfl, a1, _, 2, _, rfl, rfl, SqT.of (s5 _ _ ha1), rfl, Nat.zero_le _, fun n0 hn0 => ?_⟩
    have sn0 := sn hn0 (o := .tup [])
    refine ⟨_, _, sk.off, r0, sk, xs0, ts1, [], rfl, hS.mono (tx (s5.trans sn0)), ok.ct, by omega, sn0 _ _ hr0, pa0.mono (fun _ _ z => z.mono (tx sn0)), T1.nd, by omega, fun p hp => ⟨nmok _ (T1.sub _ (mem_nms hp)), (T1.val p hp).1⟩, ⟨n0, rfl, .inr (SqT.of upd_same)⟩, Nat.zero_le _, by omega, (fun h => by omega), fun H5 g1' ds3 fs3 s6 hg1 M3 => ?_⟩
    have sn1 := sn0.trans s6
    have s7 := s5.trans sn1
    have hr1' := sn1 _ _ hr1
    -- .. and of the second
    refine ⟨_, rfl, _, rfl, r, _, 1, _, rfl, rfl, SqL.of (sn1 _ _ hr), rfl, _, rfl, a2, _, 2, _, rfl, rfl, SqT.of (s7 _ _ ha2), rfl, Nat.zero_le _, fun n2 hn2 => ?_⟩
    have sn2 := sn hn2 (o := .tup [])
    refine ⟨_, _, tk.off, r1, tk, xs1, ts2, [], rfl, hT.mono (tx (s7.trans sn2)), ok2.ct, by omega, sn2 _ _ hr1', pa1.mono (fun _ _ z => z.mono (tx (sn1.trans sn2))), T2.nd, by omega, fun p hp => ⟨nmok _ (T2.sub _ (mem_nms hp)), (T2.val p hp).1⟩, ⟨n2, rfl, .inr (SqT.of upd_same)⟩, Nat.zero_le _, by omega, (fun h => by omega), fun H6 g2' ds4 fs4 s8 hg2 M4 => ?_⟩
    refine ⟨(by show 2 ≤ sizeLine; decide), fun gp hgp => ?_⟩
    have sn3 := sn2.trans s8
    have s9 := (s7.trans sn3).trans (sn hgp (o := .tup [g1', g2']))
    have hg1b := hg1.mono (tx (sn3.trans (sn hgp (o := .tup [g1', g2']))))
    have hg2b := hg2.mono (tx (sn hgp (o := .tup [g1', g2'])))
    have hgpb : upd H6 gp (.tup [g1', g2']) gp = some (.tup [g1', g2']) := upd_same
    generalize upd H6 gp (.tup [g1', g2']) = H7 at s9 hg1b hg2b hgpb ⊢
    -- the ones apart
    refine ⟨_, rfl, _, rfl, _, _, sk, tk, rfl, hS.mono (tx s9), hT.mono (tx s9), ok, ok2, fun H8 ap c1 c2 ds1 ds2 s10 hap hc1 hc2 k1 k2 m1 m2 u1 u2 ja => ?_⟩
    refine ⟨_, rfl, (by show 2 ≤ sizeLine; decide), fun fp hfp => ?_⟩
    have s11 := sn hfp (o := .tup [.ref ap, .ref gp])
    have ld3 := M3.len
    have ld4 := M4.len
    have ff3 := M3.fl
    have ff4 := M4.fl
    refine q _ fp ap gp c1 c2 g1' g2' ds1 ds2 ds3 ds4 _ ((s9.trans s10).trans s11) upd_same (s11 _ _ hap) (s11 _ _ (s10 _ _ hgpb)) (hc1.mono (tx s11)) (hc2.mono (tx s11)) (hg1b.mono (tx (s10.trans s11))) (hg2b.mono (tx (s10.trans s11))) k1 k2
      ⟨M3.asc, M3.pos, M3.nm⟩ ⟨M4.asc, M4.pos, M4.nm⟩ (by omega) (by omega) (by omega) (by omega) u1 u2 (made_tru ok M3 T1.nd T1.val) (made_tru ok2 M4 T2.nd T2.val) ja
      (great_jn ok ok2 nn nf (fun n h => (fok n h).2) h2 wy T1 T2 M3 M4) ?_
    have ew : wholeOf sk.off (fullOf sk) (restOf sk) tk.off (fullOf tk) (restOf tk) e = psum sk.off (restOf sk) tk.off (restOf tk) (ns.map (KM.cnt sk.kept)) (ns.map (KM.cnt tk.kept)) ks ls + zs (pleft sk.off (fullOf sk) (restOf sk) (nF ks) (nR ks)) (pleft tk.off (fullOf tk) (restOf tk) (nF ls) (nR ls)) := by
      unfold wholeOf
      rw [b5, b1, b2, b3, b4]
    rw [← ew]
    exact IM
end
end Kn
set_option Elab.async false
set_option linter.all false
set_option maxRecDepth 100000
set_option maxHeartbeats 4000000
set_option pp.maxSteps 300
/-! same. -/
namespace Kn
open PySem PySem.Spec PyProof.Rows L2 KM
section
variable {P : Program} {w : World} {K : PySem.W.Frag} {mg : Str → Option Value} {base : Heap} {CP CF : Addr}
def spNear : Sp := fun vs H Q _ => ∃ (v u : V) (s : Sk), vs = [v, u] ∧ SkAt H v s ∧ SkAt H u s ∧ SkOk s ∧ ∀ H', Same H H' → Q (.bl true) H'
theorem c_are_near (T : Txt K mg CP CF) : C8.Cal P w K mg base 1 "are_near" spNear [] := by
  refine mkc (N := ["one", "other", "counts", "others", "name", "low"]) T.d_are_near (by decide +kernel) (fun vs H Q E h => ?_) (fun f cdv A outer s H vs Q E hr h => ?_)
  · obtain ⟨v, u, sk, rfl, _⟩ := h; rfl
  · obtain ⟨v, u, sk, rfl, hS, hT, ok, q⟩ := h
    have nd : (["one", "other", "counts", "others", "name", "low"] : List Str).Nodup := by decide +kernel
    refine ⟨_, pss_cons (ps_par (i := 2) (j := 3) (by rfl) nd rfl rfl (by decide) rfl rfl (pa_cons (pe_callTy (cr_dictT rfl) (by rfl) T.z_dict bo_dict (pa_cons (pe_ix ix_tup (pv 0) (C8.pe_gc (by rfl) T.k_KEPT) (fun _ _ => rfl)) pa_nil))
          (pa_cons (pe_callTy (cr_dictT rfl) (by rfl) T.z_dict bo_dict (pa_cons (pe_ix ix_tup (pv 1) (C8.pe_gc (by rfl) T.k_KEPT) (fun _ _ => rfl)) pa_nil)) pa_nil)) (by rfl))
      (pss_cons (ps_for PassesOwn.never rfl (pi_list (pe_op op_cat (pe_callTy (call_listD rfl) (by rfl) T.z_list bo_list (pa_cons (pv 2) pa_nil)) (pe_callTy (call_listD rfl) (by rfl) T.z_list bo_list (pa_cons (pv 3) pa_nil)))) (pg_name (i := 4) nd rfl (.inl rfl))
        (pss_cons (ps_set (i := 5) nd rfl (Or.inl rfl) (pe_callB (call_max2 rfl) (by rfl) T.z_max bo_max (pa_cons (pe_dget2 (u1 hr) (pv 2) (pv 4) pe_int ⟨by rfl, by rfl, by rfl, by rfl⟩) (pa_cons (pe_dget2 (u1 hr) (pv 3) (pv 4) pe_int ⟨by rfl, by rfl, by rfl, by rfl⟩) pa_nil))))
        (pss_one (ps_if (pt_cmpR op_gt (pv 5) (pe_callB (call_min2 rfl) (by rfl) T.z_min bo_min (pa_cons (pe_op op_add (pe_dget2 (u1 hr) (pv 2) (pv 4) pe_int ⟨by rfl, by rfl, by rfl, by rfl⟩) (pe_ix ix_tup (pv 0) (C8.pe_gc (by rfl) T.k_OFF) (fun _ _ => rfl)))
            (pa_cons (pe_op op_add (pe_dget2 (u1 hr) (pv 3) (pv 4) pe_int ⟨by rfl, by rfl, by rfl, by rfl⟩) (pe_ix ix_tup (pv 1) (C8.pe_gc (by rfl) T.k_OFF) (fun _ _ => rfl))) pa_nil))) (nomark _)) (pss_one (ps_ret pe_bl)) pss_nil))))
      (pss_one (ps_ret pe_bl))), ?_⟩
    obtain ⟨a1, w1, rfl, ha1, kb1, ks1, rfl, hk1, pk1⟩ := id hS
    obtain ⟨a2, w2, rfl, ha2, kb2, ks2, rfl, hk2, pk2⟩ := id hT
    have lk := len_le ok
    have o0 := ok.o0
    refine ⟨_, rfl, a1, _, 3, _, rfl, rfl, SqT.of ha1, rfl, kb1, ks1, sk.kept, rfl, hk1, pk1, ok.ct.nd, fun d1 hd1 => ?_⟩
    have s1 := sn hd1 (o := .dK (sk.kept.map kvP))
    refine ⟨_, rfl, a2, _, 3, _, rfl, rfl, SqT.of (s1 _ _ ha2), rfl, kb2, ks2, sk.kept, rfl, hk2.st s1, pk2.mono (fun _ _ z => z.mono (tx s1)), ok.ct.nd, fun d2 hd2 => ⟨_, _, rfl, ?_⟩⟩
    have s2 := s1.trans (sn hd2 (o := .dK (sk.kept.map kvP)))
    have c1 : DC (upd (upd H d1 (.dK (sk.kept.map kvP))) d2 (.dK (sk.kept.map kvP))) d1 sk.kept := sn hd2 _ _ upd_same
    have c2 : DC (upd (upd H d1 (.dK (sk.kept.map kvP))) d2 (.dK (sk.kept.map kvP))) d2 sk.kept := upd_same
    generalize upd (upd H d1 (.dK (sk.kept.map kvP))) d2 (.dK (sk.kept.map kvP)) = H2 at s2 c1 c2 ⊢
    refine ⟨_, rfl, d1, _, rfl, .inl c1, fun l1 hl1 => ⟨_, rfl, d2, _, rfl, .inl (sn hl1 _ _ c2), fun l2 hl2 => ?_⟩⟩
    have ne12 : l1 ≠ l2 := fun z => by rw [z, upd_same] at hl2; cases hl2
    refine ⟨l1, l2, _, _, rfl, rfl, by rw [upd_ne ne12, upd_same], upd_same, by rw [List.length_map, List.length_map]; exact sz (by omega), fun l3 hl3 => ?_⟩
    have s7 := sm (sm (sn hl1 (o := .lst ((sk.kept.map kvP).map fun kv => kV kv.1))) ((sn hl1).free hl2) (o := .lst ((sk.kept.map kvP).map fun kv => kV kv.1))) ((sm (sn hl1) ((sn hl1).free hl2)).free hl3) (o := .lst ((sk.kept.map kvP).map (fun kv => kV kv.1) ++ (sk.kept.map kvP).map fun kv => kV kv.1))
    have s3 := s2.trans s7
    have c1 : DC _ d1 sk.kept := s7 _ _ c1
    have c2 : DC _ d2 sk.kept := s7 _ _ c2
    have en : (sk.kept.map kvP).map (fun kv => kV kv.1) ++ (sk.kept.map kvP).map (fun kv => kV kv.1) = (nms sk.kept ++ nms sk.kept).map V.str := by
      rw [List.map_append, List.map_map]
      unfold nms
      rw [List.map_map]
      rfl
    refine ⟨l3, rfl, ⟨_, SqL.of upd_same⟩, ?_⟩
    have hl : upd (upd (upd H2 l1 (.lst ((sk.kept.map kvP).map fun kv => kV kv.1))) l2 (.lst ((sk.kept.map kvP).map fun kv => kV kv.1))) l3 (.lst ((sk.kept.map kvP).map (fun kv => kV kv.1) ++ (sk.kept.map kvP).map fun kv => kV kv.1)) l3 = some (.lst ((nms sk.kept ++ nms sk.kept).map V.str)) := by rw [upd_same, en]
    refine for_list (K := K) (a := l3) (xs := (nms sk.kept ++ nms sk.kept).map V.str) (fun i σ H3 => ∃ y4 y5, σ = [some (.ref a1), some (.ref a2), some (.ref d1), some (.ref d2), y4, y5] ∧ H3 = upd (upd (upd H2 l1 (.lst ((sk.kept.map kvP).map fun kv => kV kv.1))) l2 (.lst ((sk.kept.map kvP).map fun kv => kV kv.1))) l3 (.lst ((sk.kept.map kvP).map (fun kv => kV kv.1) ++ (sk.kept.map kvP).map fun kv => kV kv.1)))
      ⟨_, _, rfl, rfl⟩ (fun i σ H3 _ ⟨_, _, _, e⟩ => by rw [e]; exact SqL.of hl) ?_ ?_
    · rintro i x σ H3 hi ⟨y4, y5, rfl, rfl⟩
      rw [List.getElem?_map] at hi
      cases hn : (nms sk.kept ++ nms sk.kept)[i]? with
      | none => rw [hn] at hi; cases hi
      | some n =>
      rw [hn] at hi
      cases hi
      refine ⟨_, rfl, d1, rfl, .inl ⟨_, .inl c1⟩, _, rfl, _, dget c1, ?_⟩
      rw [val_getD]
      refine ⟨_, rfl, d2, rfl, .inl ⟨_, .inl c2⟩, _, rfl, _, dget c2, ?_⟩
      rw [val_getD]
      refine ⟨_, _, rfl, ?_⟩
      refine ⟨_, rfl, _, rfl, d1, rfl, .inl ⟨_, .inl c1⟩, _, rfl, _, dget c1, ?_⟩
      rw [val_getD]
      refine ⟨_, rfl, a1, _, 2, _, rfl, rfl, SqT.of (s3 _ _ ha1), rfl, _, _, rfl, rfl, ?_⟩
      refine ⟨_, rfl, d2, rfl, .inl ⟨_, .inl c2⟩, _, rfl, _, dget c2, ?_⟩
      rw [val_getD]
      refine ⟨_, rfl, a2, _, 2, _, rfl, rfl, SqT.of (s3 _ _ ha2), rfl, _, _, rfl, rfl, ?_⟩
      refine ⟨_, _, rfl, _, _, rfl, rfl, false, blF (by split <;> split <;> omega), iteF ?_⟩
      exact ⟨_, _, rfl, rfl⟩
    · rintro σ H3 ⟨y4, y5, rfl, rfl⟩
      exact q _ s3
end
end Kn
set_option Elab.async false
set_option linter.all false
set_option maxRecDepth 100000
set_option maxHeartbeats 4000000
set_option pp.maxSteps 300
/-! bounds, same. -/
namespace Kn
open PySem PySem.Spec PyProof.Rows L2 KM
theorem keys_strs {kvs : List (Key × V)} {ks : List Str} (e : kvs.map (·.1) = ks.map Sum.inr) : (kvs.map fun kv => kV kv.1) = ks.map V.str := by
  have : (kvs.map fun kv => kV kv.1) = (kvs.map (·.1)).map kV := by rw [List.map_map]; rfl
  rw [this, e, List.map_map]; rfl
section
variable {P : Program} {w : World} {K : PySem.W.Frag} {mg : Str → Option Value} {base : Heap} {CP CF : Addr}
def spBounds : Sp := fun vs H Q _ => ∃ (v u : V) (s : Sk), vs = [v, u] ∧ SkAt H v s ∧ SkAt H u s ∧ SkOk s ∧ ∀ H' p, Same H H' → ((0 < s.off ∧ H' p = some (.tup [.int (tot s.kept), .non])) ∨ (s.off = 0 ∧ H' p = some (.tup [.int (tot s.kept), .int (tot s.kept)]))) → Q (.ref p) H'
theorem c_bounds (T : Txt K mg CP CF) : C8.Cal P w K mg base 1 "bounds" spBounds [] := by
  refine mkc (N := ["one", "other", "counts", "others", "names", "low", "name"]) T.d_bounds (by decide +kernel) (fun vs H Q E h => ?_) (fun f cdv A outer s H vs Q E hr h => ?_)
  · obtain ⟨v, u, sk, rfl, _⟩ := h; rfl
  · obtain ⟨v, u, sk, rfl, hS, hT, ok, q⟩ := h
    have nd : (["one", "other", "counts", "others", "names", "low", "name"] : List Str).Nodup := by decide +kernel
    refine ⟨_, pss_cons (ps_asg (pe_tup (pa_cons (pe_callTy (cr_dictT rfl) (by rfl) T.z_dict bo_dict (pa_cons (pe_ix ix_tup (pv 0) (C8.pe_gc (by rfl) T.k_KEPT) (fun _ _ => rfl)) pa_nil))
          (pa_cons (pe_callTy (cr_dictT rfl) (by rfl) T.z_dict bo_dict (pa_cons (pe_ix ix_tup (pv 1) (C8.pe_gc (by rfl) T.k_KEPT) (fun _ _ => rfl)) pa_nil)) pa_nil))) (pg_tup rfl (pgs_cons (pg_name (i := 2) nd rfl (.inr rfl)) (pgs_cons (pg_name (i := 3) nd rfl (.inr rfl)) pgs_nil))))
      (pss_cons (ps_set (i := 4) nd rfl (Or.inl rfl) (pe_callTy (call_listD rfl) (by rfl) T.z_list bo_list (pa_cons (pe_dc (own := [("name", 6)]) (g := gName 6) (by rfl) nd
            (pi_list (pe_op op_cat (pe_callTy (call_listD rfl) (by rfl) T.z_list bo_list (pa_cons (pv 2) pa_nil)) (pe_callTy (call_listD rfl) (by rfl) T.z_list bo_list (pa_cons (pv 3) pa_nil))))
            (blkOk_by (own := [("name", 6)]) (N := ["one", "other", "counts", "others", "names", "low", "name"]) (sc := C8.fnScope (topS 48)) (by decide +kernel))
            (fun _ _ _ _ _ => pg_name (i := 6) nd rfl (Or.inl rfl)) (fun _ _ _ _ _ => pts_nil) (fun _ _ _ _ _ => pv 6) (fun _ _ _ _ _ => pe_bl)) pa_nil)))
      (pss_cons (ps_set (i := 5) nd rfl (Or.inl rfl) (pe_callB (cr_sum rfl) (by rfl) T.z_sum bo_sum (pa_cons
        (pe_lc (own := [("name", 6)]) (g := gName 6) (by rfl) nd (pi_list (pv 4))
          (blkOk_by (own := [("name", 6)]) (N := ["one", "other", "counts", "others", "names", "low", "name"]) (sc := C8.fnScope (topS 48)) (by decide +kernel)) (fun _ _ _ _ _ => pg_name (i := 6) nd rfl (Or.inl rfl)) (fun _ _ _ _ _ => pts_nil)
          (fun _ _ _ _ _ => pe_callB (call_max2 rfl) (by rfl) T.z_max bo_max (pa_cons (pe_dget2 (u1 hr) (pv 2) (pv 6) pe_int ⟨by rfl, by rfl, by rfl, by rfl⟩) (pa_cons (pe_dget2 (u1 hr) (pv 3) (pv 6) pe_int ⟨by rfl, by rfl, by rfl, by rfl⟩) pa_nil)))) pa_nil)))
      (pss_cons (ps_if (pt_cmpR op_gt (pe_callB (call_min2 rfl) (by rfl) T.z_min bo_min (pa_cons (pe_ix ix_tup (pv 0) (C8.pe_gc (by rfl) T.k_OFF) (fun _ _ => rfl)) (pa_cons (pe_ix ix_tup (pv 1) (C8.pe_gc (by rfl) T.k_OFF) (fun _ _ => rfl)) pa_nil))) pe_int (nomark _))
        (pss_one (ps_ret (pe_tup (pa_cons (pv 5) (pa_cons pe_non pa_nil))))) pss_nil)
      (pss_one (ps_ret (pe_tup (pa_cons (pv 5) (pa_cons (pe_callB (cr_sum rfl) (by rfl) T.z_sum bo_sum (pa_cons
        (pe_lc (own := [("name", 6)]) (g := gName 6) (by rfl) nd (pi_list (pv 4))
          (blkOk_by (own := [("name", 6)]) (N := ["one", "other", "counts", "others", "names", "low", "name"]) (sc := C8.fnScope (topS 48)) (by decide +kernel)) (fun _ _ _ _ _ => pg_name (i := 6) nd rfl (Or.inl rfl)) (fun _ _ _ _ _ => pts_nil)
          (fun _ _ _ _ _ => pe_callB (call_min2 rfl) (by rfl) T.z_min bo_min (pa_cons (pe_op op_add (pe_dget2 (u1 hr) (pv 2) (pv 6) pe_int ⟨by rfl, by rfl, by rfl, by rfl⟩) (pe_ix (ixT K) (pv 0) (C8.pe_gc (by rfl) T.k_OFF) (fun _ _ => rfl)))
            (pa_cons (pe_op op_add (pe_dget2 (u1 hr) (pv 3) (pv 6) pe_int ⟨by rfl, by rfl, by rfl, by rfl⟩) (pe_ix (ixT K) (pv 1) (C8.pe_gc (by rfl) T.k_OFF) (fun _ _ => rfl))) pa_nil)))) pa_nil)) pa_nil)))))))), ?_⟩
    obtain ⟨a1, w1, rfl, ha1, kb1, ks1, rfl, hk1, pk1⟩ := id hS
    obtain ⟨a2, w2, rfl, ha2, kb2, ks2, rfl, hk2, pk2⟩ := id hT
    have lk := len_le ok
    have o0 := ok.o0
    refine ⟨_, rfl, a1, _, 3, _, rfl, rfl, SqT.of ha1, rfl, kb1, ks1, sk.kept, rfl, hk1, pk1, ok.ct.nd, fun d1 hd1 => ?_⟩
    have s1 := sn hd1 (o := .dK (sk.kept.map kvP))
    refine ⟨_, rfl, a2, _, 3, _, rfl, rfl, SqT.of (s1 _ _ ha2), rfl, kb2, ks2, sk.kept, rfl, hk2.st s1, pk2.mono (fun _ _ z => z.mono (tx s1)), ok.ct.nd, fun d2 hd2 => ?_⟩
    have s2 := s1.trans (sn hd2 (o := .dK (sk.kept.map kvP)))
    have c1 : DC (upd (upd H d1 (.dK (sk.kept.map kvP))) d2 (.dK (sk.kept.map kvP))) d1 sk.kept := sn hd2 _ _ upd_same
    have c2 : DC (upd (upd H d1 (.dK (sk.kept.map kvP))) d2 (.dK (sk.kept.map kvP))) d2 sk.kept := upd_same
    refine ⟨(by show 2 ≤ sizeLine; decide), fun tp htp => ?_⟩
    have s2 := s2.trans (sn htp (o := .tup [.ref d1, .ref d2]))
    have c1 := sn htp (o := .tup [.ref d1, .ref d2]) _ _ c1
    have c2 := sn htp (o := .tup [.ref d1, .ref d2]) _ _ c2
    refine ⟨tp, _, rfl, SqT.of upd_same, rfl, _, _, rfl, _, _, rfl, rfl, ?_⟩
    generalize upd (upd (upd H d1 (.dK (sk.kept.map kvP))) d2 (.dK (sk.kept.map kvP))) tp (.tup [.ref d1, .ref d2]) = H2 at s2 c1 c2 ⊢
    refine ⟨_, rfl, d1, _, rfl, .inl c1, fun l1 hl1 => ⟨_, rfl, d2, _, rfl, .inl (sn hl1 _ _ c2), fun l2 hl2 => ?_⟩⟩
    have ne12 : l1 ≠ l2 := fun z => by rw [z, upd_same] at hl2; cases hl2
    refine ⟨l1, l2, _, _, rfl, rfl, by rw [upd_ne ne12, upd_same], upd_same, by rw [List.length_map, List.length_map]; exact sz (by omega), fun l3 hl3 => ?_⟩
    have s7 := sm (sm (sn hl1 (o := .lst ((sk.kept.map kvP).map fun kv => kV kv.1))) ((sn hl1).free hl2) (o := .lst ((sk.kept.map kvP).map fun kv => kV kv.1))) ((sm (sn hl1) ((sn hl1).free hl2)).free hl3) (o := .lst ((sk.kept.map kvP).map (fun kv => kV kv.1) ++ (sk.kept.map kvP).map fun kv => kV kv.1))
    have en : (sk.kept.map kvP).map (fun kv => kV kv.1) ++ (sk.kept.map kvP).map (fun kv => kV kv.1) = (nms sk.kept ++ nms sk.kept).map V.str := by
      rw [List.map_append, List.map_map]
      unfold nms
      rw [List.map_map]
      rfl
    have lnm : ∀ l : List (Str × Int), (nms l).length = l.length := fun l => by unfold nms; rw [List.length_map]
    refine ⟨l3, rfl, ⟨_, SqL.of upd_same⟩, fun D hD => dc_keys (ns := nms sk.kept ++ nms sk.kept) (by rw [← en]; exact SqL.of upd_same) hD (by rw [List.length_append, lnm]; omega) (fun _ => rfl) (fun _ => rfl) fun H8 kk s8 hkk mem lkk ndk => ?_⟩
    obtain ⟨kvs, hkk, ek⟩ := hkk
    rw [List.length_append, lnm] at lkk
    refine ⟨D, kvs, rfl, .inl hkk, fun nl hnl => ?_⟩
    rw [keys_strs ek]
    have s9 := (s7.trans s8).trans (sn hnl (o := .lst (kk.map V.str)))
    have s10 := s2.trans s9
    have c1 : DC _ d1 sk.kept := s9 _ _ c1
    have c2 : DC _ d2 sk.kept := s9 _ _ c2
    have hnl2 : upd H8 nl (.lst (kk.map V.str)) nl = some (.lst (kk.map V.str)) := upd_same
    generalize upd H8 nl (.lst (kk.map V.str)) = H9 at s10 c1 c2 hnl2 ⊢
    have tk : (kk.map fun n => KM.cnt sk.kept n).sum = tot sk.kept := tot_over ok.ct.nd ndk fun n h => (mem n).mpr (List.mem_append_left _ h)
    refine ⟨_, rfl, nl, rfl, ⟨_, SqL.of hnl2⟩, fun D2 hD2 => ?_⟩
    refine lc_all (walk_list (K := K) (a := nl) (xs := kk.map V.str)) (bs := kk) (by rw [List.length_map]) (by rw [List.length_map]; omega) hD2 (fun n => KM.cnt sk.kept n) (fun _ v c => v = V.int c) (fun _ h => h) (fun H3 s3 => SqL.of (s3 _ _ hnl2)) (fun i n x H3 H4 e s3 y Ny k => ?_) mg_name (fun Ha ys sa hy pr => ?_)
    · obtain ⟨rfl, hx⟩ := y
      rw [List.getElem?_map, e] at hx
      cases hx
      refine ⟨rfl, _, rfl, d1, rfl, .inl ⟨_, .inl (s3 _ _ c1)⟩, _, rfl, _, dget (s3 _ _ c1), ?_⟩
      rw [val_getD]
      refine ⟨_, rfl, d2, rfl, .inl ⟨_, .inl (s3 _ _ c2)⟩, _, rfl, _, dget (s3 _ _ c2), ?_⟩
      rw [val_getD]
      exact ⟨_, _, rfl, k _ _ (Same.refl _) (by rw [if_neg (by omega)])⟩
    have ey := peq pr
    refine ⟨D2, _, rfl, SqL.of (by rw [hy, ey]), ?_⟩
    rw [tk]
    have s11 := s10.trans sa
    refine ⟨_, rfl, a1, _, 2, _, rfl, rfl, SqT.of (s11 _ _ ha1), rfl, _, rfl, a2, _, 2, _, rfl, rfl, SqT.of (s11 _ _ ha2), rfl, _, _, rfl, ?_⟩
    have em : (if sk.off < sk.off then sk.off else sk.off) = sk.off := if_neg (by omega)
    by_cases h0 : 0 < sk.off
    · refine ⟨_, _, rfl, rfl, true, blT (by rw [em]; exact h0), iteT ?_⟩
      exact ⟨_, rfl, (by show 2 ≤ sizeLine; decide), fun p hp => q _ p (s11.trans (sn hp)) (.inl ⟨h0, upd_same⟩)⟩
    · refine ⟨_, _, rfl, rfl, false, blF (by rw [em]; exact h0), iteF ?_⟩
      have z0 : sk.off = 0 := by omega
      have hnl3 := sa _ _ hnl2
      refine ⟨_, rfl, _, rfl, nl, rfl, ⟨_, SqL.of hnl3⟩, fun D3 hD3 => ?_⟩
      refine lc_all (walk_list (K := K) (a := nl) (xs := kk.map V.str)) (bs := kk) (by rw [List.length_map]) (by rw [List.length_map]; omega) hD3 (fun n => KM.cnt sk.kept n) (fun _ v c => v = V.int c) (fun _ h => h) (fun H3 s3 => SqL.of (s3 _ _ hnl3)) (fun i n x H3 H4 e s3 y Ny k => ?_) mg_name (fun Hb ys2 sb hy2 pr2 => ?_)
      · obtain ⟨rfl, hx⟩ := y
        rw [List.getElem?_map, e] at hx
        cases hx
        have c1' : DC H4 d1 sk.kept := s3 _ _ (sa _ _ c1)
        have c2' : DC H4 d2 sk.kept := s3 _ _ (sa _ _ c2)
        refine ⟨rfl, _, rfl, d1, rfl, .inl ⟨_, .inl c1'⟩, _, rfl, _, dget c1', ?_⟩
        rw [val_getD]
        refine ⟨_, rfl, a1, _, 2, _, rfl, rfl, SqT.of (s3 _ _ (s11 _ _ ha1)), rfl, _, _, rfl, rfl, ?_⟩
        refine ⟨_, rfl, d2, rfl, .inl ⟨_, .inl c2'⟩, _, rfl, _, dget c2', ?_⟩
        rw [val_getD]
        refine ⟨_, rfl, a2, _, 2, _, rfl, rfl, SqT.of (s3 _ _ (s11 _ _ ha2)), rfl, _, _, rfl, rfl, ?_⟩
        exact ⟨_, _, rfl, k _ _ (Same.refl _) (by rw [if_neg (by omega), z0, Int.add_zero])⟩
      · have ey2 := peq pr2
        refine ⟨D3, _, rfl, SqL.of (by rw [hy2, ey2]), ?_⟩
        rw [tk]
        exact ⟨(by show 2 ≤ sizeLine; decide), fun p hp => q _ p ((s11.trans sb).trans (sn hp)) (.inr ⟨z0, upd_same⟩)⟩
def spSame : Sp := fun vs H Q _ => ∃ (v u : V) (s t : Sk), vs = [v, u] ∧ SkAt H v s ∧ SkAt H u t ∧ SkOk s ∧ SkOk t ∧
  ((s = t ∧ ∀ H' x, Same H H' → (x = "surely" ∨ x = "perhaps") → Q (.str x) H') ∨ (s.many ≠ t.many ∧ ∀ H', Same H H' → Q (.str "never") H'))
theorem c_same (T : Txt K mg CP CF) : C8.Cal P w K mg base 5 "same" spSame [] := by
  refine mkc (N := ["one", "other", "low", "high"]) T.d_same (by decide +kernel) (fun vs H Q E h => ?_) (fun f cdv A outer s H vs Q E hr h => ?_)
  · obtain ⟨v, u, sk, tk, rfl, _⟩ := h; rfl
  · obtain ⟨v, u, sk, tk, rfl, hS, hT, ok, ok2, hq⟩ := h
    have nd : (["one", "other", "low", "high"] : List Str).Nodup := by decide +kernel
    obtain ⟨a1, w1, rfl, ha1, _⟩ := id hS
    obtain ⟨a2, w2, rfl, ha2, _⟩ := id hT
    refine ⟨_, pss_cons (ps_expr (C8.pe_c (c_check_sketch T) hr (by decide) (by rfl) (pa_cons (pv 0) pa_nil)))
      (pss_cons (ps_expr (C8.pe_c (c_check_sketch T) hr (by decide) (by rfl) (pa_cons (pv 1) pa_nil)))
      (pss_cons (ps_if (PW.pt (pw_or (pt_cmpR op_ne (pe_ix ix_tup (pv 0) (C8.pe_gc (by rfl) T.k_MANY) (fun _ _ => rfl)) (pe_ix ix_tup (pv 1) (C8.pe_gc (by rfl) T.k_MANY) (fun _ _ => rfl)) (nomark _))
          (pw_or1 (pt_not (pt_val (C8.pe_c (c_are_near T) hr (by decide) (by rfl) (pa_cons (pv 0) (pa_cons (pv 1) pa_nil)))))))) (pss_one (ps_ret (C8.pe_gc (by rfl) T.k_NEVER))) pss_nil)
      (pss_cons (ps_asg (C8.pe_c (c_bounds T) hr (by decide) (by rfl) (pa_cons (pv 0) (pa_cons (pv 1) pa_nil))) (pg_tup rfl (pgs_cons (pg_name (i := 2) nd rfl (.inl rfl)) (pgs_cons (pg_name (i := 3) nd rfl (.inl rfl)) pgs_nil))))
      (pss_cons (ps_if (PW.pt (pw_or (pt_cmpR op_gt (pv 2) (pe_ix ix_tup (pv 0) (C8.pe_gc (by rfl) T.k_MANY) (fun _ _ => rfl)) (nomark _))
          (pw_or1 (PW.pt (pw_and (pt_cmp (pc_notN (pv 3)) (by rfl)) (pw_and1 (pt_cmpR op_lt (pv 3) (pe_ix ix_tup (pv 0) (C8.pe_gc (by rfl) T.k_MANY) (fun _ _ => rfl)) (nomark _)))))))) (pss_one (ps_ret (C8.pe_gc (by rfl) T.k_NEVER))) pss_nil)
      (pss_one (ps_ret (pe_ifExp (PW.pt (pw_and (pt_cmpR op_eq (pe_ix ix_tup (pv 0) (C8.pe_gc (by rfl) T.k_OFF) (fun _ _ => rfl)) pe_int (nomark _)) (pw_and1 (pt_cmpR op_eq (pe_ix ix_tup (pv 1) (C8.pe_gc (by rfl) T.k_OFF) (fun _ _ => rfl)) pe_int (nomark _))))) (C8.pe_gc (by rfl) T.k_SURELY) (C8.pe_gc (by rfl) T.k_PERHAPS)))))))), ?_⟩
    refine ⟨_, rfl, _, sk, rfl, hS, ok, fun H1 s1 => ?_⟩
    refine ⟨_, rfl, _, tk, rfl, hT.mono (tx s1), ok2, fun H2 s2 => ?_⟩
    have s3 := s1.trans s2
    refine ⟨_, rfl, a1, _, 1, _, rfl, rfl, SqT.of (s3 _ _ ha1), rfl, _, rfl, a2, _, 1, _, rfl, rfl, SqT.of (s3 _ _ ha2), rfl, rfl, ?_⟩
    rcases hq with ⟨rfl, q⟩ | ⟨hne, q⟩
    · refine ⟨false, by simp, iteF ?_⟩
      refine ⟨_, rfl, _, rfl, _, _, sk, rfl, hS.mono (tx s3), hT.mono (tx s3), ok, fun H3 s4 => ⟨true, rfl, iteF ?_⟩⟩
      have s5 := s3.trans s4
      refine ⟨_, rfl, _, rfl, _, _, sk, rfl, hS.mono (tx s5), hT.mono (tx s5), ok, fun H4 p s6 hp => ?_⟩
      have s7 := s5.trans s6
      have ha1' := s7 _ _ ha1
      have ha2' := s7 _ _ ha2
      have l0 := (lost_b ok).1
      have hlt : tot sk.kept ≤ sk.many := by unfold lost at l0; omega
      rcases hp with ⟨h0, hp⟩ | ⟨h0, hp⟩
      · refine ⟨p, _, rfl, SqT.of hp, rfl, _, _, rfl, _, _, rfl, rfl, ?_⟩
        refine ⟨_, rfl, _, rfl, a1, _, 1, _, rfl, rfl, SqT.of ha1', rfl, _, _, rfl, rfl, false, blF (by omega), iteF ?_⟩
        refine ⟨_, rfl, false, rfl, iteF ?_⟩
        refine iteF ?_
        refine ⟨_, rfl, a1, _, 2, _, rfl, rfl, SqT.of ha1', rfl, rfl, false, blF (fun z => by have := V.int.inj z; omega), iteF ?_⟩
        exact iteF (q _ _ s7 (.inr rfl))
      · have ht : tot sk.kept = sk.many := by
          have := ok.hi; rw [h0] at this
          unfold lost at l0 this
          omega
        refine ⟨p, _, rfl, SqT.of hp, rfl, _, _, rfl, _, _, rfl, rfl, ?_⟩
        refine ⟨_, rfl, _, rfl, a1, _, 1, _, rfl, rfl, SqT.of ha1', rfl, _, _, rfl, rfl, false, blF (by omega), iteF ?_⟩
        refine ⟨_, rfl, true, rfl, iteT ?_⟩
        refine ⟨_, rfl, _, rfl, a1, _, 1, _, rfl, rfl, SqT.of ha1', rfl, _, _, rfl, rfl, false, blF (by omega), iteF ?_⟩
        refine ⟨_, rfl, a1, _, 2, _, rfl, rfl, SqT.of ha1', rfl, rfl, true, blT (by rw [h0]), iteT ?_⟩
        refine ⟨_, rfl, a2, _, 2, _, rfl, rfl, SqT.of ha2', rfl, rfl, true, blT (by rw [h0]), iteT ?_⟩
        exact q _ _ s7 (.inl rfl)
    · exact ⟨true, by simp [hne], iteT (q _ s3)⟩
end
end Kn
set_option Elab.async false
set_option linter.all false
set_option maxRecDepth 100000
set_option maxHeartbeats 4000000
set_option pp.maxSteps 300
/-! The hand, a draw. -/
namespace Kn
open PySem PySem.Spec PyProof.Rows L2 KM
/-- the hand at a -/
def Hnd (H : Hp) (a c : Addr) : Prop := ∃ (cells : List Int) (i big h m : Int), H a = some (.lst [.ref c, .int i, .int big, .int h, .int m]) ∧ H c = some (.lst (cells.map V.int)) ∧ c ≠ a ∧ (∀ x ∈ cells, 0 ≤ x) ∧ 0 ≤ i ∧ 0 ≤ big ∧ cells.length ≤ 100
theorem Hnd.st {H H' : Hp} {a c : Addr} (h : Hnd H a c) (s : Same H H') : Hnd H' a c := let ⟨cs, i, b, h, m, h1, h2, h3⟩ := h; ⟨cs, i, b, h, m, s _ _ h1, s _ _ h2, h3⟩
theorem Hnd.tx {H H' : Hp} {a c : Addr} (h : Hnd H a c) (e : ExB a H H') : ExT H H' := let ⟨cs, i, b, h, m, h1, _⟩ := h; e.tx h1 rfl
theorem Hnd.ne {H : Hp} {a c D : Addr} (h : Hnd H a c) (e : H D = none) : a ≠ D ∧ c ≠ D := let ⟨cs, i, b, h, m, h1, h2, _⟩ := h; ⟨ne_of_none h1 e, ne_of_none h2 e⟩
theorem Hnd.up {H : Hp} {a c D : Addr} {o : HO} (h : Hnd H a c) (n : a ≠ D ∧ c ≠ D) : Hnd (upd H D o) a c := let ⟨cs, i, b, h, m, h1, h2, h3⟩ := h; ⟨cs, i, b, h, m, by rw [upd_ne n.1]; exact h1, by rw [upd_ne n.2]; exact h2, h3⟩
theorem Hnd.nl {H : Hp} {a c : Addr} (h : Hnd H a c) : ∃ l, H a = some (.lst l) := let ⟨cs, i, b, h, m, h1, _⟩ := h; ⟨_, h1⟩
section
variable {P : Program} {w : World} {K : PySem.W.Frag} {mg : Str → Option Value} {base : Heap} {CP CF : Addr}
def spHand (K : PySem.W.Frag) : Sp := fun vs H Q _ => ∃ (a : Addr) (ns : List Int), vs = [.ref a] ∧ SqL K H a (ns.map V.int) ∧ ns.length ≤ 63 ∧ ∀ H' p c, Same H H' → H p = none → Hnd H' p c → Q (.ref p) H'
theorem c_hand (T : Txt K mg CP CF) : C8.Cal P w K mg base 1 "_law_hand" (spHand K) [] := by
  refine mkc (N := ["_law_script", "_law_cells", "_law_cell"]) T.d_law_hand (by decide +kernel) (fun vs H Q E h => ?_) (fun f cdv A outer s H vs Q E hr h => ?_)
  · obtain ⟨a, ns, rfl, _⟩ := h; rfl
  · obtain ⟨a, ns, rfl, ha, hl, q⟩ := h
    have nd : (["_law_script", "_law_cells", "_law_cell"] : List Str).Nodup := by decide +kernel
    refine ⟨_, pss_cons (ps_setLc (i := 1) (own := [("_law_cell", 2)]) (g := gName 2) (by rfl) nd rfl rfl (by rfl)
          (pi_list (pe_slice sl_list (pv 0) po_none (po_some pe_int)))
          (blkOk_by (own := [("_law_cell", 2)]) (N := ["_law_script", "_law_cells", "_law_cell"]) (sc := C8.fnScope (topS 51)) (by decide +kernel))
          (fun _ _ _ _ _ => pg_name (i := 2) nd rfl (Or.inl rfl)) (fun _ _ _ _ _ => pts_nil) (fun _ _ _ _ _ => pe_callB call_abs (by rfl) T.z_abs bo_abs (pa_cons (pe_callTy call_int1 (by rfl) T.z_int bo_int (pa_cons (pv 2) pa_nil)) pa_nil)))
      (pss_one (ps_ret (pe_lst (pa_cons (pv 1) (pa_cons pe_int (pa_cons pe_int (pa_cons (pe_op op_add pe_int (pe_callB call_len_seq (by rfl) T.z_len bo_len (pa_cons (pv 1) pa_nil))) (pa_cons pe_int pa_nil)))))))), ?_⟩
    have ec : cutV (ns.map V.int) none (some 63) = ((ns.take 63).map V.int) := by
      unfold cutV
      have e1 : HT.sIx (ns.map V.int).length 0 none = 0 := rfl
      rw [e1, List.drop_zero, Nat.sub_zero, ← List.map_take]
      have e2 : ∀ l : List Int, l.length ≤ 63 → ∀ k, (l.take k).take 63 = l.take k := fun l h k => List.take_of_length_le (by rw [List.length_take]; omega)
      have e3 : ns.take (HT.sIx (ns.map V.int).length (ns.map V.int).length (some 63)) = ns := by
        refine List.take_of_length_le ?_
        rw [List.length_map]
        unfold HT.sIx
        simp only []
        first | omega | (split <;> omega) | (split <;> split <;> omega)
      rw [e3, List.take_of_length_le hl]
    refine ⟨_, rfl, _, rfl, a, _, rfl, ha, fun l0 hl0 => ?_⟩
    rw [ec, List.take_of_length_le hl]
    have s1 := sn hl0 (o := .lst (ns.map V.int))
    refine ⟨l0, rfl, ⟨_, SqL.of upd_same⟩, fun D hD => ?_⟩
    refine lc_all (walk_list (K := K) (a := l0) (xs := ns.map V.int)) (bs := ns) (by rw [List.length_map]) (by rw [List.length_map]; omega) hD (fun n => if n < 0 then -n else n) (fun _ v c => v = V.int c) (fun _ h => h) (fun H3 s3 => SqL.of (s3 _ _ upd_same)) (fun i n x H3 H4 e s3 y Ny k => ?_) mg_name (fun H1 ys s2 hy pr => ?_)
    · obtain ⟨rfl, hx⟩ := y
      rw [List.getElem?_map, e] at hx
      cases hx
      exact ⟨rfl, _, rfl, .inl ⟨_, rfl, _, rfl, k _ _ (Same.refl _) rfl⟩⟩
    have ey := peq pr
    have ey' : ys = (ns.map fun n => if n < 0 then -n else n).map V.int := by rw [ey, List.map_map]; try rfl
    subst ey'
    refine ⟨_, rfl, _, rfl, D, _, rfl, .inl (SqL.of hy), _, _, rfl, rfl, (by show 5 ≤ sizeLine; decide), fun p hp => ?_⟩
    have s3 := (s1.trans s2)
    have ne : D ≠ p := fun z => by rw [← z, hy] at hp; cases hp
    refine q _ p D (s3.trans (sn hp)) (s3.free hp) ⟨_, 0, 0, _, 0, upd_same, sn hp _ _ hy, ne, fun x hx => ?_, by decide, by decide, by rw [List.length_map]; omega⟩
    obtain ⟨n, _, rfl⟩ := List.mem_map.mp hx
    show 0 ≤ if n < 0 then -n else n
    split <;> omega
def spDraw : Sp := fun vs H Q _ => ∃ (a c : Addr) (m : Int), vs = [.ref a, .int m] ∧ Hnd H a c ∧ 0 < m ∧ m < 1000000 ∧ ∀ H' d, ExB a H H' → Hnd H' a c → 0 ≤ d → d < m → Q (.int d) H'
theorem c_draw (T : Txt K mg CP CF) : C8.Cal P w K mg base 1 "_law_draw" spDraw [] := by
  refine mkc (N := ["_law_hand_here", "_law_many", "_law_cell", "_law_digit", "_law_number"]) T.d_law_draw (by decide +kernel) (fun vs H Q E h => ?_) (fun f cdv A outer s H vs Q E hr h => ?_)
  · obtain ⟨a, c, m, rfl, _⟩ := h; rfl
  · obtain ⟨a, c, M, rfl, hH, m0, m1, q⟩ := h
    have nd : (["_law_hand_here", "_law_many", "_law_cell", "_law_digit", "_law_number"] : List Str).Nodup := by decide +kernel
    refine ⟨_, C8.pss_cut (ps_if (PW.pt (pw_and (pt_cmpR op_eq (pe_ix ix_list (pv 0) pe_int (fun _ _ => rfl)) pe_int (nomark _)) (pw_and1 (pt_cmpR op_lt (pe_ix ix_list (pv 0) pe_int (fun _ _ => rfl)) (pe_callB call_len_seq (by rfl) T.z_len bo_len (pa_cons (pe_ix ix_list (pv 0) pe_int (fun _ _ => rfl)) pa_nil)) (nomark _)))))
        (pss_cons (ps_set (i := 2) nd rfl (Or.inl rfl) (pe_ix ix_list (pe_ix ix_list (pv 0) pe_int (fun _ _ => rfl)) (pe_ix ix_list (pv 0) pe_int (fun _ _ => rfl)) (fun _ _ => rfl)))
        (pss_cons (ps_asg (pe_op op_add (pe_ix ix_list (pv 0) pe_int (fun _ _ => rfl)) pe_int) (pg_sub (pv 0) pe_int set_list))
        (pss_cons (ps_asg (pe_op op_mod (pe_callTy call_int1 (by rfl) T.z_int bo_int (pa_cons (pe_op op_add (pe_op op_add (pe_op op_mul (pe_ix ix_list (pv 0) pe_int (fun _ _ => rfl)) pe_int) (pv 2)) pe_int) pa_nil)) pe_int) (pg_sub (pv 0) pe_int set_list))
        (pss_one (ps_if (pt_cmpR op_ge (pv 2) (pe_op op_pow pe_int pe_int) (nomark _)) (pss_one (ps_asg (pv 2) (pg_sub (pv 0) pe_int set_list))) pss_nil))))) pss_nil)
      (pss_cons (ps_if (pt_cmpR op_gt (pe_ix ix_list (pv 0) pe_int (fun _ _ => rfl)) pe_int (nomark _))
        (pss_cons (ps_set (i := 3) nd rfl (Or.inl rfl) (pe_op op_mod (pe_callTy call_int1 (by rfl) T.z_int bo_int (pa_cons (pe_ix ix_list (pv 0) pe_int (fun _ _ => rfl)) pa_nil)) (pv 1)))
        (pss_cons (ps_asg (pe_op op_fdiv (pe_ix ix_list (pv 0) pe_int (fun _ _ => rfl)) (pv 1)) (pg_sub (pv 0) pe_int set_list))
        (pss_one (ps_ret (pv 3))))) pss_nil)
      (pss_cons (ps_asg (pe_op op_add (pe_ix ix_list (pv 0) pe_int (fun _ _ => rfl)) pe_int) (pg_sub (pv 0) pe_int set_list))
      (pss_cons (ps_set (i := 4) nd rfl (Or.inl rfl) (pe_op op_mod (pe_callTy call_int1 (by rfl) T.z_int bo_int (pa_cons (pe_op op_mul (pe_callTy call_int1 (by rfl) T.z_int bo_int (pa_cons (pe_op op_add (pe_ix ix_list (pv 0) pe_int (fun _ _ => rfl)) (pe_op op_mul pe_int (pe_ix ix_list (pv 0) pe_int (fun _ _ => rfl)))) pa_nil)) pe_int) pa_nil)) pe_int))
      (pss_cons (ps_set (i := 4) nd rfl (Or.inl rfl) (pe_op op_mod (pe_callTy call_int1 (by rfl) T.z_int bo_int (pa_cons (pe_op op_mul (pv 4) (pe_op op_add (pe_op op_fdiv (pv 4) pe_int) pe_int)) pa_nil)) pe_int))
      (pss_cons (ps_set (i := 4) nd rfl (Or.inl rfl) (pe_op op_mod (pe_callTy call_int1 (by rfl) T.z_int bo_int (pa_cons (pe_op op_mul (pv 4) (pe_op op_add (pe_op op_fdiv (pv 4) pe_int) pe_int)) pa_nil)) pe_int))
      (pss_one (ps_ret (pe_op op_mod (pe_callTy call_int1 (by rfl) T.z_int bo_int (pa_cons (pe_op op_fdiv (pv 4) pe_int) pa_nil)) (pv 1))))))))), ?_⟩
    refine ⟨fun σ' H1 => ∃ y2, σ' = [some (.ref a), some (.int M), y2, none, none] ∧ ExB a H H1 ∧ Hnd H1 a c, ?_, ?_⟩
    · obtain ⟨cells, i, big, h, m, h1, h2, ne, pos, i0, b0, lc⟩ := id hH
      refine ⟨_, rfl, a, _, 2, _, rfl, rfl, SqL.of h1, rfl, rfl, ?_⟩
      by_cases hb : big = 0
      · refine ⟨true, blT (congrArg V.int hb), iteT ?_⟩
        refine ⟨_, rfl, a, _, 1, _, rfl, rfl, SqL.of h1, rfl, _, rfl, a, _, 0, _, rfl, rfl, SqL.of h1, rfl, c, _, rfl, .inl (SqL.of h2), _, _, rfl, rfl, ?_⟩
        rw [List.length_map]
        by_cases hi : i < (cells.length : Int)
        · refine ⟨true, blT hi, iteT ?_⟩
          obtain ⟨j, rfl⟩ : ∃ j : Nat, i = j := ⟨i.toNat, by omega⟩
          have hj : j < cells.length := by omega
          have gj : (cells.map V.int)[j]? = some (.int cells[j]) := by rw [List.getElem?_map, List.getElem?_eq_getElem hj]; rfl
          have cp : 0 ≤ cells[j] := pos _ (List.getElem_mem hj)
          refine ⟨_, rfl, a, _, 0, _, rfl, rfl, SqL.of h1, rfl, _, rfl, a, _, 1, _, rfl, rfl, SqL.of h1, rfl, c, _, _, _, rfl, rfl, SqL.of h2, at_of (j := j) rfl gj, ?_⟩
          refine ⟨_, rfl, a, _, 1, _, rfl, rfl, SqL.of h1, rfl, _, _, rfl, rfl, ?_⟩
          refine ⟨_, rfl, a, _, 1, 1, rfl, rfl, h1, rfl, ?_⟩
          have k2 : ∀ o, upd H a o c = some (.lst (cells.map V.int)) := fun o => by rw [upd_ne ne]; exact h2
          refine ⟨_, rfl, a, _, 3, _, rfl, rfl, SqL.of upd_same, rfl, _, _, rfl, rfl, .inr ⟨by decide, by decide⟩, _, rfl, _, _, rfl, rfl, _, _, rfl, rfl, .inl ⟨_, rfl, _, _, rfl, rfl, (by decide : (0 : Int) < 2147483629), ?_⟩⟩
          refine ⟨_, rfl, a, _, 3, 3, rfl, rfl, upd_same, rfl, ?_⟩
          rw [upd_upd]
          refine ⟨_, rfl, _, _, rfl, rfl, ⟨by decide, by decide, by decide⟩, ?_⟩
          by_cases hc : (10 : Int) ^ (18 : Int).toNat ≤ cells[j]
          · refine ⟨_, _, rfl, rfl, true, blT hc, iteT ?_⟩
            refine ⟨_, rfl, _, rfl, a, _, 2, 2, rfl, rfl, upd_same, rfl, ?_⟩
            rw [upd_upd]
            exact ⟨_, rfl, ExB.mut (ExB.refl _ _), cells, _, _, _, _, upd_same, k2 _, ne, pos, by omega, cp, lc⟩
          · refine ⟨_, _, rfl, rfl, false, blF hc, iteF ?_⟩
            exact ⟨_, rfl, ExB.mut (ExB.refl _ _), cells, _, _, _, _, upd_same, k2 _, ne, pos, by omega, b0, lc⟩
        · exact ⟨false, blF hi, iteF ⟨_, rfl, ExB.refl _ _, hH⟩⟩
      · exact ⟨false, blF (fun z => hb (V.int.inj z)), iteF ⟨_, rfl, ExB.refl _ _, hH⟩⟩
    · rintro σ' H1 ⟨y2, rfl, x1, cells, i, big, h, m, h1, h2, ne, pos, i0, b0, lc⟩
      have k2 : ∀ o, upd H1 a o c = some (.lst (cells.map V.int)) := fun o => by rw [upd_ne ne]; exact h2
      by_cases hb : 0 < big
      · refine ⟨_, rfl, a, _, 2, _, rfl, rfl, SqL.of h1, rfl, _, _, rfl, rfl, true, blT hb, iteT ?_⟩
        refine ⟨_, rfl, a, _, 2, _, rfl, rfl, SqL.of h1, rfl, .inl ⟨_, rfl, _, rfl, _, _, rfl, rfl, m0, ?_⟩⟩
        refine ⟨_, rfl, a, _, 2, _, rfl, rfl, SqL.of h1, rfl, _, rfl, _, _, rfl, rfl, ⟨m0, by omega⟩, ?_⟩
        refine ⟨_, rfl, a, _, 2, 2, rfl, rfl, h1, rfl, ?_⟩
        exact ⟨_, rfl, q _ _ (ExB.mut x1) ⟨cells, _, _, _, _, upd_same, k2 _, ne, pos, i0, Int.ediv_nonneg b0 (by omega), lc⟩ (Int.emod_nonneg _ (by omega)) (Int.emod_lt_of_pos _ m0)⟩
      · refine ⟨_, rfl, a, _, 2, _, rfl, rfl, SqL.of h1, rfl, _, _, rfl, rfl, false, blF hb, iteF ?_⟩
        refine ⟨_, rfl, a, _, 4, _, rfl, rfl, SqL.of h1, rfl, _, _, rfl, rfl, ?_⟩
        refine ⟨_, rfl, a, _, 4, 4, rfl, rfl, h1, rfl, ?_⟩
        refine ⟨_, rfl, a, _, 3, _, rfl, rfl, SqL.of upd_same, rfl, _, rfl, a, _, 4, _, rfl, rfl, SqL.of upd_same, rfl, _, _, rfl, rfl, .inl ⟨by decide, by decide⟩, _, _, rfl, rfl, .inl ⟨_, rfl, _, _, rfl, rfl, .inr ⟨by decide, by decide⟩, .inl ⟨_, rfl, _, _, rfl, rfl, (by decide : (0 : Int) < 2147483647), ?_⟩⟩⟩
        have e1 := Int.emod_nonneg ((h + 7919 * (m + 1)) * 48271) (by decide : (2147483647 : Int) ≠ 0)
        have e2 := Int.emod_lt_of_pos ((h + 7919 * (m + 1)) * 48271) (by decide : (0 : Int) < 2147483647)
        generalize (h + 7919 * (m + 1)) * 48271 % 2147483647 = n1 at e1 e2 ⊢
        refine ⟨_, rfl, _, rfl, _, _, rfl, rfl, ⟨by decide, by decide⟩, _, _, rfl, rfl, _, _, rfl, rfl, .inl ⟨by omega, by omega⟩, .inl ⟨_, rfl, _, _, rfl, rfl, (by decide : (0 : Int) < 2147483647), ?_⟩⟩
        have e3 := Int.emod_nonneg (n1 * (n1 / 1009 + 69621)) (by decide : (2147483647 : Int) ≠ 0)
        have e4 := Int.emod_lt_of_pos (n1 * (n1 / 1009 + 69621)) (by decide : (0 : Int) < 2147483647)
        generalize n1 * (n1 / 1009 + 69621) % 2147483647 = n2 at e3 e4 ⊢
        refine ⟨_, rfl, _, rfl, _, _, rfl, rfl, ⟨by decide, by decide⟩, _, _, rfl, rfl, _, _, rfl, rfl, .inl ⟨by omega, by omega⟩, .inl ⟨_, rfl, _, _, rfl, rfl, (by decide : (0 : Int) < 2147483399), ?_⟩⟩
        generalize n2 * (n2 / 2003 + 40692) % 2147483399 = n3
        refine ⟨_, rfl, _, _, rfl, rfl, ⟨by decide, by decide⟩, .inl ⟨_, rfl, _, rfl, _, _, rfl, rfl, m0, ?_⟩⟩
        exact q _ _ (ExB.mut x1) ⟨cells, _, _, _, _, upd_same, k2 _, ne, pos, i0, b0, lc⟩ (Int.emod_nonneg _ (by omega)) (Int.emod_lt_of_pos _ m0)
/-- _law_any: of a list -/
def spAny (K : PySem.W.Frag) : Sp := fun vs H Q _ => ∃ (a c b : Addr) (xs : List V), vs = [.ref a, .ref b] ∧ Hnd H a c ∧ H b = some (.lst xs) ∧ 0 < xs.length ∧ xs.length < 1000000 ∧ b ≠ a ∧ ∀ H' x, ExB a H H' → Hnd H' a c → x ∈ xs → Q x H'
theorem c_any (T : Txt K mg CP CF) : C8.Cal P w K mg base 2 "_law_any" (spAny K) [] := by
  refine mkc (N := ["_law_hand_here", "_law_things"]) T.d_law_any (by decide +kernel) (fun vs H Q E h => ?_) (fun f cdv A outer s H vs Q E hr h => ?_)
  · obtain ⟨a, c, b, xs, rfl, _⟩ := h; rfl
  · obtain ⟨a, c, b, xs, rfl, hH, hb, l0, l1, ne, q⟩ := h
    refine ⟨_, pss_one (ps_ret (pe_ix ix_list (pv 1) (C8.pe_c (c_draw T) hr (by decide) (by rfl) (pa_cons (pv 0) (pa_cons (pe_callB call_len_seq (by rfl) T.z_len bo_len (pa_cons (pv 1) pa_nil)) pa_nil))) (fun _ _ => rfl))), ?_⟩
    refine ⟨_, rfl, _, rfl, _, rfl, b, xs, rfl, .inl (SqL.of hb), a, c, _, rfl, hH, by omega, by omega, fun H1 d x1 hH1 d0 d1 => ?_⟩
    obtain ⟨j, rfl⟩ : ∃ j : Nat, d = j := ⟨d.toNat, by omega⟩
    have hj : j < xs.length := by omega
    exact ⟨b, xs, _, xs[j], rfl, rfl, SqL.of (x1 _ _ ne hb), at_of rfl (List.getElem?_eq_getElem hj), q _ _ x1 hH1 (List.getElem_mem hj)⟩
end
end Kn
set_option Elab.async false
set_option linter.all false
set_option maxRecDepth 100000
set_option maxHeartbeats 4000000
set_option pp.maxSteps 300
/-! The pool of names. -/
namespace Kn
open PySem PySem.Spec PyProof.Rows L2 KM
/-- the k-th name of a pool -/
def polN (f : Str) (k : Nat) : Str := (f ++ sg (k % 26)) ++ (if 25 < k then sg (k / 26 - 1) else "")
theorem app_list (a b : Str) : (a ++ b).cps.toList = a.cps.toList ++ b.cps.toList := by
  show (a.cps ++ b.cps).toList = _
  rw [Array.toList_append]
theorem app_len (a b : Str) : (a ++ b).length = a.length + b.length := by
  show (a.cps ++ b.cps).size = _
  rw [Array.size_append]; rfl
theorem polN_inj {f : Str} {j k : Nat} (hj : j < 702) (hk : k < 702) (e : polN f j = polN f k) : j = k := by
  have e1 := congrArg (fun z : Str => z.cps.toList) e
  simp only [polN, app_list, List.append_assoc] at e1
  have e2 := List.append_cancel_left e1
  have z : ("" : Str).cps.toList = [] := rfl
  by_cases a : 25 < j
  · by_cases b : 25 < k
    · rw [if_pos a, if_pos b] at e2
      have : (97 + j % 26 = 97 + k % 26) ∧ 97 + (j / 26 - 1) = 97 + (k / 26 - 1) := by simpa [sg] using e2
      omega
    · rw [if_pos a, if_neg b, z] at e2
      simp [sg] at e2
  · by_cases b : 25 < k
    · rw [if_neg a, if_pos b, z] at e2
      simp [sg] at e2
    · rw [if_neg a, if_neg b, z] at e2
      have : (97 + j % 26 = 97 + k % 26) := by simpa [sg] using e2
      omega
def fsts : List Str := ["", "", "q", "zy"]
theorem fst_len {f : Str} (h : f ∈ fsts) : f.length ≤ 2 := by
  have : ∀ f ∈ fsts, f.length ≤ 2 := by decide +kernel
  exact this f h
theorem fst_ok {f : Str} (h : f ∈ fsts) : ∀ c ∈ f.cps.toList, 97 ≤ c ∧ c ≤ 122 := by
  have : ∀ f ∈ fsts, ∀ c ∈ f.cps.toList, 97 ≤ c ∧ c ≤ 122 := by decide +kernel
  exact this f h
theorem polN_len {f : Str} (h : f ∈ fsts) (k : Nat) : (polN f k).length ≤ 4 := by
  unfold polN
  rw [app_len, app_len]
  have h1 := fst_len h
  have h2 : (sg (k % 26)).length = 1 := rfl
  have h3 : (if 25 < k then sg (k / 26 - 1) else "").length ≤ 1 := by
    split
    · exact Nat.le_refl 1
    · exact Nat.zero_le 1
  omega
/-- a name as the trees have them -/
def PoolNm (z : Str) : Prop := z.length ≤ 3 ∧ NmOk z
theorem polN_ok {f : Str} (h : f ∈ fsts) {k : Nat} (hk : k < 26) : PoolNm (polN f k) := by
  have e : polN f k = (f ++ sg (k % 26)) ++ "" := by unfold polN; rw [if_neg (by omega)]
  have l1 := fst_len h
  have l2 : (polN f k).length = f.length + 1 := by rw [e, app_len, app_len]; rfl
  refine ⟨by omega, by omega, by omega, fun c hc => ?_⟩
  rw [e, app_list, app_list] at hc
  have z : ("" : Str).cps.toList = [] := rfl
  rw [z, List.append_nil] at hc
  rcases List.mem_append.mp hc with m | m
  · exact fst_ok h c m
  · have : c = 97 + k % 26 := by simpa [sg] using m
    omega
theorem mulOk1 (z : Str) (b : Bool) : MulOk z (if b = true then 1 else 0) := by
  cases b with
  | false =>
    refine ⟨by decide, fun h => absurd (by decide) h, fun h => absurd (by decide) h⟩
  | true =>
    refine ⟨by decide, fun _ h => ?_, fun _ h => ?_⟩ <;> simp at h
theorem mul1 (z : Str) (b : Bool) : Txt.mul z (if b = true then 1 else 0) = if b = true then z else "" := by
  cases b <;> rfl
section
variable {P : Program} {w : World} {K : PySem.W.Frag} {mg : Str → Option Value} {base : Heap} {CP CF : Addr}
def spPool : Sp := fun vs H Q _ => ∃ (a c : Addr) (n : Nat), vs = [.ref a, .int (n : Int)] ∧ Hnd H a c ∧ n ≤ 702 ∧ ∀ H' p f, ExB a H H' → Hnd H' a c → H p = none → f ∈ fsts → H' p = some (.lst (((List.range n).map (polN f)).map V.str)) → Q (.ref p) H'
theorem c_pool (T : Txt K mg CP CF) : C8.Cal P w K mg base 3 "_law_pool" spPool [] := by
  refine mkc (N := ["_law_hand_here", "_law_many", "_law_letters", "_law_first", "_law_k"]) T.d_law_pool (by decide +kernel) (fun vs H Q E h => ?_) (fun f cdv A outer s H vs Q E hr h => ?_)
  · obtain ⟨a, c0, n, rfl, _⟩ := h; rfl
  · obtain ⟨a, c0, n, rfl, hH, hn, q⟩ := h
    have nd : (["_law_hand_here", "_law_many", "_law_letters", "_law_first", "_law_k"] : List Str).Nodup := by decide +kernel
    refine ⟨_, pss_cons (ps_set (i := 2) nd rfl (Or.inr rfl) pe_str)
      (pss_cons (ps_set (i := 3) nd rfl (Or.inr rfl) (C8.pe_c (c_any T) hr (by decide) (by rfl) (pa_cons (pv 0) (pa_cons (pe_lst (pa_cons pe_str (pa_cons pe_str (pa_cons pe_str (pa_cons pe_str pa_nil))))) pa_nil))))
      (pss_one (ps_ret (pe_lc (own := [("_law_k", 4)]) (g := gName 4) (by rfl) nd (pi_range1 (by rfl) T.z_range (pa_cons (pv 1) pa_nil))
        (blkOk_by (own := [("_law_k", 4)]) (N := ["_law_hand_here", "_law_many", "_law_letters", "_law_first", "_law_k"]) (sc := C8.fnScope (topS 54)) (by decide +kernel)) (fun _ _ _ _ _ => pg_name (i := 4) nd rfl (Or.inl rfl)) (fun _ _ _ _ _ => pts_nil)
        (fun _ _ _ _ _ => pe_op op_add_str (pe_op op_add_str (pv 3) (pe_ix ix_str (pv 2) (pe_op op_mod (pv 4) pe_int) (fun _ _ => rfl)))
          (pe_op op_mulStr (pe_ix ix_str (pv 2) (pe_op op_sub (pe_op op_fdiv (pv 4) pe_int) pe_int) (fun _ _ => rfl)) (pe_callTy call_int1 (by rfl) T.z_int bo_int (pa_cons (pe_cmpR op_gt (pv 4) pe_int (nomark _)) pa_nil)))))))), ?_⟩
    refine ⟨_, rfl, (by show 4 ≤ sizeLine; decide), fun l hl => ?_⟩
    have s1 := sn hl (o := .lst [V.str "", V.str "", V.str "q", V.str "zy"])
    refine ⟨a, c0, l, _, rfl, hH.st s1, upd_same, (by show 0 < 4; decide), (by show 4 < 1000000; decide), fun z => ?_, fun H1 x x1 hH1 hx => ?_⟩
    · exact (hH.ne hl).1 z.symm
    obtain ⟨f, hf, rfl⟩ : ∃ f ∈ fsts, x = V.str f := by
      have : x ∈ fsts.map V.str := hx
      obtain ⟨f, hf, e⟩ := List.mem_map.mp this
      exact ⟨f, hf, e.symm⟩
    have x2 : ExB a H H1 := (ExB.of s1).trans x1
    refine ⟨_, rfl, _, rfl, by omega, by omega, fun D hD => ?_⟩
    have en : ((n : Int)).toNat = n := by omega
    rw [en]
    refine lc_all (walk_range (lo := 0) (n := n)) (bs := List.range n) (by simp) (by omega) hD (fun k => polN f k) (fun _ v c => v = V.str c) (fun _ h => h) (fun _ _ => trivial) (fun i b x H2 H3 e s2 y Ny k => ?_) mg_name (fun H2 ys s2 hy pr => ?_)
    · obtain ⟨rfl, rfl⟩ := y
      have hb : b = i ∧ i < n := by
        obtain ⟨h1, h2⟩ := List.getElem?_eq_some_iff.mp e
        rw [List.getElem_range] at h2
        rw [List.length_range] at h1
        exact ⟨h2.symm, h1⟩
      obtain ⟨rfl, hi⟩ := hb
      have e0 : (0 : Int) + (b : Nat) = (b : Int) := by omega
      refine ⟨rfl, _, rfl, _, rfl, _, rfl, _, _, rfl, rfl, (by decide : (0 : Int) < 26), ?_⟩
      rw [e0]
      refine ⟨_, _, (97 + b % 26), rfl, rfl, by decide, at_let b, _, _, rfl, rfl, ?_, ?_⟩
      · have := fst_len hf
        have h1 : (⟨#[97 + b % 26]⟩ : Str).length = 1 := rfl
        rw [h1]
        exact sz (by omega)
      obtain ⟨c, hc⟩ : ∃ c, atI ("abcdefghijklmnopqrstuvwxyz" : Str).cps.toList ((b : Int) / 26 - 1) = some c ∧ (25 < b → c = 97 + (b / 26 - 1)) := by
        by_cases h : 25 < b
        · refine ⟨97 + (b / 26 - 1), ?_, fun _ => rfl⟩
          rw [show (b : Int) / 26 - 1 = ((b / 26 - 1 : Nat) : Int) by omega]
          exact atI_nat (at_letter (by omega))
        · refine ⟨122, ?_, fun z => absurd z h⟩
          rw [show (b : Int) / 26 - 1 = -1 by omega]
          decide +kernel
      refine ⟨_, rfl, _, rfl, _, _, rfl, rfl, ⟨by decide, by decide⟩, _, _, rfl, rfl, _, _, c, rfl, rfl, by decide, (by rw [e0]; exact hc.1), ?_⟩
      refine ⟨_, rfl, _, _, rfl, rfl, .inr ⟨_, rfl, ?_⟩⟩
      refine ⟨_, _, rfl, rfl, mulOk1 _ _, _, _, rfl, rfl, ?_, ?_⟩
      · rw [mul1, app_len]
        have := fst_len hf
        have h1 : (⟨#[97 + b % 26]⟩ : Str).length = 1 := rfl
        have h2 : ∀ q : Bool, (if q = true then (⟨#[c]⟩ : Str) else "").length ≤ 1 := fun q => by
          cases q
          · exact Nat.zero_le 1
          · exact Nat.le_refl 1
        rw [h1]
        exact sz (Nat.le_trans (Nat.add_le_add_left (h2 _) _) (by omega))
      · refine k _ _ (Same.refl _) ?_
        rw [mul1, e0]
        unfold polN
        by_cases h : 25 < b
        · rw [if_pos (decide_eq_true (by omega)), if_pos h, hc.2 h]; rfl
        · rw [if_neg (by simp; omega), if_neg h]; rfl
    · have ey := peq pr
      have s3 := (ExB.of s2 : ExB a H1 H2)
      have nD : H D = none := by
        cases hh : H D with
        | none => rfl
        | some o =>
          have : D ≠ a := fun z => (hH1.ne hD).1 z.symm
          rw [x2 _ _ this hh] at hD
          cases hD
      refine q _ D f (x2.trans s3) (hH1.st s2) nD hf ?_
      rw [hy, ey, List.map_map]; try rfl
end
end Kn
set_option Elab.async false
set_option linter.all false
set_option maxRecDepth 100000
set_option maxHeartbeats 4000000
set_option pp.maxSteps 300
/-! Sketches fed and poured: mathematics. -/
namespace Kn
open PySem PySem.Spec PyProof.Rows L2 KM
/-- each count less t, what's left of them -/
def pourP (cs : List (Str × Int)) (t : Int) : List (Str × Int) := (cs.filter fun p => decide (t < p.2)).map fun p => (p.1, p.2 - t)
theorem pour_cons (p : Str × Int) (r : List (Str × Int)) (t : Int) : pourP (p :: r) t = (if t < p.2 then [(p.1, p.2 - t)] else []) ++ pourP r t := by
  unfold pourP
  by_cases h : t < p.2
  · rw [if_pos h, List.filter_cons_of_pos (by simp [h])]; rfl
  · rw [if_neg h, List.filter_cons_of_neg (by simp [h])]; rfl
theorem pour_mem {cs : List (Str × Int)} {t : Int} {q : Str × Int} (h : q ∈ pourP cs t) : ∃ p ∈ cs, q = (p.1, p.2 - t) ∧ t < p.2 := by
  obtain ⟨p, hp, e⟩ := List.mem_map.mp h
  obtain ⟨h1, h2⟩ := List.mem_filter.mp hp
  exact ⟨p, h1, e.symm, of_decide_eq_true h2⟩
theorem pour_nms {cs : List (Str × Int)} {t : Int} : nms (pourP cs t) = nms (cs.filter fun p => decide (t < p.2)) := by
  unfold nms pourP
  rw [List.map_map]; rfl
theorem pour_cnt {t : Int} (h0 : 0 ≤ t) (m : Str) : ∀ {cs : List (Str × Int)}, (nms cs).Nodup → KM.cnt (pourP cs t) m = if t < KM.cnt cs m then KM.cnt cs m - t else 0
  | [], _ => by
    show (0 : Int) = if t < 0 then 0 - t else 0
    rw [if_neg (by omega)]
  | p :: r, nd => by
    have nd' : (p.1 :: nms r).Nodup := nd
    obtain ⟨n1, n2⟩ := List.nodup_cons.mp nd'
    rw [pour_cons, KM.cnt_cons]
    by_cases e : p.1 = m
    · rw [if_pos e]
      by_cases h : t < p.2
      · rw [if_pos h, if_pos h, List.singleton_append, KM.cnt_cons, if_pos e]
      · rw [if_neg h, if_neg h, List.nil_append, pour_cnt h0 m n2, cnt_no (by rw [← e]; exact n1), if_neg (by omega)]
    · rw [if_neg e]
      by_cases h : t < p.2
      · rw [if_pos h, List.singleton_append, KM.cnt_cons, if_neg e]
        exact pour_cnt h0 m n2
      · rw [if_neg h, List.nil_append]
        exact pour_cnt h0 m n2
theorem pour_tot (t : Int) : ∀ cs : List (Str × Int), tot (pourP cs t) = tot cs - (cs.map fun p => min p.2 t).sum
  | [] => rfl
  | p :: r => by
    rw [pour_cons, tot_app, pour_tot t r, tot_cons, List.map_cons, List.sum_cons]
    by_cases h : t < p.2
    · rw [if_pos h]
      show (p.2 - t + 0) + _ = _
      omega
    · rw [if_neg h]
      show (0 : Int) + _ = _
      omega
theorem min_hi {t : Int} : ∀ cs : List (Str × Int), (cs.map fun p => min p.2 t).sum ≤ cs.length * t
  | [] => by simp
  | p :: r => by
    rw [List.map_cons, List.sum_cons, List.length_cons]
    have := min_hi (t := t) r
    have e : ((r.length + 1 : Nat) : Int) * t = r.length * t + t := by rw [Int.natCast_add, Int.add_mul]; simp
    rw [e]
    omega
theorem min_lo {t : Int} (h0 : 0 ≤ t) : ∀ {cs : List (Str × Int)}, (∀ p ∈ cs, 0 ≤ p.2) → ((cs.filter fun p => decide (t ≤ p.2)).length : Int) * t ≤ (cs.map fun p => min p.2 t).sum
  | [], _ => by simp
  | p :: r, h => by
    rw [List.map_cons, List.sum_cons]
    have ih := min_lo h0 (cs := r) fun q hq => h q (List.mem_cons_of_mem _ hq)
    have hp := h p List.mem_cons_self
    by_cases q : t ≤ p.2
    · rw [List.filter_cons_of_pos (by simp [q]), List.length_cons]
      have e : (((r.filter fun p => decide (t ≤ p.2)).length + 1 : Nat) : Int) * t = (r.filter fun p => decide (t ≤ p.2)).length * t + t := by rw [Int.natCast_add, Int.add_mul]; simp
      rw [e]
      omega
    · rw [List.filter_cons_of_neg (by simp [q])]
      omega
/-- in a rising list, few are below the k-th, and many are not above it -/
theorem few_lt {L : List Int} {k : Nat} (h : L.Pairwise (· ≤ ·)) (hk : k < L.length) : (L.filter fun x => decide (x < L[k])).length ≤ k := by
  have e : L = L.take k ++ L.drop k := (List.take_append_drop k L).symm
  have hd : (L.drop k).filter (fun x => decide (x < L[k])) = [] := by
    rw [List.filter_eq_nil_iff]
    intro x hx z
    have z1 := of_decide_eq_true z
    obtain ⟨i, hi⟩ := List.mem_iff_getElem?.mp hx
    rw [List.getElem?_drop] at hi
    obtain ⟨hi1, hi2⟩ := List.getElem?_eq_some_iff.mp hi
    by_cases e0 : i = 0
    · subst e0
      simp only [Nat.add_zero] at hi2
      omega
    · have := List.pairwise_iff_getElem.mp h k (k + i) hk hi1 (by omega)
      omega
  have e2 : (L.filter fun x => decide (x < L[k])) = (L.take k).filter (fun x => decide (x < L[k])) ++ (L.drop k).filter (fun x => decide (x < L[k])) := by
    rw [← List.filter_append, List.take_append_drop]
  rw [e2, hd, List.append_nil]
  refine Nat.le_trans (List.length_filter_le _ _) ?_
  rw [List.length_take]; omega
theorem many_le {L : List Int} {k : Nat} (h : L.Pairwise (· ≤ ·)) (hk : k < L.length) : k + 1 ≤ (L.filter fun x => decide (x ≤ L[k])).length := by
  have e2 : (L.filter fun x => decide (x ≤ L[k])) = (L.take (k + 1)).filter (fun x => decide (x ≤ L[k])) ++ (L.drop (k + 1)).filter (fun x => decide (x ≤ L[k])) := by
    rw [← List.filter_append, List.take_append_drop]
  have ht : (L.take (k + 1)).filter (fun x => decide (x ≤ L[k])) = L.take (k + 1) := by
    rw [List.filter_eq_self]
    intro x hx
    obtain ⟨i, hi⟩ := List.mem_iff_getElem?.mp hx
    rw [List.getElem?_take] at hi
    split at hi
    · rename_i hlt
      obtain ⟨hi1, hi2⟩ := List.getElem?_eq_some_iff.mp hi
      refine decide_eq_true ?_
      by_cases e0 : i = k
      · subst e0; omega
      · have := List.pairwise_iff_getElem.mp h i k hi1 hk (by omega)
        omega
    · cases hi
  rw [e2, ht, List.length_append, List.length_take]
  omega
/-- what the pouring takes of each -/
structure Taken (cs : List (Str × Int)) (r : Nat) (t : Int) : Prop where
  t0 : 0 ≤ t
  few : (cs.filter fun p => decide (t < p.2)).length ≤ r
  many : t = 0 ∨ r + 1 ≤ (cs.filter fun p => decide (t ≤ p.2)).length
theorem taken_of {cs : List (Str × Int)} {L : List Int} {r : Nat} (hp : ∀ p ∈ cs, 0 < p.2) (pm : L.Perm (cs.map fun p => -p.2)) (h : L.Pairwise (· ≤ ·)) (hk : r < L.length) : Taken cs r (-L[r]) := by
  have hm : L[r] ∈ cs.map fun p => -p.2 := pm.mem_iff.mp (List.getElem_mem hk)
  obtain ⟨q, hq, eq⟩ := List.mem_map.mp hm
  have := hp q hq
  refine ⟨by omega, ?_, .inr ?_⟩
  · have := few_lt h hk
    rw [(pm.filter _).length_eq, List.filter_map, List.length_map] at this
    refine Nat.le_trans (Nat.le_of_eq (congrArg List.length (List.filter_congr fun p _ => ?_))) this
    show decide (-L[r] < p.2) = decide (-p.2 < L[r])
    rw [decide_eq_decide]; omega
  · have := many_le h hk
    rw [(pm.filter _).length_eq, List.filter_map, List.length_map] at this
    refine Nat.le_trans this (Nat.le_of_eq (congrArg List.length (List.filter_congr fun p _ => ?_)))
    show decide (-p.2 ≤ L[r]) = decide (-L[r] ≤ p.2)
    rw [decide_eq_decide]; omega
theorem taken_0 {cs : List (Str × Int)} {r : Nat} (h : cs.length ≤ r) : Taken cs r 0 := ⟨Int.le_refl _, Nat.le_trans (List.length_filter_le _ _) h, .inl rfl⟩
theorem Taken.perm {cs ds : List (Str × Int)} {r : Nat} {t : Int} (h : Taken cs r t) (p : ds.Perm cs) : Taken ds r t :=
  ⟨h.t0, by rw [(p.filter _).length_eq]; exact h.few, h.many.imp id fun q => by rw [(p.filter _).length_eq]; exact q⟩

/-- a sketch to which a bag of items leads -/
structure Good (r : Nat) (s : Sk) (bag : List Str) : Prop where
  rm : s.room = (r : Int)
  mn : s.many = (bag.length : Int)
  o0 : 0 ≤ s.off
  asc : (nms s.kept).Pairwise sLt
  pos : ∀ p ∈ s.kept, 0 < p.2
  nm : ∀ p ∈ s.kept, PoolNm p.1
  len : s.kept.length ≤ r
  lo : ((r : Int) + 1) * s.off ≤ lost s
  hi : lost s ≤ 2 * (r : Int) * s.off
  b1 : ∀ n, KM.cnt s.kept n ≤ (bag.count n : Int)
  b2 : ∀ n, (bag.count n : Int) ≤ KM.cnt s.kept n + s.off
def sk0 (r : Nat) : Sk := ⟨(r : Int), 0, 0, []⟩
theorem good_0 (r : Nat) : Good r (sk0 r) [] := by
  refine ⟨rfl, rfl, Int.le_refl _, .nil, (fun p hp => nomatch hp), (fun p hp => nomatch hp), Nat.zero_le _, ?_, ?_, fun n => ?_, fun n => ?_⟩
  · show ((r : Int) + 1) * 0 ≤ 0 - 0
    omega
  · show (0 : Int) - 0 ≤ 2 * (r : Int) * 0
    omega
  · exact Int.le_refl _
  · exact Int.le_refl _
theorem Good.ok {r : Nat} {s : Sk} {bag : List Str} (g : Good r s bag) (r1 : 1 ≤ r) (r2 : r ≤ 16) (l : bag.length ≤ 1500) : SkOk s := by
  have e := g.rm
  have m := g.mn
  have hl := g.len
  refine ⟨by omega, by omega, by omega, by omega, g.o0, ⟨g.asc, g.pos, fun p hp => (g.nm p hp).2⟩, by omega, ?_, ?_⟩
  · rw [e]; exact g.lo
  · rw [e]; exact g.hi
theorem count_snoc (bag : List Str) (x n : Str) : ((bag ++ [x]).count n : Int) = bag.count n + if n = x then 1 else 0 := by
  rw [List.count_append, List.count_singleton]
  by_cases h : n = x
  · rw [if_pos h, h]; simp
  · rw [if_neg h]
    have : (x == n) = false := by simp [Ne.symm h]
    simp [this]
theorem good_fedA {r : Nat} {s : Sk} {bag : List Str} {x : Str} {ds : List (Str × Int)} (g : Good r s bag) (hx : PoolNm x) (h : x ∈ nms s.kept ∨ s.kept.length < r) (pm : ds.Perm (putC s.kept x (KM.cnt s.kept x + 1))) (as : Asc encP ds) :
    Good r ⟨s.room, s.many + 1, s.off, ds⟩ (bag ++ [x]) := by
  have nd := asc_nd g.asc
  have nd2 := nd_put (x := x) (v := KM.cnt s.kept x + 1) nd
  have ndd : (nms ds).Nodup := (show (nms ds).Perm _ from pm.map _).nodup_iff.mpr nd2
  have cv : ∀ n, KM.cnt ds n = KM.cnt s.kept n + if n = x then 1 else 0 := fun n => by
    rw [cnt_perm nd2 pm, cnt_put]
    by_cases e : n = x
    · rw [if_pos e, if_pos e, e]
    · rw [if_neg e, if_neg e, Int.add_zero]
  have tv : tot ds = tot s.kept + 1 := by
    have e1 : tot ds = tot (putC s.kept x (KM.cnt s.kept x + 1)) := by
      rw [← tot_over ndd ndd fun n h => h, ← tot_over nd2 ndd fun n h => ((show (nms ds).Perm _ from pm.map _).mem_iff).mpr h]
      exact sum_congr fun n _ => cnt_perm nd2 pm n
    rw [e1, tot_put nd]
    omega
  have c0 : 0 ≤ KM.cnt s.kept x := cnt_nonneg (fun p hp => Int.le_of_lt (g.pos p hp)) x
  have pm' : ∀ p ∈ ds, p.1 ∈ nms s.kept ∨ p.1 = x := fun p hp => by
    have := mem_nms (pm.mem_iff.mp hp)
    rcases mem_put.mp this with q | q
    · exact .inr q
    · exact .inl q
  refine ⟨g.rm, ?_, g.o0, asc_nms as ndd, fun p hp => ?_, fun p hp => ?_, ?_, ?_, ?_, fun n => ?_, fun n => ?_⟩
  · have := g.mn
    rw [List.length_append]
    show s.many + 1 = ((bag.length + 1 : Nat) : Int)
    omega
  · have e := cnt_mem ndd hp
    rw [cv] at e
    rcases pm' p hp with q | q
    · have := cnt_pos g.pos q
      split at e <;> omega
    · rw [q, if_pos rfl] at e
      omega
  · rcases pm' p hp with q | q
    · obtain ⟨v, hv⟩ := nms_mem q
      exact g.nm (p.1, v) hv
    · rw [q]; exact hx
  · show ds.length ≤ r
    rw [pm.length_eq]
    rcases h with h | h
    · unfold putC
      rw [if_pos h, List.length_map]; exact g.len
    · have := len_put s.kept x (KM.cnt s.kept x + 1)
      omega
  · show ((r : Int) + 1) * s.off ≤ s.many + 1 - tot ds
    have := g.lo
    unfold lost at this
    omega
  · show s.many + 1 - tot ds ≤ 2 * (r : Int) * s.off
    have := g.hi
    unfold lost at this
    omega
  · rw [count_snoc]
    show KM.cnt ds n ≤ _
    have := g.b1 n
    rw [cv]; omega
  · rw [count_snoc]
    show _ ≤ KM.cnt ds n + s.off
    have := g.b2 n
    rw [cv]; omega
theorem pour_good_len {cs : List (Str × Int)} {t : Int} : (pourP cs t).length = (cs.filter fun p => decide (t < p.2)).length := by unfold pourP; rw [List.length_map]
theorem good_fedB {r : Nat} {s : Sk} {bag : List Str} {x : Str} (r1 : 1 ≤ r) (g : Good r s bag) (h1 : x ∉ nms s.kept) (h2 : ¬ s.kept.length < r) : Good r ⟨s.room, s.many + 1, s.off + 1, pourP s.kept 1⟩ (bag ++ [x]) := by
  have nd := asc_nd g.asc
  have er : s.kept.length = r := by have := g.len; omega
  have tv : tot (pourP s.kept 1) = tot s.kept - r := by
    rw [pour_tot]
    have e : ∀ l : List (Str × Int), (∀ p ∈ l, 0 < p.2) → (l.map fun p => min p.2 1).sum = l.length := by
      intro l
      induction l with
      | nil => intro _; rfl
      | cons p l ih =>
        intro hl
        rw [List.map_cons, List.sum_cons, ih fun q hq => hl q (List.mem_cons_of_mem _ hq), List.length_cons]
        have := hl p List.mem_cons_self
        omega
    rw [e _ g.pos, er]
  refine ⟨g.rm, ?_, ?_, ?_, fun p hp => ?_, fun p hp => ?_, ?_, ?_, ?_, fun n => ?_, fun n => ?_⟩
  · have := g.mn
    rw [List.length_append]
    show s.many + 1 = ((bag.length + 1 : Nat) : Int)
    omega
  · have := g.o0
    show 0 ≤ s.off + 1
    omega
  · show (nms (pourP s.kept 1)).Pairwise sLt
    rw [pour_nms]
    have a := g.asc
    unfold nms at a ⊢
    rw [List.pairwise_map] at a ⊢
    exact a.filter _
  · obtain ⟨q, hq, e, h⟩ := pour_mem hp
    rw [e]
    show 0 < q.2 - 1
    omega
  · obtain ⟨q, hq, e, h⟩ := pour_mem hp
    rw [e]
    exact g.nm q hq
  · show (pourP s.kept 1).length ≤ r
    rw [pour_good_len]
    exact Nat.le_trans (List.length_filter_le _ _) g.len
  · show ((r : Int) + 1) * (s.off + 1) ≤ s.many + 1 - tot (pourP s.kept 1)
    have := g.lo
    unfold lost at this
    rw [Int.mul_add, tv]
    omega
  · show s.many + 1 - tot (pourP s.kept 1) ≤ 2 * (r : Int) * (s.off + 1)
    have := g.hi
    have := g.lo
    unfold lost at *
    rw [Int.mul_add, tv]
    omega
  · rw [count_snoc]
    show KM.cnt (pourP s.kept 1) n ≤ _
    have := g.b1 n
    have c0 : 0 ≤ KM.cnt s.kept n := cnt_nonneg (fun p hp => Int.le_of_lt (g.pos p hp)) n
    rw [pour_cnt (by decide) n nd]
    split <;> split <;> omega
  · rw [count_snoc]
    show _ ≤ KM.cnt (pourP s.kept 1) n + (s.off + 1)
    have := g.b2 n
    have c0 : 0 ≤ KM.cnt s.kept n := cnt_nonneg (fun p hp => Int.le_of_lt (g.pos p hp)) n
    rw [pour_cnt (by decide) n nd]
    by_cases e : n = x
    · rw [if_pos e]
      rw [e, cnt_no h1] at this ⊢
      rw [if_neg (by omega)]
      omega
    · rw [if_neg e]
      split <;> omega
/-- two sketches poured together: cs are their counts together -/
theorem good_pour {r : Nat} {s u : Sk} {bag bag' : List Str} {cs : List (Str × Int)} {t : Int} (g : Good r s bag) (g' : Good r u bag') (asc : (nms cs).Pairwise sLt) (val : ∀ n, KM.cnt cs n = KM.cnt s.kept n + KM.cnt u.kept n)
    (sub : ∀ n, n ∈ nms cs ↔ n ∈ nms s.kept ∨ n ∈ nms u.kept) (len : cs.length ≤ s.kept.length + u.kept.length) (T : Taken cs r t) : Good r ⟨s.room, s.many + u.many, s.off + u.off + t, pourP cs t⟩ (bag ++ bag') := by
  have nd := asc_nd asc
  have p1 : ∀ n, 0 ≤ KM.cnt s.kept n := fun n => cnt_nonneg (fun p hp => Int.le_of_lt (g.pos p hp)) n
  have p2 : ∀ n, 0 ≤ KM.cnt u.kept n := fun n => cnt_nonneg (fun p hp => Int.le_of_lt (g'.pos p hp)) n
  have t0 := T.t0
  have nn : ∀ p ∈ cs, 0 ≤ p.2 := fun p hp => by
    rw [← cnt_mem nd hp, val]
    have := p1 p.1
    have := p2 p.1
    omega
  have tc : tot cs = tot s.kept + tot u.kept := by
    rw [← tot_over nd nd fun n h => h, ← tot_over (asc_nd g.asc) nd fun n h => (sub n).mpr (.inl h), ← tot_over (asc_nd g'.asc) nd fun n h => (sub n).mpr (.inr h), ← sum_add]
    exact sum_congr fun n _ => val n
  have hm := min_hi (t := t) cs
  have lm := min_lo t0 nn
  have e := pour_tot t cs
  have l1 := g.len
  have l2 := g'.len
  have h1 : (cs.length : Int) * t ≤ 2 * (r : Int) * t := Int.mul_le_mul_of_nonneg_right (by omega) t0
  have h2 : ((r : Int) + 1) * t ≤ ((cs.filter fun p => decide (t ≤ p.2)).length : Int) * t := by
    rcases T.many with q | q
    · rw [q, Int.mul_zero, Int.mul_zero]; exact Int.le_refl _
    · exact Int.mul_le_mul_of_nonneg_right (by omega) t0
  refine ⟨g.rm, ?_, ?_, ?_, fun p hp => ?_, fun p hp => ?_, ?_, ?_, ?_, fun n => ?_, fun n => ?_⟩
  · have := g.mn
    have := g'.mn
    rw [List.length_append]
    show s.many + u.many = ((bag.length + bag'.length : Nat) : Int)
    omega
  · have := g.o0
    have := g'.o0
    show 0 ≤ s.off + u.off + t
    omega
  · show (nms (pourP cs t)).Pairwise sLt
    rw [pour_nms]
    unfold nms at asc ⊢
    rw [List.pairwise_map] at asc ⊢
    exact asc.filter _
  · obtain ⟨q, hq, e, h⟩ := pour_mem hp
    rw [e]
    show 0 < q.2 - t
    omega
  · obtain ⟨q, hq, e, h⟩ := pour_mem hp
    rw [e]
    show PoolNm q.1
    rcases (sub q.1).mp (mem_nms hq) with z | z
    · obtain ⟨v, hv⟩ := nms_mem z
      exact g.nm (q.1, v) hv
    · obtain ⟨v, hv⟩ := nms_mem z
      exact g'.nm (q.1, v) hv
  · show (pourP cs t).length ≤ r
    rw [pour_good_len]
    exact T.few
  · show ((r : Int) + 1) * (s.off + u.off + t) ≤ s.many + u.many - tot (pourP cs t)
    have := g.lo
    have := g'.lo
    unfold lost at *
    rw [Int.mul_add, Int.mul_add]
    omega
  · show s.many + u.many - tot (pourP cs t) ≤ 2 * (r : Int) * (s.off + u.off + t)
    have := g.hi
    have := g'.hi
    unfold lost at *
    rw [Int.mul_add, Int.mul_add]
    omega
  · rw [List.count_append]
    show KM.cnt (pourP cs t) n ≤ _
    have := g.b1 n
    have := g'.b1 n
    have := p1 n
    have := p2 n
    rw [pour_cnt t0 n nd, val]
    split <;> omega
  · rw [List.count_append]
    show _ ≤ KM.cnt (pourP cs t) n + (s.off + u.off + t)
    have := g.b2 n
    have := g'.b2 n
    have := p1 n
    have := p2 n
    rw [pour_cnt t0 n nd, val]
    split <;> omega
end Kn
set_option Elab.async false
set_option linter.all false
set_option maxRecDepth 100000
set_option maxHeartbeats 4000000
set_option pp.maxSteps 300
/-! Sketches fed and poured: the walk. -/
namespace Kn
open PySem PySem.Spec PyProof.Rows L2 KM
section
variable {P : Program} {w : World} {K : PySem.W.Frag} {mg : Str → Option Value} {base : Heap} {CP CF : Addr}
def spFed : Sp := fun vs H Q _ => ∃ (v : V) (x : Str) (s : Sk) (r : Nat) (bag : List Str), vs = [v, .str x] ∧ SkAt H v s ∧ Good r s bag ∧ PoolNm x ∧ 1 ≤ r ∧ r ≤ 16 ∧ ∀ H' v' s', Same H H' → SkAt H' v' s' → Good r s' (bag ++ [x]) → Q v' H'
theorem c_fed (T : Txt K mg CP CF) : C8.Cal P w K mg base 1 "_law_fed" spFed [] := by
  refine mkc (N := ["_law_sketch_here", "_law_name", "_law_room", "_law_many", "_law_off", "_law_kept", "_law_counts", "_law_left", "_law_other", "_law_count"]) T.d_law_fed (by decide +kernel) (fun vs H Q E h => ?_) (fun f cdv A outer s H vs Q E hr h => ?_)
  · obtain ⟨v, x, sk, r, bag, rfl, _⟩ := h; rfl
  · obtain ⟨v, x, sk, r, bag, rfl, hS, g, hx, r1, r2, q⟩ := h
    have nd : (["_law_sketch_here", "_law_name", "_law_room", "_law_many", "_law_off", "_law_kept", "_law_counts", "_law_left", "_law_other", "_law_count"] : List Str).Nodup := by decide +kernel
    refine ⟨_, pss_cons (ps_asg (pv 0) (pg_tup rfl (pgs_cons (pg_name (i := 2) nd rfl (.inl rfl)) (pgs_cons (pg_name (i := 3) nd rfl (.inl rfl)) (pgs_cons (pg_name (i := 4) nd rfl (.inl rfl)) (pgs_cons (pg_name (i := 5) nd rfl (.inl rfl)) pgs_nil))))))
      (pss_cons (ps_set (i := 6) nd rfl (Or.inl rfl) (pe_callTy (cr_dictT rfl) (by rfl) T.z_dict bo_dict (pa_cons (pv 5) pa_nil)))
      (pss_cons (ps_if (PW.pt (pw_or (pt_cmp (pc_din (u1 hr) (pv 1) (pv 6)) (by rfl)) (pw_or1 (pt_cmpR op_lt (pe_callB call_lenD (by rfl) T.z_len bo_len (pa_cons (pv 6) pa_nil)) (pv 2) (nomark _)))))
        (pss_cons (ps_dput (u1 hr) (pv 6) (pv 1) (pe_op op_add (pe_dget2 (u1 hr) (pv 6) (pv 1) pe_int ⟨by rfl, by rfl, by rfl, by rfl⟩) pe_int) (by rfl))
        (pss_one (ps_ret (pe_tup (pa_cons (pv 2) (pa_cons (pe_op op_add (pv 3) pe_int) (pa_cons (pv 4) (pa_cons (pe_callTy cr_tupF (by rfl) T.z_tuple bo_tuple (pa_cons (pe_callB (cr_srtIt rfl hr.units) (by rfl) T.z_sorted bo_sorted (pa_cons
          (pe_bm0 F.plainAttrs_dict F.slot_dict_items F.type_dict_items mt_itemsK (pv 6)) pa_nil)) pa_nil)) pa_nil)))))))) pss_nil)
      (pss_cons (ps_setLc (i := 7) (own := [("_law_other", 8), ("_law_count", 9)]) (g := gTup K 2 (gCons (gName 8) (gCons (gName 9) gNil))) (by rfl) nd rfl rfl (by rfl) (pi_tup (pv 5))
          (blkOk_by (own := [("_law_other", 8), ("_law_count", 9)]) (N := ["_law_sketch_here", "_law_name", "_law_room", "_law_many", "_law_off", "_law_kept", "_law_counts", "_law_left", "_law_other", "_law_count"]) (sc := C8.fnScope (topS 55)) (by decide +kernel))
          (fun _ _ _ _ _ => pg_tup rfl (pgs_cons (pg_name (i := 8) nd rfl (Or.inl rfl)) (pgs_cons (pg_name (i := 9) nd rfl (Or.inl rfl)) pgs_nil))) (fun _ _ _ _ _ => pts_one (pt_cmpR op_gt (pv 9) pe_int (nomark _)))
          (fun _ _ _ _ _ => pe_tup (pa_cons (pv 8) (pa_cons (pe_op op_sub (pv 9) pe_int) pa_nil))))
      (pss_one (ps_ret (pe_tup (pa_cons (pv 2) (pa_cons (pe_op op_add (pv 3) pe_int) (pa_cons (pe_op op_add (pv 4) pe_int) (pa_cons (pe_callTy cr_tupF (by rfl) T.z_tuple bo_tuple (pa_cons (pv 7) pa_nil)) pa_nil)))))))))), ?_⟩
    obtain ⟨a, w', rfl, ha, kb, ks, rfl, hkb, pk⟩ := id hS
    have ndk := asc_nd g.asc
    have lk : sk.kept.length ≤ 16 := Nat.le_trans g.len r2
    refine ⟨_, rfl, a, _, rfl, SqT.of ha, rfl, _, _, rfl, _, _, rfl, _, _, rfl, _, _, rfl, rfl, ?_⟩
    refine ⟨_, rfl, kb, ks, sk.kept, rfl, hkb, pk, ndk, fun d hd => ?_⟩
    have s1 := sn hd (o := .dK (sk.kept.map kvP))
    have c1 : DC (upd H d (.dK (sk.kept.map kvP))) d sk.kept := upd_same
    refine ⟨_, rfl, _, rfl, d, _, rfl, dget c1, ?_⟩
    rw [val_some]
    have hrm := g.rm
    by_cases hm : x ∈ nms sk.kept ∨ sk.kept.length < r
    · by_cases h1 : x ∈ nms sk.kept <;> first
        | refine ⟨true, blT h1, iteT ?_⟩
        | (refine ⟨false, blF h1, iteF ?_⟩; refine ⟨_, rfl, d, _, rfl, c1, _, rfl, _, _, rfl, rfl, true, blT (by rw [List.length_map]; have := hm.resolve_left h1; omega), iteT ?_⟩)
      all_goals
        refine ⟨_, rfl, d, rfl, .inl ⟨_, .inl c1⟩, _, rfl, _, dget c1, ?_⟩
        rw [val_getD]
        refine ⟨_, _, rfl, rfl, ?_⟩
        refine ⟨_, rfl, _, rfl, d, _, rfl, dput c1 (by omega), ?_⟩
        have s2 : Same H (upd (upd H d (.dK (sk.kept.map kvP))) d (.dK ((putC sk.kept x (KM.cnt sk.kept x + 1)).map kvP))) := by rw [upd_upd]; exact sn hd
        have c2 : DC (upd (upd H d (.dK (sk.kept.map kvP))) d (.dK ((putC sk.kept x (KM.cnt sk.kept x + 1)).map kvP))) d (putC sk.kept x (KM.cnt sk.kept x + 1)) := upd_same
        generalize upd (upd H d (.dK (sk.kept.map kvP))) d (.dK ((putC sk.kept x (KM.cnt sk.kept x + 1)).map kvP)) = H2 at s2 c2 ⊢
        refine ⟨_, rfl, _, rfl, _, _, rfl, rfl, _, rfl, ?_⟩
        refine ⟨_, rfl, .inr (.inr (.inl ⟨rfl, .inl ⟨_, c2⟩⟩)), d, _, rfl, rfl, c2, fun ip hip => ?_⟩
        refine ⟨ip, d, _, rfl, upd_same, sn hip _ _ c2, fun H3 l ys ds s3 pm as py hl => ?_⟩
        refine ⟨l, ys, rfl, SqL.of hl, fun t o on ht => ⟨(by show 4 ≤ sizeLine; decide), fun p hp => ?_⟩⟩
        have s4 : Same H3 (upd (upd H3 t (.frz o (.tup ys))) p (.tup [.int sk.room, .int (sk.many + 1), .int sk.off, .ref t])) := sm (sn ht) ((sn ht).free hp)
        refine q _ (.ref p) ⟨sk.room, sk.many + 1, sk.off, ds⟩ (((s2.trans (sn hip)).trans s3).trans s4) ⟨p, _, rfl, upd_same, t, ys, rfl, ⟨o, on, ?_⟩, py.mono fun _ _ z => z.mono (tx s4)⟩ (good_fedA g hx hm pm as)
        exact sn hp _ _ upd_same
    · have h1 : x ∉ nms sk.kept := fun z => hm (.inl z)
      have h2 : ¬ sk.kept.length < r := fun z => hm (.inr z)
      refine ⟨false, blF h1, iteF ?_⟩
      refine ⟨_, rfl, d, _, rfl, c1, _, rfl, _, _, rfl, rfl, false, blF (by rw [List.length_map]; omega), iteF ?_⟩
      refine ⟨_, rfl, kb, rfl, ⟨_, (hkb.st s1).sq⟩, fun D hD => ?_⟩
      refine lc_pure (walk_tup (K := K) (a := kb) (xs := ks)) (bs := sk.kept) pk.length.symm (by rw [pk.length]; omega) hD (fun p => decide (1 < p.2)) (fun p => (p.1, p.2 - 1)) PairAt (fun e h => h.mono e) (fun H3 s3 => ((hkb.st s1).st s3).sq) (fun i p x' H3 H4 e s3 y Ny Nn k1 k2 => ?_) (fun H3 ys s3 hy pr => ?_)
      · obtain ⟨rfl, hx'⟩ := y
        obtain ⟨p', hp, b', rfl, hb'⟩ := pgetL pk hx'
        have ep : p' = p := Option.some.inj (hp.symm.trans e)
        subst ep
        refine ⟨b', _, rfl, SqT.of (s3 _ _ (s1 _ _ hb')), rfl, _, _, rfl, _, _, rfl, rfl, rfl, ?_⟩
        by_cases h0 : 1 < p'.2
        · refine ⟨_, rfl, _, _, rfl, rfl, true, blT h0, iteT ?_⟩
          exact ⟨_, rfl, _, rfl, _, _, rfl, rfl, (by show 2 ≤ sizeLine; decide), fun t ht => k1 _ _ (sn ht) ⟨t, rfl, upd_same⟩ (decide_eq_true h0)⟩
        · exact ⟨_, rfl, _, _, rfl, rfl, false, blF h0, iteF (k2 _ (Same.refl _) (by simp [h0]))⟩
      · have s4 := s1.trans s3
        refine ⟨_, rfl, _, rfl, _, _, rfl, rfl, _, rfl, _, _, rfl, rfl, _, rfl, D, ys, rfl, SqL.of hy, fun t o on ht => ⟨(by show 4 ≤ sizeLine; decide), fun p hp => ?_⟩⟩
        have s5 : Same H3 (upd (upd H3 t (.frz o (.tup ys))) p (.tup [.int sk.room, .int (sk.many + 1), .int (sk.off + 1), .ref t])) := sm (sn ht) ((sn ht).free hp)
        refine q _ (.ref p) ⟨sk.room, sk.many + 1, sk.off + 1, pourP sk.kept 1⟩ (s4.trans s5) ⟨p, _, rfl, upd_same, t, ys, rfl, ⟨o, on, ?_⟩, pr.mono fun _ _ z => z.mono (tx s5)⟩ (good_fedB r1 g h1 h2)
        exact sn hp _ _ upd_same
def spPour : Sp := fun vs H Q _ => ∃ (v u : V) (s t : Sk) (r : Nat) (bag bag' : List Str), vs = [v, u] ∧ SkAt H v s ∧ SkAt H u t ∧ Good r s bag ∧ Good r t bag' ∧ 1 ≤ r ∧ r ≤ 16 ∧ ∀ H' v' s', Same H H' → SkAt H' v' s' → Good r s' (bag ++ bag') → Q v' H'
theorem c_poured (T : Txt K mg CP CF) : C8.Cal P w K mg base 1 "_law_poured" spPour [] := by
  refine mkc (N := ["_law_one", "_law_other", "_law_counts", "_law_name", "_law_count", "_law_falling", "_law_taken", "_law_left"]) T.d_law_poured (by decide +kernel) (fun vs H Q E h => ?_) (fun f cdv A outer s H vs Q E hr h => ?_)
  · obtain ⟨v, u, sk, tk, r, b1, b2, rfl, _⟩ := h; rfl
  · obtain ⟨v, u, sk, tk, r, bag, bag', rfl, hS, hT, g, g', r1, r2, q⟩ := h
    have nd : (["_law_one", "_law_other", "_law_counts", "_law_name", "_law_count", "_law_falling", "_law_taken", "_law_left"] : List Str).Nodup := by decide +kernel
    refine ⟨_, pss_cons (ps_set (i := 2) nd rfl (Or.inr rfl) (pe_callTy (cr_dictT rfl) (by rfl) T.z_dict bo_dict (pa_cons (pe_ix ix_tup (pv 0) pe_int (fun _ _ => rfl)) pa_nil)))
      (pss_cons (ps_for PassesOwn.never rfl (pi_tup (pe_ix ix_tup (pv 1) pe_int (fun _ _ => rfl))) (pg_tup rfl (pgs_cons (pg_name (i := 3) nd rfl (.inl rfl)) (pgs_cons (pg_name (i := 4) nd rfl (.inl rfl)) pgs_nil)))
        (pss_one (ps_dput (u1 hr) (pv 2) (pv 3) (pe_op op_add (pe_dget2 (u1 hr) (pv 2) (pv 3) pe_int ⟨by rfl, by rfl, by rfl, by rfl⟩) (pv 4)) (by rfl))))
      (pss_cons (ps_set (i := 5) nd rfl (Or.inl rfl) (pe_callB cr_sortedI (by rfl) T.z_sorted bo_sorted (pa_cons (pe_lock (pe_lc (own := [("_law_count", 4)]) (g := gName 4) (by rfl) nd (pi_values (pv 2))
          (blkOk_by (own := [("_law_count", 4)]) (N := ["_law_one", "_law_other", "_law_counts", "_law_name", "_law_count", "_law_falling", "_law_taken", "_law_left"]) (sc := C8.fnScope (topS 56)) (by decide +kernel))
          (fun _ _ _ _ _ => pg_name (i := 4) nd rfl (Or.inl rfl)) (fun _ _ _ _ _ => pts_nil) (fun _ _ _ _ _ => pe_un un_neg (pv 4)))) pa_nil)))
      (C8.pss_cut (ps_set (i := 6) nd rfl (Or.inr rfl) (pe_ifExp (pt_cmpR op_gt (pe_callB call_len_seq (by rfl) T.z_len bo_len (pa_cons (pv 5) pa_nil)) (pe_ix ix_tup (pv 0) pe_int (fun _ _ => rfl)) (nomark _)) (pe_un un_neg (pe_ix ix_list (pv 5) (pe_ix ix_tup (pv 0) pe_int (fun _ _ => rfl)) (fun _ _ => rfl))) pe_int))
      (pss_cons (ps_setLc (i := 7) (own := [("_law_name", 3)]) (g := gName 3) (by rfl) nd rfl rfl (by rfl) (pi_list (pe_callB (cr_srtD rfl hr.units) (by rfl) T.z_sorted bo_sorted (pa_cons (pv 2) pa_nil)))
          (blkOk_by (own := [("_law_name", 3)]) (N := ["_law_one", "_law_other", "_law_counts", "_law_name", "_law_count", "_law_falling", "_law_taken", "_law_left"]) (sc := C8.fnScope (topS 56)) (by decide +kernel))
          (fun _ _ _ _ _ => pg_name (i := 3) nd rfl (Or.inl rfl)) (fun _ _ _ _ _ => pts_one (pt_cmpR op_gt (pe_dget (u1 hr) (pv 2) (pv 3) (fun _ _ => rfl)) (pv 6) (nomark _)))
          (fun _ _ _ _ _ => pe_tup (pa_cons (pv 3) (pa_cons (pe_op op_sub (pe_dget (u1 hr) (pv 2) (pv 3) (fun _ _ => rfl)) (pv 6)) pa_nil))))
      (pss_one (ps_ret (pe_tup (pa_cons (pe_ix ix_tup (pv 0) pe_int (fun _ _ => rfl)) (pa_cons (pe_op op_add (pe_ix ix_tup (pv 0) pe_int (fun _ _ => rfl)) (pe_ix ix_tup (pv 1) pe_int (fun _ _ => rfl)))
        (pa_cons (pe_op op_add (pe_op op_add (pe_ix ix_tup (pv 0) pe_int (fun _ _ => rfl)) (pe_ix ix_tup (pv 1) pe_int (fun _ _ => rfl))) (pv 6)) (pa_cons (pe_callTy cr_tupF (by rfl) T.z_tuple bo_tuple (pa_cons (pv 7) pa_nil)) pa_nil))))))))))), ?_⟩
    obtain ⟨a1, w1, rfl, ha1, kb1, ks1, rfl, hk1, pk1⟩ := id hS
    obtain ⟨a2, w2, rfl, ha2, kb2, ks2, rfl, hk2, pk2⟩ := id hT
    have nd1 := asc_nd g.asc
    have nd2 := asc_nd g'.asc
    have l1 := g.len
    have l2 := g'.len
    have hrm := g.rm
    refine ⟨_, rfl, a1, _, 3, _, rfl, rfl, SqT.of ha1, rfl, kb1, ks1, sk.kept, rfl, hk1, pk1, nd1, fun d hd => ?_⟩
    have s1 := sn hd (o := .dK (sk.kept.map kvP))
    refine ⟨_, rfl, a2, _, 3, _, rfl, rfl, SqT.of (s1 _ _ ha2), rfl, kb2, rfl, ⟨_, (hk2.st s1).sq⟩, ?_⟩
    refine for_tup (K := K) (a := kb2) (xs := ks2) (fun i σ H2 => ∃ y3 y4 cs, σ = [some (.ref a1), some (.ref a2), some (.ref d), y3, y4, none, none, none] ∧ Same H H2 ∧ DC H2 d cs ∧ Tk1 sk.kept tk.kept i cs)
      ⟨none, none, sk.kept, rfl, s1, upd_same, tk1_0 nd1⟩ (fun i σ H2 _ ⟨_, _, _, _, s4, _⟩ => (hk2.st s4).sq) ?_ ?_
    · rintro i x σ H2 hi ⟨y3, y4, cs, rfl, s2, c2, tk1⟩
      obtain ⟨p, hp, b, rfl, hb⟩ := pgetL pk2 hi
      have lcs := tk1.len
      have li := (List.getElem?_eq_some_iff.mp hp).1
      refine ⟨b, _, rfl, SqT.of (s2 _ _ hb), rfl, _, _, rfl, _, _, rfl, rfl, ?_⟩
      refine ⟨_, rfl, d, rfl, .inl ⟨_, .inl c2⟩, _, rfl, _, dget c2, ?_⟩
      rw [val_getD]
      refine ⟨_, rfl, _, _, rfl, rfl, ?_⟩
      refine ⟨_, rfl, _, rfl, d, _, rfl, dput c2 (by omega), ?_⟩
      exact ⟨_, _, _, rfl, sm s2 hd, upd_same, tk1_s nd2 hp tk1⟩
    · rintro σ H2 ⟨y3, y4, cs, rfl, s2, c2, tk1⟩
      have tk1 : Tk1 sk.kept tk.kept tk.kept.length cs := by rw [pk2.length] at tk1; exact tk1
      obtain ⟨val, sub⟩ := tk1_end tk1
      have lcs := tk1.len
      have ndc := tk1.nd
      have pos : ∀ p ∈ cs, 0 < p.2 := fun p hp => by
        rw [← cnt_mem ndc hp, val]
        have c1 := cnt_nonneg (cs := sk.kept) (fun p hp => Int.le_of_lt (g.pos p hp)) p.1
        have c2 := cnt_nonneg (cs := tk.kept) (fun p hp => Int.le_of_lt (g'.pos p hp)) p.1
        rcases (sub p.1).mp (mem_nms hp) with z | z
        · have := cnt_pos g.pos z; omega
        · have := cnt_pos g'.pos z; omega
      refine ⟨d, _, c2, mut_dK, fun od => ?_⟩
      refine ⟨_, rfl, d, od, _, rfl, upd_same, fun D hD => ?_⟩
      refine lc_all (walk_values (d := d) (o := od) (kvs := cs.map kvP)) (bs := cs) (by rw [List.length_map]) (by rw [List.length_map]; omega) hD (fun p => -p.2) (fun _ v c => v = V.int c) (fun _ h => h) (fun H3 s3 => s3 _ _ upd_same) (fun i p x H3 H4 e s3 y Ny k => ?_) mg_name (fun H3 ys s3 hy pr => ?_)
      · obtain ⟨rfl, kk, hkv⟩ := y
        obtain ⟨rfl, rfl⟩ := kv_ix e hkv
        exact ⟨rfl, _, rfl, _, rfl, k _ _ (Same.refl _) rfl⟩
      have ey := peq pr
      have ey' : ys = (cs.map fun p => -p.2).map V.int := by rw [ey, List.map_map]; try rfl
      subst ey'
      have hd3 : H3 d = some (.frz od (.dK (cs.map kvP))) := s3 _ _ upd_same
      have neD : D ≠ d := fun z => by rw [z, upd_same] at hD; cases hD
      have s4 : Same H2 (upd H3 d (.dK (cs.map kvP))) := lock_same c2 s3
      have c4 : DC (upd H3 d (.dK (cs.map kvP))) d cs := upd_same
      refine ⟨hd3, D, _, rfl, SqL.of (by rw [upd_ne neD]; exact hy), fun L fp pm hL hfp => ?_⟩
      have s5 := sn hfp (o := .lst (L.map V.int))
      have s6 := (s2.trans s4).trans s5
      have c5 : DC (upd (upd H3 d (.dK (cs.map kvP))) fp (.lst (L.map V.int))) d cs := s5 _ _ c4
      have hf5 : upd (upd H3 d (.dK (cs.map kvP))) fp (.lst (L.map V.int)) fp = some (.lst (L.map V.int)) := upd_same
      generalize upd (upd H3 d (.dK (cs.map kvP))) fp (.lst (L.map V.int)) = H5 at s6 c5 hf5 ⊢
      have ll : L.length = cs.length := by rw [pm.length_eq, List.length_map]
      have ha1' := s6 _ _ ha1
      have ha2' := s6 _ _ ha2
      refine ⟨fun σ' H' => ∃ t, σ' = [some (.ref a1), some (.ref a2), some (.ref d), y3, y4, some (.ref fp), some (.int t), none] ∧ H' = H5 ∧ Taken cs r t, ?_, ?_⟩
      · refine ⟨_, rfl, fp, _, rfl, .inl (SqL.of hf5), _, rfl, a1, _, 0, _, rfl, rfl, SqT.of ha1', rfl, _, _, rfl, rfl, ?_⟩
        by_cases hlt : r < L.length
        · refine ⟨true, blT (by rw [List.length_map]; omega), iteT ?_⟩
          refine ⟨_, rfl, _, rfl, a1, _, 0, _, rfl, rfl, SqT.of ha1', rfl, fp, _, _, .int L[r], rfl, rfl, SqL.of hf5, at_of (j := r) hrm (by rw [List.getElem?_map, List.getElem?_eq_getElem hlt]; rfl), _, rfl, ?_⟩
          exact ⟨_, rfl, rfl, taken_of pos pm hL hlt⟩
        · refine ⟨false, blF (by rw [List.length_map]; omega), iteF ?_⟩
          exact ⟨_, rfl, rfl, taken_0 (by omega)⟩
      · rintro σ' H' ⟨t, rfl, rfl, TK⟩
        refine ⟨_, rfl, d, _, nms cs, rfl, .inl c5, (by unfold nms; rw [List.map_map, List.map_map]; rfl), fun ks kp kpm kas hkp => ?_⟩
        have s7 := sn hkp (o := .lst (ks.map V.str))
        have lks : ks.length = cs.length := by rw [kpm.length_eq]; unfold nms; rw [List.length_map]
        have ndk : ks.Nodup := kpm.nodup_iff.mpr ndc
        refine ⟨kp, rfl, ⟨_, SqL.of upd_same⟩, fun D2 hD2 => ?_⟩
        refine lc_pure (walk_list (K := K) (a := kp) (xs := ks.map V.str)) (bs := ks) (by rw [List.length_map]) (by rw [List.length_map]; omega) hD2 (fun k => decide (t < KM.cnt cs k)) (fun k => (k, KM.cnt cs k - t)) PairAt (fun e h => h.mono e) (fun H3 s3 => SqL.of (s3 _ _ upd_same)) (fun i k x' H3 H4 e s3 y Ny Nn k1 k2 => ?_) (fun H6 ys s8 hy2 pr2 => ?_)
        · obtain ⟨rfl, hx'⟩ := y
          rw [List.getElem?_map, e] at hx'
          cases hx'
          have hm : k ∈ nms cs := kpm.mem_iff.mp (List.mem_of_getElem? e)
          have c6 := s3 _ _ (s7 _ _ c5)
          have dg : DGet H4 d (.str k) (some (.int (KM.cnt cs k))) := by rw [val_in hm]; exact dget c6
          by_cases h0 : t < KM.cnt cs k
          · refine ⟨rfl, _, rfl, _, rfl, d, _, rfl, dg, _, rfl, _, _, rfl, rfl, true, blT h0, iteT ?_⟩
            exact ⟨_, rfl, _, rfl, _, rfl, d, _, rfl, dg, _, rfl, _, _, rfl, rfl, (by show 2 ≤ sizeLine; decide), fun t ht => k1 _ _ (sn ht) ⟨t, rfl, upd_same⟩ (decide_eq_true h0)⟩
          · exact ⟨rfl, _, rfl, _, rfl, d, _, rfl, dg, _, rfl, _, _, rfl, rfl, false, blF h0, iteF (k2 _ (Same.refl _) (by simp [h0]))⟩
        have s9 := s7.trans s8
        have s10 := s6.trans s9
        have a1' := s10 _ _ ha1
        have a2' := s10 _ _ ha2
        have ecs : (ks.map fun k => (k, KM.cnt cs k)).Perm cs := by
          have h1 : (ks.map fun k => (k, KM.cnt cs k)).Perm ((nms cs).map fun k => (k, KM.cnt cs k)) := kpm.map _
          have h2 : ((nms cs).map fun k => (k, KM.cnt cs k)) = cs := by
            unfold nms
            rw [List.map_map]
            have : ∀ p ∈ cs, ((fun k => (k, KM.cnt cs k)) ∘ (fun p : Str × Int => p.1)) p = p := fun p hp => by
              show (p.1, KM.cnt cs p.1) = p
              rw [cnt_mem ndc hp]
            rw [List.map_congr_left this]
            exact List.map_id' cs
          rw [h2] at h1
          exact h1
        have en : nms (ks.map fun k => (k, KM.cnt cs k)) = ks := by
          unfold nms
          rw [List.map_map]
          exact List.map_id' ks
        have ep : (ks.filter fun k => decide (t < KM.cnt cs k)).map (fun k => (k, KM.cnt cs k - t)) = pourP (ks.map fun k => (k, KM.cnt cs k)) t := by
          unfold pourP
          rw [List.filter_map, List.map_map]; rfl
        rw [ep] at pr2
        refine ⟨_, rfl, a1, _, 0, _, rfl, rfl, SqT.of a1', rfl, ?_⟩
        refine ⟨_, rfl, a1, _, 1, _, rfl, rfl, SqT.of a1', rfl, _, rfl, a2, _, 1, _, rfl, rfl, SqT.of a2', rfl, _, _, rfl, rfl, ?_⟩
        refine ⟨_, rfl, a1, _, 2, _, rfl, rfl, SqT.of a1', rfl, _, rfl, a2, _, 2, _, rfl, rfl, SqT.of a2', rfl, _, _, rfl, rfl, _, rfl, _, _, rfl, rfl, ?_⟩
        refine ⟨_, rfl, D2, ys, rfl, SqL.of hy2, fun t' o on ht => ⟨(by show 4 ≤ sizeLine; decide), fun p hp => ?_⟩⟩
        have s11 : Same H6 (upd (upd H6 t' (.frz o (.tup ys))) p (.tup [.int sk.room, .int (sk.many + tk.many), .int (sk.off + tk.off + t), .ref t'])) := sm (sn ht) ((sn ht).free hp)
        refine q _ (.ref p) ⟨sk.room, sk.many + tk.many, sk.off + tk.off + t, pourP (ks.map fun k => (k, KM.cnt cs k)) t⟩ (s10.trans s11) ⟨p, _, rfl, upd_same, t', ys, rfl, ⟨o, on, sn hp _ _ upd_same⟩, pr2.mono fun _ _ z => z.mono (tx s11)⟩ ?_
        refine good_pour g g' (by rw [en]; exact asc_strs kas ndk) (fun n => by rw [cnt_perm ndc ecs, val]) (fun n => by rw [en, kpm.mem_iff, sub]) (by rw [List.length_map]; omega) (TK.perm ecs)
end
end Kn
set_option Elab.async false
set_option linter.all false
set_option maxRecDepth 100000
set_option maxHeartbeats 4000000
set_option pp.maxSteps 300
/-! Trees: what they are, the sketch, the counts. -/
namespace Kn
open PySem PySem.Spec PyProof.Rows L2 KM
/-- a step: a stream of names, or a pouring -/
abbrev Stp := Option (List Str)
def StepAt (H : Hp) (v : V) : Stp → Prop
  | none => ∃ b, v = .ref b ∧ H b = some (.tup [.str "pour"])
  | some ns => ∃ b c, v = .ref b ∧ H b = some (.tup [.str "stream", .ref c]) ∧ FT H c (ns.map V.str)
theorem StepAt.mono {H H' : Hp} {v : V} (e : ExT H H') : ∀ {s : Stp}, StepAt H v s → StepAt H' v s
  | none, ⟨b, h1, h2⟩ => ⟨b, h1, e _ _ rfl h2⟩
  | some ns, ⟨b, c, h1, h2, h3⟩ => ⟨b, c, h1, e _ _ rfl h2, h3.mono e⟩
def TreeAt (H : Hp) (v : V) (sts : List Stp) : Prop := ∃ a vs, v = .ref a ∧ FT H a vs ∧ Paired (StepAt H) vs sts
theorem TreeAt.mono {H H' : Hp} {v : V} {sts : List Stp} (e : ExT H H') (h : TreeAt H v sts) : TreeAt H' v sts :=
  let ⟨a, vs, h1, h2, h3⟩ := h; ⟨a, vs, h1, h2.mono e, h3.mono fun _ _ q => q.mono e⟩
/-- how high the pile is behind the steps -/
def dep : Nat → List Stp → Option Nat
  | d, [] => some d
  | d, some _ :: r => dep (d + 1) r
  | d, none :: r => if 2 ≤ d then dep (d - 1) r else none
theorem dep_app : ∀ (xs : List Stp) (d : Nat) (ys : List Stp), dep d (xs ++ ys) = (dep d xs).bind fun e => dep e ys
  | [], d, ys => rfl
  | some _ :: r, d, ys => dep_app r (d + 1) ys
  | none :: r, d, ys => by
    show (if 2 ≤ d then dep (d - 1) (r ++ ys) else none) = (if 2 ≤ d then dep (d - 1) r else none).bind fun e => dep e ys
    by_cases h : 2 ≤ d
    · rw [if_pos h, if_pos h]; exact dep_app r (d - 1) ys
    · rw [if_neg h, if_neg h]; rfl
def nmsOf : Stp → List Str
  | none => []
  | some ns => ns
def allN (sts : List Stp) : List Str := (sts.map nmsOf).flatten
theorem allN_app (xs ys : List Stp) : allN (xs ++ ys) = allN xs ++ allN ys := by unfold allN; rw [List.map_append, List.flatten_append]
theorem allN_take {sts : List Stp} {i : Nat} {s : Stp} (h : sts[i]? = some s) : allN (sts.take (i + 1)) = allN (sts.take i) ++ nmsOf s := by
  rw [List.take_add_one, h, allN_app]
  show _ ++ allN [s] = _
  unfold allN
  simp
/-- a tree as drawn -/
structure TreeOk (sts : List Stp) : Prop where
  dp : dep 0 sts = some 1
  nm : ∀ z ∈ allN sts, PoolNm z
  nn : (allN sts).length ≤ 100
  ln : sts.length ≤ 100

/-! ### texts compared -/
theorem nm_strOk {z : Str} (h : NmOk z) : PyData.strOk z = true := by
  unfold PyData.strOk
  rw [Array.all_eq_true']
  intro c hc
  have := h.2.2 c (Array.mem_toList_iff.mpr hc)
  exact decide_eq_true (by omega)
theorem strs_can : ∀ {ns : List Str}, (∀ z ∈ ns, NmOk z) → PyData.canLayAll0 (ns.map PyData.str) = true
  | [], _ => rfl
  | n :: r, h => by
    rw [List.map_cons]
    have h1 := strs_can (ns := r) fun z hz => h z (List.mem_cons_of_mem _ hz)
    have h2 := nm_strOk (h n List.mem_cons_self)
    simp [PyData.canLayAll0, PyData.canLay0, h1, h2]
theorem strs_dep : ∀ ns : List Str, PyData.depthAll (ns.map PyData.str) ≤ 1
  | [] => by simp [PyData.depthAll]
  | n :: r => by
    rw [List.map_cons]
    have := strs_dep r
    simp [PyData.depthAll, PyData.depth] at *
    omega
theorem strs_eqv : ∀ ns : List Str, PyData.eqvAll (ns.map PyData.str) (ns.map PyData.str) = true
  | [] => rfl
  | n :: r => by
    rw [List.map_cons]
    have := strs_eqv r
    simp [PyData.eqvAll, PyData.eqv, this]
theorem dp_strs {K : PySem.W.Frag} {H : Hp} : ∀ ns : List Str, DpAll K H (ns.map V.str) (ns.map PyData.str)
  | [] => .nil
  | n :: r => .cons (.str n) (dp_strs r)
def datS : Stp → PyData
  | none => .tuple [.str "pour"]
  | some ns => .tuple [.str "stream", .tuple (ns.map PyData.str)]
theorem dp_step {K : PySem.W.Frag} {H : Hp} {v : V} : ∀ {s : Stp}, StepAt H v s → Dp K H v (datS s)
  | none, ⟨b, h1, h2⟩ => by rw [h1]; exact .tup (SqT.of h2) (.cons (.str _) .nil)
  | some ns, ⟨b, c, h1, h2, h3⟩ => by rw [h1]; exact .tup (SqT.of h2) (.cons (.str _) (.cons (.tup h3.sq (dp_strs ns)) .nil))
theorem shp_step {s : Stp} (h : ∀ z ∈ nmsOf s, NmOk z) : SeqAt.shaped (datS s) = true := by
  cases s with
  | none => decide +kernel
  | some ns =>
    unfold SeqAt.shaped datS
    have h1 := strs_can (ns := ns) h
    have h3 : PyData.strOk "stream" = true := by decide +kernel
    have h2 := strs_dep ns
    rw [Bool.and_eq_true]
    refine ⟨?_, decide_eq_true ?_⟩
    · simp [PyData.canLay0, PyData.canLayAll0, h1, h3]
    · simp [PyData.depth, PyData.depthAll]
      omega
theorem eqv_step (s : Stp) : PyData.eqv (datS s) (.tuple [.str "pour"]) = s.isNone := by
  cases s with
  | none => decide +kernel
  | some ns =>
    have e : (("stream" : Str) == "pour") = false := by decide +kernel
    have e2 : PyData.eqv (.str "stream") (.str "pour") = false := e
    show (PyData.eqv (.str "stream") (.str "pour") && PyData.eqvAll [PyData.tuple (ns.map PyData.str)] []) = false
    rw [e2]; rfl

/-! ### counts of a bag -/
structure Bag (cs : List (Str × Int)) (bag : List Str) : Prop where
  nd : (nms cs).Nodup
  val : ∀ n, KM.cnt cs n = (bag.count n : Int)
  pos : ∀ p ∈ cs, 0 < p.2
  len : cs.length ≤ bag.length
  tot : tot cs = (bag.length : Int)
theorem bag_0 : Bag [] [] := ⟨List.nodup_nil, fun n => rfl, (fun p hp => nomatch hp), Nat.le_refl _, rfl⟩
theorem bag_s {cs : List (Str × Int)} {bag : List Str} {x : Str} (B : Bag cs bag) : Bag (putC cs x (KM.cnt cs x + 1)) (bag ++ [x]) := by
  have c0 : 0 ≤ KM.cnt cs x := cnt_nonneg (fun p hp => Int.le_of_lt (B.pos p hp)) x
  have nd2 := nd_put (x := x) (v := KM.cnt cs x + 1) B.nd
  have cv : ∀ n, KM.cnt (putC cs x (KM.cnt cs x + 1)) n = KM.cnt cs n + if n = x then 1 else 0 := fun n => by
    rw [cnt_put]
    by_cases e : n = x
    · rw [if_pos e, if_pos e, e]
    · rw [if_neg e, if_neg e, Int.add_zero]
  refine ⟨nd2, fun n => ?_, fun p hp => ?_, ?_, ?_⟩
  · rw [cv, count_snoc, B.val]
  · have e := cnt_mem nd2 hp
    rw [cv] at e
    rcases mem_put.mp (mem_nms hp) with q | q
    · rw [q, if_pos rfl] at e
      omega
    · have := cnt_pos B.pos q
      split at e <;> omega
  · have := len_put cs x (KM.cnt cs x + 1)
    have := B.len
    rw [List.length_append]
    show _ ≤ _ + 1
    omega
  · rw [tot_put B.nd, B.tot, List.length_append]
    show _ = ((bag.length + 1 : Nat) : Int)
    omega
theorem bag_tru {r : Nat} {s : Sk} {bag : List Str} {cs ds : List (Str × Int)} (g : Good r s bag) (B : Bag cs bag) (pm : ds.Perm cs) : Tru s.kept s.off s.many ds := by
  have ndd : (nms ds).Nodup := (show (nms ds).Perm _ from pm.map _).nodup_iff.mpr B.nd
  refine ⟨ndd, fun p hp => B.pos p (pm.mem_iff.mp hp), fun n => ?_, fun n => ?_, ?_⟩
  · rw [cnt_perm B.nd pm, B.val]; exact g.b1 n
  · rw [cnt_perm B.nd pm, B.val]; exact g.b2 n
  · rw [g.mn, ← B.tot, ← tot_over ndd ndd fun n h => h, ← tot_over B.nd ndd fun n h => ((show (nms ds).Perm _ from pm.map _).mem_iff).mpr h]
    exact sum_congr fun n _ => cnt_perm B.nd pm n
theorem psnoc {α β : Type} {F : α → β → Prop} {us : List α} {m : List β} {b : β} (h : Paired F us (m ++ [b])) : ∃ l a, us = l ++ [a] ∧ Paired F l m ∧ F a b := by
  induction m generalizing us with
  | nil =>
    cases h with
    | cons h t =>
      cases t
      exact ⟨[], _, rfl, .nil, h⟩
  | cons c m ih =>
    cases h with
    | cons h t =>
      obtain ⟨l, a, e, p, f⟩ := ih t
      exact ⟨_ :: l, a, by rw [e]; rfl, .cons h p, f⟩
theorem two_last {α : Type} {l : List α} (h : 2 ≤ l.length) : ∃ m a b, l = m ++ [a] ++ [b] := by
  have n1 : l ≠ [] := fun z => by rw [z] at h; exact absurd h (by simp)
  have e1 := List.dropLast_concat_getLast n1
  have n2 : l.dropLast ≠ [] := fun z => by
    have := congrArg List.length z
    rw [List.length_dropLast] at this
    simp only [List.length_nil] at this
    omega
  have e2 := List.dropLast_concat_getLast n2
  exact ⟨_, _, _, by rw [e2, e1]⟩
section
variable {P : Program} {w : World} {K : PySem.W.Frag} {mg : Str → Option Value} {base : Heap} {CP CF : Addr}
def spCounted : Sp := fun vs H Q _ => ∃ (v : V) (sts : List Stp), vs = [v] ∧ TreeAt H v sts ∧ TreeOk sts ∧ ∀ H' u cs ds, Same H H' → CtsAt H' u ds → Bag cs (allN sts) → ds.Perm cs → Q u H'
theorem c_counted (T : Txt K mg CP CF) : C8.Cal P w K mg base 1 "_law_counted" spCounted [] := by
  refine mkc (N := ["_law_tree_here", "_law_found", "_law_step", "_law_name"]) T.d_law_counted (by decide +kernel) (fun vs H Q E h => ?_) (fun f cdv A outer s H vs Q E hr h => ?_)
  · obtain ⟨v, sts, rfl, _⟩ := h; rfl
  · obtain ⟨v, sts, rfl, ⟨a, ws, rfl, ha, pw⟩, ok, q⟩ := h
    have nd : (["_law_tree_here", "_law_found", "_law_step", "_law_name"] : List Str).Nodup := by decide +kernel
    refine ⟨_, pss_cons (ps_set (i := 1) nd rfl (Or.inl rfl) pe_dnewK)
      (pss_cons (ps_for PassesOwn.never rfl (pi_tup (pv 0)) (pg_name (i := 2) nd rfl (.inl rfl))
        (pss_one (ps_if (pt_cmpR op_eq (pe_callB call_len_seq (by rfl) T.z_len bo_len (pa_cons (pv 2) pa_nil)) pe_int (nomark _))
          (pss_one (ps_for PassesOwn.never rfl (pi_tup (pe_ix ix_tup (pv 2) pe_int (fun _ _ => rfl))) (pg_name (i := 3) nd rfl (.inl rfl))
            (pss_one (ps_dput (u1 hr) (pv 1) (pv 3) (pe_op op_add (pe_dget2 (u1 hr) (pv 1) (pv 3) pe_int ⟨by rfl, by rfl, by rfl, by rfl⟩) pe_int) (by rfl))))) pss_nil)))
      (pss_one (ps_ret (pe_callTy cr_tupF (by rfl) T.z_tuple bo_tuple (pa_cons (pe_callB (cr_srtIt rfl hr.units) (by rfl) T.z_sorted bo_sorted (pa_cons
          (pe_bm0 F.plainAttrs_dict F.slot_dict_items F.type_dict_items mt_itemsK (pv 1)) pa_nil)) pa_nil))))), ?_⟩
    refine fun d hd => ?_
    have s1 := sn hd (o := .dK [])
    refine ⟨_, rfl, a, rfl, ⟨_, (ha.st s1).sq⟩, ?_⟩
    refine for_tup (K := K) (a := a) (xs := ws) (fun i σ H2 => ∃ y2 y3 cs, σ = [some (.ref a), some (.ref d), y2, y3] ∧ Same H H2 ∧ DC H2 d cs ∧ Bag cs (allN (sts.take i)))
      ⟨none, none, [], rfl, s1, upd_same, bag_0⟩ (fun i σ H2 _ ⟨_, _, _, _, s4, _⟩ => (ha.st s4).sq) ?_ ?_
    · rintro i x σ H2 hi ⟨y2, y3, cs, rfl, s2, c2, B⟩
      obtain ⟨st, hst, hx⟩ := pgetL pw hi
      have hx2 := hx.mono (tx s2)
      have lt : (allN (sts.take (i + 1))).length ≤ 100 := by
        have e : allN sts = allN (sts.take (i + 1)) ++ allN (sts.drop (i + 1)) := by rw [← allN_app, List.take_append_drop]
        have := ok.nn
        rw [e, List.length_append] at this
        omega
      cases st with
      | none =>
        obtain ⟨b, rfl, hb⟩ := hx2
        refine ⟨_, rfl, b, _, rfl, .inr (SqT.of hb), rfl, false, by simp, iteF ?_⟩
        refine ⟨_, _, cs, rfl, s2, c2, ?_⟩
        rw [allN_take hst]
        show Bag cs (allN (sts.take i) ++ [])
        rw [List.append_nil]; exact B
      | some ns =>
        obtain ⟨b, c, rfl, hb, hc⟩ := hx2
        refine ⟨_, rfl, b, _, rfl, .inr (SqT.of hb), rfl, true, by simp, iteT ?_⟩
        refine ⟨_, rfl, b, _, 1, _, rfl, rfl, SqT.of hb, rfl, c, rfl, ⟨_, hc.sq⟩, ?_⟩
        rw [allN_take hst] at lt
        rw [List.length_append] at lt
        have lt' : (allN (sts.take i)).length + ns.length ≤ 100 := lt
        refine for_tup (K := K) (a := c) (xs := ns.map V.str) (fun j σ H3 => ∃ y3 cs, σ = [some (.ref a), some (.ref d), some (.ref b), y3] ∧ Same H H3 ∧ FT H3 c (ns.map V.str) ∧ DC H3 d cs ∧ Bag cs (allN (sts.take i) ++ ns.take j))
          ⟨y3, cs, rfl, s2, hc, c2, by rw [List.take_zero, List.append_nil]; exact B⟩ (fun j σ H3 _ ⟨_, _, _, _, h, _⟩ => h.sq) ?_ ?_
        · rintro j x σ H3 hj ⟨y3, cs, rfl, s3, hc3, c3, B3⟩
          rw [List.getElem?_map] at hj
          cases hn : ns[j]? with
          | none => rw [hn] at hj; cases hj
          | some n =>
          rw [hn] at hj
          cases hj
          have lb := B3.len
          rw [List.length_append, List.length_take] at lb
          refine ⟨_, rfl, d, rfl, .inl ⟨_, .inl c3⟩, _, rfl, _, dget c3, ?_⟩
          rw [val_getD]
          refine ⟨_, _, rfl, rfl, ?_⟩
          refine ⟨_, rfl, _, rfl, d, _, rfl, dput c3 (by omega), ?_⟩
          refine ⟨_, _, rfl, sm s3 hd, ?_, upd_same, ?_⟩
          · obtain ⟨o, on, e⟩ := hc3
            exact ⟨o, on, by rw [upd_ne (fun z => by rw [z, c3] at e; cases e)]; exact e⟩
          · rw [List.take_add_one, hn, ← List.append_assoc]
            exact bag_s B3
        · rintro σ H3 ⟨y3, cs, rfl, s3, hc3, c3, B3⟩
          refine ⟨_, _, cs, rfl, s3, c3, ?_⟩
          rw [allN_take hst]
          rw [List.length_map, List.take_length] at B3
          exact B3
    · rintro σ H2 ⟨y2, y3, cs, rfl, s2, c2, B⟩
      rw [pw.length, List.take_length] at B
      refine ⟨_, rfl, .inr (.inr (.inl ⟨rfl, .inl ⟨_, c2⟩⟩)), d, _, rfl, rfl, c2, fun ip hip => ?_⟩
      refine ⟨ip, d, _, rfl, upd_same, sn hip _ _ c2, fun H3 l ys ds s3 pm as py hl => ?_⟩
      refine ⟨l, ys, rfl, SqL.of hl, fun t o on ht => ?_⟩
      exact q _ _ cs ds (((s2.trans (sn hip)).trans s3).trans (sn ht)) ⟨t, ys, rfl, ⟨o, on, upd_same⟩, py.mono fun _ _ z => z.mono (tx (sn ht))⟩ B pm
end
end Kn
set_option Elab.async false
set_option linter.all false
set_option maxRecDepth 100000
set_option maxHeartbeats 4000000
set_option pp.maxSteps 300
/-! The sketch of a tree. -/
namespace Kn
open PySem PySem.Spec PyProof.Rows L2 KM
theorem dep_le : ∀ {xs : List Stp} {e d : Nat}, dep e xs = some d → d ≤ e + xs.length
  | [], e, d, h => by
    have : e = d := Option.some.inj h
    rw [List.length_nil]; omega
  | some _ :: r, e, d, h => by
    have := dep_le (xs := r) h
    rw [List.length_cons]; omega
  | none :: r, e, d, h => by
    have h' : (if 2 ≤ e then dep (e - 1) r else none) = some d := h
    by_cases q : 2 ≤ e
    · rw [if_pos q] at h'
      have := dep_le h'
      rw [List.length_cons]; omega
    · rw [if_neg q] at h'
      cases h'
theorem dep_take {sts : List Stp} {i d : Nat} {s : Stp} (hs : sts[i]? = some s) (hd : dep 0 (sts.take i) = some d) (w : dep 0 sts = some 1) :
    (s = none → 2 ≤ d ∧ dep 0 (sts.take (i + 1)) = some (d - 1)) ∧ (s.isSome = true → dep 0 (sts.take (i + 1)) = some (d + 1)) := by
  have e : sts.take (i + 1) = sts.take i ++ [s] := by rw [List.take_add_one, hs]; rfl
  have e2 : sts = sts.take (i + 1) ++ sts.drop (i + 1) := (List.take_append_drop _ _).symm
  refine ⟨fun z => ?_, fun z => ?_⟩
  · subst z
    have h1 : dep 0 (sts.take (i + 1)) = if 2 ≤ d then some (d - 1) else none := by
      rw [e, dep_app, hd]; rfl
    by_cases q : 2 ≤ d
    · rw [if_pos q] at h1
      exact ⟨q, h1⟩
    · rw [if_neg q] at h1
      rw [e2, dep_app, h1] at w
      cases w
  · cases s with
    | none => cases z
    | some ns => rw [e, dep_app, hd]; rfl
def PileAt (r : Nat) (H : Hp) (u : V) (p : Sk × List Str) : Prop := SkAt H u p.1 ∧ Good r p.1 p.2
theorem PileAt.mono {r : Nat} {H H' : Hp} {u : V} {p : Sk × List Str} (e : ExT H H') (h : PileAt r H u p) : PileAt r H' u p := ⟨h.1.mono e, h.2⟩
section
variable {P : Program} {w : World} {K : PySem.W.Frag} {mg : Str → Option Value} {base : Heap} {CP CF : Addr}
def spSketch : Sp := fun vs H Q _ => ∃ (v : V) (r : Nat) (sts : List Stp), vs = [.int (r : Int), v] ∧ TreeAt H v sts ∧ TreeOk sts ∧ 1 ≤ r ∧ r ≤ 16 ∧ ∀ H' u s, Same H H' → SkAt H' u s → Good r s (allN sts) → Q u H'
theorem c_sketch (T : Txt K mg CP CF) : C8.Cal P w K mg base 2 "_law_sketch" spSketch [] := by
  refine mkc (N := ["_law_room", "_law_tree_here", "_law_pile", "_law_step", "_law_other", "_law_found", "_law_name"]) T.d_law_sketch (by decide +kernel) (fun vs H Q E h => ?_) (fun f cdv A outer s H vs Q E hr h => ?_)
  · obtain ⟨v, r, sts, rfl, _⟩ := h; rfl
  · obtain ⟨v, r, sts, rfl, ⟨a, ws, rfl, ha, pw⟩, ok, r1, r2, q⟩ := h
    have nd : (["_law_room", "_law_tree_here", "_law_pile", "_law_step", "_law_other", "_law_found", "_law_name"] : List Str).Nodup := by decide +kernel
    refine ⟨_, pss_cons (ps_set (i := 2) nd rfl (Or.inl rfl) (pe_lst pa_nil))
      (pss_cons (ps_for PassesOwn.never rfl (pi_tup (pv 1)) (pg_name (i := 3) nd rfl (.inl rfl))
        (pss_one (ps_if (pt_cmpR (op_eqD hr.units) (pv 3) (pe_tup (pa_cons pe_str pa_nil)) (nomark _))
          (pss_cons (ps_set (i := 4) nd rfl (Or.inl rfl) (pe_bm0 F.plainAttrs_list F.slot_list_pop F.type_list_pop mt_pop (pv 2)))
          (pss_one (ps_expr (pe_bm F.plainAttrs_list F.slot_list_append F.type_list_append mt_append (pv 2) (pa_cons
            (C8.pe_c (c_poured T) hr (by decide) (by rfl) (pa_cons (pe_bm0 F.plainAttrs_list F.slot_list_pop F.type_list_pop mt_pop (pv 2)) (pa_cons (pv 4) pa_nil))) pa_nil)))))
          (pss_cons (ps_set (i := 5) nd rfl (Or.inl rfl) (pe_tup (pa_cons (pv 0) (pa_cons pe_int (pa_cons pe_int (pa_cons (pe_tupF pa_nil) pa_nil))))))
          (pss_cons (ps_for PassesOwn.never rfl (pi_tup (pe_ix ix_tup (pv 3) pe_int (fun _ _ => rfl))) (pg_name (i := 6) nd rfl (.inl rfl))
            (pss_one (ps_set (i := 5) nd rfl (Or.inl rfl) (C8.pe_c (c_fed T) hr (by decide) (by rfl) (pa_cons (pv 5) (pa_cons (pv 6) pa_nil))))))
          (pss_one (ps_expr (pe_bm F.plainAttrs_list F.slot_list_append F.type_list_append mt_append (pv 2) (pa_cons (pv 5) pa_nil)))))))))
      (pss_one (ps_ret (pe_ix ix_list (pv 2) pe_int (fun _ _ => rfl))))), ?_⟩
    refine ⟨Nat.zero_le _, fun S hS => ?_⟩
    have s1 := sn hS (o := .lst [])
    refine ⟨_, rfl, a, rfl, ⟨_, (ha.st s1).sq⟩, ?_⟩
    refine for_tup (K := K) (a := a) (xs := ws) (fun i σ H2 => ∃ y3 y4 y5 y6 us pile, σ = [some (.int (r : Int)), some (.ref a), some (.ref S), y3, y4, y5, y6] ∧ Same H H2 ∧ H2 S = some (.lst us) ∧ Paired (PileAt r H2) us pile ∧ (pile.map (·.2)).flatten = allN (sts.take i) ∧ dep 0 (sts.take i) = some pile.length)
      ⟨none, none, none, none, [], [], rfl, s1, upd_same, .nil, rfl, rfl⟩ (fun i σ H2 _ ⟨_, _, _, _, _, _, _, s4, _⟩ => (ha.st s4).sq) ?_ ?_
    · rintro i x σ H2 hi ⟨y3, y4, y5, y6, us, pile, rfl, s2, hu, pu, fl, dp⟩
      obtain ⟨st, hst, hx⟩ := pgetL pw hi
      have hx2 := hx.mono (tx s2)
      have nmok : ∀ z ∈ nmsOf st, PoolNm z := fun z hz => ok.nm z (by
        have e : allN sts = allN (sts.take (i + 1)) ++ allN (sts.drop (i + 1)) := by rw [← allN_app, List.take_append_drop]
        rw [e, allN_take hst]
        exact List.mem_append_left _ (List.mem_append_right _ hz))
      have lp : us.length ≤ 100 := by
        have h1 := dep_le dp
        have h2 := ok.ln
        have h3 := (List.getElem?_eq_some_iff.mp hst).1
        rw [List.length_take] at h1
        rw [pu.length]; omega
      obtain ⟨dn, dsm⟩ := dep_take hst dp ok.dp
      refine ⟨_, rfl, (by show 1 ≤ sizeLine; decide), fun tp htp => ?_⟩
      have s3 := sn htp (o := .tup [.str "pour"])
      have hx3 := hx2.mono (tx s3)
      refine ⟨_, _, dp_step (K := K) hx3, Dp.tup (ds := [.str "pour"]) (SqT.of upd_same) (.cons (.str _) .nil), shp_step (fun z hz => (nmok z hz).2), by decide +kernel, ?_⟩
      rw [eqv_step]
      have hu3 := s3 _ _ hu
      have pu3 := pu.mono fun _ _ z => z.mono (tx s3)
      have s4 := s2.trans s3
      generalize upd H2 tp (.tup [.str "pour"]) = H3 at s3 s4 hx3 hu3 pu3 ⊢
      cases st with
      | none =>
        refine ⟨true, rfl, iteT ?_⟩
        obtain ⟨d2, dp'⟩ := dn rfl
        obtain ⟨pl, p1, p2, rfl⟩ := two_last d2
        obtain ⟨us1, v2, rfl, pu1, hv2⟩ := psnoc pu3
        obtain ⟨us2, v1, rfl, pu2, hv1⟩ := psnoc pu1
        have e1 : (us2 ++ [v1] ++ [v2])[(us2 ++ [v1] ++ [v2]).length - 1]? = some v2 := by simp
        have e2 : (us2 ++ [v1])[(us2 ++ [v1]).length - 1]? = some v1 := by simp
        refine ⟨_, rfl, .inl ⟨rfl, _, SqL.of hu3⟩, S, _, v2, rfl, rfl, hu3, e1, ?_⟩
        rw [List.dropLast_concat]
        have t1 : ExT H3 (upd H3 S (.lst (us2 ++ [v1]))) := tx_mut hu3 rfl
        refine ⟨_, rfl, .inl ⟨rfl, _, SqL.of upd_same⟩, _, rfl, .inl ⟨rfl, _, SqL.of upd_same⟩, S, _, v1, rfl, rfl, upd_same, e2, ?_⟩
        rw [List.dropLast_concat, upd_upd]
        have t2 : ExT H3 (upd H3 S (.lst us2)) := tx_mut hu3 rfl
        refine ⟨_, rfl, v1, v2, p1.1, p2.1, r, p1.2, p2.2, rfl, hv1.1.mono t2, hv2.1.mono t2, hv1.2, hv2.2, r1, r2, fun H4 v' s' s5 hv' g' => ?_⟩
        have hS4 : H4 S = some (.lst us2) := s5 _ _ upd_same
        have t3 : ExT H4 (upd H4 S (.lst (us2 ++ [v']))) := tx_mut hS4 rfl
        rw [List.length_append, List.length_append] at lp
        refine ⟨S, _, _, rfl, rfl, hS4, szl (by omega), ?_⟩
        have s6 : Same H H4 := fun b o e => s5 _ _ (by rw [upd_ne (ne_of_none e hS)]; exact s4 _ _ e)
        refine ⟨_, _, _, _, us2 ++ [v'], pl ++ [(s', p1.2 ++ p2.2)], rfl, sm s6 hS, upd_same, ((pu2.mono fun _ _ z => z.mono ((t2.trans (tx s5)).trans t3)).snoc ⟨hv'.mono t3, g'⟩), ?_, ?_⟩
        · rw [allN_take hst, ← fl]
          simp [nmsOf]
        · rw [dp']
          simp
      | some ns =>
        refine ⟨false, rfl, iteF ?_⟩
        obtain ⟨b, c, rfl, hb, hc⟩ := hx3
        refine ⟨_, rfl, Nat.zero_le _, fun e o on he => ⟨(by show 4 ≤ sizeLine; decide), fun p hp => ?_⟩⟩
        have s5 : Same H3 (upd (upd H3 e (.frz o (.tup []))) p (.tup [.int (r : Int), .int 0, .int 0, .ref e])) := sm (sn he) ((sn he).free hp)
        have hsk : SkAt (upd (upd H3 e (.frz o (.tup []))) p (.tup [.int (r : Int), .int 0, .int 0, .ref e])) (.ref p) (sk0 r) := ⟨p, _, rfl, upd_same, e, [], rfl, ⟨o, on, sn hp _ _ upd_same⟩, .nil⟩
        generalize upd (upd H3 e (.frz o (.tup []))) p (.tup [.int (r : Int), .int 0, .int 0, .ref e]) = H4 at s5 hsk ⊢
        refine ⟨_, rfl, b, _, 1, _, rfl, rfl, SqT.of (s5 _ _ hb), rfl, c, rfl, ⟨_, (hc.st s5).sq⟩, ?_⟩
        refine for_tup (K := K) (a := c) (xs := ns.map V.str) (fun j σ H5 => ∃ y6 u s', σ = [some (.int (r : Int)), some (.ref a), some (.ref S), some (.ref b), y4, some u, y6] ∧ Same H4 H5 ∧ SkAt H5 u s' ∧ Good r s' (ns.take j))
          ⟨y6, .ref p, sk0 r, rfl, Same.refl _, hsk, good_0 r⟩ (fun j σ H5 _ ⟨_, _, _, _, h, _⟩ => ((hc.st s5).st h).sq) ?_ ?_
        · rintro j x σ H5 hj ⟨y6, u, s', rfl, s6, hu', g'⟩
          rw [List.getElem?_map] at hj
          cases hn : ns[j]? with
          | none => rw [hn] at hj; cases hj
          | some n =>
          rw [hn] at hj
          cases hj
          refine ⟨_, rfl, _, rfl, u, n, s', r, _, rfl, hu', g', nmok n (List.mem_of_getElem? hn), r1, r2, fun H6 v' s'' s7 hv' g'' => ?_⟩
          refine ⟨_, v', s'', rfl, s6.trans s7, hv', ?_⟩
          rw [List.take_add_one, hn]
          exact g''
        · rintro σ H5 ⟨y6, u, s', rfl, s6, hu', g'⟩
          rw [List.length_map, List.take_length] at g'
          have s7 := s5.trans s6
          have hu5 := s7 _ _ hu3
          have t3 : ExT H5 (upd H5 S (.lst (us ++ [u]))) := tx_mut hu5 rfl
          refine ⟨_, rfl, .inl ⟨rfl, _, SqL.of hu5⟩, _, rfl, S, _, _, rfl, rfl, hu5, szl (by omega), ?_⟩
          refine ⟨_, _, _, _, us ++ [u], pile ++ [(s', ns)], rfl, sm (s4.trans s7) hS, upd_same, ((pu3.mono fun _ _ z => z.mono ((tx s7).trans t3)).snoc ⟨hu'.mono t3, g'⟩), ?_, ?_⟩
          · rw [allN_take hst, ← fl]
            simp [nmsOf]
          · rw [dsm rfl]
            simp
    · rintro σ H2 ⟨y3, y4, y5, y6, us, pile, rfl, s2, hu, pu, fl, dp⟩
      rw [pw.length, List.take_length] at fl dp
      rw [ok.dp] at dp
      have l1 : pile.length = 1 := (Option.some.inj dp).symm
      match pile, l1, pu, fl with
      | [p], _, pu, fl =>
        cases pu with
        | cons h t =>
          cases t
          refine ⟨_, rfl, S, _, 0, _, rfl, rfl, SqL.of hu, rfl, q _ _ p.1 s2 h.1 ?_⟩
          have e : p.2 = allN sts := by rw [← fl]; simp
          rw [← e]; exact h.2
end
end Kn
set_option Elab.async false
set_option linter.all false
set_option maxRecDepth 100000
set_option maxHeartbeats 4000000
set_option pp.maxSteps 300
/-! Trees drawn. -/
namespace Kn
open PySem PySem.Spec PyProof.Rows L2 KM
/-- a list of names, each drawn -/
theorem lc_draw {te : TE} {a c : Addr} {n j : Nat} {vs : List Nat} {σ : L2.St} {H1 : Hp} {D : Addr} {Qd : Hp → Prop} (ok : Str → Prop) (hH : Hnd H1 a c) (hD : H1 D = none) (hz : n ≤ 100000)
    (turn : ∀ (x : V) (H2 : Hp), ExB a H1 H2 → Hnd H2 a c → ∀ Ny : VK, (∀ z H4, ExB a H2 H4 → Hnd H4 a c → ok z → Ny (.str z) H4) → wipe ((wipe σ vs).set j (some x)) vs = wipe σ vs ∧ te ((wipe σ vs).set j (some x)) H2 Ny)
    (hd : ∀ (H : Hp) (ns : List Str), ExB a H1 H → Hnd H a c → H D = some (.lst (ns.map V.str)) → ns.length = n → (∀ z ∈ ns, ok z) → Qd H) :
    ∃ W : Nat → Nat → Hp → Prop, (∃ m, W 0 m (upd H1 D (.lst []))) ∧ ∀ i m H, W i m H →
      ((Itr 0 n).stop i H ∧ Qd H) ∨ ((Itr 0 n).go i H ∧ ∃ Nx : Hp → Prop, (∀ H', Nx H' → ∃ m', m' < m ∧ W (i + 1) m' H') ∧ ∀ x H', (Itr 0 n).yld i H x H' → gName j x (wipe σ vs) H' fun σ2 H2 => wipe σ2 vs = wipe σ vs ∧ tYes σ2 H2 fun b H3 =>
        if b = true then te σ2 H3 fun y H4 => ∃ acc, H4 D = some (.lst acc) ∧ acc.length < sizeLine ∧ Nx (upd H4 D (.lst (acc ++ [y]))) else Nx H3) := by
  have ne := hH.ne hD
  refine lc_gen (walk_range (lo := 0) (n := n)) (fun H2 => ExB a H1 H2 ∧ Hnd H2 a c) (bs := List.replicate n ()) (by simp) hz (fun _ => true) id (fun _ v _ => ∃ z, v = V.str z ∧ ok z) (fun _ h => h) ⟨(ExB.refl _ _).new hD, hH.up ne⟩
    (fun H xs ys s _ => ⟨s.1.new hD, s.2.up ne⟩) (fun _ _ => trivial) (fun i b x H H' acc e s hy y Ny Nn k1 k2 => ?_) (fun H ys s hy pr => ?_)
  · obtain ⟨rfl, _⟩ := y
    obtain ⟨t1, t2⟩ := turn x H' s.1 s.2 Ny fun z H4 x4 h4 oz => k1 _ _ ⟨s.1.trans x4, h4⟩ (s.2.tx x4) (x4 _ _ (Ne.symm ne.1) hy) ⟨z, rfl, oz⟩ rfl
    refine ⟨t1, ?_⟩
    unfold tYes
    dsimp only
    rw [if_pos rfl]
    exact t2
  · have : ∃ ns : List Str, ys = ns.map V.str ∧ (∀ z ∈ ns, ok z) ∧ ns.length = ys.length := by
      have pr' : ∀ y ∈ ys, ∃ z, y = V.str z ∧ ok z := fun y hy => by
        obtain ⟨i, hi⟩ := List.mem_iff_getElem?.mp hy
        obtain ⟨b, _, h⟩ := pgetL pr hi
        exact h
      clear pr hy
      induction ys with
      | nil => exact ⟨[], rfl, (fun z hz => nomatch hz), rfl⟩
      | cons y ys ih =>
        obtain ⟨ns, e, h, l⟩ := ih fun y hy => pr' y (List.mem_cons_of_mem _ hy)
        obtain ⟨z, ez, oz⟩ := pr' y List.mem_cons_self
        exact ⟨z :: ns, by rw [ez, e]; rfl, fun x hx => (List.mem_cons.mp hx).elim (fun q => by rw [q]; exact oz) (h x), by rw [List.length_cons, List.length_cons, l]⟩
    obtain ⟨ns, rfl, h, l⟩ := this
    refine hd H ns s.1 s.2 hy ?_ h
    have := pr.length
    rw [List.length_map] at this
    rw [this]
    simp
theorem dep_rep : ∀ d : Nat, 1 ≤ d → dep d (List.replicate (d - 1) none) = some 1
  | 1, _ => rfl
  | d + 2, _ => by
    show (if 2 ≤ d + 2 then dep (d + 2 - 1) (List.replicate d none) else none) = some 1
    rw [if_pos (by omega)]
    exact dep_rep (d + 1) (by omega)
theorem flat_rep {α : Type} (x : α) : ∀ n : Nat, (List.replicate n [x]).flatten = List.replicate n x
  | 0 => rfl
  | n + 1 => by rw [List.replicate_succ, List.flatten_cons, flat_rep x n]; rfl
theorem cut_mem {xs : List V} {lo hi : Option Int} {x : V} (h : x ∈ cutV xs lo hi) : x ∈ xs := by
  unfold cutV at h
  exact List.mem_of_mem_drop (List.mem_of_mem_take h)
theorem str_list {xs : List V} {ok : Str → Prop} (h : ∀ x ∈ xs, ∃ z, x = V.str z ∧ ok z) : ∃ ns : List Str, xs = ns.map V.str ∧ ∀ z ∈ ns, ok z := by
  induction xs with
  | nil => exact ⟨[], rfl, fun z hz => nomatch hz⟩
  | cons y ys ih =>
    obtain ⟨ns, e, h'⟩ := ih fun y hy => h y (List.mem_cons_of_mem _ hy)
    obtain ⟨z, ez, oz⟩ := h y List.mem_cons_self
    exact ⟨z :: ns, by rw [ez, e]; rfl, fun x hx => (List.mem_cons.mp hx).elim (fun q => by rw [q]; exact oz) (h' x)⟩
/-- the steps drawn behind i turns -/
structure Drawn (i : Nat) (sts : List Stp) (p : Nat) : Prop where
  dp : dep 0 sts = some p
  nm : ∀ z ∈ allN sts, PoolNm z
  nn : (allN sts).length ≤ 20 * i
  ln : sts.length + p = 2 * i
theorem drawn_s {i : Nat} {sts : List Stp} {p : Nat} {ns : List Str} (h : Drawn i sts p) (hn : ∀ z ∈ ns, PoolNm z) (hl : ns.length ≤ 20) : Drawn (i + 1) (sts ++ [some ns]) (p + 1) := by
  refine ⟨by rw [dep_app, h.dp]; rfl, fun z hz => ?_, ?_, ?_⟩
  · rw [allN_app] at hz
    rcases List.mem_append.mp hz with q | q
    · exact h.nm z q
    · have : z ∈ ns := by simpa [allN, nmsOf] using q
      exact hn z this
  · rw [allN_app, List.length_append]
    have e : (allN [some ns]).length = ns.length := by simp [allN, nmsOf]
    have := h.nn
    omega
  · have := h.ln
    rw [List.length_append, List.length_singleton]; omega
theorem drawn_p {i : Nat} {sts : List Stp} {p : Nat} (h : Drawn i sts p) (h2 : 2 ≤ p) : Drawn i (sts ++ [none]) (p - 1) := by
  have e : allN (sts ++ [none]) = allN sts := by rw [allN_app]; simp [allN, nmsOf]
  refine ⟨?_, fun z hz => h.nm z (by rw [e] at hz; exact hz), by rw [e]; exact h.nn, ?_⟩
  · rw [dep_app, h.dp]
    show (if 2 ≤ p then some (p - 1) else none) = _
    rw [if_pos h2]
  · have := h.ln
    rw [List.length_append, List.length_singleton]; omega
theorem allN_rep : ∀ n : Nat, allN (List.replicate n none) = []
  | 0 => rfl
  | n + 1 => by
    show nmsOf none ++ allN (List.replicate n none) = []
    rw [allN_rep n]; rfl
theorem drawn_ok {i : Nat} {sts : List Stp} {p : Nat} (h : Drawn i sts p) (h1 : 1 ≤ p) (hi : i ≤ 4) : TreeOk (sts ++ List.replicate (p - 1) none) := by
  have e : allN (sts ++ List.replicate (p - 1) none) = allN sts := by rw [allN_app, allN_rep, List.append_nil]
  refine ⟨?_, fun z hz => h.nm z (by rw [e] at hz; exact hz), ?_, ?_⟩
  · rw [dep_app, h.dp]
    exact dep_rep p h1
  · rw [e]
    have := h.nn
    omega
  · have := h.ln
    rw [List.length_append, List.length_replicate]; omega
theorem prep {α β : Type} {F : α → β → Prop} {a : α} {b : β} (h : F a b) : ∀ n : Nat, Paired F (List.replicate n a) (List.replicate n b)
  | 0 => .nil
  | n + 1 => .cons h (prep h n)
section
variable {P : Program} {w : World} {K : PySem.W.Frag} {mg : Str → Option Value} {base : Heap} {CP CF : Addr}
def spTree : Sp := fun vs H Q _ => ∃ (a c b : Addr) (pl : List Str), vs = [.ref a, .ref b, .int 4, .int 20] ∧ Hnd H a c ∧ H b = some (.lst (pl.map V.str)) ∧ b ≠ a ∧ 0 < pl.length ∧ pl.length ≤ 1000 ∧ (∀ z ∈ pl, PoolNm z) ∧
  ∀ H' v sts, ExB a H H' → Hnd H' a c → TreeAt H' v sts → TreeOk sts → Q v H'
theorem c_tree (T : Txt K mg CP CF) : C8.Cal P w K mg base 3 "_law_tree" spTree [] := by
  refine mkc (N := ["_law_hand_here", "_law_pool_here", "_law_streams", "_law_most", "_law_steps", "_law_pile", "_law_many", "_law_k", "_law_some", "_law_names", "_law_turn"]) T.d_law_tree (by decide +kernel) (fun vs H Q E h => ?_) (fun f cdv A outer s H vs Q E hr h => ?_)
  · obtain ⟨a, c, b, pl, rfl, _⟩ := h; rfl
  · obtain ⟨a, c, b, pl, rfl, hH, hb, nba, l0, l1, pok, q⟩ := h
    have nd : (["_law_hand_here", "_law_pool_here", "_law_streams", "_law_most", "_law_steps", "_law_pile", "_law_many", "_law_k", "_law_some", "_law_names", "_law_turn"] : List Str).Nodup := by decide +kernel
    refine ⟨_, pss_cons (ps_par (i := 4) (j := 5) (by rfl) nd rfl rfl (by decide) rfl rfl (pa_cons (pe_lst pa_nil) (pa_cons pe_int pa_nil)) (by rfl))
      (pss_cons (ps_set (i := 6) nd rfl (Or.inl rfl) (pe_op op_add pe_int (C8.pe_c (c_draw T) hr (by decide) (by rfl) (pa_cons (pv 0) (pa_cons (pv 2) pa_nil)))))
      (pss_cons (ps_for PassesOwn.never rfl (pi_range1 (by rfl) T.z_range (pa_cons (pv 6) pa_nil)) (pg_name (i := 7) nd rfl (.inl rfl))
        (pss_cons (ps_set (i := 8) nd rfl (Or.inr rfl) (pe_op op_cat
          (pe_lc (own := [("_law_turn", 10)]) (g := gName 10) (by rfl) nd (pi_range1 (by rfl) T.z_range (pa_cons (pe_op op_add pe_int (C8.pe_c (c_draw T) hr (by decide) (by rfl) (pa_cons (pv 0) (pa_cons pe_int pa_nil)))) pa_nil))
            (blkOk_by (own := [("_law_turn", 10)]) (N := ["_law_hand_here", "_law_pool_here", "_law_streams", "_law_most", "_law_steps", "_law_pile", "_law_many", "_law_k", "_law_some", "_law_names", "_law_turn"]) (sc := C8.fnScope (topS 59)) (by decide +kernel))
            (fun _ _ _ _ _ => pg_name (i := 10) nd rfl (Or.inl rfl)) (fun _ _ _ _ _ => pts_nil) (fun _ _ _ _ _ => C8.pe_c (c_any T) hr (by decide) (by rfl) (pa_cons (pv 0) (pa_cons (pv 1) pa_nil))))
          (pe_slice sl_list (pv 1) po_none (po_some pe_int))))
        (pss_cons (ps_setLc (i := 9) (own := [("_law_turn", 10)]) (g := gName 10) (by rfl) nd rfl rfl (by rfl) (pi_range1 (by rfl) T.z_range (pa_cons (C8.pe_c (c_draw T) hr (by decide) (by rfl) (pa_cons (pv 0) (pa_cons (pe_op op_add (pv 3) pe_int) pa_nil))) pa_nil))
            (blkOk_by (own := [("_law_turn", 10)]) (N := ["_law_hand_here", "_law_pool_here", "_law_streams", "_law_most", "_law_steps", "_law_pile", "_law_many", "_law_k", "_law_some", "_law_names", "_law_turn"]) (sc := C8.fnScope (topS 59)) (by decide +kernel))
            (fun _ _ _ _ _ => pg_name (i := 10) nd rfl (Or.inl rfl)) (fun _ _ _ _ _ => pts_nil)
            (fun _ _ _ _ _ => C8.pe_c (c_any T) hr (by decide) (by rfl) (pa_cons (pv 0) (pa_cons (pe_ifExp (pt_cmpR op_gt (C8.pe_c (c_draw T) hr (by decide) (by rfl) (pa_cons (pv 0) (pa_cons pe_int pa_nil))) pe_int (nomark _)) (pv 8) (pv 1)) pa_nil))))
        (pss_cons (ps_expr (pe_bm F.plainAttrs_list F.slot_list_append F.type_list_append mt_append (pv 4) (pa_cons (pe_tup (pa_cons pe_str (pa_cons (pe_callTy cr_tupF (by rfl) T.z_tuple bo_tuple (pa_cons (pv 9) pa_nil)) pa_nil))) pa_nil)))
        (pss_cons (ps_set (i := 5) nd rfl (Or.inl rfl) (pe_op op_add (pv 5) pe_int))
        (pss_one (ps_while PassesOwn.never (PW.pt (pw_and (pt_cmpR op_gt (pv 5) pe_int (nomark _)) (pw_and1 (pt_cmpR op_eq (C8.pe_c (c_draw T) hr (by decide) (by rfl) (pa_cons (pv 0) (pa_cons pe_int pa_nil))) pe_int (nomark _)))))
          (pss_cons (ps_expr (pe_bm F.plainAttrs_list F.slot_list_append F.type_list_append mt_append (pv 4) (pa_cons (pe_tup (pa_cons pe_str pa_nil)) pa_nil)))
          (pss_one (ps_set (i := 5) nd rfl (Or.inl rfl) (pe_op op_sub (pv 5) pe_int)))))))))))
      (pss_one (ps_ret (pe_callTy cr_tupF (by rfl) T.z_tuple bo_tuple (pa_cons (pe_op op_cat (pv 4) (pe_op op_rep (pe_lst (pa_cons (pe_tup (pa_cons pe_str pa_nil)) pa_nil)) (pe_op op_sub (pv 5) pe_int))) pa_nil)))))), ?_⟩
    refine ⟨Nat.zero_le _, fun S hS => ?_⟩
    have s1 := sn hS (o := .lst [])
    have hH0 := hH.st s1
    refine ⟨_, _, rfl, ?_⟩
    refine ⟨_, rfl, _, rfl, a, c, 4, rfl, hH0, by decide, by decide, fun H1 d x1 hH1 d0 d1 => ⟨_, _, rfl, rfl, ?_⟩⟩
    have nS := (hH.ne hS).1
    have xH1 : ExB a H H1 := (ExB.of s1).trans x1
    have hS1 : H1 S = some (.lst []) := x1 _ _ (Ne.symm nS) upd_same
    refine ⟨_, rfl, _, rfl, by omega, by omega, ?_⟩
    refine for_range (lo := 0) (n := (1 + d).toNat) (fun i σ H2 => ∃ y7 y8 y9 k us sts p, σ = [some (.ref a), some (.ref b), some (.int 4), some (.int 20), some (.ref S), some (.int k), some (.int (1 + d)), y7, y8, y9, none] ∧ k = ((p : Nat) : Int) ∧ ExB a H H2 ∧ Hnd H2 a c ∧ H2 S = some (.lst us) ∧ Paired (StepAt H2) us sts ∧ Drawn i sts p ∧ (0 < i → 1 ≤ p))
      ⟨none, none, none, 0, [], [], 0, rfl, rfl, xH1, hH1, hS1, .nil, ⟨rfl, (fun z hz => nomatch hz), Nat.le_refl _, rfl⟩, fun h => absurd h (by decide)⟩ ?_ ?_
    · rintro i σ H2 hi ⟨y7, y8, y9, k, us, sts, p, rfl, rfl, x2, hH2, hS2, pu, dr, _⟩
      -- some
      refine ⟨_, rfl, a, c, 3, rfl, hH2, by decide, by decide, fun H3 d2 x3 hH3 d20 d21 => ⟨_, _, rfl, rfl, _, rfl, by omega, by omega, fun D hD => ?_⟩⟩
      have xH3 := x2.trans x3
      have hb3 := xH3 _ _ nba hb
      refine lc_draw (a := a) (c := c) PoolNm hH3 hD (by omega) (fun x H4 x4 hH4 Ny kk => ⟨rfl, ?_⟩) (fun H4 ns1 x4 hH4 hy1 ln1 ok1 => ?_)
      · refine ⟨_, rfl, _, rfl, a, c, b, _, rfl, hH4, x4 _ _ nba hb3, by rw [List.length_map]; exact l0, by rw [List.length_map]; omega, nba, fun H5 x x5 hH5 hx => ?_⟩
        obtain ⟨z, hz, rfl⟩ := List.mem_map.mp hx
        exact kk z H5 x5 hH5 (pok z hz)
      have hb4 := x4 _ _ nba hb3
      refine ⟨_, rfl, _, rfl, b, _, rfl, SqL.of hb4, fun l hl => ?_⟩
      have neDl : D ≠ l := fun z => by rw [← z, hy1] at hl; cases hl
      refine ⟨D, l, _, _, rfl, rfl, by rw [upd_ne neDl]; exact hy1, upd_same, ?_, fun l3 hl3 => ?_⟩
      · have h1 := cutV_length (pl.map V.str) none (some 1)
        rw [List.length_map] at h1 ⊢
        exact sz (by omega)
      have sA : Same H4 (upd (upd H4 l (.lst (cutV (pl.map V.str) none (some 1)))) l3 (.lst (ns1.map V.str ++ cutV (pl.map V.str) none (some 1)))) := sm (sn hl) ((sn hl).free hl3)
      obtain ⟨nsS, eS, okS⟩ := str_list (xs := ns1.map V.str ++ cutV (pl.map V.str) none (some 1)) (ok := PoolNm) (fun x hx => by
        rcases List.mem_append.mp hx with z | z
        · obtain ⟨y, hy, rfl⟩ := List.mem_map.mp z
          exact ⟨y, rfl, ok1 y hy⟩
        · obtain ⟨y, hy, rfl⟩ := List.mem_map.mp (cut_mem z)
          exact ⟨y, rfl, pok y hy⟩)
      have hl3' : upd (upd H4 l (.lst (cutV (pl.map V.str) none (some 1)))) l3 (.lst (ns1.map V.str ++ cutV (pl.map V.str) none (some 1))) l3 = some (.lst (nsS.map V.str)) := by rw [upd_same, eS]
      have lS : 0 < nsS.length ∧ nsS.length ≤ 2000 := by
        have h1 := cutV_length (pl.map V.str) none (some 1)
        have h2 := congrArg List.length eS
        rw [List.length_append, List.length_map, List.length_map] at h2
        rw [List.length_map] at h1
        omega
      have n3 : l3 ≠ a := fun z => (hH4.ne ((sn hl).free hl3)).1 z.symm
      have hH5 := hH4.st sA
      have hb5 := sA _ _ hb4
      have xH5 := (xH3.trans x4).trans (ExB.of sA)
      have xt25 : ExT H2 (upd (upd H4 l (.lst (cutV (pl.map V.str) none (some 1)))) l3 (.lst (ns1.map V.str ++ cutV (pl.map V.str) none (some 1)))) := ((hH2.tx x3).trans (hH3.tx x4)).trans (tx sA)
      have hS5 : upd (upd H4 l (.lst (cutV (pl.map V.str) none (some 1)))) l3 (.lst (ns1.map V.str ++ cutV (pl.map V.str) none (some 1))) S = some (.lst us) := sA _ _ (x4 _ _ (Ne.symm nS) (x3 _ _ (Ne.symm nS) hS2))
      generalize upd (upd H4 l (.lst (cutV (pl.map V.str) none (some 1)))) l3 (.lst (ns1.map V.str ++ cutV (pl.map V.str) none (some 1))) = H5 at hl3' hH5 hb5 xH5 xt25 hS5 ⊢
      -- names
      refine ⟨_, rfl, _, rfl, _, _, rfl, rfl, a, c, _, rfl, hH5, by decide, by decide, fun H6 d3 x6 hH6 d30 d31 => ⟨_, rfl, by omega, by omega, fun D2 hD2 => ?_⟩⟩
      have hb6 := x6 _ _ nba hb5
      have hl6 := x6 _ _ n3 hl3'
      refine lc_draw (a := a) (c := c) PoolNm hH6 hD2 (by omega) (fun x H7 x7 hH7 Ny kk => ⟨rfl, ?_⟩) (fun H7 ns2 x7 hH7 hy2 ln2 ok2 => ?_)
      · refine ⟨_, rfl, _, rfl, a, c, 3, rfl, hH7, by decide, by decide, fun H8 d4 x8 hH8 d40 d41 => ?_⟩
        have hb8 := x8 _ _ nba (x7 _ _ nba hb6)
        have hl8 := x8 _ _ n3 (x7 _ _ n3 hl6)
        by_cases h : 0 < d4
        · refine ⟨_, _, rfl, rfl, true, blT h, iteT ⟨_, rfl, a, c, l3, _, rfl, hH8, hl8, by rw [List.length_map]; exact lS.1, by rw [List.length_map]; omega, n3, fun H9 x x9 hH9 hx => ?_⟩⟩
          obtain ⟨z, hz, rfl⟩ := List.mem_map.mp hx
          exact kk z H9 (x8.trans x9) hH9 (okS z hz)
        · refine ⟨_, _, rfl, rfl, false, blF h, iteF ⟨_, rfl, a, c, b, _, rfl, hH8, hb8, by rw [List.length_map]; exact l0, by rw [List.length_map]; omega, nba, fun H9 x x9 hH9 hx => ?_⟩⟩
          obtain ⟨z, hz, rfl⟩ := List.mem_map.mp hx
          exact kk z H9 (x8.trans x9) hH9 (pok z hz)
      have xH7 := (xH5.trans x6).trans x7
      have xt27 := (xt25.trans (hH5.tx x6)).trans (hH6.tx x7)
      have hS7 := x7 _ _ (Ne.symm nS) (x6 _ _ (Ne.symm nS) hS5)
      have pu7 := pu.mono fun _ _ z => z.mono xt27
      have lus : us.length ≤ 100 := by
        have := dr.ln
        rw [pu.length]; omega
      refine ⟨_, rfl, .inl ⟨rfl, _, SqL.of hS7⟩, _, rfl, D2, _, rfl, SqL.of hy2, fun t o on ht => ⟨(by show 2 ≤ sizeLine; decide), fun tp htp => ?_⟩⟩
      have sB : Same H7 (upd (upd H7 t (.frz o (.tup (ns2.map V.str)))) tp (.tup [.str "stream", .ref t])) := sm (sn ht) ((sn ht).free htp)
      have hst : StepAt (upd (upd H7 t (.frz o (.tup (ns2.map V.str)))) tp (.tup [.str "stream", .ref t])) (.ref tp) (some ns2) := ⟨tp, t, rfl, upd_same, o, on, sn htp _ _ upd_same⟩
      have hS8 := sB _ _ hS7
      have hH8 := hH7.st sB
      have xH8 := xH7.trans (ExB.of sB)
      have pu8 := pu7.mono fun _ _ z => z.mono (tx sB)
      generalize upd (upd H7 t (.frz o (.tup (ns2.map V.str)))) tp (.tup [.str "stream", .ref t]) = H8 at hst hS8 hH8 xH8 pu8 ⊢
      refine ⟨S, _, _, rfl, rfl, hS8, szl (by omega), ?_⟩
      have xt8 : ExT H8 (upd H8 S (.lst (us ++ [.ref tp]))) := tx_mut hS8 rfl
      have nHS := hH.ne hS
      refine ⟨_, rfl, _, _, rfl, rfl, ?_⟩
      refine ⟨fun m σ H' => ∃ k us sts p, σ = [some (.ref a), some (.ref b), some (.int 4), some (.int 20), some (.ref S), some (.int k), some (.int (1 + d)), some (.int (0 + (i : Int))), some (.ref l3), some (.ref D2), none] ∧ k = ((p : Nat) : Int) ∧ ExB a H H' ∧ Hnd H' a c ∧ H' S = some (.lst us) ∧ Paired (StepAt H') us sts ∧ Drawn (i + 1) sts p ∧ 1 ≤ p ∧ m = p,
        ⟨_, _, us ++ [.ref tp], sts ++ [some ns2], p + 1, rfl, rfl, xH8.new hS, hH8.up nHS, upd_same, (pu8.mono fun _ _ z => z.mono xt8).snoc (hst.mono xt8), drawn_s dr ok2 (by omega), by omega, rfl⟩, ?_⟩
      rintro m σ H' ⟨k, us, sts, p, rfl, rfl, x9, hH9, hS9, pu9, dr9, p1, rfl⟩
      refine ⟨_, rfl, _, _, rfl, rfl, ?_⟩
      by_cases h2 : (1 : Int) < (m : Int)
      · refine ⟨true, blT h2, iteT ?_⟩
        refine ⟨_, rfl, a, c, 2, rfl, hH9, by decide, by decide, fun H10 d5 x10 hH10 d50 d51 => ⟨rfl, ?_⟩⟩
        have hS10 := x10 _ _ (Ne.symm nS) hS9
        have pu10 := pu9.mono fun _ _ z => z.mono (hH9.tx x10)
        have lus9 : us.length ≤ 100 := by
          have := dr9.ln
          rw [pu9.length]; omega
        by_cases h3 : d5 = 0
        · refine ⟨true, blT (by rw [h3]), iteT ?_⟩
          refine ⟨fun σ' H'' => ∃ k us sts p', σ' = [some (.ref a), some (.ref b), some (.int 4), some (.int 20), some (.ref S), some (.int k), some (.int (1 + d)), some (.int (0 + (i : Int))), some (.ref l3), some (.ref D2), none] ∧ k = ((p' : Nat) : Int) ∧ ExB a H H'' ∧ Hnd H'' a c ∧ H'' S = some (.lst us) ∧ Paired (StepAt H'') us sts ∧ Drawn (i + 1) sts p' ∧ 1 ≤ p' ∧ p' < m,
            fun σ' H'' ⟨k, us, sts, p', e1, e2, e3, e4, e5, e6, e7, e8, e9⟩ => ⟨p', e9, k, us, sts, p', e1, e2, e3, e4, e5, e6, e7, e8, rfl⟩, ?_⟩
          refine ⟨_, rfl, .inl ⟨rfl, _, SqL.of hS10⟩, (by show 1 ≤ sizeLine; decide), fun tq htq => ?_⟩
          have sC : Same H10 (upd H10 tq (.tup [.str "pour"])) := sn htq
          have hsq : StepAt (upd H10 tq (.tup [.str "pour"])) (.ref tq) none := ⟨tq, rfl, upd_same⟩
          have hS11 := sC _ _ hS10
          have hH11 := hH10.st sC
          have x11 := (x9.trans x10).trans (ExB.of sC)
          have pu11 := pu10.mono fun _ _ z => z.mono (tx sC)
          generalize upd H10 tq (.tup [.str "pour"]) = H11 at hsq hS11 hH11 x11 pu11 ⊢
          have xt11 : ExT H11 (upd H11 S (.lst (us ++ [.ref tq]))) := tx_mut hS11 rfl
          refine ⟨S, _, _, rfl, rfl, hS11, szl (by omega), ?_⟩
          refine ⟨_, rfl, _, _, rfl, rfl, ?_⟩
          exact ⟨_, us ++ [.ref tq], sts ++ [none], m - 1, rfl, by omega, x11.new hS, hH11.up nHS, upd_same, (pu11.mono fun _ _ z => z.mono xt11).snoc (hsq.mono xt11), drawn_p dr9 (by omega), by omega, by omega⟩
        · exact ⟨false, blF (fun z => h3 (V.int.inj z)), iteF ⟨_, _, _, _, us, sts, m, rfl, rfl, x9.trans x10, hH10, hS10, pu10, dr9, fun _ => p1⟩⟩
      · exact ⟨false, blF h2, iteF ⟨_, _, _, _, us, sts, m, rfl, rfl, x9, hH9, hS9, pu9, dr9, fun _ => p1⟩⟩
    · rintro σ H2 ⟨y7, y8, y9, k, us, sts, p, rfl, rfl, x2, hH2, hS2, pu, dr, p1⟩
      have p1' : 1 ≤ p := p1 (by omega)
      have lus : us.length + p ≤ 100 := by
        have := dr.ln
        rw [pu.length]; omega
      refine ⟨_, rfl, (by show 1 ≤ sizeLine; decide), fun tq htq => ⟨(by show 1 ≤ sizeLine; decide), fun L hL => ?_⟩⟩
      have sA : Same H2 (upd (upd H2 tq (.tup [.str "pour"])) L (.lst [.ref tq])) := sm (sn htq) ((sn htq).free hL)
      have hq : StepAt (upd (upd H2 tq (.tup [.str "pour"])) L (.lst [.ref tq])) (.ref tq) none := ⟨tq, rfl, sn hL _ _ upd_same⟩
      have hL2 : upd (upd H2 tq (.tup [.str "pour"])) L (.lst [.ref tq]) L = some (.lst [.ref tq]) := upd_same
      generalize upd (upd H2 tq (.tup [.str "pour"])) L (.lst [.ref tq]) = H3 at sA hq hL2 ⊢
      have ek : ((p : Int) - 1).toNat = p - 1 := by omega
      refine ⟨_, rfl, _, _, rfl, rfl, L, _, _, rfl, rfl, hL2, by omega, by omega, by rw [ek]; exact sz (by show 1 * (p - 1) ≤ 100000; omega), fun R hR => ?_⟩
      rw [ek, flat_rep]
      have sB : Same H3 (upd H3 R (.lst (List.replicate (p - 1) (.ref tq)))) := sn hR
      have hS4 := sB _ _ (sA _ _ hS2)
      refine ⟨S, R, _, _, rfl, rfl, hS4, upd_same, by rw [List.length_replicate]; exact sz (by omega), fun F hF => ?_⟩
      have sC := sn hF (o := .lst (us ++ List.replicate (p - 1) (.ref tq)))
      refine ⟨F, _, rfl, SqL.of upd_same, fun t o on ht => ?_⟩
      have sD := ((sA.trans sB).trans sC).trans (sn ht (o := .frz o (.tup (us ++ List.replicate (p - 1) (.ref tq)))))
      refine q _ (.ref t) (sts ++ List.replicate (p - 1) none) (x2.trans (ExB.of sD)) (hH2.st sD) ⟨t, _, rfl, ⟨o, on, upd_same⟩, papp (pu.mono fun _ _ z => z.mono (tx sD)) (prep (hq.mono (tx ((sB.trans sC).trans (sn ht)))) _)⟩ (drawn_ok dr p1' (by omega))
end
end Kn
set_option Elab.async false
set_option linter.all false
set_option maxRecDepth 100000
set_option maxHeartbeats 4000000
set_option pp.maxSteps 300
/-! The law's own look: lost, joined, is_truth. -/
namespace Kn
open PySem PySem.Spec PyProof.Rows L2 KM
theorem lenS (K : PySem.W.Frag) {X : Cx} (h : X.K = K := by rfl) : CallR X (.builtin "len") (fun xs H Q => ∃ p ys, xs = [.ref p] ∧ (SqL K H p ys ∨ SqT K H p ys) ∧ Q (.int ys.length) H) := h ▸ call_len_seq
theorem isiK (K : PySem.W.Frag) {X : Cx} (h : X.K = K := by rfl) : CallR X (.builtin "isinstance") (rIsi K) := h ▸ call_isi
section
variable {P : Program} {w : World} {K : PySem.W.Frag} {mg : Str → Option Value} {base : Heap} {CP CF : Addr}
theorem c_llost (T : Txt K mg CP CF) : C8.Cal P w K mg base 1 "_law_lost" spLostOf [] := by
  refine mkc (N := ["_law_sketch_here", "_law_name", "_law_count"]) T.d_law_lost (by decide +kernel) (fun vs H Q E h => ?_) (fun f cdv A outer s H vs Q E hr h => ?_)
  · obtain ⟨v, sk, rfl, _⟩ := h; rfl
  · obtain ⟨v, sk, rfl, ⟨a, w', rfl, ha, b, us, rfl, hb, pr⟩, hl, q⟩ := h
    have nd : (["_law_sketch_here", "_law_name", "_law_count"] : List Str).Nodup := by decide +kernel
    refine ⟨_, pss_one (ps_ret (pe_op op_sub (pe_ix ix_tup (pv 0) pe_int (fun _ _ => rfl)) (pe_callB (cr_sum rfl) (by rfl) T.z_sum bo_sum (pa_cons
      (pe_lc (own := [("_law_name", 1), ("_law_count", 2)]) (g := gTup K 2 (gCons (gName 1) (gCons (gName 2) gNil))) (by rfl) nd (pi_tup (pe_ix ix_tup (pv 0) pe_int (fun _ _ => rfl)))
        (blkOk_by (own := [("_law_name", 1), ("_law_count", 2)]) (N := ["_law_sketch_here", "_law_name", "_law_count"]) (sc := C8.fnScope (topS 60)) (by decide +kernel))
        (fun _ _ _ _ _ => pg_tup rfl (pgs_cons (pg_name (i := 1) nd rfl (Or.inl rfl)) (pgs_cons (pg_name (i := 2) nd rfl (Or.inl rfl)) pgs_nil))) (fun _ _ _ _ _ => pts_nil)
        (fun _ _ _ _ _ => pv 2)) pa_nil)))), ?_⟩
    refine ⟨_, rfl, a, _, 1, _, rfl, rfl, SqT.of ha, rfl, ?_⟩
    refine ⟨_, rfl, a, _, 3, _, rfl, rfl, SqT.of ha, rfl, b, rfl, ⟨_, hb.sq⟩, fun D hD => ?_⟩
    refine lc_all (walk_tup (K := K) (a := b) (xs := us)) (bs := sk.kept) pr.length.symm (by rw [pr.length]; omega) hD (fun p => p.2) (fun _ v c => v = V.int c) (fun _ h => h) (fun H3 s3 => (hb.st s3).sq) (fun i p x H3 H4 e s3 y Ny k => ?_) mg_pair (fun H3 ys s3 hy pr2 => ?_)
    · obtain ⟨rfl, hx⟩ := y
      obtain ⟨p', hp, c, rfl, hc⟩ := pgetL pr hx
      have ep : p' = p := Option.some.inj (hp.symm.trans e)
      subst ep
      exact ⟨c, _, rfl, SqT.of (s3 _ _ hc), rfl, _, _, rfl, _, _, rfl, rfl, rfl, _, rfl, k _ _ (Same.refl _) rfl⟩
    · have ey := peq pr2
      refine ⟨D, sk.kept.map (·.2), rfl, SqL.of (by rw [hy, ey, List.map_map]), _, _, rfl, rfl, ?_⟩
      exact q _ s3
theorem c_ljoined (T : Txt K mg CP CF) : C8.Cal P w K mg base 1 "_law_joined" spRaw [] := by
  refine mkc (N := ["_law_counts", "_law_others", "_law_told", "_law_name", "_law_count"]) T.d_law_joined (by decide +kernel) (fun vs H Q E h => ?_) (fun f cdv A outer s H vs Q E hr h => ?_)
  · obtain ⟨v, u, cs, ds, rfl, _⟩ := h; rfl
  · obtain ⟨v, u, cs, ds, rfl, ⟨a, xs, rfl, ha, pa⟩, ⟨b, ys, rfl, hb, pb⟩, nds, hl, hz, q⟩ := h
    have nd : (["_law_counts", "_law_others", "_law_told", "_law_name", "_law_count"] : List Str).Nodup := by decide +kernel
    refine ⟨_, pss_cons (ps_set (i := 2) nd rfl (Or.inr rfl) (pe_callTy (cr_dictT rfl) (by rfl) T.z_dict bo_dict (pa_cons (pv 1) pa_nil)))
      (pss_one (ps_ret (pe_callB (cr_sum rfl) (by rfl) T.z_sum bo_sum (pa_cons
        (pe_lc (own := [("_law_name", 3), ("_law_count", 4)]) (g := gTup K 2 (gCons (gName 3) (gCons (gName 4) gNil))) (by rfl) nd (pi_tup (pv 0))
          (blkOk_by (own := [("_law_name", 3), ("_law_count", 4)]) (N := ["_law_counts", "_law_others", "_law_told", "_law_name", "_law_count"]) (sc := C8.fnScope (topS 66)) (by decide +kernel))
          (fun _ _ _ _ _ => pg_tup rfl (pgs_cons (pg_name (i := 3) nd rfl (Or.inl rfl)) (pgs_cons (pg_name (i := 4) nd rfl (Or.inl rfl)) pgs_nil))) (fun _ _ _ _ _ => pts_nil)
          (fun _ _ _ _ _ => pe_op op_mul (pv 4) (pe_dget2 (u1 hr) (pv 2) (pv 3) pe_int ⟨by rfl, by rfl, by rfl, by rfl⟩))) pa_nil)))), ?_⟩
    refine ⟨_, rfl, b, ys, ds, rfl, hb, pb, nds, fun d hd => ?_⟩
    have s1 : Same H (upd H d (.dK (ds.map kvP))) := sn hd
    refine ⟨_, rfl, a, rfl, ⟨_, (ha.st s1).sq⟩, fun D hD => ?_⟩
    refine lc_all (walk_tup (K := K) (a := a) (xs := xs)) (bs := cs) pa.length.symm (by rw [pa.length]; omega) hD (fun p => p.2 * KM.cnt ds p.1) (fun _ v c => v = V.int c) (fun _ h => h) (fun H3 s3 => ((ha.st s1).st s3).sq) (fun i p x H3 H4 e s3 y Ny k => ?_) mg_pair (fun H3 ys s3 hy pr2 => ?_)
    · obtain ⟨rfl, hx⟩ := y
      obtain ⟨p', hp, b', rfl, hb'⟩ := pgetL pa hx
      have ep : p' = p := Option.some.inj (hp.symm.trans e)
      subst ep
      have hm := hz p' (List.mem_of_getElem? hp)
      have hd3 := s3 _ _ (upd_same (H := H) (a := d) (o := .dK (ds.map kvP)))
      refine ⟨b', _, rfl, SqT.of (s3 _ _ (s1 _ _ hb')), rfl, _, _, rfl, _, _, rfl, rfl, rfl, _, rfl, _, rfl, d, rfl, .inl ⟨_, .inl hd3⟩, _, rfl, _, dget hd3, ?_⟩
      rw [val_getD]
      exact ⟨_, _, rfl, rfl, .inl ⟨by omega, by omega⟩, k _ _ (Same.refl _) rfl⟩
    · have ey := peq pr2
      refine ⟨D, _, rfl, SqL.of (by rw [hy, ey]), ?_⟩
      exact q _ (s1.trans s3)
theorem c_lis_int (T : Txt K mg CP CF) : C8.Cal P w K mg base 1 "_law_is_int" spIsInteger [] := by
  refine mkc (N := ["_law_thing"]) T.d_law_is_int (by decide +kernel) (fun vs H Q E h => ?_) (fun f cdv A outer s H vs Q E hr h => ?_)
  · obtain ⟨i, rfl, _⟩ := h; rfl
  · obtain ⟨i, rfl, q⟩ := h
    refine ⟨_, pss_one (ps_ret (pe_and (pe_callB call_isi (by rfl) T.z_isinstance bo_isinstance (pa_cons (pv 0) (pa_cons (pe_bltn (v := .ty "int") (by rfl) T.z_int bo_int rfl) pa_nil)))
      (pe_one (pe_not (pe_callB call_isi (by rfl) T.z_isinstance bo_isinstance (pa_cons (pv 0) (pa_cons (pe_bltn (v := .ty "bool") (by rfl) T.z_bool bo_bool rfl) pa_nil))))))), ?_⟩
    refine ⟨_, rfl, _, _, _, _, _, rfl, .ty "int", .base (.int i), kit_ty (r := true) (by decide +kernel), true, rfl, iteT ?_⟩
    exact ⟨_, rfl, _, _, _, _, _, rfl, .ty "bool", .base (.int i), kit_ty (r := false) (by decide +kernel), false, rfl, q⟩
theorem c_lis_name (T : Txt K mg CP CF) : C8.Cal P w K mg base 1 "_law_is_name" spIsName [] := by
  refine mkc (N := ["_law_thing", "_law_letters", "_law_sign"]) T.d_law_is_name (by decide +kernel) (fun vs H Q E h => ?_) (fun f cdv A outer s H vs Q E hr h => ?_)
  · obtain ⟨z, rfl, _⟩ := h; rfl
  · obtain ⟨z, rfl, ⟨l1, l8, hz⟩, q⟩ := h
    have nd : (["_law_thing", "_law_letters", "_law_sign"] : List Str).Nodup := by decide +kernel
    refine ⟨_, pss_cons (ps_set (i := 1) nd rfl (Or.inr rfl) pe_str) (pss_one (ps_ret (pe_and (pe_callB call_isi (by rfl) T.z_isinstance bo_isinstance (pa_cons (pv 0) (pa_cons (pe_bltn (v := .ty "str") (by rfl) T.z_str bo_str rfl) pa_nil)))
      (pe_and (pe_chain op_le op_le pe_int (pe_callB call_len_str (by rfl) T.z_len bo_len (pa_cons (pv 0) pa_nil)) pe_int)
      (pe_one (pe_callB (cr_all rfl) (by rfl) T.z_all bo_all (pa_cons
        (pe_lc (own := [("_law_sign", 2)]) (g := gName 2) (by rfl) nd (pi_str (pv 0))
          (blkOk_by (own := [("_law_sign", 2)]) (N := ["_law_thing", "_law_letters", "_law_sign"]) (sc := C8.fnScope (topS 63)) (by decide +kernel)) (fun _ _ _ _ _ => pg_name (i := 2) nd rfl (Or.inl rfl)) (fun _ _ _ _ _ => pts_nil)
          (fun _ _ _ _ _ => pe_cmpR op_in_sign (pv 2) (pv 1) (by rfl))) pa_nil))))))), ?_⟩
    refine ⟨_, rfl, _, _, _, _, _, rfl, .ty "str", .base (.str z), kit_ty (r := true) (by decide +kernel), true, rfl, iteT ?_⟩
    have hs : z.length ≤ sizeLine := sz (by omega)
    refine ⟨_, rfl, z, rfl, hs, 1, _, rfl, rfl, _, rfl, ?_⟩
    rw [if_pos (decide_eq_true (by omega))]
    refine ⟨_, 8, rfl, rfl, true, blT (by omega), iteT ?_⟩
    refine ⟨_, rfl, z, rfl, fun D hD => ?_⟩
    refine lc_all (walk_str (z := z)) (bs := z.cps.toList) (by simp) (by have : z.cps.size = z.length := rfl; omega) hD (fun _ => true) (fun _ v c => v = V.bl c) (fun _ h => h) (fun _ _ => trivial) (fun i b x H1 H2 e s y Ny k => ?_) mg_name (fun H1 ys s hy pr => ?_)
    · obtain ⟨rfl, c, hc, rfl⟩ := y
      have hm : c ∈ z.cps.toList := Array.mem_toList_iff.mpr (Array.mem_of_getElem? hc)
      obtain ⟨c1, c2⟩ := hz c hm
      refine ⟨rfl, _, rfl, _, rfl, c, _, rfl, rfl, k _ _ (Same.refl _) ?_⟩
      rw [decide_eq_true (in_letters c c1 c2)]
    · have ey := peq pr
      refine ⟨D, _, rfl, SqL.of (by rw [hy, ey]), ?_⟩
      rw [all_true]
      exact q _ s
theorem shp_strs {ns : List Str} (h : ∀ z ∈ ns, NmOk z) : SeqAt.shaped (.list (ns.map PyData.str)) = true := by
  unfold SeqAt.shaped
  have h1 := strs_can h
  have h2 := strs_dep ns
  rw [Bool.and_eq_true]
  refine ⟨?_, decide_eq_true ?_⟩
  · simp [PyData.canLay0, h1]
  · simp [PyData.depth]
    omega
theorem c_lare_counts (T : Txt K mg CP CF) : C8.Cal P w K mg base 2 "_law_are_counts" spAreCounts [] := by
  refine mkc (N := ["_law_thing", "_law_names", "_law_pair"]) T.d_law_are_counts (by decide +kernel) (fun vs H Q E h => ?_) (fun f cdv A outer s H vs Q E hr h => ?_)
  · obtain ⟨v, cs, rfl, _⟩ := h; rfl
  · obtain ⟨v, cs, rfl, ⟨a, us, rfl, ha, pr⟩, ok, hl, q⟩ := h
    have nd : (["_law_thing", "_law_names", "_law_pair"] : List Str).Nodup := by decide +kernel
    have hr1 : Room 1 _ := hr.mono (by decide)
    refine ⟨_, pss_cons (ps_if (PW.pt (pw_or (pt_not (pt_val (pe_callB call_isi (by rfl) T.z_isinstance bo_isinstance (pa_cons (pv 0) (pa_cons (pe_bltn (v := .ty "tuple") (by rfl) T.z_tuple bo_tuple rfl) pa_nil)))))
        (pw_or1 (pt_not (pt_val (pe_callB (cr_all rfl) (by rfl) T.z_all bo_all (pa_cons
          (pe_lc (own := [("_law_pair", 2)]) (g := gName 2) (by rfl) nd (pi_tup (pv 0))
            (blkOk_by (own := [("_law_pair", 2)]) (N := ["_law_thing", "_law_names", "_law_pair"]) (sc := C8.fnScope (topS 64)) (by decide +kernel)) (fun _ _ _ _ _ => pg_name (i := 2) nd rfl (Or.inl rfl)) (fun _ _ _ _ _ => pts_nil)
            (fun _ _ _ _ _ => pe_and (pe_callB (isiK K) (by rfl) T.z_isinstance bo_isinstance (pa_cons (pv 2) (pa_cons (pe_bltn (v := .ty "tuple") (by rfl) T.z_tuple bo_tuple rfl) pa_nil)))
              (pe_one (pe_cmpR op_eq (pe_callB (lenS K) (by rfl) T.z_len bo_len (pa_cons (pv 2) pa_nil)) pe_int (nomark _))))) pa_nil))))))) (pss_one (ps_ret pe_bl)) pss_nil)
      (pss_cons (ps_if (pt_not (pt_val (pe_callB (cr_all rfl) (by rfl) T.z_all bo_all (pa_cons
          (pe_lc (own := [("_law_pair", 2)]) (g := gName 2) (by rfl) nd (pi_tup (pv 0))
            (blkOk_by (own := [("_law_pair", 2)]) (N := ["_law_thing", "_law_names", "_law_pair"]) (sc := C8.fnScope (topS 64)) (by decide +kernel)) (fun _ _ _ _ _ => pg_name (i := 2) nd rfl (Or.inl rfl)) (fun _ _ _ _ _ => pts_nil)
            (fun _ _ _ _ _ => pe_and (C8.pe_c (c_lis_name T) hr1 (by decide) (by rfl) (pa_cons (pe_ix (ixT K) (pv 2) pe_int (fun _ _ => rfl)) pa_nil))
              (pe_and (C8.pe_c (c_lis_int T) hr1 (by decide) (by rfl) (pa_cons (pe_ix (ixT K) (pv 2) pe_int (fun _ _ => rfl)) pa_nil))
              (pe_one (pe_cmpR op_gt (pe_ix (ixT K) (pv 2) pe_int (fun _ _ => rfl)) pe_int (nomark _)))))) pa_nil)))) (pss_one (ps_ret pe_bl)) pss_nil)
      (pss_cons (ps_setLc (i := 1) (own := [("_law_pair", 2)]) (g := gName 2) (by rfl) nd rfl rfl (by rfl) (pi_tup (pv 0))
          (blkOk_by (own := [("_law_pair", 2)]) (N := ["_law_thing", "_law_names", "_law_pair"]) (sc := C8.fnScope (topS 64)) (by decide +kernel)) (fun _ _ _ _ _ => pg_name (i := 2) nd rfl (Or.inl rfl)) (fun _ _ _ _ _ => pts_nil)
          (fun _ _ _ _ _ => pe_ix (ixT K) (pv 2) pe_int (fun _ _ => rfl)))
      (pss_one (ps_ret (pe_cmpR (op_eqD hr.units) (pv 1) (pe_sortedSet (by rfl) hr.units (by rfl) T.z_sorted (by rfl) T.z_set (pv 1)) (nomark _)))))), ?_⟩
    refine ⟨_, rfl, _, _, _, _, _, rfl, .ty "tuple", .fTuple ha.choose_spec.2, kit_ty (r := true) (by decide +kernel), true, rfl, iteF ?_⟩
    refine ⟨_, rfl, a, rfl, ⟨_, ha.sq⟩, fun D hD => ?_⟩
    refine lc_all (walk_tup (K := K) (a := a) (xs := us)) (bs := cs) pr.length.symm (by rw [pr.length]; omega) hD (fun _ => true) (fun _ v c => v = V.bl c) (fun _ h => h) (fun H3 s3 => (ha.st s3).sq) (fun i p x H3 H4 e s3 y Ny k => ?_) mg_name (fun H1 ys s1 hy pr2 => ?_)
    · obtain ⟨rfl, hx⟩ := y
      obtain ⟨p', hp, b, rfl, hb⟩ := pgetL pr hx
      have hb3 := s3 _ _ hb
      refine ⟨rfl, _, rfl, _, _, _, _, _, rfl, .ty "tuple", .base (.tup hb3), kit_ty (r := true) (by decide +kernel), true, rfl, iteT ?_⟩
      exact ⟨_, rfl, b, _, rfl, .inr (SqT.of hb3), rfl, k _ _ (Same.refl _) (by simp)⟩
    have ey := peq pr2
    refine ⟨D, _, rfl, SqL.of (by rw [hy, ey]), ?_⟩
    rw [all_true]
    refine ⟨true, rfl, iteF ?_⟩
    -- each
    refine ⟨_, rfl, a, rfl, ⟨_, (ha.st s1).sq⟩, fun D2 hD2 => ?_⟩
    refine lc_all (walk_tup (K := K) (a := a) (xs := us)) (bs := cs) pr.length.symm (by rw [pr.length]; omega) hD2 (fun _ => true) (fun _ v c => v = V.bl c) (fun _ h => h) (fun H3 s3 => ((ha.st s1).st s3).sq) (fun i p x H3 H4 e s3 y Ny k => ?_) mg_name (fun H2 ys2 s2 hy2 pr3 => ?_)
    · obtain ⟨rfl, hx⟩ := y
      obtain ⟨p', hp, b, rfl, hb⟩ := pgetL pr hx
      have hm := List.mem_of_getElem? hp
      have hb3 := s3 _ _ (s1 _ _ hb)
      refine ⟨rfl, _, rfl, b, _, 0, _, rfl, rfl, SqT.of hb3, rfl, p'.1, rfl, ok.nm p' hm, fun H5 s5 => ⟨true, rfl, iteT ?_⟩⟩
      have hb5 := s5 _ _ hb3
      refine ⟨_, rfl, b, _, 1, _, rfl, rfl, SqT.of hb5, rfl, p'.2, rfl, true, rfl, iteT ?_⟩
      exact ⟨_, rfl, b, _, 1, _, rfl, rfl, SqT.of hb5, rfl, p'.2, 0, rfl, rfl, k _ _ s5 (blT (ok.pos p' hm))⟩
    have ey2 := peq pr3
    have s12 := s1.trans s2
    refine ⟨D2, _, rfl, SqL.of (by rw [hy2, ey2]), ?_⟩
    rw [all_true]
    refine ⟨true, rfl, iteF ?_⟩
    refine ⟨_, rfl, a, rfl, ⟨_, (ha.st s12).sq⟩, fun D3 hD3 => ?_⟩
    refine lc_all (walk_tup (K := K) (a := a) (xs := us)) (bs := cs) pr.length.symm (by rw [pr.length]; omega) hD3 (fun p => p.1) (fun _ v c => v = V.str c) (fun _ h => h) (fun H3 s3 => ((ha.st s12).st s3).sq) (fun i p x H3 H4 e s3 y Ny k => ?_) mg_name (fun H3 ys3 s3 hy3 pr4 => ?_)
    · obtain ⟨rfl, hx⟩ := y
      obtain ⟨p', hp, b, rfl, hb⟩ := pgetL pr hx
      have ep : p' = p := Option.some.inj (hp.symm.trans e)
      subst ep
      exact ⟨rfl, _, rfl, b, _, 0, _, rfl, rfl, SqT.of (s3 _ _ (s12 _ _ hb)), rfl, k _ _ (Same.refl _) rfl⟩
    have ey3 := peq pr4
    have en : ys3 = (nms cs).map V.str := by rw [ey3]; unfold nms; rw [List.map_map]; try rfl
    subst en
    have lnm : (nms cs).length = cs.length := by unfold nms; rw [List.length_map]
    refine ⟨_, rfl, _, rfl, D3, nms cs, rfl, SqL.of hy3, ok.asc, by omega, fun p hp => ?_⟩
    have hD3' := sn hp (o := .lst ((nms cs).map V.str)) _ _ hy3
    have ok' : ∀ z ∈ nms cs, NmOk z := fun z hz => by
      obtain ⟨v, hv⟩ := nms_mem hz
      exact ok.nm (z, v) hv
    refine ⟨.list ((nms cs).map PyData.str), .list ((nms cs).map PyData.str), .lst (SqL.of hD3') (dp_strs _), .lst (SqL.of upd_same) (dp_strs _), shp_strs ok', shp_strs ok', ?_⟩
    have e : PyData.eqv (.list ((nms cs).map PyData.str)) (.list ((nms cs).map PyData.str)) = true := by
      show PyData.eqvAll _ _ = true
      exact strs_eqv _
    rw [e]
    exact q _ ((s12.trans s3).trans (sn hp))
end
end Kn
set_option Elab.async false
set_option linter.all false
set_option maxRecDepth 100000
set_option maxHeartbeats 4000000
set_option pp.maxSteps 300
/-! is_truth. -/
namespace Kn
open PySem PySem.Spec PyProof.Rows L2 KM
section
variable {P : Program} {w : World} {K : PySem.W.Frag} {mg : Str → Option Value} {base : Heap} {CP CF : Addr}
def spIsTruth : Sp := fun vs H Q _ => ∃ (v u : V) (s : Sk) (ds : List (Str × Int)), vs = [v, u] ∧ SkAt H v s ∧ SkOk s ∧ CtsAt H u ds ∧ CtOk ds ∧ ds.length ≤ 1000 ∧ Tru s.kept s.off s.many ds ∧ ∀ H', Same H H' → Q (.bl true) H'
theorem c_lis_truth (T : Txt K mg CP CF) : C8.Cal P w K mg base 3 "_law_is_truth" spIsTruth [] := by
  refine mkc (N := ["_law_sketch_here", "_law_thing", "_law_counts", "_law_kept", "_law_taken", "_law_name", "_law_one"]) T.d_law_is_truth (by decide +kernel) (fun vs H Q E h => ?_) (fun f cdv A outer s H vs Q E hr h => ?_)
  · obtain ⟨v, u, sk, ds, rfl, _⟩ := h; rfl
  · obtain ⟨v, u, sk, ds, rfl, hS, ok, hD, okd, ld, tru, q⟩ := h
    have nd : (["_law_sketch_here", "_law_thing", "_law_counts", "_law_kept", "_law_taken", "_law_name", "_law_one"] : List Str).Nodup := by decide +kernel
    refine ⟨_, pss_cons (ps_if (pt_not (pt_val (C8.pe_c (c_lare_counts T) hr (by decide) (by rfl) (pa_cons (pv 1) pa_nil)))) (pss_one (ps_ret pe_bl)) pss_nil)
      (pss_cons (ps_asg (pe_tup (pa_cons (pe_callTy (cr_dictT rfl) (by rfl) T.z_dict bo_dict (pa_cons (pv 1) pa_nil))
          (pa_cons (pe_callTy (cr_dictT rfl) (by rfl) T.z_dict bo_dict (pa_cons (pe_ix ix_tup (pv 0) pe_int (fun _ _ => rfl)) pa_nil)) pa_nil))) (pg_tup rfl (pgs_cons (pg_name (i := 2) nd rfl (.inr rfl)) (pgs_cons (pg_name (i := 3) nd rfl (.inr rfl)) pgs_nil))))
      (pss_cons (ps_if (pt_not (pt_val (pe_callB (cr_all rfl) (by rfl) T.z_all bo_all (pa_cons
          (pe_lock (pe_lc (own := [("_law_name", 5)]) (g := gName 5) (by rfl) nd (pi_keys (pv 3))
            (blkOk_by (own := [("_law_name", 5)]) (N := ["_law_sketch_here", "_law_thing", "_law_counts", "_law_kept", "_law_taken", "_law_name", "_law_one"]) (sc := C8.fnScope (topS 65)) (by decide +kernel)) (fun _ _ _ _ _ => pg_name (i := 5) nd rfl (Or.inl rfl)) (fun _ _ _ _ _ => pts_nil)
            (fun _ _ _ _ _ => pe_cmp (pc_din (u1 hr) (pv 5) (pv 2)) (by rfl)))) pa_nil)))) (pss_one (ps_ret pe_bl)) pss_nil)
      (pss_cons (ps_lock (ps_setLc (i := 4) (own := [("_law_name", 5)]) (g := gName 5) (by rfl) nd rfl rfl (by rfl) (pi_keys (pv 2))
            (blkOk_by (own := [("_law_name", 5)]) (N := ["_law_sketch_here", "_law_thing", "_law_counts", "_law_kept", "_law_taken", "_law_name", "_law_one"]) (sc := C8.fnScope (topS 65)) (by decide +kernel)) (fun _ _ _ _ _ => pg_name (i := 5) nd rfl (Or.inl rfl)) (fun _ _ _ _ _ => pts_nil)
            (fun _ _ _ _ _ => pe_op op_sub (pe_dget (u1 hr) (pv 2) (pv 5) (fun _ _ => rfl)) (pe_dget2 (u1 hr) (pv 3) (pv 5) pe_int ⟨by rfl, by rfl, by rfl, by rfl⟩))))
      (pss_one (ps_ret (pe_and (pe_callB (cr_all rfl) (by rfl) T.z_all bo_all (pa_cons
          (pe_lc (own := [("_law_one", 6)]) (g := gName 6) (by rfl) nd (pi_list (pv 4))
            (blkOk_by (own := [("_law_one", 6)]) (N := ["_law_sketch_here", "_law_thing", "_law_counts", "_law_kept", "_law_taken", "_law_name", "_law_one"]) (sc := C8.fnScope (topS 65)) (by decide +kernel)) (fun _ _ _ _ _ => pg_name (i := 6) nd rfl (Or.inl rfl)) (fun _ _ _ _ _ => pts_nil)
            (fun _ _ _ _ _ => pe_chain op_le op_le pe_int (pv 6) (pe_ix (ixT K) (pv 0) pe_int (fun _ _ => rfl)))) pa_nil))
        (pe_one (pe_cmpR op_eq (pe_callB (cr_sum rfl) (by rfl) T.z_sum bo_sum (pa_cons (pv 4) pa_nil)) (C8.pe_c (c_llost T) hr (by decide) (by rfl) (pa_cons (pv 0) pa_nil)) (nomark _))))))))), ?_⟩
    obtain ⟨a, w', rfl, ha, kb, ks, rfl, hk, pk⟩ := id hS
    obtain ⟨b, xs, rfl, hb, px⟩ := id hD
    have lk := len_le ok
    have ndk := ok.ct.nd
    have ndd := okd.nd
    refine ⟨_, rfl, _, ds, rfl, hD, okd, ld, fun H1 s1 => ⟨true, rfl, iteF ?_⟩⟩
    refine ⟨_, rfl, b, xs, ds, rfl, hb.st s1, px.mono (fun _ _ z => z.mono (tx s1)), ndd, fun d1 hd1 => ?_⟩
    have s2 := s1.trans (sn hd1 (o := .dK (ds.map kvP)))
    refine ⟨_, rfl, a, _, 3, _, rfl, rfl, SqT.of (s2 _ _ ha), rfl, kb, ks, sk.kept, rfl, hk.st s2, pk.mono (fun _ _ z => z.mono (tx s2)), ndk, fun d2 hd2 => ?_⟩
    have s3 := s2.trans (sn hd2 (o := .dK (sk.kept.map kvP)))
    have c1 : DC (upd (upd H1 d1 (.dK (ds.map kvP))) d2 (.dK (sk.kept.map kvP))) d1 ds := sn hd2 _ _ upd_same
    have c2 : DC (upd (upd H1 d1 (.dK (ds.map kvP))) d2 (.dK (sk.kept.map kvP))) d2 sk.kept := upd_same
    have n12 : d1 ≠ d2 := fun z => by rw [← z, upd_same] at hd2; cases hd2
    refine ⟨(by show 2 ≤ sizeLine; decide), fun tp htp => ?_⟩
    have s4 := s3.trans (sn htp (o := .tup [.ref d1, .ref d2]))
    have c1 := sn htp (o := .tup [.ref d1, .ref d2]) _ _ c1
    have c2 := sn htp (o := .tup [.ref d1, .ref d2]) _ _ c2
    refine ⟨tp, _, rfl, SqT.of upd_same, rfl, _, _, rfl, _, _, rfl, rfl, ?_⟩
    generalize upd (upd (upd H1 d1 (.dK (ds.map kvP))) d2 (.dK (sk.kept.map kvP))) tp (.tup [.ref d1, .ref d2]) = H2 at s4 c1 c2 ⊢
    -- all kept are there
    refine ⟨d2, _, c2, mut_dK, fun od => ?_⟩
    refine ⟨_, rfl, d2, od, rfl, .inl ⟨_, upd_same, fun D hD => ?_⟩⟩
    have sub : ∀ n ∈ nms sk.kept, n ∈ nms ds := fun n hn => tru.sub ok.ct.pos n hn
    refine lc_all (walk_keys (d := d2) (o := od) (kvs := sk.kept.map kvP)) (bs := sk.kept) (by rw [List.length_map]) (by rw [List.length_map]; omega) hD (fun _ => true) (fun _ v c => v = V.bl c) (fun _ h => h) (fun H3 s3 => s3 _ _ upd_same) (fun i p x H3 H4 e s3 y Ny k => ?_) mg_name (fun H3 ys s5 hy pr => ?_)
    · obtain ⟨rfl, kk, vv, hkv, rfl⟩ := y
      obtain ⟨rfl, rfl⟩ := kv_ix e hkv
      have hm := sub _ (mem_nms (List.mem_of_getElem? e))
      have c3 : DC H4 d1 ds := s3 _ _ (by rw [upd_ne n12]; exact c1)
      have dg : DGet H4 d1 (.str p.1) (some (.int (KM.cnt ds p.1))) := by rw [val_in hm]; exact dget c3
      exact ⟨rfl, _, rfl, _, rfl, d1, _, rfl, dg, k _ _ (Same.refl _) rfl⟩
    have ey := peq pr
    have hd3 : H3 d2 = some (.frz od (.dK (sk.kept.map kvP))) := s5 _ _ upd_same
    have neD : D ≠ d2 := fun z => by rw [z, upd_same] at hD; cases hD
    have s6 : Same H2 (upd H3 d2 (.dK (sk.kept.map kvP))) := lock_same c2 s5
    refine ⟨hd3, D, _, rfl, SqL.of (by rw [upd_ne neD, hy, ey]), ?_⟩
    rw [all_true]
    refine ⟨true, rfl, iteF ?_⟩
    have s7 := s4.trans s6
    have c1 := s6 _ _ c1
    have c2 := s6 _ _ c2
    generalize upd H3 d2 (.dK (sk.kept.map kvP)) = H5 at s7 c1 c2 ⊢
    -- what was taken
    refine ⟨d1, _, c1, mut_dK, fun oe => ?_⟩
    refine ⟨_, rfl, d1, oe, rfl, .inl ⟨_, upd_same, fun D2 hD2 => ?_⟩⟩
    refine lc_all (walk_keys (d := d1) (o := oe) (kvs := ds.map kvP)) (bs := ds) (by rw [List.length_map]) (by rw [List.length_map]; omega) hD2 (fun p => p.2 - KM.cnt sk.kept p.1) (fun _ v c => v = V.int c) (fun _ h => h) (fun H3 s3 => s3 _ _ upd_same) (fun i p x H3 H4 e s3 y Ny k => ?_) mg_name (fun H6 ys2 s8 hy2 pr2 => ?_)
    · obtain ⟨rfl, kk, vv, hkv, rfl⟩ := y
      obtain ⟨rfl, rfl⟩ := kv_ix e hkv
      have hm := mem_nms (List.mem_of_getElem? e)
      have c3 : DC H4 d2 sk.kept := s3 _ _ (by rw [upd_ne (Ne.symm n12)]; exact c2)
      refine ⟨rfl, _, rfl, _, rfl, d1, _, rfl, dgetF (s3 _ _ upd_same) hm, _, rfl, d2, rfl, .inl ⟨_, .inl c3⟩, _, rfl, _, dget c3, ?_⟩
      rw [val_getD]
      exact ⟨_, _, rfl, rfl, k _ _ (Same.refl _) (by rw [cnt_mem ndd (List.mem_of_getElem? e)])⟩
    have ey2 := peq pr2
    have hd6 : H6 d1 = some (.frz oe (.dK (ds.map kvP))) := s8 _ _ upd_same
    have neD2 : D2 ≠ d1 := fun z => by rw [z, upd_same] at hD2; cases hD2
    have s9 : Same H5 (upd H6 d1 (.dK (ds.map kvP))) := lock_same c1 s8
    have ey3 : ys2 = (ds.map fun p => p.2 - KM.cnt sk.kept p.1).map V.int := by rw [ey2, List.map_map]; try rfl
    subst ey3
    have hl : upd H6 d1 (.dK (ds.map kvP)) D2 = some (.lst ((ds.map fun p => p.2 - KM.cnt sk.kept p.1).map V.int)) := by rw [upd_ne neD2]; exact hy2
    have s10 := s7.trans s9
    refine ⟨hd6, ?_⟩
    generalize upd H6 d1 (.dK (ds.map kvP)) = H7 at s10 hl ⊢
    have ha7 := s10 _ _ ha
    refine ⟨_, rfl, D2, rfl, ⟨_, SqL.of hl⟩, fun D3 hD3 => ?_⟩
    refine lc_all (walk_list (K := K) (a := D2) (xs := (ds.map fun p => p.2 - KM.cnt sk.kept p.1).map V.int)) (bs := ds) (by rw [List.length_map, List.length_map]) (by rw [List.length_map, List.length_map]; omega) hD3 (fun _ => true) (fun _ v c => v = V.bl c) (fun _ h => h) (fun H3 s3 => SqL.of (s3 _ _ hl)) (fun i p x H3 H4 e s3 y Ny k => ?_) mg_name (fun H8 ys3 s11 hy3 pr3 => ?_)
    · obtain ⟨rfl, hx⟩ := y
      rw [List.getElem?_map, List.getElem?_map, e] at hx
      cases hx
      have h1 := tru.lo p.1
      have h2 := tru.hi p.1
      rw [cnt_mem ndd (List.mem_of_getElem? e)] at h1 h2
      refine ⟨rfl, _, rfl, 0, _, rfl, rfl, _, rfl, ?_⟩
      rw [if_pos (decide_eq_true (show 0 ≤ p.2 - KM.cnt sk.kept p.1 by omega))]
      exact ⟨_, rfl, a, _, 2, _, rfl, rfl, SqT.of (s3 _ _ ha7), rfl, _, _, rfl, rfl, k _ _ (Same.refl _) (blT (show p.2 - KM.cnt sk.kept p.1 ≤ sk.off by omega))⟩
    have ey4 := peq pr3
    have hl8 := s11 _ _ hl
    have s12 := s10.trans s11
    refine ⟨D3, _, rfl, SqL.of (by rw [hy3, ey4]), ?_⟩
    rw [all_true]
    refine ⟨true, rfl, iteT ?_⟩
    refine ⟨_, rfl, D2, _, rfl, SqL.of hl8, _, rfl, _, sk, rfl, hS.mono (tx s12), by omega, fun H9 s13 => ⟨rfl, ?_⟩⟩
    refine qT ?_ (q _ (s12.trans s13))
    have h1 : (ds.map fun p => p.2 - KM.cnt sk.kept p.1).sum = tot ds - (ds.map fun p => KM.cnt sk.kept p.1).sum := sum_sub
    have h2 : (ds.map fun p => KM.cnt sk.kept p.1).sum = tot sk.kept := by
      have := tot_over (T := sk.kept) (N := nms ds) ndk ndd sub
      unfold nms at this
      rw [List.map_map] at this
      exact this
    rw [h1, h2, tru.sum]
    rfl
end
end Kn
set_option Elab.async false
set_option linter.all false
set_option maxRecDepth 100000
set_option maxHeartbeats 4000000
set_option pp.maxSteps 300
/-! Truths drawn. -/
namespace Kn
open PySem PySem.Spec PyProof.Rows L2 KM
/-- what is dealt so far -/
structure Dealt (names : List Str) (ts : List (Str × Int)) (off left los : Int) : Prop where
  nd : (nms ts).Nodup
  lo : ∀ n, 0 ≤ KM.cnt ts n
  hi : ∀ n, KM.cnt ts n ≤ off
  l0 : 0 ≤ left
  sm : tot ts + left = los
  sub : ∀ n ∈ nms ts, n ∈ names
theorem dealt_0 {names : List Str} {off los : Int} (h1 : 0 ≤ off) (h2 : 0 ≤ los) : Dealt names [] off los los :=
  ⟨List.nodup_nil, fun n => Int.le_refl _, fun n => h1, h2, by rw [tot_nil, Int.zero_add], fun n h => nomatch h⟩
theorem dealt_s {names : List Str} {ts : List (Str × Int)} {off left los m : Int} {x : Str} (D : Dealt names ts off left los) (hx : x ∈ names) (m0 : 0 ≤ m) (m1 : m ≤ left) (m2 : m ≤ off - KM.cnt ts x) :
    Dealt names (putC ts x (KM.cnt ts x + m)) off (left - m) los := by
  have h0 := D.lo x
  refine ⟨nd_put D.nd, fun n => ?_, fun n => ?_, by omega, ?_, fun n hn => ?_⟩
  · rw [cnt_put]
    have := D.lo n
    split <;> omega
  · rw [cnt_put]
    have := D.hi n
    split <;> omega
  · rw [tot_put D.nd]
    have := D.sm
    omega
  · rcases mem_put.mp hn with q | q
    · rw [q]; exact hx
    · exact D.sub n q
theorem Dealt.len {names : List Str} {ts : List (Str × Int)} {off left los : Int} (D : Dealt names ts off left los) : ts.length ≤ names.length := by
  have := nd_le D.nd D.sub
  unfold nms at this
  rw [List.length_map] at this
  exact this
theorem sum_const {c : Int} : ∀ {l : List Str} {f : Str → Int}, (∀ n ∈ l, f n = c) → (l.map f).sum = l.length * c
  | [], _, _ => by simp
  | x :: r, f, h => by
    rw [List.map_cons, List.sum_cons, h x List.mem_cons_self, sum_const fun n hn => h n (List.mem_cons_of_mem _ hn), List.length_cons]
    have e : ((r.length + 1 : Nat) : Int) * c = r.length * c + c := by rw [Int.natCast_add, Int.add_mul]; simp
    rw [e]
    omega
theorem sub_tot {ts : List (Str × Int)} {fs : List Str} (nd : (nms ts).Nodup) (lo : ∀ n, 0 ≤ KM.cnt ts n) (nf : fs.Nodup) : (fs.map fun n => KM.cnt ts n).sum ≤ tot ts := by
  have nN : (fs ++ (nms ts).filter fun n => decide (n ∉ fs)).Nodup := by
    rw [List.nodup_append]
    refine ⟨nf, List.Pairwise.filter _ nd, fun a ha b hb e => ?_⟩
    have := (List.mem_filter.mp hb).2
    exact of_decide_eq_true this (by rw [← e]; exact ha)
  have h := tot_over (T := ts) nd nN fun n hn => by
    by_cases q : n ∈ fs
    · exact List.mem_append_left _ q
    · exact List.mem_append_right _ (List.mem_filter.mpr ⟨hn, decide_eq_true q⟩)
  rw [List.map_append, sum_app] at h
  have := sum_nonneg (l := (nms ts).filter fun n => decide (n ∉ fs)) (f := fun n => KM.cnt ts n) fun n _ => lo n
  omega
theorem dealt_end {names fs : List Str} {ts : List (Str × Int)} {off left los : Int} (D : Dealt names ts off left los) (h : left = 0 ∨ ∀ n ∈ names, KM.cnt ts n = off) (nf : fs.Nodup) (sf : ∀ n ∈ fs, n ∈ names) (lf : los < fs.length) (o0 : 0 ≤ off) (oz : off = 0 → los = 0) : left = 0 := by
  rcases h with h | h
  · exact h
  · have h1 := sub_tot D.nd D.lo nf
    have h2 : (fs.map fun n => KM.cnt ts n).sum = fs.length * off := sum_const fun n hn => h n (sf n hn)
    have h3 := D.sm
    have h4 := D.l0
    by_cases z : off = 0
    · have h5 := oz z
      have h6 := tot_nonneg (cs := ts) fun p hp => by rw [← cnt_mem D.nd hp]; exact D.lo p.1
      omega
    · have h5 : (fs.length : Int) * 1 ≤ (fs.length : Int) * off := Int.mul_le_mul_of_nonneg_left (by omega) (by omega)
      omega
theorem dealt_tru {kept ts cs ds : List (Str × Int)} {names : List Str} {off los many : Int} (D : Dealt names ts off 0 los) (ck : CtOk kept) (e : los = many - tot kept) (T : Tk1 kept ts ts.length cs) (ed : ds = cs.filter fun p => decide (0 < p.2)) : Tru kept off many ds := by
  obtain ⟨val, sub⟩ := tk1_end T
  have p1 : ∀ n, 0 ≤ KM.cnt kept n := fun n => cnt_nonneg (fun p hp => Int.le_of_lt (ck.pos p hp)) n
  have nn : ∀ p ∈ cs, 0 ≤ p.2 := fun p hp => by
    rw [← cnt_mem T.nd hp, val]
    have := p1 p.1
    have := D.lo p.1
    omega
  have cv : ∀ n, KM.cnt ds n = KM.cnt kept n + KM.cnt ts n := fun n => by rw [ed, cnt_filter T.nd nn, val]
  have ndd : (nms ds).Nodup := by rw [ed]; exact nms_sub T.nd
  refine ⟨ndd, fun p hp => ?_, fun n => ?_, fun n => ?_, ?_⟩
  · rw [ed] at hp
    exact of_decide_eq_true (List.mem_filter.mp hp).2
  · rw [cv]
    have := D.lo n
    omega
  · rw [cv]
    have := D.hi n
    omega
  · have h1 := tot_over (T := ds) (N := nms cs) ndd T.nd fun n hn => by
      rw [ed] at hn
      obtain ⟨v, hv⟩ := nms_mem hn
      exact mem_nms (p := (n, v)) (List.mem_filter.mp hv).1
    have h2 := tot_over (T := kept) (N := nms cs) ck.nd T.nd fun n hn => (sub n).mpr (.inl hn)
    have h3 := tot_over (T := ts) (N := nms cs) D.nd T.nd fun n hn => (sub n).mpr (.inr hn)
    have h4 : ((nms cs).map fun n => KM.cnt ds n).sum = ((nms cs).map fun n => KM.cnt kept n + KM.cnt ts n).sum := sum_congr fun n _ => cv n
    rw [sum_add] at h4
    have h5 : tot ds = tot kept + tot ts := h1.symm.trans (h4.trans (congr (congrArg HAdd.hAdd h2) h3))
    have := D.sm
    omega
section
variable {P : Program} {w : World} {K : PySem.W.Frag} {mg : Str → Option Value} {base : Heap} {CP CF : Addr}
def spTruth : Sp := fun vs H Q _ => ∃ (a c fr : Addr) (v : V) (s : Sk) (fs : List Str), vs = [.ref a, v, .ref fr] ∧ Hnd H a c ∧ SkAt H v s ∧ SkOk s ∧ H fr = some (.lst (fs.map V.str)) ∧ fr ≠ a ∧ fs.Nodup ∧ lost s < fs.length ∧ fs.length ≤ 702 ∧
  ∀ H' u ds, ExB a H H' → Hnd H' a c → CtsAt H' u ds → Tru s.kept s.off s.many ds → ds.length ≤ 1000 → Q u H'
theorem c_ltruth (T : Txt K mg CP CF) : C8.Cal P w K mg base 3 "_law_truth" spTruth [] := by
  refine mkc (N := ["_law_hand_here", "_law_sketch_here", "_law_fresh", "_law_taken", "_law_left", "_law_name", "_law_names", "_law_turn", "_law_more", "_law_counts", "_law_count"]) T.d_law_truth (by decide +kernel) (fun vs H Q E h => ?_) (fun f cdv A outer s H vs Q E hr h => ?_)
  · obtain ⟨a, c, fr, v, sk, fs, rfl, _⟩ := h; rfl
  · obtain ⟨a, c, fr, v, sk, fs, rfl, hH, hS, ok, hfr, nfa, nf, lf, lf2, q⟩ := h
    have nd : (["_law_hand_here", "_law_sketch_here", "_law_fresh", "_law_taken", "_law_left", "_law_name", "_law_names", "_law_turn", "_law_more", "_law_counts", "_law_count"] : List Str).Nodup := by decide +kernel
    refine ⟨_, pss_cons (ps_set (i := 3) nd rfl (Or.inl rfl) pe_dnewK)
      (pss_cons (ps_set (i := 4) nd rfl (Or.inl rfl) (C8.pe_c (c_llost T) hr (by decide) (by rfl) (pa_cons (pv 1) pa_nil)))
      (pss_cons (ps_set (i := 6) nd rfl (Or.inl rfl) (pe_op op_cat (pe_lc (own := [("_law_name", 5), ("_law_count", 10)]) (g := gTup K 2 (gCons (gName 5) (gCons (gName 10) gNil))) (by rfl) nd (pi_tup (pe_ix ix_tup (pv 1) pe_int (fun _ _ => rfl)))
          (blkOk_by (own := [("_law_name", 5), ("_law_count", 10)]) (N := ["_law_hand_here", "_law_sketch_here", "_law_fresh", "_law_taken", "_law_left", "_law_name", "_law_names", "_law_turn", "_law_more", "_law_counts", "_law_count"]) (sc := C8.fnScope (topS 61)) (by decide +kernel))
          (fun _ _ _ _ _ => pg_tup rfl (pgs_cons (pg_name (i := 5) nd rfl (Or.inl rfl)) (pgs_cons (pg_name (i := 10) nd rfl (Or.inl rfl)) pgs_nil))) (fun _ _ _ _ _ => pts_nil) (fun _ _ _ _ _ => pv 5)) (pv 2)))
      (pss_cons (ps_for PassesOwn.never rfl (pi_range1 (by rfl) T.z_range (pa_cons pe_int pa_nil)) (pg_name (i := 7) nd rfl (.inl rfl))
        (pss_one (ps_if (pt_cmpR op_gt (pv 4) pe_int (nomark _))
          (pss_cons (ps_set (i := 5) nd rfl (Or.inl rfl) (C8.pe_c (c_any T) hr (by decide) (by rfl) (pa_cons (pv 0) (pa_cons (pv 6) pa_nil))))
          (pss_cons (ps_set (i := 8) nd rfl (Or.inl rfl) (pe_callB (call_min3Nu rfl) (by rfl) T.z_min bo_min (pa_cons (pv 4) (pa_cons (pe_op op_sub (pe_ix ix_tup (pv 1) pe_int (fun _ _ => rfl)) (pe_dget2 (u1 hr) (pv 3) (pv 5) pe_int ⟨by rfl, by rfl, by rfl, by rfl⟩))
            (pa_cons (pe_op op_add pe_int (C8.pe_c (c_draw T) hr (by decide) (by rfl) (pa_cons (pv 0) (pa_cons (pe_callB (call_max2 rfl) (by rfl) T.z_max bo_max (pa_cons (pe_ix ix_tup (pv 1) pe_int (fun _ _ => rfl)) (pa_cons pe_int pa_nil))) pa_nil)))) pa_nil)))))
          (pss_cons (ps_dput (u1 hr) (pv 3) (pv 5) (pe_op op_add (pe_dget2 (u1 hr) (pv 3) (pv 5) pe_int ⟨by rfl, by rfl, by rfl, by rfl⟩) (pv 8)) (by rfl))
          (pss_one (ps_set (i := 4) nd rfl (Or.inl rfl) (pe_op op_sub (pv 4) (pv 8))))))) pss_nil)))
      (pss_cons (ps_for PassesOwn.never rfl (pi_list (pv 6)) (pg_name (i := 5) nd rfl (.inl rfl))
        (pss_cons (ps_set (i := 8) nd rfl (Or.inl rfl) (pe_callB (call_min2 rfl) (by rfl) T.z_min bo_min (pa_cons (pv 4) (pa_cons (pe_op op_sub (pe_ix ix_tup (pv 1) pe_int (fun _ _ => rfl)) (pe_dget2 (u1 hr) (pv 3) (pv 5) pe_int ⟨by rfl, by rfl, by rfl, by rfl⟩)) pa_nil))))
        (pss_cons (ps_dput (u1 hr) (pv 3) (pv 5) (pe_op op_add (pe_dget2 (u1 hr) (pv 3) (pv 5) pe_int ⟨by rfl, by rfl, by rfl, by rfl⟩) (pv 8)) (by rfl))
        (pss_one (ps_set (i := 4) nd rfl (Or.inl rfl) (pe_op op_sub (pv 4) (pv 8)))))))
      (pss_cons (ps_set (i := 9) nd rfl (Or.inr rfl) (pe_callTy (cr_dictT rfl) (by rfl) T.z_dict bo_dict (pa_cons (pe_ix ix_tup (pv 1) pe_int (fun _ _ => rfl)) pa_nil)))
      (pss_cons (ps_lock (ps_for PassesOwn.never rfl (pi_keys (pv 3)) (pg_name (i := 5) nd rfl (.inl rfl))
        (pss_one (ps_dput (u1 hr) (pv 9) (pv 5) (pe_op op_add (pe_dget2 (u1 hr) (pv 9) (pv 5) pe_int ⟨by rfl, by rfl, by rfl, by rfl⟩) (pe_dget (u1 hr) (pv 3) (pv 5) (fun _ _ => rfl))) (by rfl)))))
      (pss_one (ps_ret (pe_callTy cr_tupF (by rfl) T.z_tuple bo_tuple (pa_cons
        (pe_lc (own := [("_law_name", 5)]) (g := gName 5) (by rfl) nd (pi_list (pe_callB (cr_srtD rfl hr.units) (by rfl) T.z_sorted bo_sorted (pa_cons (pv 9) pa_nil)))
          (blkOk_by (own := [("_law_name", 5)]) (N := ["_law_hand_here", "_law_sketch_here", "_law_fresh", "_law_taken", "_law_left", "_law_name", "_law_names", "_law_turn", "_law_more", "_law_counts", "_law_count"]) (sc := C8.fnScope (topS 61)) (by decide +kernel))
          (fun _ _ _ _ _ => pg_name (i := 5) nd rfl (Or.inl rfl)) (fun _ _ _ _ _ => pts_one (pt_cmpR op_gt (pe_dget (u1 hr) (pv 9) (pv 5) (fun _ _ => rfl)) pe_int (nomark _)))
          (fun _ _ _ _ _ => pe_tup (pa_cons (pv 5) (pa_cons (pe_dget (u1 hr) (pv 9) (pv 5) (fun _ _ => rfl)) pa_nil)))) pa_nil)))))))))), ?_⟩
    obtain ⟨sa, w', rfl, ha, kb, ks, rfl, hk, pk⟩ := id hS
    have lk := len_le ok
    have lb := lost_b ok
    have o0 := ok.o0
    have ole := off_le ok
    refine fun d hd => ?_
    have s1 := sn hd (o := .dK [])
    have nHd := hH.ne hd
    refine ⟨_, rfl, _, sk, rfl, hS.mono (tx s1), by omega, fun H1 s2 => ?_⟩
    have s3 := s1.trans s2
    have c1 : DC H1 d [] := s2 _ _ upd_same
    refine ⟨_, rfl, sa, _, 3, _, rfl, rfl, SqT.of (s3 _ _ ha), rfl, kb, rfl, ⟨_, (hk.st s3).sq⟩, fun D hD => ?_⟩
    refine lc_all (walk_tup (K := K) (a := kb) (xs := ks)) (bs := sk.kept) pk.length.symm (by rw [pk.length]; omega) hD (fun p => p.1) (fun _ v c => v = V.str c) (fun _ h => h) (fun H3 s4 => ((hk.st s3).st s4).sq) (fun i p x H3 H4 e s4 y Ny k => ?_) mg_pair (fun H2 ys s4 hy pr => ?_)
    · obtain ⟨rfl, hx⟩ := y
      obtain ⟨p', hp, b', rfl, hb'⟩ := pgetL pk hx
      have ep : p' = p := Option.some.inj (hp.symm.trans e)
      subst ep
      exact ⟨b', _, rfl, SqT.of (s4 _ _ (s3 _ _ hb')), rfl, _, _, rfl, _, _, rfl, rfl, rfl, _, rfl, k _ _ (Same.refl _) rfl⟩
    have ey := peq pr
    have ey' : ys = (nms sk.kept).map V.str := by rw [ey]; unfold nms; rw [List.map_map]; try rfl
    subst ey'
    have lnm : (nms sk.kept).length = sk.kept.length := by unfold nms; rw [List.length_map]
    have s5 := s3.trans s4
    have hfr2 := s5 _ _ hfr
    refine ⟨_, rfl, D, fr, _, _, rfl, rfl, hy, hfr2, by rw [List.length_map, List.length_map, lnm]; exact sz (by omega), fun nl hnl => ?_⟩
    have s6 := s5.trans (sn hnl (o := .lst ((nms sk.kept).map V.str ++ fs.map V.str)))
    have nla : a ≠ nl := (hH.ne (s5.free hnl)).1
    have hl : upd H2 nl (.lst ((nms sk.kept).map V.str ++ fs.map V.str)) nl = some (.lst ((nms sk.kept ++ fs).map V.str)) := by rw [upd_same, List.map_append]
    have c3 : DC (upd H2 nl (.lst ((nms sk.kept).map V.str ++ fs.map V.str))) d [] := sn hnl _ _ (s4 _ _ c1)
    generalize upd H2 nl (.lst ((nms sk.kept).map V.str ++ fs.map V.str)) = H5 at s6 hl c3 ⊢
    have nd_nl : nl ≠ d := fun z => by rw [z, c3] at hl; cases hl
    generalize hNM : nms sk.kept ++ fs = NM at hl ⊢
    have lNM : 0 < NM.length ∧ NM.length ≤ 800 := by
      rw [← hNM, List.length_append, lnm]; omega
    have sfs : ∀ n ∈ fs, n ∈ NM := fun n hn => by rw [← hNM]; exact List.mem_append_right _ hn
    have taA : ∀ {H' : Hp}, ExB a H H' → H' sa = some (.tup [.int sk.room, .int sk.many, .int sk.off, .ref kb]) := fun x => hH.tx x _ _ rfl ha
    refine ⟨_, rfl, by decide, by decide, ?_⟩
    refine for_range (lo := 0) (n := (400 : Int).toNat) (fun i σ H' => ∃ y5 y7 y8 left ts, σ = [some (.ref a), some (.ref sa), some (.ref fr), some (.ref d), some (.int left), y5, some (.ref nl), y7, y8, none, none] ∧ ExB a H H' ∧ Hnd H' a c ∧ DC H' d ts ∧ H' nl = some (.lst (NM.map V.str)) ∧ Dealt NM ts sk.off left (lost sk))
      ⟨none, none, none, _, [], rfl, ExB.of s6, hH.st s6, c3, hl, dealt_0 o0 lb.1⟩ ?_ ?_
    · rintro i σ H' hi ⟨y5, y7, y8, left, ts, rfl, x1, hH1, c4, hl4, dl⟩
      by_cases h0 : 0 < left
      · refine ⟨_, rfl, _, _, rfl, rfl, true, blT h0, iteT ?_⟩
        refine ⟨_, rfl, _, rfl, a, c, nl, _, rfl, hH1, hl4, by rw [List.length_map]; exact lNM.1, by rw [List.length_map]; omega, Ne.symm nla, fun H2 x x2 hH2 hx => ?_⟩
        obtain ⟨z, hz, rfl⟩ := List.mem_map.mp hx
        have x3 := x1.trans x2
        have c5 : DC H2 d ts := x2 _ _ (Ne.symm nHd.1) c4
        have hl5 := x2 _ _ (Ne.symm nla) hl4
        refine ⟨_, rfl, _, rfl, sa, _, 2, _, rfl, rfl, SqT.of (taA x3), rfl, _, rfl, d, rfl, .inl ⟨_, .inl c5⟩, _, rfl, _, dget c5, ?_⟩
        rw [val_getD]
        refine ⟨_, _, rfl, rfl, _, rfl, _, rfl, sa, _, 2, _, rfl, rfl, SqT.of (taA x3), rfl, _, _, rfl, a, c, _, rfl, hH2, (by split <;> omega), (by split <;> omega), fun H3 e x4 hH3 e0 e1 => ⟨_, _, rfl, rfl, _, _, _, _, rfl, nu3 _ _ _, ?_⟩⟩
        have c6 : DC H3 d ts := x4 _ _ (Ne.symm nHd.1) c5
        have hl6 := x4 _ _ (Ne.symm nla) hl5
        have dlo := dl.lo z
        have dhi := dl.hi z
        have M0 : 0 ≤ min (min left (sk.off - KM.cnt ts z)) (1 + e) := by omega
        have M1 : min (min left (sk.off - KM.cnt ts z)) (1 + e) ≤ left := by omega
        have M2 : min (min left (sk.off - KM.cnt ts z)) (1 + e) ≤ sk.off - KM.cnt ts z := by omega
        generalize min (min left (sk.off - KM.cnt ts z)) (1 + e) = m at M0 M1 M2 ⊢
        refine ⟨_, rfl, d, rfl, .inl ⟨_, .inl c6⟩, _, rfl, _, dget c6, ?_⟩
        rw [val_getD]
        refine ⟨_, rfl, _, _, rfl, rfl, ?_⟩
        have ld := dl.len
        refine ⟨_, rfl, _, rfl, d, _, rfl, dput c6 (by omega), ?_⟩
        refine ⟨_, rfl, _, rfl, _, _, rfl, rfl, ?_⟩
        exact ⟨_, _, _, _, _, rfl, (x3.trans x4).new hd, hH3.up nHd, upd_same, by rw [upd_ne nd_nl]; exact hl6, dealt_s dl hz M0 M1 M2⟩
      · refine ⟨_, rfl, _, _, rfl, rfl, false, blF h0, iteF ?_⟩
        exact ⟨_, _, _, left, ts, rfl, x1, hH1, c4, hl4, dl⟩
    · rintro σ H' ⟨y5, y7, y8, left, ts, rfl, x1, hH1, c4, hl4, dl⟩
      refine ⟨_, rfl, nl, rfl, ⟨_, SqL.of hl4⟩, ?_⟩
      refine for_list (K := K) (a := nl) (xs := NM.map V.str) (fun i σ H' => ∃ y5 y7 y8 left ts, σ = [some (.ref a), some (.ref sa), some (.ref fr), some (.ref d), some (.int left), y5, some (.ref nl), y7, y8, none, none] ∧ ExB a H H' ∧ Hnd H' a c ∧ DC H' d ts ∧ H' nl = some (.lst (NM.map V.str)) ∧ Dealt NM ts sk.off left (lost sk) ∧ (left = 0 ∨ ∀ n ∈ NM.take i, KM.cnt ts n = sk.off))
        ⟨_, _, _, left, ts, rfl, x1, hH1, c4, hl4, dl, .inr fun n hn => by rw [List.take_zero] at hn; cases hn⟩ (fun i σ H' _ ⟨_, _, _, _, _, _, _, _, _, h, _⟩ => SqL.of h) ?_ ?_
      · rintro i x σ H' hi ⟨y5, y7, y8, left, ts, rfl, x1, hH1, c4, hl4, dl, fin⟩
        rw [List.getElem?_map] at hi
        cases hn : NM[i]? with
        | none => rw [hn] at hi; cases hi
        | some z =>
        rw [hn] at hi
        cases hi
        have hz := List.mem_of_getElem? hn
        refine ⟨_, rfl, _, rfl, sa, _, 2, _, rfl, rfl, SqT.of (taA x1), rfl, _, rfl, d, rfl, .inl ⟨_, .inl c4⟩, _, rfl, _, dget c4, ?_⟩
        rw [val_getD]
        refine ⟨_, _, rfl, rfl, _, _, rfl, ?_⟩
        have dlo := dl.lo z
        have dhi := dl.hi z
        have dl0 := dl.l0
        have M0 : 0 ≤ if sk.off - KM.cnt ts z < left then sk.off - KM.cnt ts z else left := by split <;> omega
        have M1 : (if sk.off - KM.cnt ts z < left then sk.off - KM.cnt ts z else left) ≤ left := by split <;> omega
        have M2 : (if sk.off - KM.cnt ts z < left then sk.off - KM.cnt ts z else left) ≤ sk.off - KM.cnt ts z := by split <;> omega
        have M3 : left - (if sk.off - KM.cnt ts z < left then sk.off - KM.cnt ts z else left) = 0 ∨ KM.cnt ts z + (if sk.off - KM.cnt ts z < left then sk.off - KM.cnt ts z else left) = sk.off := by
          split
          · exact .inr (by omega)
          · exact .inl (by omega)
        generalize (if sk.off - KM.cnt ts z < left then sk.off - KM.cnt ts z else left) = m at M0 M1 M2 M3 ⊢
        refine ⟨_, rfl, d, rfl, .inl ⟨_, .inl c4⟩, _, rfl, _, dget c4, ?_⟩
        rw [val_getD]
        refine ⟨_, rfl, _, _, rfl, rfl, ?_⟩
        have ld := dl.len
        refine ⟨_, rfl, _, rfl, d, _, rfl, dput c4 (by omega), ?_⟩
        refine ⟨_, rfl, _, rfl, _, _, rfl, rfl, ?_⟩
        refine ⟨_, _, _, _, _, rfl, x1.new hd, hH1.up nHd, upd_same, by rw [upd_ne nd_nl]; exact hl4, dealt_s dl hz M0 M1 M2, ?_⟩
        rcases M3 with e | e
        · exact .inl e
        · rcases fin with f | f
          · exact .inl (by omega)
          · refine .inr fun n hn' => ?_
            rw [List.take_add_one, hn] at hn'
            rw [cnt_put]
            by_cases en : n = z
            · rw [if_pos en]; exact e
            · rw [if_neg en]
              exact f n ((List.mem_append.mp hn').resolve_right fun q => en (by simpa using q))
      · rintro σ H' ⟨y5, y7, y8, left, ts, rfl, x1, hH1, c4, hl4, dl, fin⟩
        rw [List.length_map, List.take_length] at fin
        have l0 : left = 0 := dealt_end dl fin nf sfs lf o0 fun z => by have := lb.2.2; rw [z] at this; omega
        subst l0
        have hk2 := hk.mono (hH.tx x1)
        have pk2 := pk.mono fun _ _ z => (z.mono (hH.tx x1) : PairAt H' _ _)
        refine ⟨_, rfl, sa, _, 3, _, rfl, rfl, SqT.of (taA x1), rfl, kb, ks, sk.kept, rfl, hk2, pk2, ok.ct.nd, fun e he => ?_⟩
        have c5 : DC (upd H' e (.dK (sk.kept.map kvP))) d ts := sn he _ _ c4
        have ce : DC (upd H' e (.dK (sk.kept.map kvP))) e sk.kept := upd_same
        have ned : e ≠ d := fun z => by rw [z, c4] at he; cases he
        have heN : H e = none := by
          cases hh : H e with
          | none => rfl
          | some o =>
            have n1 : e ≠ a := Ne.symm (hH1.ne he).1
            rw [x1 _ _ n1 hh] at he
            cases he
        have nHe := hH.ne heN
        have x2 := x1.new heN (o := .dK (sk.kept.map kvP))
        have hH2 := hH1.up nHe (o := .dK (sk.kept.map kvP))
        have ldl := dl.len
        generalize upd H' e (.dK (sk.kept.map kvP)) = H6 at c5 ce x2 hH2 ⊢
        refine ⟨d, _, c5, mut_dK, fun od => ?_⟩
        refine ⟨_, rfl, d, od, rfl, .inl ⟨_, upd_same, ?_⟩⟩
        refine for_it (walk_keys (d := d) (o := od) (kvs := ts.map kvP)) (fun i σ H' => ∃ y5 cs, σ = [some (.ref a), some (.ref sa), some (.ref fr), some (.ref d), some (.int 0), y5, some (.ref nl), y7, y8, some (.ref e), none] ∧ ExB a H H' ∧ Hnd H' a c ∧ H' d = some (.frz od (.dK (ts.map kvP))) ∧ DC H' e cs ∧ Tk1 sk.kept ts i cs)
          ⟨_, sk.kept, rfl, x2.new hd, hH2.up nHd, upd_same, by rw [DC, upd_ne ned]; exact ce, tk1_0 ok.ct.nd⟩ (fun i σ H' _ ⟨_, _, _, _, _, h, _⟩ => h) ?_ ?_
        · rintro i x σ H' H'' hi ⟨y5, cs, rfl, x3, hH3, hd3, c6, tk1⟩ ⟨rfl, kk, vv, hkv, rfl⟩
          have li : i < ts.length := by rw [List.length_map] at hi; exact hi
          have hp : ts[i]? = some ts[i] := List.getElem?_eq_getElem li
          obtain ⟨rfl, rfl⟩ := kv_ix hp hkv
          have lcs := tk1.len
          refine ⟨_, rfl, e, rfl, .inl ⟨_, .inl c6⟩, _, rfl, _, dget c6, ?_⟩
          rw [val_getD]
          refine ⟨_, rfl, _, rfl, d, _, rfl, dgetF hd3 (mem_nms (List.getElem_mem li)), _, _, rfl, rfl, ?_⟩
          refine ⟨_, rfl, _, rfl, e, _, rfl, dput c6 (by omega), ?_⟩
          refine ⟨_, _, rfl, x3.new heN, hH3.up nHe, by rw [upd_ne (Ne.symm ned)]; exact hd3, upd_same, ?_⟩
          have := tk1_s dl.nd hp tk1
          rw [cnt_mem dl.nd (List.getElem_mem li)]
          exact this
        · rintro σ H' ⟨y5, cs, rfl, x3, hH3, hd3, c6, tk1⟩
          rw [List.length_map] at tk1
          refine ⟨hd3, ?_⟩
          have x4 := x3.new hd (o := .dK (ts.map kvP))
          have hH4 := hH3.up nHd (o := .dK (ts.map kvP))
          have c7 : DC (upd H' d (.dK (ts.map kvP))) e cs := by rw [DC, upd_ne ned]; exact c6
          generalize upd H' d (.dK (ts.map kvP)) = H7 at x4 hH4 c7 ⊢
          have ndc := tk1.nd
          have lcs := tk1.len
          refine ⟨_, rfl, e, _, nms cs, rfl, .inl c7, (by unfold nms; rw [List.map_map, List.map_map]; rfl), fun zs kp kpm kas hkp => ?_⟩
          have s7 := sn hkp (o := .lst (zs.map V.str))
          have lzs : zs.length = cs.length := by rw [kpm.length_eq]; unfold nms; rw [List.length_map]
          refine ⟨kp, rfl, ⟨_, SqL.of upd_same⟩, fun D2 hD2 => ?_⟩
          refine lc_pure (walk_list (K := K) (a := kp) (xs := zs.map V.str)) (bs := zs) (by rw [List.length_map]) (by rw [List.length_map]; omega) hD2 (fun k => decide (0 < KM.cnt cs k)) (fun k => (k, KM.cnt cs k)) PairAt (fun e h => h.mono e) (fun H3 s3 => SqL.of (s3 _ _ upd_same)) (fun i k x' H3 H4 e' s3 y Ny Nn k1 k2 => ?_) (fun H8 ys s8 hy2 pr2 => ?_)
          · obtain ⟨rfl, hx'⟩ := y
            rw [List.getElem?_map, e'] at hx'
            cases hx'
            have hm : k ∈ nms cs := kpm.mem_iff.mp (List.mem_of_getElem? e')
            have c8 := s3 _ _ (s7 _ _ c7)
            have dg : DGet H4 e (.str k) (some (.int (KM.cnt cs k))) := by rw [val_in hm]; exact dget c8
            by_cases h0 : 0 < KM.cnt cs k
            · refine ⟨rfl, _, rfl, _, rfl, e, _, rfl, dg, _, _, rfl, rfl, true, blT h0, iteT ?_⟩
              exact ⟨_, rfl, _, rfl, _, rfl, e, _, rfl, dg, (by show 2 ≤ sizeLine; decide), fun t ht => k1 _ _ (sn ht) ⟨t, rfl, upd_same⟩ (decide_eq_true h0)⟩
            · exact ⟨rfl, _, rfl, _, rfl, e, _, rfl, dg, _, _, rfl, rfl, false, blF h0, iteF (k2 _ (Same.refl _) (by simp [h0]))⟩
          have ecs : (zs.map fun k => (k, KM.cnt cs k)).Perm cs := by
            have h1 : (zs.map fun k => (k, KM.cnt cs k)).Perm ((nms cs).map fun k => (k, KM.cnt cs k)) := kpm.map _
            have h2 : ((nms cs).map fun k => (k, KM.cnt cs k)) = cs := by
              unfold nms
              rw [List.map_map]
              have : ∀ p ∈ cs, ((fun k => (k, KM.cnt cs k)) ∘ (fun p : Str × Int => p.1)) p = p := fun p hp => by
                show (p.1, KM.cnt cs p.1) = p
                rw [cnt_mem ndc hp]
              rw [List.map_congr_left this]
              exact List.map_id' cs
            rw [h2] at h1
            exact h1
          have ep : (zs.filter fun k => decide (0 < KM.cnt cs k)).map (fun k => (k, KM.cnt cs k)) = (zs.map fun k => (k, KM.cnt cs k)).filter fun p => decide (0 < p.2) := by
            rw [List.filter_map]; rfl
          rw [ep] at pr2
          have T2 : Tk1 sk.kept ts ts.length (zs.map fun k => (k, KM.cnt cs k)) := by
            have pn : (nms (zs.map fun k => (k, KM.cnt cs k))).Perm (nms cs) := ecs.map _
            refine ⟨pn.nodup_iff.mpr ndc, fun n => ?_, fun n => ?_, by rw [ecs.length_eq]; exact lcs⟩
            · rw [cnt_perm ndc ecs]; exact tk1.val n
            · rw [pn.mem_iff]; exact tk1.sub n
          refine ⟨D2, ys, rfl, SqL.of hy2, fun t o on ht => ?_⟩
          have s9 := (s7.trans s8).trans (sn ht (o := .frz o (.tup ys)))
          refine q _ (.ref t) _ (x4.trans (ExB.of s9)) (hH4.st s9) ⟨t, ys, rfl, ⟨o, on, upd_same⟩, pr2.mono fun _ _ z => z.mono (tx (sn ht))⟩ (dealt_tru dl ok.ct rfl T2 rfl) ?_
          refine Nat.le_trans (List.length_filter_le _ _) ?_
          rw [List.length_map]; omega
end
end Kn
set_option Elab.async false
set_option linter.all false
set_option maxRecDepth 100000
set_option maxHeartbeats 4000000
set_option pp.maxSteps 300
/-! The law: plain facts. -/
namespace Kn
open PySem PySem.Spec PyProof.Rows L2 KM
theorem zs_z : ∀ {xs ys : List Int}, (∀ y ∈ ys, y = 0) → zs xs ys = 0
  | [], ys, _ => zs_nil_l ys
  | x :: xs, [], _ => rfl
  | x :: xs, y :: ys, h => by
    show x * y + zs xs ys = 0
    rw [h y List.mem_cons_self, zs_z fun z hz => h z (List.mem_cons_of_mem _ hz)]
    omega
theorem port_z {a b : Nat} : ∀ y ∈ port 0 0 a b, y = 0 := fun y hy => by
  unfold port at hy
  rcases List.mem_append.mp hy with h | h <;> exact (List.mem_replicate.mp h).2
theorem pl_z : ∀ {xs ys : List Int}, (∀ x ∈ xs, x = 0) → (∀ y ∈ ys, y = 0) → ∀ z ∈ pl xs ys, z = 0
  | [], _, _, _, z, hz => by simp [pl] at hz
  | _ :: _, [], _, _, z, hz => by simp [pl] at hz
  | x :: xs, y :: ys, h1, h2, z, hz => by
    have e : pl (x :: xs) (y :: ys) = (x + y) :: pl xs ys := rfl
    rw [e] at hz
    rcases List.mem_cons.mp hz with q | q
    · rw [q, h1 x List.mem_cons_self, h2 y List.mem_cons_self]; rfl
    · exact pl_z (fun x hx => h1 x (List.mem_cons_of_mem _ hx)) (fun y hy => h2 y (List.mem_cons_of_mem _ hy)) z q
theorem max_empty {s : Sk} {r : Nat} {W : Int} (h : IsMax s (sk0 r) W) : W = 0 := by
  obtain ⟨ns, _, _, _, ks, ls, w, e⟩ := h
  have f0 : fullOf (sk0 r) = 0 := if_pos rfl
  have r0 : restOf (sk0 r) = 0 := if_pos rfl
  rw [f0, r0] at e
  have o0 : (sk0 r).off = 0 := rfl
  rw [o0] at e
  unfold whole psum at e
  rw [zs_z port_z, zs_z (pl_z (fun x hx => ?_) (fun y hy => ?_))] at e
  · exact e.symm
  · obtain ⟨n, _, rfl⟩ := List.mem_map.mp hx
    rfl
  · obtain ⟨n, _, rfl⟩ := List.mem_map.mp hy
    cases n <;> rfl
theorem jn_nil (cs : List (Str × Int)) : jn cs [] = 0 := sum_zero fun p _ => by rw [KM.cnt_nil]; omega
theorem sk0_ok {r : Nat} (r1 : 1 ≤ r) (r2 : r ≤ 16) : SkOk (sk0 r) := (good_0 r).ok r1 r2 (by show 0 ≤ 1500; decide)
theorem zzzz_ok : NmOk "zzzz" := by
  refine ⟨by decide +kernel, by decide +kernel, ?_⟩
  decide +kernel
/-- one item more -/
theorem more_ok {r : Nat} {s : Sk} {bag : List Str} {ds : List (Str × Int)} (g : Good r s bag) (r1 : 1 ≤ r) (r2 : r ≤ 16) (l : bag.length ≤ 1000) (pm : ds.Perm ((("zzzz" : Str), (1 : Int)) :: s.kept)) (as : Asc encP ds) (ld : ds.length ≤ r) :
    SkOk ⟨s.room, s.many + 1, s.off, ds⟩ := by
  have zn : (("zzzz" : Str)) ∉ nms s.kept := fun z => by
    obtain ⟨v, hv⟩ := nms_mem z
    have h1 := (g.nm _ hv).1
    have : (("zzzz" : Str)).length = 4 := by decide +kernel
    simp only at h1
    omega
  have ndk := asc_nd g.asc
  have nd1 : (nms ((("zzzz" : Str), (1 : Int)) :: s.kept)).Nodup := List.nodup_cons.mpr ⟨zn, ndk⟩
  have ndd : (nms ds).Nodup := (show (nms ds).Perm _ from pm.map _).nodup_iff.mpr nd1
  have tv : tot ds = tot s.kept + 1 := by
    have e1 : tot ds = tot ((("zzzz" : Str), (1 : Int)) :: s.kept) := by
      rw [← tot_over ndd ndd fun n h => h, ← tot_over nd1 ndd fun n h => ((show (nms ds).Perm _ from pm.map _).mem_iff).mpr h]
      exact sum_congr fun n _ => cnt_perm nd1 pm n
    rw [e1, tot_cons]
    show 1 + tot s.kept = _
    omega
  have ok := g.ok r1 r2 (by omega)
  have e := g.rm
  have m := g.mn
  refine ⟨ok.r1, ok.r2, ?_, ?_, ok.o0, ⟨asc_nms as ndd, fun p hp => ?_, fun p hp => ?_⟩, ?_, ?_, ?_⟩
  · show 0 ≤ s.many + 1
    omega
  · show s.many + 1 ≤ 1500
    omega
  · rcases List.mem_cons.mp (pm.mem_iff.mp hp) with q | q
    · rw [q]; show (0 : Int) < 1; decide
    · exact g.pos p q
  · rcases List.mem_cons.mp (pm.mem_iff.mp hp) with q | q
    · rw [q]; exact zzzz_ok
    · exact (g.nm p q).2
  · show (ds.length : Int) ≤ s.room
    omega
  · show (s.room + 1) * s.off ≤ s.many + 1 - tot ds
    have := ok.lo
    unfold lost at this
    omega
  · show s.many + 1 - tot ds ≤ 2 * s.room * s.off
    have := ok.hi
    unfold lost at this
    omega
theorem eqv_ii (a b c d : Int) (h1 : a = c) (h2 : b = d) : PyData.eqv (.tuple [.int a, .int b]) (.tuple [.int c, .int d]) = true := by
  subst h1; subst h2
  show (a == a && (b == b && true)) = true
  simp
theorem eqv_li (a b c d : Int) (h1 : a = c) (h2 : b = d) : PyData.eqv (.list [.int a, .int b]) (.list [.int c, .int d]) = true := by
  subst h1; subst h2
  show (a == a && (b == b && true)) = true
  simp
theorem shp_ii (a b : Int) : SeqAt.shaped (.tuple [.int a, .int b]) = true := by
  unfold SeqAt.shaped
  simp [PyData.canLay0, PyData.canLayAll0, PyData.depth, PyData.depthAll]
theorem shp_li (a b : Int) : SeqAt.shaped (.list [.int a, .int b]) = true := by
  unfold SeqAt.shaped
  simp [PyData.canLay0, PyData.canLayAll0, PyData.depth, PyData.depthAll]
theorem cut2 {xs : List V} (h : 1 ≤ xs.length) : 1 ≤ (cutV xs none (some 2)).length := by
  unfold cutV
  have e1 : HT.sIx xs.length 0 none = 0 := rfl
  have e2 : HT.sIx xs.length xs.length (some 2) = min 2 xs.length := HT.sIx_nat xs.length xs.length 2
  rw [e1, e2, List.drop_zero, Nat.sub_zero, List.length_take]
  omega
/-- two truths in one tuple -/
structure Two where
  a : Addr
  q1 : V
  q2 : V
  d1 : List (Str × Int)
  d2 : List (Str × Int)
structure TwoOk (H : Hp) (s t : Sk) (b : Two) : Prop where
  at_ : H b.a = some (.tup [b.q1, b.q2])
  c1 : CtsAt H b.q1 b.d1
  c2 : CtsAt H b.q2 b.d2
  t1 : Tru s.kept s.off s.many b.d1
  t2 : Tru t.kept t.off t.many b.d2
  l1 : b.d1.length ≤ 1000
  l2 : b.d2.length ≤ 1000
theorem TwoOk.mono {H H' : Hp} {s t : Sk} {b : Two} (h : TwoOk H s t b) (e : ExT H H') : TwoOk H' s t b := ⟨e _ _ rfl h.at_, h.c1.mono e, h.c2.mono e, h.t1, h.t2, h.l1, h.l2⟩
theorem twos_list {H : Hp} {s t : Sk} {xs : List V} (h : ∀ x ∈ xs, ∃ b : Two, x = .ref b.a ∧ TwoOk H s t b) : ∃ bs : List Two, xs = bs.map (fun b => V.ref b.a) ∧ ∀ b ∈ bs, TwoOk H s t b := by
  induction xs with
  | nil => exact ⟨[], rfl, fun z hz => nomatch hz⟩
  | cons y ys ih =>
    obtain ⟨ns, e, h'⟩ := ih fun y hy => h y (List.mem_cons_of_mem _ hy)
    obtain ⟨z, ez, oz⟩ := h y List.mem_cons_self
    exact ⟨z :: ns, by rw [ez, e]; rfl, fun x hx => (List.mem_cons.mp hx).elim (fun q => by rw [q]; exact oz) (h' x)⟩
theorem two_at {bs : List Two} {i : Nat} {b : Two} {x : V} (e : bs[i]? = some b) (h : (bs.map fun b => V.ref b.a)[i]? = some x) : x = .ref b.a := by
  rw [List.getElem?_map, e] at h
  exact (Option.some.inj h).symm
theorem zz_inj {a b : Str} (h : ("zz" : Str) ++ a = ("zz" : Str) ++ b) : a = b := by
  have e := congrArg (fun z : Str => z.cps.toList) h
  simp only [app_list] at e
  exact str_ext (List.append_cancel_left e)
theorem fresh_nd {f : Str} {n : Nat} (h : n ≤ 702) : (((List.range n).map (polN f)).map fun z => ("zz" : Str) ++ z).Nodup := by
  unfold List.Nodup
  rw [List.pairwise_map, List.pairwise_map]
  refine (List.nodup_range (n := n)).imp_of_mem fun {a b} ha hb ne e => ne ?_
  exact polN_inj (f := f) (by have := List.mem_range.mp ha; omega) (by have := List.mem_range.mp hb; omega) (zz_inj e)
theorem tru_b {s : Sk} {T : List (Str × Int)} (ok : SkOk s) (t : Tru s.kept s.off s.many T) : ∀ p ∈ T, 0 ≤ p.2 ∧ p.2 ≤ 1000000 := fun p hp => by
  have h1 := t.pos p hp
  have h2 := t.hi p.1
  rw [cnt_mem t.nd hp] at h2
  have := cnt_b ok p.1
  have := off_le ok
  omega
end Kn
set_option Elab.async false
set_option linter.all false
set_option maxRecDepth 100000
set_option maxHeartbeats 4000000
set_option pp.maxSteps 300
/-! The law. -/
namespace Kn
open PySem PySem.Spec PyProof.Rows L2 KM
def spLaw (K : PySem.W.Frag) : Sp := fun vs H Q _ => ∃ (a : Addr) (ns : List Int), vs = [.ref a] ∧ SqL K H a (ns.map V.int) ∧ ns.length ≤ 63 ∧ ∀ H', Q (.bl true) H'
theorem c_law {P : Program} {w : World} {K : PySem.W.Frag} {mg : Str → Option Value} {base : Heap} {CP CF : Addr} {f : Addr} {fd : FuncData} (T : Txt K mg CP CF) (FP : FunP K "law" "law" (topS 67) ["_law_script"] f fd) : FnOk P w K mg base C8.CX0 12 f fd ["_law_script"] (spLaw K) := by
  refine C8.fn0 FP.fn (C8.fnScope_by (show C8.scC ["_law_script", "_law_hand_here", "_law_turn", "_law_room", "_law_pool_here", "_law_trees", "_law_one", "_law_other", "_law_low", "_law_high", "_law_told", "_law_fresh", "_law_pairs", "_law_more", "_law_pair", "_law_name", "_law_again", "_law_first", "_law_second"] ["_law_script"] (C8.fnScope (topS 67)) = true by decide +kernel)) (fun vs H Q E h => ?_) (fun cdv A outer s H vs Q E hr h => ?_)
  · obtain ⟨a, ns, rfl, _⟩ := h; rfl
  · obtain ⟨scr, ns, rfl, hscr, lns, q⟩ := h
    have nd : (["_law_script", "_law_hand_here", "_law_turn", "_law_room", "_law_pool_here", "_law_trees", "_law_one", "_law_other", "_law_low", "_law_high", "_law_told", "_law_fresh", "_law_pairs", "_law_more", "_law_pair", "_law_name", "_law_again", "_law_first", "_law_second"] : List Str).Nodup := by decide +kernel
    refine ⟨_, (pss_cons (ps_set (i := 1) nd rfl (Or.inr rfl) (C8.pe_c (c_hand T) hr (by decide) (by rfl) (pa_cons (pv 0) pa_nil)))
      (pss_cons (ps_for PassesOwn.never rfl (pi_range1 (by rfl) T.z_range (pa_cons pe_int pa_nil)) (pg_name (i := 2) nd rfl (.inl rfl))
      (C8.pss_cut (ps_set (i := 3) nd rfl (Or.inl rfl) (pe_ifExp (pt_cmpR op_eq (C8.pe_c (c_draw T) hr (by decide) (by rfl) (pa_cons (pv 1) (pa_cons pe_int pa_nil))) pe_int (nomark _)) (pe_op op_add pe_int (C8.pe_c (c_draw T) hr (by decide) (by rfl) (pa_cons (pv 1) (pa_cons pe_int pa_nil)))) (pe_op op_add pe_int (C8.pe_c (c_draw T) hr (by decide) (by rfl) (pa_cons (pv 1) (pa_cons pe_int pa_nil))))))
      (pss_cons (ps_set (i := 4) nd rfl (Or.inl rfl) (C8.pe_c (c_pool T) hr (by decide) (by rfl) (pa_cons (pv 1) (pa_cons (pe_op op_add pe_int (C8.pe_c (c_draw T) hr (by decide) (by rfl) (pa_cons (pv 1) (pa_cons (pe_op op_add (pe_op op_mul pe_int (pv 3)) pe_int) pa_nil)))) pa_nil))))
      (pss_cons (ps_set (i := 5) nd rfl (Or.inl rfl) (pe_lst (pa_cons (C8.pe_c (c_tree T) hr (by decide) (by rfl) (pa_cons (pv 1) (pa_cons (pv 4) (pa_cons pe_int (pa_cons pe_int pa_nil))))) (pa_cons (C8.pe_c (c_tree T) hr (by decide) (by rfl) (pa_cons (pv 1) (pa_cons (pe_op op_cat (pe_slice sl_list (pv 4) (po_some (C8.pe_c (c_draw T) hr (by decide) (by rfl) (pa_cons (pv 1) (pa_cons (pe_callB call_len_seq (by rfl) T.z_len bo_len (pa_cons (pv 4) pa_nil)) pa_nil)))) po_none) (pe_slice sl_list (pv 4) po_none (po_some pe_int))) (pa_cons pe_int (pa_cons pe_int pa_nil))))) pa_nil))))
      (pss_cons (ps_asg (pe_tup (pa_cons (C8.pe_c (c_sketch T) hr (by decide) (by rfl) (pa_cons (pv 3) (pa_cons (pe_ix ix_list (pv 5) pe_int (fun _ _ => rfl)) pa_nil))) (pa_cons (C8.pe_c (c_sketch T) hr (by decide) (by rfl) (pa_cons (pv 3) (pa_cons (pe_ix ix_list (pv 5) pe_int (fun _ _ => rfl)) pa_nil))) pa_nil))) (pg_tup rfl (pgs_cons (pg_name (i := 6) nd rfl (.inr rfl)) (pgs_cons (pg_name (i := 7) nd rfl (.inr rfl)) pgs_nil))))
      (C8.pss_cut (ps_if (pt_cmpR op_eq (C8.pe_c (c_draw T) hr (by decide) (by rfl) (pa_cons (pv 1) (pa_cons pe_int pa_nil))) pe_int (nomark _)) (pss_one (ps_asg (pe_tup (pa_cons (pv 6) (pa_cons (pe_lst (pa_cons (pe_ix ix_list (pv 5) pe_int (fun _ _ => rfl)) (pa_cons (pe_ix ix_list (pv 5) pe_int (fun _ _ => rfl)) pa_nil))) pa_nil))) (pg_tup rfl (pgs_cons (pg_name (i := 7) nd rfl (.inr rfl)) (pgs_cons (pg_name (i := 5) nd rfl (.inl rfl)) pgs_nil))))) pss_nil)
      (pss_cons (ps_asg (C8.pe_c (c_join T) hr (by decide) (by rfl) (pa_cons (pv 6) (pa_cons (pv 7) pa_nil))) (pg_tup rfl (pgs_cons (pg_name (i := 8) nd rfl (.inr rfl)) (pgs_cons (pg_name (i := 9) nd rfl (.inr rfl)) pgs_nil))))
      (pss_cons (ps_set (i := 10) nd rfl (Or.inl rfl) (C8.pe_c (c_join_truths T) hr (by decide) (by rfl) (pa_cons (pv 6) (pa_cons (pv 7) pa_nil))))
      (pss_cons (ps_if (PW.pt (pw_or (pt_cmpR op_ne (pv 8) (C8.pe_c (c_ljoined T) hr (by decide) (by rfl) (pa_cons (pe_ix ix_tup (pv 6) pe_int (fun _ _ => rfl)) (pa_cons (pe_ix ix_tup (pv 7) pe_int (fun _ _ => rfl)) pa_nil))) (nomark _)) (pw_or1 (pt_cmpR (op_neD hr.units) (C8.pe_c (c_join T) hr (by decide) (by rfl) (pa_cons (pv 7) (pa_cons (pv 6) pa_nil))) (pe_tup (pa_cons (pv 8) (pa_cons (pv 9) pa_nil))) (nomark _))))) (pss_one (ps_ret pe_bl)) pss_nil)
      (pss_cons (ps_if (pt_not (pt_val (pe_callB (cr_all rfl) (by rfl) T.z_all bo_all (pa_cons (pe_lc (own := [("_law_pair", 14)]) (g := gName 14) (by rfl) nd (pi_tup (pv 10)) (blkOk_by (own := [("_law_pair", 14)]) (N := ["_law_script", "_law_hand_here", "_law_turn", "_law_room", "_law_pool_here", "_law_trees", "_law_one", "_law_other", "_law_low", "_law_high", "_law_told", "_law_fresh", "_law_pairs", "_law_more", "_law_pair", "_law_name", "_law_again", "_law_first", "_law_second"]) (sc := C8.fnScope (topS 67)) (by decide +kernel)) (fun _ _ _ _ _ => pg_name (i := 14) nd rfl (Or.inl rfl)) (fun _ _ _ _ _ => pts_nil) (fun _ _ _ _ _ => pe_and (C8.pe_c (c_lis_truth T) hr (by decide) (by rfl) (pa_cons (pv 6) (pa_cons (pe_ix (ixT K) (pv 14) pe_int (fun _ _ => rfl)) pa_nil))) (pe_one (C8.pe_c (c_lis_truth T) hr (by decide) (by rfl) (pa_cons (pv 7) (pa_cons (pe_ix (ixT K) (pv 14) pe_int (fun _ _ => rfl)) pa_nil)))))) pa_nil)))) (pss_one (ps_ret pe_bl)) pss_nil)
      (pss_cons (ps_if (pt_cmpR (op_neD hr.units) (pe_lc (own := [("_law_pair", 14)]) (g := gName 14) (by rfl) nd (pi_tup (pv 10)) (blkOk_by (own := [("_law_pair", 14)]) (N := ["_law_script", "_law_hand_here", "_law_turn", "_law_room", "_law_pool_here", "_law_trees", "_law_one", "_law_other", "_law_low", "_law_high", "_law_told", "_law_fresh", "_law_pairs", "_law_more", "_law_pair", "_law_name", "_law_again", "_law_first", "_law_second"]) (sc := C8.fnScope (topS 67)) (by decide +kernel)) (fun _ _ _ _ _ => pg_name (i := 14) nd rfl (Or.inl rfl)) (fun _ _ _ _ _ => pts_nil) (fun _ _ _ _ _ => (C8.pe_c (c_ljoined T) hr (by decide) (by rfl) (pa_cons (pe_ix (ixT K) (pv 14) pe_int (fun _ _ => rfl)) (pa_cons (pe_ix (ixT K) (pv 14) pe_int (fun _ _ => rfl)) pa_nil))))) (pe_lst (pa_cons (pv 8) (pa_cons (pv 9) pa_nil))) (nomark _)) (pss_one (ps_ret pe_bl)) pss_nil)
      (pss_cons (ps_set (i := 11) nd rfl (Or.inr rfl) (pe_lc (own := [("_law_name", 15)]) (g := gName 15) (by rfl) nd (pi_list (C8.pe_c (c_pool T) hr (by decide) (by rfl) (pa_cons (pv 1) (pa_cons (pe_op op_add (pe_op op_add pe_int (C8.pe_c (c_llost T) hr (by decide) (by rfl) (pa_cons (pv 6) pa_nil))) (C8.pe_c (c_llost T) hr (by decide) (by rfl) (pa_cons (pv 7) pa_nil))) pa_nil)))) (blkOk_by (own := [("_law_name", 15)]) (N := ["_law_script", "_law_hand_here", "_law_turn", "_law_room", "_law_pool_here", "_law_trees", "_law_one", "_law_other", "_law_low", "_law_high", "_law_told", "_law_fresh", "_law_pairs", "_law_more", "_law_pair", "_law_name", "_law_again", "_law_first", "_law_second"]) (sc := C8.fnScope (topS 67)) (by decide +kernel)) (fun _ _ _ _ _ => pg_name (i := 15) nd rfl (Or.inl rfl)) (fun _ _ _ _ _ => pts_nil) (fun _ _ _ _ _ => (pe_op op_add_str pe_str (pv 15)))))
      (pss_cons (ps_set (i := 12) nd rfl (Or.inl rfl) (pe_lst (pa_cons (pe_tup (pa_cons (C8.pe_c (c_counted T) hr (by decide) (by rfl) (pa_cons (pe_ix ix_list (pv 5) pe_int (fun _ _ => rfl)) pa_nil)) (pa_cons (C8.pe_c (c_counted T) hr (by decide) (by rfl) (pa_cons (pe_ix ix_list (pv 5) pe_int (fun _ _ => rfl)) pa_nil)) pa_nil))) pa_nil)))
      (pss_cons (ps_expr (pe_bm F.plainAttrs_list F.slot_list_extend F.type_list_extend mt_extend (pv 12) (pa_cons (pe_lc (own := [("_law_again", 16)]) (g := gName 16) (by rfl) nd (pi_range1 (by rfl) T.z_range (pa_cons pe_int pa_nil)) (blkOk_by (own := [("_law_again", 16)]) (N := ["_law_script", "_law_hand_here", "_law_turn", "_law_room", "_law_pool_here", "_law_trees", "_law_one", "_law_other", "_law_low", "_law_high", "_law_told", "_law_fresh", "_law_pairs", "_law_more", "_law_pair", "_law_name", "_law_again", "_law_first", "_law_second"]) (sc := C8.fnScope (topS 67)) (by decide +kernel)) (fun _ _ _ _ _ => pg_name (i := 16) nd rfl (Or.inl rfl)) (fun _ _ _ _ _ => pts_nil) (fun _ _ _ _ _ => (pe_tup (pa_cons (C8.pe_c (c_ltruth T) hr (by decide) (by rfl) (pa_cons (pv 1) (pa_cons (pv 6) (pa_cons (pv 11) pa_nil)))) (pa_cons (C8.pe_c (c_ltruth T) hr (by decide) (by rfl) (pa_cons (pv 1) (pa_cons (pv 7) (pa_cons (pv 11) pa_nil)))) pa_nil))))) pa_nil)))
      (pss_cons (ps_if (pt_not (pt_val (pe_callB (cr_all rfl) (by rfl) T.z_all bo_all (pa_cons (pe_lc (own := [("_law_first", 17), ("_law_second", 18)]) (g := gTup K 2 (gCons (gName 17) (gCons (gName 18) gNil))) (by rfl) nd (pi_list (pv 12)) (blkOk_by (own := [("_law_first", 17), ("_law_second", 18)]) (N := ["_law_script", "_law_hand_here", "_law_turn", "_law_room", "_law_pool_here", "_law_trees", "_law_one", "_law_other", "_law_low", "_law_high", "_law_told", "_law_fresh", "_law_pairs", "_law_more", "_law_pair", "_law_name", "_law_again", "_law_first", "_law_second"]) (sc := C8.fnScope (topS 67)) (by decide +kernel)) (fun _ _ _ _ _ => pg_tup rfl (pgs_cons (pg_name (i := 17) nd rfl (Or.inl rfl)) (pgs_cons (pg_name (i := 18) nd rfl (Or.inl rfl)) pgs_nil))) (fun _ _ _ _ _ => pts_nil) (fun _ _ _ _ _ => pe_chain op_le op_le (pv 8) (C8.pe_c (c_ljoined T) hr (by decide) (by rfl) (pa_cons (pv 17) (pa_cons (pv 18) pa_nil))) (pv 9))) pa_nil)))) (pss_one (ps_ret pe_bl)) pss_nil)
      (pss_cons (ps_if (PW.pt (pw_or (pt_cmpR (op_neD hr.units) (C8.pe_c (c_join T) hr (by decide) (by rfl) (pa_cons (pv 6) (pa_cons (pe_tup (pa_cons (pv 3) (pa_cons pe_int (pa_cons pe_int (pa_cons (pe_tupF pa_nil) pa_nil))))) pa_nil))) (pe_tup (pa_cons pe_int (pa_cons pe_int pa_nil))) (nomark _)) (pw_or1 (pt_cmpR op_eq (C8.pe_c (c_same T) hr (by decide) (by rfl) (pa_cons (pv 6) (pa_cons (pv 6) pa_nil))) pe_str (nomark _))))) (pss_one (ps_ret pe_bl)) pss_nil)
      (pss_cons (ps_set (i := 13) nd rfl (Or.inl rfl) (pe_tup (pa_cons (pv 3) (pa_cons (pe_op op_add (pe_ix ix_tup (pv 6) pe_int (fun _ _ => rfl)) pe_int) (pa_cons (pe_ix ix_tup (pv 6) pe_int (fun _ _ => rfl)) (pa_cons (pe_callTy cr_tupF (by rfl) T.z_tuple bo_tuple (pa_cons (pe_callB (cr_srtP hr.units) (by rfl) T.z_sorted bo_sorted (pa_cons (pe_op op_cat (pe_lst (pa_cons (pe_tup (pa_cons pe_str (pa_cons pe_int pa_nil))) pa_nil)) (pe_callTy call_list_of (by rfl) T.z_list bo_list (pa_cons (pe_ix ix_tup (pv 6) pe_int (fun _ _ => rfl)) pa_nil))) pa_nil)) pa_nil)) pa_nil))))))
      (pss_one (ps_if (PW.pt (pw_and (pt_cmpR op_le (pe_callB call_len_seq (by rfl) T.z_len bo_len (pa_cons (pe_ix ix_tup (pv 13) pe_int (fun _ _ => rfl)) pa_nil)) (pv 3) (nomark _)) (pw_and1 (pt_cmpR op_ne (C8.pe_c (c_same T) hr (by decide) (by rfl) (pa_cons (pv 6) (pa_cons (pv 13) pa_nil))) pe_str (nomark _))))) (pss_one (ps_ret pe_bl)) pss_nil)))))))))))))))))))
      (pss_one (ps_ret pe_bl)))), ?_⟩
    refine ⟨_, rfl, scr, ns, rfl, hscr, lns, fun H1 a c s1 ha0 hH1 => ?_⟩
    refine ⟨_, rfl, by decide, by decide, ?_⟩
    refine for_range (lo := 0) (n := (2 : Int).toNat) (fun i σ H' => ∃ y2 y3 y4 y5 y6 y7 y8 y9 y10 y11 y12 y13, σ = [some (.ref scr), some (.ref a), y2, y3, y4, y5, y6, y7, y8, y9, y10, y11, y12, y13, none, none, none, none, none] ∧ Hnd H' a c)
      ⟨_, _, _, _, _, _, _, _, _, _, _, _, rfl, hH1⟩ ?_ (fun σ H' _ => q _)
    rintro i σ H1 hi ⟨y2, y3, y4, y5, y6, y7, y8, y9, y10, y11, y12, y13, rfl, hH⟩
    -- the room
    refine ⟨fun σ' H' => ∃ (y2 : Option V) (k : Int) (r : Nat), σ' = [some (.ref scr), some (.ref a), y2, some (.int k), y4, y5, y6, y7, y8, y9, y10, y11, y12, y13, none, none, none, none, none] ∧ k = (r : Int) ∧ 1 ≤ r ∧ r ≤ 11 ∧ Hnd H' a c, ?_, ?_⟩
    · refine ⟨_, rfl, a, c, 12, rfl, hH, by decide, by decide, fun H2 d x2 hH2 _ _ => ⟨rfl, ?_⟩⟩
      by_cases hd : d = 0
      · refine ⟨true, blT (by rw [hd]), iteT ⟨_, rfl, a, c, 3, rfl, hH2, by decide, by decide, fun H3 e x3 hH3 e0 e1 => ⟨_, _, rfl, rfl, ?_⟩⟩⟩
        exact ⟨_, 9 + e, (9 + e).toNat, rfl, by omega, by omega, by omega, hH3⟩
      · refine ⟨false, blF (fun z => hd (V.int.inj z)), iteF ⟨_, rfl, a, c, 4, rfl, hH2, by decide, by decide, fun H3 e x3 hH3 e0 e1 => ⟨_, _, rfl, rfl, ?_⟩⟩⟩
        exact ⟨_, 1 + e, (1 + e).toNat, rfl, by omega, by omega, by omega, hH3⟩
    rintro σ' H2 ⟨y2, k, r, rfl, rfl, r1, r2, hH2⟩
    clear hH
    -- the pool
    refine ⟨_, rfl, _, rfl, _, rfl, _, _, rfl, rfl, .inl ⟨by decide, by decide⟩, _, _, rfl, rfl, a, c, _, rfl, hH2, by omega, by omega, fun H3 d x3 hH3 d0 d1 => ?_⟩
    obtain ⟨dn, rfl⟩ : ∃ dn : Nat, d = dn := ⟨d.toNat, by omega⟩
    refine ⟨_, _, rfl, rfl, a, c, 2 + dn, rfl, hH3, by omega, fun H4 p f0 x4 hH4 hp hf hl => ?_⟩
    have lpl : ((List.range (2 + dn)).map (polN f0)).length = 2 + dn := by rw [List.length_map, List.length_range]
    have pok : ∀ z ∈ (List.range (2 + dn)).map (polN f0), PoolNm z := fun z hz => by
      obtain ⟨j, hj, rfl⟩ := List.mem_map.mp hz
      exact polN_ok hf (by have := List.mem_range.mp hj; omega)
    have npa : p ≠ a := Ne.symm (hH3.ne hp).1
    generalize (List.range (2 + dn)).map (polN f0) = pl at hl lpl pok
    -- the trees
    refine ⟨_, rfl, _, rfl, a, c, p, pl, rfl, hH4, hl, npa, by omega, by omega, pok, fun H5 v1 sts1 x5 hH5 ht1 ok1 => ?_⟩
    have hl5 := x5 _ _ npa hl
    refine ⟨_, rfl, _, rfl, _, rfl, _, rfl, p, _, rfl, .inl (SqL.of hl5), a, c, _, rfl, hH5, by rw [List.length_map]; omega, by rw [List.length_map]; omega, fun H6 d2 x6 hH6 d20 d21 => ?_⟩
    have hl6 := x6 _ _ npa hl5
    refine ⟨_, rfl, p, _, rfl, SqL.of hl6, fun l1 hl1 => ?_⟩
    have sa1 := sn hl1 (o := .lst (cutV (pl.map V.str) (some d2) none))
    refine ⟨_, rfl, _, rfl, p, _, rfl, SqL.of (sa1 _ _ hl6), fun l2 hl2 => ?_⟩
    have n12 : l1 ≠ l2 := fun z => by rw [← z, upd_same] at hl2; cases hl2
    refine ⟨l1, l2, _, _, rfl, rfl, by rw [upd_ne n12, upd_same], upd_same, ?_, fun l3 hl3 => ?_⟩
    · have h1 := cutV_length (pl.map V.str) (some d2) none
      have h2 := cutV_length (pl.map V.str) none (some 2)
      rw [List.length_map] at h1 h2
      exact sz (by omega)
    obtain ⟨pl2, e2, okp2⟩ := str_list (xs := cutV (pl.map V.str) (some d2) none ++ cutV (pl.map V.str) none (some 2)) (ok := PoolNm) (fun x hx => by
      rcases List.mem_append.mp hx with z | z
      · obtain ⟨y, hy, rfl⟩ := List.mem_map.mp (cut_mem z)
        exact ⟨y, rfl, pok y hy⟩
      · obtain ⟨y, hy, rfl⟩ := List.mem_map.mp (cut_mem z)
        exact ⟨y, rfl, pok y hy⟩)
    have lp2 : 0 < pl2.length ∧ pl2.length ≤ 1000 := by
      have h1 := cutV_length (pl.map V.str) (some d2) none
      have h2 := cutV_length (pl.map V.str) none (some 2)
      have h3 := cut2 (xs := pl.map V.str) (by rw [List.length_map]; omega)
      have h4 := congrArg List.length e2
      rw [List.length_append, List.length_map] at h4
      rw [List.length_map] at h1 h2
      omega
    have sA : Same H6 (upd (upd (upd H6 l1 (.lst (cutV (pl.map V.str) (some d2) none))) l2 (.lst (cutV (pl.map V.str) none (some 2)))) l3 (.lst (cutV (pl.map V.str) (some d2) none ++ cutV (pl.map V.str) none (some 2)))) := sm (sm (sn hl1) ((sn hl1).free hl2)) ((sm (sn hl1) ((sn hl1).free hl2)).free hl3)
    have n3 : l3 ≠ a := fun z => (hH6.ne ((sm (sn hl1) ((sn hl1).free hl2)).free hl3)).1 z.symm
    have hl3' : upd (upd (upd H6 l1 (.lst (cutV (pl.map V.str) (some d2) none))) l2 (.lst (cutV (pl.map V.str) none (some 2)))) l3 (.lst (cutV (pl.map V.str) (some d2) none ++ cutV (pl.map V.str) none (some 2))) l3 = some (.lst (pl2.map V.str)) := by rw [upd_same, e2]
    have hH7 := hH6.st sA
    have ht7 := (ht1.mono (hH5.tx x6)).mono (tx sA)
    generalize upd (upd (upd H6 l1 (.lst (cutV (pl.map V.str) (some d2) none))) l2 (.lst (cutV (pl.map V.str) none (some 2)))) l3 (.lst (cutV (pl.map V.str) (some d2) none ++ cutV (pl.map V.str) none (some 2))) = H7 at hl3' hH7 ht7 ⊢
    refine ⟨a, c, l3, pl2, rfl, hH7, hl3', n3, lp2.1, lp2.2, okp2, fun H8 v2 sts2 x8 hH8 ht2 ok2 => ⟨(by show 2 ≤ sizeLine; decide), fun L hL => ?_⟩⟩
    have ht8 := ht7.mono (hH7.tx x8)
    have sB := sn hL (o := .lst [v1, v2])
    have hL9 : upd H8 L (.lst [v1, v2]) L = some (.lst [v1, v2]) := upd_same
    have hH9 := hH8.st sB
    have ht9 := ht8.mono (tx sB)
    have ht9' := ht2.mono (tx sB)
    have nLa : L ≠ a := Ne.symm (hH8.ne hL).1
    generalize upd H8 L (.lst [v1, v2]) = H9 at hL9 hH9 ht9 ht9' ⊢
    -- the sketches
    refine ⟨_, rfl, _, rfl, L, _, 0, _, rfl, rfl, SqL.of hL9, rfl, _, r, sts1, rfl, ht9, ok1, r1, by omega, fun H10 u1 sk1 s10 hS1 g1 => ?_⟩
    refine ⟨_, rfl, _, rfl, L, _, 1, _, rfl, rfl, SqL.of (s10 _ _ hL9), rfl, _, r, sts2, rfl, ht9'.mono (tx s10), ok2, r1, by omega, fun H11 u2 sk2 s11 hS2 g2 => ⟨(by show 2 ≤ sizeLine; decide), fun tp htp => ?_⟩⟩
    have s12 := (s10.trans s11).trans (sn htp (o := .tup [u1, u2]))
    have s12' := s11.trans (sn htp (o := .tup [u1, u2]))
    refine ⟨tp, _, rfl, SqT.of upd_same, rfl, _, _, rfl, _, _, rfl, rfl, ?_⟩
    have hS1 := hS1.mono (tx s12')
    have hS2 := hS2.mono (tx (sn htp (o := .tup [u1, u2])))
    have hL12 := s12 _ _ hL9
    have hH12 := hH9.st s12
    have ht12 := ht9.mono (tx s12)
    have ht12' := ht9'.mono (tx s12)
    generalize upd H11 tp (.tup [u1, u2]) = H12 at hS1 hS2 hL12 hH12 ht12 ht12' ⊢
    -- the same twice
    refine ⟨fun σ' H' => ∃ (v u w1 w2 : V) (L : Addr) (s t : Sk) (ts1 ts2 : List Stp) (y4 : Option V), σ' = [some (.ref scr), some (.ref a), y2, some (.int (r : Int)), y4, some (.ref L), some v, some u, y8, y9, y10, y11, y12, y13, none, none, none, none, none] ∧ Hnd H' a c ∧ H' L = some (.lst [w1, w2]) ∧ L ≠ a ∧ TreeAt H' w1 ts1 ∧ TreeAt H' w2 ts2 ∧ TreeOk ts1 ∧ TreeOk ts2 ∧ SkAt H' v s ∧ SkAt H' u t ∧ Good r s (allN ts1) ∧ Good r t (allN ts2), ?_, ?_⟩
    · refine ⟨_, rfl, a, c, 6, rfl, hH12, by decide, by decide, fun H13 e x13 hH13 _ _ => ⟨rfl, ?_⟩⟩
      have xt := hH12.tx x13
      have hL13 := x13 _ _ nLa hL12
      by_cases he : e = 0
      · refine ⟨true, blT (by rw [he]), iteT ?_⟩
        refine ⟨_, rfl, _, rfl, L, _, 0, _, rfl, rfl, SqL.of hL13, rfl, _, rfl, L, _, 0, _, rfl, rfl, SqL.of hL13, rfl, (by show 2 ≤ sizeLine; decide), fun L2 hL2 => ⟨(by show 2 ≤ sizeLine; decide), fun tq htq => ?_⟩⟩
        have sC : Same H13 (upd (upd H13 L2 (.lst [v1, v1])) tq (.tup [u1, .ref L2])) := sm (sn hL2) ((sn hL2).free htq)
        refine ⟨tq, _, rfl, SqT.of upd_same, rfl, _, _, rfl, _, _, rfl, rfl, ?_⟩
        exact ⟨u1, u1, v1, v1, L2, sk1, sk1, sts1, sts1, _, rfl, hH13.st sC, sn htq _ _ upd_same, Ne.symm (hH13.ne hL2).1, (ht12.mono xt).mono (tx sC), (ht12.mono xt).mono (tx sC), ok1, ok1, (hS1.mono xt).mono (tx sC), (hS1.mono xt).mono (tx sC), g1, g1⟩
      · exact ⟨false, blF (fun z => he (V.int.inj z)), iteF ⟨u1, u2, v1, v2, L, sk1, sk2, sts1, sts2, _, rfl, hH13, hL13, nLa, ht12.mono xt, ht12'.mono xt, ok1, ok2, hS1.mono xt, hS2.mono xt, g1, g2⟩⟩
    rintro σ' H0 ⟨v, u, w1, w2, L, s, t, ts1, ts2, y4, rfl, hH, hL, nLa, ht1, ht2, ok1, ok2, hS, hT, gS, gT⟩
    have r16 : r ≤ 16 := by omega
    have lb1 := ok1.nn
    have lb2 := ok2.nn
    have okS := gS.ok r1 r16 (by omega)
    have okT := gT.ok r1 r16 (by omega)
    have rooms : s.room = t.room := by rw [gS.rm, gT.rm]
    have lkS := len_le okS
    have lkT := len_le okT
    obtain ⟨sa, wS, rfl, hsa, hwS⟩ := id hS
    obtain ⟨ta, wT, rfl, hta, hwT⟩ := id hT
    -- join
    refine ⟨_, rfl, _, rfl, _, _, s, t, rfl, hS, hT, okS, okT, rooms, fun H2 jp W s2 hjp hW => ⟨jp, _, rfl, SqT.of hjp, rfl, _, _, rfl, _, _, rfl, rfl, ?_⟩⟩
    refine ⟨_, rfl, _, rfl, _, _, s, t, rfl, hS.mono (tx s2), hT.mono (tx s2), okS, okT, rooms, fun H3 jt pa pb q1 q2 q3 q4 ds1 ds2 ds3 ds4 W' s3 hjt hpa hpb h1 h2 h3 h4 k1 k2 k3 k4 l1 l2 l3 l4 t1 t2 t3 t4 e1 e2 hW' => ?_⟩
    have eW : W' = W := max_uniq hW' hW
    subst eW
    have s4 := s2.trans s3
    have b1 : TwoOk H3 s t ⟨pa, q1, q2, ds1, ds2⟩ := ⟨hpa, h1, h2, t1, t2, by show ds1.length ≤ 1000; omega, by show ds2.length ≤ 1000; omega⟩
    have b2 : TwoOk H3 s t ⟨pb, q3, q4, ds3, ds4⟩ := ⟨hpb, h3, h4, t3, t4, by show ds3.length ≤ 1000; omega, by show ds4.length ≤ 1000; omega⟩
    have bT : ∀ b ∈ ([⟨pa, q1, q2, ds1, ds2⟩, ⟨pb, q3, q4, ds3, ds4⟩] : List Two), TwoOk H3 s t b ∧ CtOk b.d1 ∧ CtOk b.d2 := fun b hb => by
      rcases List.mem_cons.mp hb with z | z
      · rw [z]; exact ⟨b1, k1, k2⟩
      · rcases List.mem_cons.mp z with z | z
        · rw [z]; exact ⟨b2, k3, k4⟩
        · cases z
    -- the least end; the other way round
    refine ⟨_, rfl, _, rfl, sa, _, 3, _, rfl, rfl, SqT.of (s4 _ _ hsa), rfl, _, rfl, ta, _, 3, _, rfl, rfl, SqT.of (s4 _ _ hta), rfl, _, _, s.kept, t.kept, rfl, hwS.mono (tx s4), hwT.mono (tx s4), okT.ct.nd, by omega, (fun p hp => by
      have := cnt_mem okS.ct.nd hp
      have := cnt_b okS p.1
      omega), fun H4 s5 => ⟨rfl, ?_⟩⟩
    refine ⟨false, by simp, iteF ?_⟩
    have s6 := s4.trans s5
    refine ⟨_, rfl, _, rfl, _, _, t, s, rfl, hT.mono (tx s6), hS.mono (tx s6), okT, okS, rooms.symm, fun H5 jq W2 s7 hjq hW2 => ?_⟩
    have eW2 : W2 = W' := max_uniq (max_sym hW2) hW
    subst eW2
    refine ⟨_, rfl, _, rfl, (by show 2 ≤ sizeLine; decide), fun tq htq => ?_⟩
    have s8 := (s6.trans s7).trans (sn htq (o := .tup [.int (jn s.kept t.kept), .int W2]))
    have s8' := (s5.trans s7).trans (sn htq (o := .tup [.int (jn s.kept t.kept), .int W2]))
    refine ⟨.tuple [.int (jn t.kept s.kept), .int W2], .tuple [.int (jn s.kept t.kept), .int W2], .tup (SqT.of (sn htq _ _ hjq)) (.cons (.int _) (.cons (.int _) .nil)), .tup (SqT.of upd_same) (.cons (.int _) (.cons (.int _) .nil)), shp_ii _ _, shp_ii _ _, ?_⟩
    refine ⟨false, by rw [eqv_ii _ _ _ _ (jn_comm okT.ct.nd okS.ct.nd) rfl]; rfl, iteF ?_⟩
    generalize upd H5 tq (.tup [.int (jn s.kept t.kept), .int W2]) = H6 at s8 s8' ⊢
    have hjt6 := s8' _ _ hjt
    have bT6 : ∀ b ∈ ([⟨pa, q1, q2, ds1, ds2⟩, ⟨pb, q3, q4, ds3, ds4⟩] : List Two), TwoOk H6 s t b ∧ CtOk b.d1 ∧ CtOk b.d2 := fun b hb => ⟨(bT b hb).1.mono (tx s8'), (bT b hb).2⟩
    have hS6 := hS.mono (tx s8)
    have hT6 := hT.mono (tx s8)
    -- truths by own look
    refine ⟨_, rfl, jt, rfl, ⟨_, SqT.of hjt6⟩, fun D hD => ?_⟩
    refine lc_all (walk_tup (K := K) (a := jt) (xs := [V.ref pa, V.ref pb])) (bs := ([⟨pa, q1, q2, ds1, ds2⟩, ⟨pb, q3, q4, ds3, ds4⟩] : List Two)) rfl (by show 2 ≤ 100000; decide) hD (fun _ => true) (fun _ v c => v = V.bl c) (fun _ h => h) (fun H7 s9 => SqT.of (s9 _ _ hjt6)) (fun i b x H7 H8 e s9 y Ny k => ?_) mg_name (fun H7 ys s9 hy pr => ?_)
    · obtain ⟨rfl, hx⟩ := y
      have ex := two_at e hx
      subst ex
      obtain ⟨bo, c1, c2⟩ := bT6 b (List.mem_of_getElem? e)
      have bo := bo.mono (tx s9)
      refine ⟨rfl, _, rfl, _, rfl, b.a, _, 0, _, rfl, rfl, SqT.of bo.at_, rfl, _, _, s, b.d1, rfl, hS6.mono (tx s9), okS, bo.c1, c1, bo.l1, bo.t1, fun H9 s10 => ⟨true, rfl, iteT ?_⟩⟩
      have bo := bo.mono (tx s10)
      exact ⟨_, rfl, _, rfl, b.a, _, 1, _, rfl, rfl, SqT.of bo.at_, rfl, _, _, t, b.d2, rfl, (hT6.mono (tx s9)).mono (tx s10), okT, bo.c2, c2, bo.l2, bo.t2, fun H10 s11 => k _ _ (s10.trans s11) rfl⟩
    have ey := peq pr
    refine ⟨D, _, rfl, SqL.of (by rw [hy, ey]), ?_⟩
    rw [all_true]
    refine ⟨true, rfl, iteF ?_⟩
    have s10 := s8.trans s9
    have hjt7 := s9 _ _ hjt6
    have bT7 : ∀ b ∈ ([⟨pa, q1, q2, ds1, ds2⟩, ⟨pb, q3, q4, ds3, ds4⟩] : List Two), TwoOk H7 s t b := fun b hb => (bT6 b hb).1.mono (tx s9)
    -- their sums
    refine ⟨_, rfl, jt, rfl, ⟨_, SqT.of hjt7⟩, fun D2 hD2 => ?_⟩
    refine lc_all (walk_tup (K := K) (a := jt) (xs := [V.ref pa, V.ref pb])) (bs := ([⟨pa, q1, q2, ds1, ds2⟩, ⟨pb, q3, q4, ds3, ds4⟩] : List Two)) rfl (by show 2 ≤ 100000; decide) hD2 (fun b => jn b.d1 b.d2) (fun _ v c => v = V.int c) (fun _ h => h) (fun H8 s11 => SqT.of (s11 _ _ hjt7)) (fun i b x H8 H9 e s11 y Ny k => ?_) mg_name (fun H8 ys2 s11 hy2 pr2 => ?_)
    · obtain ⟨rfl, hx⟩ := y
      have ex := two_at e hx
      subst ex
      have bo := (bT7 b (List.mem_of_getElem? e)).mono (tx s11)
      exact ⟨rfl, _, rfl, b.a, _, 0, _, rfl, rfl, SqT.of bo.at_, rfl, _, rfl, b.a, _, 1, _, rfl, rfl, SqT.of bo.at_, rfl, _, _, b.d1, b.d2, rfl, bo.c1, bo.c2, bo.t2.nd, bo.l1, tru_b okS bo.t1, fun H10 s12 => k _ _ s12 rfl⟩
    have ey2 := peq pr2
    have ey3 : ys2 = [.int (jn ds1 ds2), .int (jn ds3 ds4)] := ey2
    subst ey3
    refine ⟨_, rfl, _, rfl, (by show 2 ≤ sizeLine; decide), fun L9 hL9 => ?_⟩
    have s12 := s11.trans (sn hL9 (o := .lst [.int (jn s.kept t.kept), .int W2]))
    refine ⟨.list [.int (jn ds1 ds2), .int (jn ds3 ds4)], .list [.int (jn s.kept t.kept), .int W2], .lst (SqL.of (sn hL9 _ _ hy2)) (.cons (.int _) (.cons (.int _) .nil)), .lst (SqL.of upd_same) (.cons (.int _) (.cons (.int _) .nil)), shp_li _ _, shp_li _ _, ?_⟩
    refine ⟨false, by rw [eqv_li _ _ _ _ e1 e2]; rfl, iteF ?_⟩
    have s13 := s10.trans s12
    generalize upd H8 L9 (.lst [.int (jn s.kept t.kept), .int W2]) = H9 at s13 ⊢
    clear bT bT6 bT7 b1 b2 hjt6 hjt7 pr pr2 ey ey2 hy hy2
    -- fresh names
    have hH9 := hH.st s13
    have hS9 := hS.mono (tx s13)
    have hT9 := hT.mono (tx s13)
    have lo1 := lost_b okS
    have lo2 := lost_b okT
    have lm1 : lost s ≤ 100 := by
      have h1 := gS.mn
      have h2 := tot_nonneg (cs := s.kept) fun p hp => Int.le_of_lt (gS.pos p hp)
      unfold lost
      omega
    have lm2 : lost t ≤ 100 := by
      have h1 := gT.mn
      have h2 := tot_nonneg (cs := t.kept) fun p hp => Int.le_of_lt (gT.pos p hp)
      unfold lost
      omega
    obtain ⟨n, hn⟩ : ∃ n : Nat, 1 + lost s + lost t = (n : Int) := ⟨(1 + lost s + lost t).toNat, by omega⟩
    refine ⟨_, rfl, _, rfl, _, s, rfl, hS9, by omega, fun H10 s14 => ⟨_, _, rfl, rfl, _, rfl, _, t, rfl, hT9.mono (tx s14), by omega, fun H11 s15 => ⟨_, _, rfl, rfl, a, c, n, (by show ([V.ref a, V.int (1 + lost s + lost t)] : List V) = [V.ref a, V.int (n : Int)]; rw [hn]), (hH9.st s14).st s15, by omega, fun H12 fp f1 x12 hH12 hfp hf1 hfl => ?_⟩⟩⟩
    have s16 := (s13.trans s14).trans s15
    have xt16 : ExT H0 H12 := (tx s16).trans ((hH.st s16).tx x12)
    have hL12 := x12 _ _ nLa (s16 _ _ hL)
    have lfs : ((List.range n).map (polN f1)).length = n := by rw [List.length_map, List.length_range]
    refine ⟨fp, rfl, ⟨_, SqL.of hfl⟩, fun D3 hD3 => ?_⟩
    refine lc_all (walk_list (K := K) (a := fp) (xs := ((List.range n).map (polN f1)).map V.str)) (bs := (List.range n).map (polN f1)) (by rw [List.length_map (f := V.str)]) (by rw [List.length_map, lfs]; omega) hD3 (fun z => ("zz" : Str) ++ z) (fun _ v c => v = V.str c) (fun _ h => h) (fun H13 s17 => SqL.of (s17 _ _ hfl)) (fun i z x H13 H14 e s17 y Ny k => ?_) mg_name (fun H13 ys3 s17 hy3 pr3 => ?_)
    · obtain ⟨rfl, hx⟩ := y
      rw [List.getElem?_map, e] at hx
      cases hx
      obtain ⟨j, _, rfl⟩ := List.mem_map.mp (List.mem_of_getElem? e)
      have := polN_len hf1 j
      have l2 : (("zz" : Str)).length = 2 := by decide +kernel
      exact ⟨rfl, _, rfl, "zz", _, rfl, rfl, sz (by omega), k _ _ (Same.refl _) rfl⟩
    have ey3 := peq pr3
    have ndf := fresh_nd (f := f1) (n := n) (by omega)
    have lff : (((List.range n).map (polN f1)).map fun z => ("zz" : Str) ++ z).length = n := by rw [List.length_map, lfs]
    have hfr : H13 D3 = some (.lst ((((List.range n).map (polN f1)).map fun z => ("zz" : Str) ++ z).map V.str)) := by rw [hy3, ey3, List.map_map (g := V.str)]; try rfl
    generalize ((List.range n).map (polN f1)).map (fun z => ("zz" : Str) ++ z) = fs at ndf lff hfr
    clear ey3 pr3 hy3
    have nDa : D3 ≠ a := Ne.symm (hH12.ne hD3).1
    have hH13 := hH12.st s17
    have xt17 := xt16.trans (tx s17)
    have hL13 := s17 _ _ hL12
    have hS13 := hS.mono xt17
    have hT13 := hT.mono xt17
    have ht13 := ht1.mono xt17
    have ht13' := ht2.mono xt17
    -- counts of the trees
    refine ⟨_, rfl, L, _, 0, _, rfl, rfl, SqL.of hL13, rfl, _, ts1, rfl, ht13, ok1, fun H14 c1 cs1 es1 s18 hc1 B1 pm1 => ?_⟩
    refine ⟨_, rfl, L, _, 1, _, rfl, rfl, SqL.of (s18 _ _ hL13), rfl, _, ts2, rfl, ht13'.mono (tx s18), ok2, fun H15 c2 cs2 es2 s19 hc2 B2 pm2 => ⟨(by show 2 ≤ sizeLine; decide), fun tp0 htp0 => ⟨(by show 1 ≤ sizeLine; decide), fun PL hPL => ?_⟩⟩⟩
    have s20 : Same H15 (upd (upd H15 tp0 (.tup [c1, c2])) PL (.lst [.ref tp0])) := sm (sn htp0) ((sn htp0).free hPL)
    have b0 : TwoOk (upd (upd H15 tp0 (.tup [c1, c2])) PL (.lst [.ref tp0])) s t ⟨tp0, c1, c2, es1, es2⟩ := ⟨sn hPL _ _ upd_same, (hc1.mono (tx s19)).mono (tx s20), hc2.mono (tx s20), bag_tru gS B1 pm1, bag_tru gT B2 pm2, by
      show es1.length ≤ 1000
      have := B1.len
      rw [pm1.length_eq]; omega, by
      show es2.length ≤ 1000
      have := B2.len
      rw [pm2.length_eq]; omega⟩
    have hPL16 : upd (upd H15 tp0 (.tup [c1, c2])) PL (.lst [.ref tp0]) PL = some (.lst [.ref tp0]) := upd_same
    have s21 := (s18.trans s19).trans s20
    have hH16 := hH13.st s21
    have nPa : PL ≠ a := Ne.symm (((hH13.st s18).st s19).ne ((sn htp0).free hPL)).1
    have hS16 := hS13.mono (tx s21)
    have hT16 := hT13.mono (tx s21)
    have hfr16 := s21 _ _ hfr
    generalize upd (upd H15 tp0 (.tup [c1, c2])) PL (.lst [.ref tp0]) = H16 at b0 hPL16 hH16 hS16 hT16 hfr16 ⊢
    -- truths drawn
    refine ⟨_, rfl, .inl ⟨rfl, _, SqL.of hPL16⟩, _, rfl, by decide, by decide, fun D4 hD4 => ?_⟩
    have nH := hH16.ne hD4
    refine lc_gen (walk_range (lo := 0) (n := (4 : Int).toNat)) (fun H2 => ExB a H16 H2 ∧ Hnd H2 a c) (bs := List.replicate 4 ()) rfl (by decide) (fun _ => true) id (fun H v _ => ∃ b : Two, v = .ref b.a ∧ TwoOk H s t b) (fun e h => let ⟨b, e1, h1⟩ := h; ⟨b, e1, h1.mono e⟩) ⟨(ExB.refl _ _).new hD4, hH16.up nH⟩
      (fun H xs ys s _ => ⟨s.1.new hD4, s.2.up nH⟩) (fun _ _ => trivial) (fun i b x H17 H17' acc e sI hy y Ny Nn kk1 kk2 => ?_) (fun H17 ys4 sI hy4 pr4 => ?_)
    · obtain ⟨rfl, _⟩ := y
      have xtI := hH16.tx sI.1
      refine ⟨rfl, ?_⟩
      unfold tYes
      dsimp only
      rw [if_pos rfl]
      refine ⟨_, rfl, _, rfl, _, rfl, a, c, D3, _, s, fs, rfl, sI.2, hS16.mono xtI, okS, sI.1 _ _ nDa hfr16, nDa, ndf, by omega, by omega, fun H18 u1 es3 x18 hH18 hu1 tr1 le1 => ?_⟩
      have x18' := sI.1.trans x18
      refine ⟨_, rfl, _, rfl, _, rfl, a, c, D3, _, t, fs, rfl, hH18, hT16.mono (hH16.tx x18'), okT, x18' _ _ nDa hfr16, nDa, ndf, by omega, by omega, fun H19 u2 es4 x19 hH19 hu2 tr2 le2 => ⟨(by show 2 ≤ sizeLine; decide), fun tp htp => ?_⟩⟩
      have s22 := sn htp (o := .tup [u1, u2])
      have xt19 : ExT H18 (upd H19 tp (.tup [u1, u2])) := (hH18.tx x19).trans (tx s22)
      have hy' := s22 _ _ (x19 _ _ (Ne.symm nH.1) (x18 _ _ (Ne.symm nH.1) hy))
      exact kk1 _ _ ⟨(x18'.trans x19).trans (ExB.of s22), hH19.st s22⟩ ((sI.2.tx x18).trans xt19) hy' ⟨⟨tp, u1, u2, es3, es4⟩, rfl, upd_same, hu1.mono xt19, hu2.mono (tx s22), tr1, tr2, le1, le2⟩ rfl
    have hPL17 := sI.1 _ _ nPa hPL16
    have xt18 := hH16.tx sI.1
    have l4 : ys4.length = 4 := by rw [pr4.length]; rfl
    refine ⟨PL, D4, _, _, rfl, rfl, hPL17, hy4, by rw [l4]; show 5 ≤ sizeLine; decide, ?_⟩
    have xt19 : ExT H17 (upd H17 PL (.lst ([.ref tp0] ++ ys4))) := tx_mut hPL17 rfl
    obtain ⟨bs, ebs, hbs⟩ := twos_list (H := upd H17 PL (.lst ([.ref tp0] ++ ys4))) (s := s) (t := t) (xs := [.ref tp0] ++ ys4) (fun x hx => by
      rcases List.mem_append.mp hx with z | z
      · rw [List.mem_singleton.mp z]
        exact ⟨_, rfl, (b0.mono xt18).mono xt19⟩
      · obtain ⟨j, hj⟩ := List.mem_iff_getElem?.mp z
        obtain ⟨_, _, b, e1, h1⟩ := pgetL pr4 hj
        exact ⟨b, e1, h1.mono xt19⟩)
    have lbs : bs.length = 5 := by
      have h1 := congrArg List.length ebs
      rw [List.length_append, List.length_map, l4] at h1
      exact h1.symm
    have nPc : PL ≠ c := fun z => by
      obtain ⟨cells, _, _, _, _, _, h2, _⟩ := hH16
      rw [← z, hPL16] at h2
      have h3 := HO.lst.inj (Option.some.inj h2)
      cases cells with
      | nil => cases h3
      | cons x r => cases h3
    have hH18 := sI.2.up (o := .lst ([.ref tp0] ++ ys4)) ⟨Ne.symm nPa, Ne.symm nPc⟩
    have hS18 := (hS16.mono xt18).mono xt19
    have hT18 := (hT16.mono xt18).mono xt19
    have hPL18 : upd H17 PL (.lst ([.ref tp0] ++ ys4)) PL = some (.lst (bs.map fun b => V.ref b.a)) := by rw [upd_same, ← ebs]
    generalize upd H17 PL (.lst ([.ref tp0] ++ ys4)) = H18 at hPL18 hbs hH18 hS18 hT18 ⊢
    -- all between the ends
    refine ⟨_, rfl, PL, rfl, ⟨_, SqL.of hPL18⟩, fun D5 hD5 => ?_⟩
    refine lc_all (walk_list (K := K) (a := PL) (xs := bs.map fun b => V.ref b.a)) (bs := bs) (by rw [List.length_map]) (by rw [List.length_map]; omega) hD5 (fun _ => true) (fun _ v c => v = V.bl c) (fun _ h => h) (fun H19 s22 => SqL.of (s22 _ _ hPL18)) (fun i b x H19 H20 e s22 y Ny k => ?_) mg_pair (fun H19 ys5 s22 hy5 pr5 => ?_)
    · obtain ⟨rfl, hx⟩ := y
      have ex := two_at e hx
      subst ex
      have bo := (hbs b (List.mem_of_getElem? e)).mono (tx s22)
      refine ⟨b.a, _, rfl, SqT.of bo.at_, rfl, _, _, rfl, _, _, rfl, rfl, rfl, ?_⟩
      refine ⟨_, rfl, _, rfl, _, rfl, _, _, b.d1, b.d2, rfl, bo.c1, bo.c2, bo.t2.nd, bo.l1, tru_b okS bo.t1, fun H20 s23 => ⟨_, _, rfl, rfl, _, rfl, ?_⟩⟩
      rw [if_pos (decide_eq_true (jn_lower okS okT bo.t1 bo.t2))]
      exact ⟨_, rfl, _, _, rfl, rfl, k _ _ s23 (blT (max_upper okS okT hW bo.t1 bo.t2))⟩
    have ey5 := peq pr5
    refine ⟨D5, _, rfl, SqL.of (by rw [hy5, ey5]), ?_⟩
    rw [all_true]
    refine ⟨true, rfl, iteF ?_⟩
    have hH19 := hH18.st s22
    have hS19 := hS18.mono (tx s22)
    clear hbs hPL18 pr5 ey5 hy5
    -- join with an empty one
    refine ⟨_, rfl, _, rfl, Nat.zero_le _, fun eo o on heo => ⟨(by show 4 ≤ sizeLine; decide), fun ep hep => ?_⟩⟩
    have s23 : Same H19 (upd (upd H19 eo (.frz o (.tup []))) ep (.tup [.int (r : Int), .int 0, .int 0, .ref eo])) := sm (sn heo) ((sn heo).free hep)
    have hE : SkAt (upd (upd H19 eo (.frz o (.tup []))) ep (.tup [.int (r : Int), .int 0, .int 0, .ref eo])) (.ref ep) (sk0 r) := ⟨ep, _, rfl, upd_same, eo, [], rfl, ⟨o, on, sn hep _ _ upd_same⟩, .nil⟩
    have hH20 := hH19.st s23
    have hS20 := hS19.mono (tx s23)
    generalize upd (upd H19 eo (.frz o (.tup []))) ep (.tup [.int (r : Int), .int 0, .int 0, .ref eo]) = H20 at hE hH20 hS20 ⊢
    refine ⟨_, _, s, sk0 r, rfl, hS20, hE, okS, sk0_ok r1 r16, gS.rm, fun H21 j0 W0 s24 hj0 hW0 => ⟨(by show 2 ≤ sizeLine; decide), fun z0 hz0 => ?_⟩⟩
    have eW0 : W0 = 0 := max_empty hW0
    refine ⟨.tuple [.int (jn s.kept (sk0 r).kept), .int W0], .tuple [.int 0, .int 0], .tup (SqT.of (sn hz0 _ _ hj0)) (.cons (.int _) (.cons (.int _) .nil)), .tup (SqT.of upd_same) (.cons (.int _) (.cons (.int _) .nil)), shp_ii _ _, shp_ii _ _, ?_⟩
    refine ⟨false, by rw [eqv_ii (jn s.kept (sk0 r).kept) W0 0 0 (jn_nil s.kept) eW0]; rfl, iteF ?_⟩
    have s25 := s24.trans (sn hz0 (o := .tup [.int 0, .int 0]))
    have hH22 := hH20.st s25
    have hS22 := hS20.mono (tx s25)
    generalize upd H21 z0 (.tup [.int 0, .int 0]) = H22 at hH22 hS22 ⊢
    -- same
    refine ⟨_, rfl, _, rfl, _, _, s, s, rfl, hS22, hS22, okS, okS, .inl ⟨rfl, fun H23 x s26 hx => ⟨rfl, ?_⟩⟩⟩
    have nx : V.str (Str.ofString x) ≠ V.str (Str.ofString "never") := by
      rcases hx with e | e <;> rw [e] <;> decide +kernel
    refine ⟨false, blF nx, iteF ?_⟩
    have hH23 := hH22.st s26
    have hS23 := hS22.mono (tx s26)
    obtain ⟨sa', wS', eq', hsa', kb, ks, rfl, hk, pk⟩ := id hS23
    cases eq'
    -- one item more
    refine ⟨_, rfl, _, rfl, sa, _, 1, _, rfl, rfl, SqT.of hsa', rfl, _, _, rfl, rfl, _, rfl, sa, _, 2, _, rfl, rfl, SqT.of hsa', rfl, (by show 2 ≤ sizeLine; decide), fun z1 hz1 => ⟨(by show 1 ≤ sizeLine; decide), fun L1 hL1 => ?_⟩⟩
    have s27 : Same H23 (upd (upd H23 z1 (.tup [.str "zzzz", .int 1])) L1 (.lst [.ref z1])) := sm (sn hz1) ((sn hz1).free hL1)
    have hz : PairAt (upd (upd H23 z1 (.tup [.str "zzzz", .int 1])) L1 (.lst [.ref z1])) (.ref z1) ("zzzz", 1) := ⟨z1, rfl, sn hL1 _ _ upd_same⟩
    have hL24 : upd (upd H23 z1 (.tup [.str "zzzz", .int 1])) L1 (.lst [.ref z1]) L1 = some (.lst [.ref z1]) := upd_same
    generalize upd (upd H23 z1 (.tup [.str "zzzz", .int 1])) L1 (.lst [.ref z1]) = H24 at s27 hz hL24 ⊢
    refine ⟨_, rfl, sa, _, 3, _, rfl, rfl, SqT.of (s27 _ _ hsa'), rfl, kb, ks, rfl, .inr (hk.st s27).sq, fun L2 hL2 => ?_⟩
    have nL : L1 ≠ L2 := fun z => by rw [← z, hL24] at hL2; cases hL2
    refine ⟨L1, L2, _, _, rfl, rfl, by rw [upd_ne nL]; exact hL24, upd_same, by rw [pk.length]; exact sz (by show 1 + s.kept.length ≤ 100000; omega), fun L3 hL3 => ?_⟩
    have s28 : Same H24 (upd (upd H24 L2 (.lst ks)) L3 (.lst ([.ref z1] ++ ks))) := sm (sn hL2) ((sn hL2).free hL3)
    refine ⟨L3, _, (("zzzz" : Str), (1 : Int)) :: s.kept, rfl, SqL.of upd_same, .cons (hz.mono (tx s28)) (pk.mono fun _ _ z => (z.mono (tx s27)).mono (tx s28)), fun ys ds lp pm as py hlp => ?_⟩
    refine ⟨lp, ys, rfl, SqL.of upd_same, fun t' o' on' ht' => ⟨(by show 4 ≤ sizeLine; decide), fun mp hmp => ?_⟩⟩
    have s29 := ((s27.trans s28).trans (sn hlp (o := .lst ys))).trans (sm (sn ht' (o := .frz o' (.tup ys))) ((sn ht').free hmp) (o := .tup [.int (r : Int), .int (s.many + 1), .int s.off, .ref t']))
    have s30 : Same (upd (upd H24 L2 (.lst ks)) L3 (.lst ([.ref z1] ++ ks))) (upd (upd (upd (upd (upd H24 L2 (.lst ks)) L3 (.lst ([.ref z1] ++ ks))) lp (.lst ys)) t' (.frz o' (.tup ys))) mp (.tup [.int (r : Int), .int (s.many + 1), .int s.off, .ref t'])) := (sn hlp).trans (sm (sn ht') ((sn ht').free hmp))
    have hft : FT (upd (upd (upd (upd (upd H24 L2 (.lst ks)) L3 (.lst ([.ref z1] ++ ks))) lp (.lst ys)) t' (.frz o' (.tup ys))) mp (.tup [.int (r : Int), .int (s.many + 1), .int s.off, .ref t'])) t' ys := ⟨o', on', sn hmp _ _ upd_same⟩
    have hM : SkAt (upd (upd (upd (upd (upd H24 L2 (.lst ks)) L3 (.lst ([.ref z1] ++ ks))) lp (.lst ys)) t' (.frz o' (.tup ys))) mp (.tup [.int (r : Int), .int (s.many + 1), .int s.off, .ref t'])) (.ref mp) ⟨s.room, s.many + 1, s.off, ds⟩ := ⟨mp, _, rfl, by rw [upd_same, gS.rm], t', ys, rfl, hft, py.mono fun _ _ z => z.mono (tx ((sn hlp).trans (sm (sn ht') ((sn ht').free hmp))))⟩
    have hmp' : upd (upd (upd (upd (upd H24 L2 (.lst ks)) L3 (.lst ([.ref z1] ++ ks))) lp (.lst ys)) t' (.frz o' (.tup ys))) mp (.tup [.int (r : Int), .int (s.many + 1), .int s.off, .ref t']) mp = some (.tup [.int (r : Int), .int (s.many + 1), .int s.off, .ref t']) := upd_same
    have hH25 := hH23.st s29
    have hS25 := hS23.mono (tx s29)
    have lys := py.length
    generalize upd (upd (upd (upd (upd H24 L2 (.lst ks)) L3 (.lst ([.ref z1] ++ ks))) lp (.lst ys)) t' (.frz o' (.tup ys))) mp (.tup [.int (r : Int), .int (s.many + 1), .int s.off, .ref t']) = H25 at hft hM hmp' hH25 hS25 ⊢
    refine ⟨_, rfl, mp, _, 3, _, rfl, rfl, SqT.of hmp', rfl, t', ys, rfl, .inr hft.sq, _, rfl, _, _, rfl, rfl, ?_⟩
    by_cases hle : ys.length ≤ r
    · refine ⟨true, blT (by omega), iteT ?_⟩
      refine ⟨_, rfl, _, rfl, _, _, s, ⟨s.room, s.many + 1, s.off, ds⟩, rfl, hS25, hM, okS, more_ok gS r1 r16 (by omega) pm as (by omega), .inr ⟨(by show s.many ≠ s.many + 1; omega), fun H26 s31 => ⟨rfl, false, by simp, iteF ?_⟩⟩⟩
      exact ⟨_, _, _, _, _, _, _, _, _, _, _, _, rfl, hH25.st s31⟩
    · exact ⟨false, blF (by omega), iteF ⟨_, _, _, _, _, _, _, _, _, _, _, _, rfl, hH25⟩⟩
end Kn
set_option Elab.async false
set_option linter.all false
set_option maxRecDepth 100000
set_option maxHeartbeats 4000000
namespace Kn
open PySem PySem.Spec PySem.W PyProof.Rows
theorem txt_mk {K : PySem.W.Frag} {h : Heap} {mg : Str → Option Value} {CP CF : Addr} (X : K.In h) (G : h.Ns mainGlobals mg)
    {f1 f2 f3 f4 f5 f6 f7 f8 f9 f10 f11 f12 f13 f14 f15 f16 f17 f18 f19 f20 f21 f22 f23 f24 f25 f26 f27 f28 f29 f30 f31 f32 f33 f34 f35 f36 f37 f38 f39 f40 f41 f55 f56 f57 f58 f59 f60 f61 : Addr}
    {od1 an1 od2 an2 od3 an3 od4 an4 od5 an5 od6 an6 od7 an7 od8 an8 od9 an9 od10 an10 od11 an11 od12 an12 od13 an13 od14 an14 od15 an15 od16 an16 od17 an17 od18 an18 od19 an19 od20 an20 od21 an21 od22 an22 od23 an23 od24 an24 od25 an25 od26 an26 od27 an27 od28 an28 od29 an29 od30 an30 od31 an31 od32 an32 od33 an33 od34 an34 od35 an35 od36 an36 od37 an37 od38 an38 od39 an39 od40 an40 od41 an41 od55 an55 od56 an56 od57 an57 od58 an58 od59 an59 od60 an60 od61 an61 : Option Addr} {sl1 sl2 sl3 sl4 sl5 sl6 sl7 sl8 sl9 sl10 sl11 sl12 sl13 sl14 sl15 sl16 sl17 sl18 sl19 sl20 sl21 sl22 sl23 sl24 sl25 sl26 sl27 sl28 sl29 sl30 sl31 sl32 sl33 sl34 sl35 sl36 sl37 sl38 sl39 sl40 sl41 sl55 sl56 sl57 sl58 sl59 sl60 sl61 : Array (Option Value)}
    {oc1 kV1 dc1 pm1 cd1 ct1 oc2 kV2 dc2 pm2 cd2 ct2 oc3 kV3 dc3 pm3 cd3 ct3 oc4 kV4 dc4 pm4 cd4 ct4 oc5 kV5 dc5 pm5 cd5 ct5 oc6 kV6 dc6 pm6 cd6 ct6 oc7 kV7 dc7 pm7 cd7 ct7 oc8 kV8 dc8 pm8 cd8 ct8 oc9 kV9 dc9 pm9 cd9 ct9 oc10 kV10 dc10 pm10 cd10 ct10 oc11 kV11 dc11 pm11 cd11 ct11 oc12 kV12 dc12 pm12 cd12 ct12 oc13 kV13 dc13 pm13 cd13 ct13 oc14 kV14 dc14 pm14 cd14 ct14 oc15 kV15 dc15 pm15 cd15 ct15 oc16 kV16 dc16 pm16 cd16 ct16 oc17 kV17 dc17 pm17 cd17 ct17 oc18 kV18 dc18 pm18 cd18 ct18 oc19 kV19 dc19 pm19 cd19 ct19 oc20 kV20 dc20 pm20 cd20 ct20 oc21 kV21 dc21 pm21 cd21 ct21 oc22 kV22 dc22 pm22 cd22 ct22 oc23 kV23 dc23 pm23 cd23 ct23 oc24 kV24 dc24 pm24 cd24 ct24 oc25 kV25 dc25 pm25 cd25 ct25 oc26 kV26 dc26 pm26 cd26 ct26 oc27 kV27 dc27 pm27 cd27 ct27 oc28 kV28 dc28 pm28 cd28 ct28 oc29 kV29 dc29 pm29 cd29 ct29 oc30 kV30 dc30 pm30 cd30 ct30 oc31 kV31 dc31 pm31 cd31 ct31 oc32 kV32 dc32 pm32 cd32 ct32 oc33 kV33 dc33 pm33 cd33 ct33 oc34 kV34 dc34 pm34 cd34 ct34 oc35 kV35 dc35 pm35 cd35 ct35 oc36 kV36 dc36 pm36 cd36 ct36 oc37 kV37 dc37 pm37 cd37 ct37 oc38 kV38 dc38 pm38 cd38 ct38 oc39 kV39 dc39 pm39 cd39 ct39 oc40 kV40 dc40 pm40 cd40 ct40 oc41 kV41 dc41 pm41 cd41 ct41 oc55 kV55 dc55 pm55 cd55 ct55 oc56 kV56 dc56 pm56 cd56 ct56 oc57 kV57 dc57 pm57 cd57 ct57 oc58 kV58 dc58 pm58 cd58 ct58 oc59 kV59 dc59 pm59 cd59 ct59 oc60 kV60 dc60 pm60 cd60 ct60 oc61 kV61 dc61 pm61 cd61 ct61 : Value} {t42 t43 t44 t45 t46 t47 t48 t49 t50 t51 t52 t53 t54 : Tok}
    (a1 : PySem.W.nsIn K mainGlobals "is_integer" = some (some (.ref f1)))
    (l1 : K.lookup f1 = some ⟨oc1, od1, .func (PySem.W.fnOf "is_integer" "is_integer" (C8.fnArgs (topS 7)) (C8.fnBody (topS 7)) (C8.fnScope (topS 7)) .none kV1 dc1 pm1 an1 cd1 ct1), sl1⟩)
    (c1 : PySem.W.codeIn K cd1 "is_integer" = true)
    (k1 : PySem.W.keepIn K (.ref f1) = true)
    (a2 : PySem.W.nsIn K mainGlobals "is_between" = some (some (.ref f2)))
    (l2 : K.lookup f2 = some ⟨oc2, od2, .func (PySem.W.fnOf "is_between" "is_between" (C8.fnArgs (topS 8)) (C8.fnBody (topS 8)) (C8.fnScope (topS 8)) .none kV2 dc2 pm2 an2 cd2 ct2), sl2⟩)
    (c2 : PySem.W.codeIn K cd2 "is_between" = true)
    (k2 : PySem.W.keepIn K (.ref f2) = true)
    (a3 : PySem.W.nsIn K mainGlobals "is_count" = some (some (.ref f3)))
    (l3 : K.lookup f3 = some ⟨oc3, od3, .func (PySem.W.fnOf "is_count" "is_count" (C8.fnArgs (topS 9)) (C8.fnBody (topS 9)) (C8.fnScope (topS 9)) .none kV3 dc3 pm3 an3 cd3 ct3), sl3⟩)
    (c3 : PySem.W.codeIn K cd3 "is_count" = true)
    (k3 : PySem.W.keepIn K (.ref f3) = true)
    (a4 : PySem.W.nsIn K mainGlobals "is_tuple_of" = some (some (.ref f4)))
    (l4 : K.lookup f4 = some ⟨oc4, od4, .func (PySem.W.fnOf "is_tuple_of" "is_tuple_of" (C8.fnArgs (topS 10)) (C8.fnBody (topS 10)) (C8.fnScope (topS 10)) .none kV4 dc4 pm4 an4 cd4 ct4), sl4⟩)
    (c4 : PySem.W.codeIn K cd4 "is_tuple_of" = true)
    (k4 : PySem.W.keepIn K (.ref f4) = true)
    (a5 : PySem.W.nsIn K mainGlobals "are_ascending" = some (some (.ref f5)))
    (l5 : K.lookup f5 = some ⟨oc5, od5, .func (PySem.W.fnOf "are_ascending" "are_ascending" (C8.fnArgs (topS 11)) (C8.fnBody (topS 11)) (C8.fnScope (topS 11)) .none kV5 dc5 pm5 an5 cd5 ct5), sl5⟩)
    (c5 : PySem.W.codeIn K cd5 "are_ascending" = true)
    (k5 : PySem.W.keepIn K (.ref f5) = true)
    (a6 : PySem.W.nsIn K mainGlobals "is_name" = some (some (.ref f6)))
    (l6 : K.lookup f6 = some ⟨oc6, od6, .func (PySem.W.fnOf "is_name" "is_name" (C8.fnArgs (topS 15)) (C8.fnBody (topS 15)) (C8.fnScope (topS 15)) .none kV6 dc6 pm6 an6 cd6 ct6), sl6⟩)
    (c6 : PySem.W.codeIn K cd6 "is_name" = true)
    (k6 : PySem.W.keepIn K (.ref f6) = true)
    (a7 : PySem.W.nsIn K mainGlobals "are_counts" = some (some (.ref f7)))
    (l7 : K.lookup f7 = some ⟨oc7, od7, .func (PySem.W.fnOf "are_counts" "are_counts" (C8.fnArgs (topS 16)) (C8.fnBody (topS 16)) (C8.fnScope (topS 16)) .none kV7 dc7 pm7 an7 cd7 ct7), sl7⟩)
    (c7 : PySem.W.codeIn K cd7 "are_counts" = true)
    (k7 : PySem.W.keepIn K (.ref f7) = true)
    (a8 : PySem.W.nsIn K mainGlobals "lost_of" = some (some (.ref f8)))
    (l8 : K.lookup f8 = some ⟨oc8, od8, .func (PySem.W.fnOf "lost_of" "lost_of" (C8.fnArgs (topS 23)) (C8.fnBody (topS 23)) (C8.fnScope (topS 23)) .none kV8 dc8 pm8 an8 cd8 ct8), sl8⟩)
    (c8 : PySem.W.codeIn K cd8 "lost_of" = true)
    (k8 : PySem.W.keepIn K (.ref f8) = true)
    (a9 : PySem.W.nsIn K mainGlobals "is_sketch" = some (some (.ref f9)))
    (l9 : K.lookup f9 = some ⟨oc9, od9, .func (PySem.W.fnOf "is_sketch" "is_sketch" (C8.fnArgs (topS 24)) (C8.fnBody (topS 24)) (C8.fnScope (topS 24)) .none kV9 dc9 pm9 an9 cd9 ct9), sl9⟩)
    (c9 : PySem.W.codeIn K cd9 "is_sketch" = true)
    (k9 : PySem.W.keepIn K (.ref f9) = true)
    (a10 : PySem.W.nsIn K mainGlobals "check_sketch" = some (some (.ref f10)))
    (l10 : K.lookup f10 = some ⟨oc10, od10, .func (PySem.W.fnOf "check_sketch" "check_sketch" (C8.fnArgs (topS 25)) (C8.fnBody (topS 25)) (C8.fnScope (topS 25)) .none kV10 dc10 pm10 an10 cd10 ct10), sl10⟩)
    (c10 : PySem.W.codeIn K cd10 "check_sketch" = true)
    (k10 : PySem.W.keepIn K (.ref f10) = true)
    (a11 : PySem.W.nsIn K mainGlobals "check_told" = some (some (.ref f11)))
    (l11 : K.lookup f11 = some ⟨oc11, od11, .func (PySem.W.fnOf "check_told" "check_told" (C8.fnArgs (topS 29)) (C8.fnBody (topS 29)) (C8.fnScope (topS 29)) .none kV11 dc11 pm11 an11 cd11 ct11), sl11⟩)
    (c11 : PySem.W.codeIn K cd11 "check_told" = true)
    (k11 : PySem.W.keepIn K (.ref f11) = true)
    (a12 : PySem.W.nsIn K mainGlobals "numbered_name" = some (some (.ref f12)))
    (l12 : K.lookup f12 = some ⟨oc12, od12, .func (PySem.W.fnOf "numbered_name" "numbered_name" (C8.fnArgs (topS 30)) (C8.fnBody (topS 30)) (C8.fnScope (topS 30)) .none kV12 dc12 pm12 an12 cd12 ct12), sl12⟩)
    (c12 : PySem.W.codeIn K cd12 "numbered_name" = true)
    (k12 : PySem.W.keepIn K (.ref f12) = true)
    (a13 : PySem.W.nsIn K mainGlobals "new_names" = some (some (.ref f13)))
    (l13 : K.lookup f13 = some ⟨oc13, od13, .func (PySem.W.fnOf "new_names" "new_names" (C8.fnArgs (topS 31)) (C8.fnBody (topS 31)) (C8.fnScope (topS 31)) .none kV13 dc13 pm13 an13 cd13 ct13), sl13⟩)
    (c13 : PySem.W.codeIn K cd13 "new_names" = true)
    (k13 : PySem.W.keepIn K (.ref f13) = true)
    (a14 : PySem.W.nsIn K mainGlobals "truth_with" = some (some (.ref f14)))
    (l14 : K.lookup f14 = some ⟨oc14, od14, .func (PySem.W.fnOf "truth_with" "truth_with" (C8.fnArgs (topS 32)) (C8.fnBody (topS 32)) (C8.fnScope (topS 32)) .none kV14 dc14 pm14 an14 cd14 ct14), sl14⟩)
    (c14 : PySem.W.codeIn K cd14 "truth_with" = true)
    (k14 : PySem.W.keepIn K (.ref f14) = true)
    (a15 : PySem.W.nsIn K mainGlobals "raw_joined" = some (some (.ref f15)))
    (l15 : K.lookup f15 = some ⟨oc15, od15, .func (PySem.W.fnOf "raw_joined" "raw_joined" (C8.fnArgs (topS 38)) (C8.fnBody (topS 38)) (C8.fnScope (topS 38)) .none kV15 dc15 pm15 an15 cd15 ct15), sl15⟩)
    (c15 : PySem.W.codeIn K cd15 "raw_joined" = true)
    (k15 : PySem.W.keepIn K (.ref f15) = true)
    (a16 : PySem.W.nsIn K mainGlobals "check_both" = some (some (.ref f16)))
    (l16 : K.lookup f16 = some ⟨oc16, od16, .func (PySem.W.fnOf "check_both" "check_both" (C8.fnArgs (topS 41)) (C8.fnBody (topS 41)) (C8.fnScope (topS 41)) .none kV16 dc16 pm16 an16 cd16 ct16), sl16⟩)
    (c16 : PySem.W.codeIn K cd16 "check_both" = true)
    (k16 : PySem.W.keepIn K (.ref f16) = true)
    (a17 : PySem.W.nsIn K mainGlobals "plain_sum" = some (some (.ref f17)))
    (l17 : K.lookup f17 = some ⟨oc17, od17, .func (PySem.W.fnOf "plain_sum" "plain_sum" (C8.fnArgs (topS 42)) (C8.fnBody (topS 42)) (C8.fnScope (topS 42)) .none kV17 dc17 pm17 an17 cd17 ct17), sl17⟩)
    (c17 : PySem.W.codeIn K cd17 "plain_sum" = true)
    (k17 : PySem.W.keepIn K (.ref f17) = true)
    (a18 : PySem.W.nsIn K mainGlobals "join" = some (some (.ref f18)))
    (l18 : K.lookup f18 = some ⟨oc18, od18, .func (PySem.W.fnOf "join" "join" (C8.fnArgs (topS 43)) (C8.fnBody (topS 43)) (C8.fnScope (topS 43)) .none kV18 dc18 pm18 an18 cd18 ct18), sl18⟩)
    (c18 : PySem.W.codeIn K cd18 "join" = true)
    (k18 : PySem.W.keepIn K (.ref f18) = true)
    (a19 : PySem.W.nsIn K mainGlobals "check_both_told" = some (some (.ref f19)))
    (l19 : K.lookup f19 = some ⟨oc19, od19, .func (PySem.W.fnOf "check_both_told" "check_both_told" (C8.fnArgs (topS 44)) (C8.fnBody (topS 44)) (C8.fnScope (topS 44)) .none kV19 dc19 pm19 an19 cd19 ct19), sl19⟩)
    (c19 : PySem.W.codeIn K cd19 "check_both_told" = true)
    (k19 : PySem.W.keepIn K (.ref f19) = true)
    (a20 : PySem.W.nsIn K mainGlobals "apart_truths" = some (some (.ref f20)))
    (l20 : K.lookup f20 = some ⟨oc20, od20, .func (PySem.W.fnOf "apart_truths" "apart_truths" (C8.fnArgs (topS 45)) (C8.fnBody (topS 45)) (C8.fnScope (topS 45)) .none kV20 dc20 pm20 an20 cd20 ct20), sl20⟩)
    (c20 : PySem.W.codeIn K cd20 "apart_truths" = true)
    (k20 : PySem.W.keepIn K (.ref f20) = true)
    (a21 : PySem.W.nsIn K mainGlobals "join_truths" = some (some (.ref f21)))
    (l21 : K.lookup f21 = some ⟨oc21, od21, .func (PySem.W.fnOf "join_truths" "join_truths" (C8.fnArgs (topS 46)) (C8.fnBody (topS 46)) (C8.fnScope (topS 46)) .none kV21 dc21 pm21 an21 cd21 ct21), sl21⟩)
    (c21 : PySem.W.codeIn K cd21 "join_truths" = true)
    (k21 : PySem.W.keepIn K (.ref f21) = true)
    (a22 : PySem.W.nsIn K mainGlobals "are_near" = some (some (.ref f22)))
    (l22 : K.lookup f22 = some ⟨oc22, od22, .func (PySem.W.fnOf "are_near" "are_near" (C8.fnArgs (topS 47)) (C8.fnBody (topS 47)) (C8.fnScope (topS 47)) .none kV22 dc22 pm22 an22 cd22 ct22), sl22⟩)
    (c22 : PySem.W.codeIn K cd22 "are_near" = true)
    (k22 : PySem.W.keepIn K (.ref f22) = true)
    (a23 : PySem.W.nsIn K mainGlobals "bounds" = some (some (.ref f23)))
    (l23 : K.lookup f23 = some ⟨oc23, od23, .func (PySem.W.fnOf "bounds" "bounds" (C8.fnArgs (topS 48)) (C8.fnBody (topS 48)) (C8.fnScope (topS 48)) .none kV23 dc23 pm23 an23 cd23 ct23), sl23⟩)
    (c23 : PySem.W.codeIn K cd23 "bounds" = true)
    (k23 : PySem.W.keepIn K (.ref f23) = true)
    (a24 : PySem.W.nsIn K mainGlobals "same" = some (some (.ref f24)))
    (l24 : K.lookup f24 = some ⟨oc24, od24, .func (PySem.W.fnOf "same" "same" (C8.fnArgs (topS 49)) (C8.fnBody (topS 49)) (C8.fnScope (topS 49)) .none kV24 dc24 pm24 an24 cd24 ct24), sl24⟩)
    (c24 : PySem.W.codeIn K cd24 "same" = true)
    (k24 : PySem.W.keepIn K (.ref f24) = true)
    (a25 : PySem.W.nsIn K mainGlobals "_law_hand" = some (some (.ref f25)))
    (l25 : K.lookup f25 = some ⟨oc25, od25, .func (PySem.W.fnOf "_law_hand" "_law_hand" (C8.fnArgs (topS 51)) (C8.fnBody (topS 51)) (C8.fnScope (topS 51)) .none kV25 dc25 pm25 an25 cd25 ct25), sl25⟩)
    (c25 : PySem.W.codeIn K cd25 "_law_hand" = true)
    (k25 : PySem.W.keepIn K (.ref f25) = true)
    (a26 : PySem.W.nsIn K mainGlobals "_law_draw" = some (some (.ref f26)))
    (l26 : K.lookup f26 = some ⟨oc26, od26, .func (PySem.W.fnOf "_law_draw" "_law_draw" (C8.fnArgs (topS 52)) (C8.fnBody (topS 52)) (C8.fnScope (topS 52)) .none kV26 dc26 pm26 an26 cd26 ct26), sl26⟩)
    (c26 : PySem.W.codeIn K cd26 "_law_draw" = true)
    (k26 : PySem.W.keepIn K (.ref f26) = true)
    (a27 : PySem.W.nsIn K mainGlobals "_law_any" = some (some (.ref f27)))
    (l27 : K.lookup f27 = some ⟨oc27, od27, .func (PySem.W.fnOf "_law_any" "_law_any" (C8.fnArgs (topS 53)) (C8.fnBody (topS 53)) (C8.fnScope (topS 53)) .none kV27 dc27 pm27 an27 cd27 ct27), sl27⟩)
    (c27 : PySem.W.codeIn K cd27 "_law_any" = true)
    (k27 : PySem.W.keepIn K (.ref f27) = true)
    (a28 : PySem.W.nsIn K mainGlobals "_law_pool" = some (some (.ref f28)))
    (l28 : K.lookup f28 = some ⟨oc28, od28, .func (PySem.W.fnOf "_law_pool" "_law_pool" (C8.fnArgs (topS 54)) (C8.fnBody (topS 54)) (C8.fnScope (topS 54)) .none kV28 dc28 pm28 an28 cd28 ct28), sl28⟩)
    (c28 : PySem.W.codeIn K cd28 "_law_pool" = true)
    (k28 : PySem.W.keepIn K (.ref f28) = true)
    (a29 : PySem.W.nsIn K mainGlobals "_law_fed" = some (some (.ref f29)))
    (l29 : K.lookup f29 = some ⟨oc29, od29, .func (PySem.W.fnOf "_law_fed" "_law_fed" (C8.fnArgs (topS 55)) (C8.fnBody (topS 55)) (C8.fnScope (topS 55)) .none kV29 dc29 pm29 an29 cd29 ct29), sl29⟩)
    (c29 : PySem.W.codeIn K cd29 "_law_fed" = true)
    (k29 : PySem.W.keepIn K (.ref f29) = true)
    (a30 : PySem.W.nsIn K mainGlobals "_law_poured" = some (some (.ref f30)))
    (l30 : K.lookup f30 = some ⟨oc30, od30, .func (PySem.W.fnOf "_law_poured" "_law_poured" (C8.fnArgs (topS 56)) (C8.fnBody (topS 56)) (C8.fnScope (topS 56)) .none kV30 dc30 pm30 an30 cd30 ct30), sl30⟩)
    (c30 : PySem.W.codeIn K cd30 "_law_poured" = true)
    (k30 : PySem.W.keepIn K (.ref f30) = true)
    (a31 : PySem.W.nsIn K mainGlobals "_law_sketch" = some (some (.ref f31)))
    (l31 : K.lookup f31 = some ⟨oc31, od31, .func (PySem.W.fnOf "_law_sketch" "_law_sketch" (C8.fnArgs (topS 57)) (C8.fnBody (topS 57)) (C8.fnScope (topS 57)) .none kV31 dc31 pm31 an31 cd31 ct31), sl31⟩)
    (c31 : PySem.W.codeIn K cd31 "_law_sketch" = true)
    (k31 : PySem.W.keepIn K (.ref f31) = true)
    (a32 : PySem.W.nsIn K mainGlobals "_law_counted" = some (some (.ref f32)))
    (l32 : K.lookup f32 = some ⟨oc32, od32, .func (PySem.W.fnOf "_law_counted" "_law_counted" (C8.fnArgs (topS 58)) (C8.fnBody (topS 58)) (C8.fnScope (topS 58)) .none kV32 dc32 pm32 an32 cd32 ct32), sl32⟩)
    (c32 : PySem.W.codeIn K cd32 "_law_counted" = true)
    (k32 : PySem.W.keepIn K (.ref f32) = true)
    (a33 : PySem.W.nsIn K mainGlobals "_law_tree" = some (some (.ref f33)))
    (l33 : K.lookup f33 = some ⟨oc33, od33, .func (PySem.W.fnOf "_law_tree" "_law_tree" (C8.fnArgs (topS 59)) (C8.fnBody (topS 59)) (C8.fnScope (topS 59)) .none kV33 dc33 pm33 an33 cd33 ct33), sl33⟩)
    (c33 : PySem.W.codeIn K cd33 "_law_tree" = true)
    (k33 : PySem.W.keepIn K (.ref f33) = true)
    (a34 : PySem.W.nsIn K mainGlobals "_law_lost" = some (some (.ref f34)))
    (l34 : K.lookup f34 = some ⟨oc34, od34, .func (PySem.W.fnOf "_law_lost" "_law_lost" (C8.fnArgs (topS 60)) (C8.fnBody (topS 60)) (C8.fnScope (topS 60)) .none kV34 dc34 pm34 an34 cd34 ct34), sl34⟩)
    (c34 : PySem.W.codeIn K cd34 "_law_lost" = true)
    (k34 : PySem.W.keepIn K (.ref f34) = true)
    (a35 : PySem.W.nsIn K mainGlobals "_law_truth" = some (some (.ref f35)))
    (l35 : K.lookup f35 = some ⟨oc35, od35, .func (PySem.W.fnOf "_law_truth" "_law_truth" (C8.fnArgs (topS 61)) (C8.fnBody (topS 61)) (C8.fnScope (topS 61)) .none kV35 dc35 pm35 an35 cd35 ct35), sl35⟩)
    (c35 : PySem.W.codeIn K cd35 "_law_truth" = true)
    (k35 : PySem.W.keepIn K (.ref f35) = true)
    (a36 : PySem.W.nsIn K mainGlobals "_law_is_int" = some (some (.ref f36)))
    (l36 : K.lookup f36 = some ⟨oc36, od36, .func (PySem.W.fnOf "_law_is_int" "_law_is_int" (C8.fnArgs (topS 62)) (C8.fnBody (topS 62)) (C8.fnScope (topS 62)) .none kV36 dc36 pm36 an36 cd36 ct36), sl36⟩)
    (c36 : PySem.W.codeIn K cd36 "_law_is_int" = true)
    (k36 : PySem.W.keepIn K (.ref f36) = true)
    (a37 : PySem.W.nsIn K mainGlobals "_law_is_name" = some (some (.ref f37)))
    (l37 : K.lookup f37 = some ⟨oc37, od37, .func (PySem.W.fnOf "_law_is_name" "_law_is_name" (C8.fnArgs (topS 63)) (C8.fnBody (topS 63)) (C8.fnScope (topS 63)) .none kV37 dc37 pm37 an37 cd37 ct37), sl37⟩)
    (c37 : PySem.W.codeIn K cd37 "_law_is_name" = true)
    (k37 : PySem.W.keepIn K (.ref f37) = true)
    (a38 : PySem.W.nsIn K mainGlobals "_law_are_counts" = some (some (.ref f38)))
    (l38 : K.lookup f38 = some ⟨oc38, od38, .func (PySem.W.fnOf "_law_are_counts" "_law_are_counts" (C8.fnArgs (topS 64)) (C8.fnBody (topS 64)) (C8.fnScope (topS 64)) .none kV38 dc38 pm38 an38 cd38 ct38), sl38⟩)
    (c38 : PySem.W.codeIn K cd38 "_law_are_counts" = true)
    (k38 : PySem.W.keepIn K (.ref f38) = true)
    (a39 : PySem.W.nsIn K mainGlobals "_law_is_truth" = some (some (.ref f39)))
    (l39 : K.lookup f39 = some ⟨oc39, od39, .func (PySem.W.fnOf "_law_is_truth" "_law_is_truth" (C8.fnArgs (topS 65)) (C8.fnBody (topS 65)) (C8.fnScope (topS 65)) .none kV39 dc39 pm39 an39 cd39 ct39), sl39⟩)
    (c39 : PySem.W.codeIn K cd39 "_law_is_truth" = true)
    (k39 : PySem.W.keepIn K (.ref f39) = true)
    (a40 : PySem.W.nsIn K mainGlobals "_law_joined" = some (some (.ref f40)))
    (l40 : K.lookup f40 = some ⟨oc40, od40, .func (PySem.W.fnOf "_law_joined" "_law_joined" (C8.fnArgs (topS 66)) (C8.fnBody (topS 66)) (C8.fnScope (topS 66)) .none kV40 dc40 pm40 an40 cd40 ct40), sl40⟩)
    (c40 : PySem.W.codeIn K cd40 "_law_joined" = true)
    (k40 : PySem.W.keepIn K (.ref f40) = true)
    (a41 : PySem.W.nsIn K mainGlobals "law" = some (some (.ref f41)))
    (l41 : K.lookup f41 = some ⟨oc41, od41, .func (PySem.W.fnOf "law" "law" (C8.fnArgs (topS 67)) (C8.fnBody (topS 67)) (C8.fnScope (topS 67)) .none kV41 dc41 pm41 an41 cd41 ct41), sl41⟩)
    (c41 : PySem.W.codeIn K cd41 "law" = true)
    (k41 : PySem.W.keepIn K (.ref f41) = true)
    (a42 : PySem.W.nsIn K mainGlobals "MOST_IN_NAME" = some (some (.int 8 t42)))
    (a43 : PySem.W.nsIn K mainGlobals "LETTERS" = some (some (.str "abcdefghijklmnopqrstuvwxyz" t43)))
    (a44 : PySem.W.nsIn K mainGlobals "MOST_ROOM" = some (some (.int 64 t44)))
    (a45 : PySem.W.nsIn K mainGlobals "ROOM" = some (some (.int 0 t45)))
    (a46 : PySem.W.nsIn K mainGlobals "MANY" = some (some (.int 1 t46)))
    (a47 : PySem.W.nsIn K mainGlobals "OFF" = some (some (.int 2 t47)))
    (a48 : PySem.W.nsIn K mainGlobals "KEPT" = some (some (.int 3 t48)))
    (a49 : PySem.W.nsIn K mainGlobals "MOST_TOLD" = some (some (.int 1500 t49)))
    (a50 : PySem.W.nsIn K mainGlobals "SIGNS" = some (some (.str "abcdefghijklmnopqrstuvwxyz" t50)))
    (a51 : PySem.W.nsIn K mainGlobals "MOST_JOINED" = some (some (.int 16 t51)))
    (a52 : PySem.W.nsIn K mainGlobals "SURELY" = some (some (.str "surely" t52)))
    (a53 : PySem.W.nsIn K mainGlobals "PERHAPS" = some (some (.str "perhaps" t53)))
    (a54 : PySem.W.nsIn K mainGlobals "NEVER" = some (some (.str "never" t54)))
    (z_isinstance : PySem.W.nsIn K mainGlobals "isinstance" = some none)
    (z_int : PySem.W.nsIn K mainGlobals "int" = some none)
    (z_bool : PySem.W.nsIn K mainGlobals "bool" = some none)
    (z_str : PySem.W.nsIn K mainGlobals "str" = some none)
    (z_tuple : PySem.W.nsIn K mainGlobals "tuple" = some none)
    (z_len : PySem.W.nsIn K mainGlobals "len" = some none)
    (z_all : PySem.W.nsIn K mainGlobals "all" = some none)
    (z_range : PySem.W.nsIn K mainGlobals "range" = some none)
    (z_sum : PySem.W.nsIn K mainGlobals "sum" = some none)
    (z_dict : PySem.W.nsIn K mainGlobals "dict" = some none)
    (z_min : PySem.W.nsIn K mainGlobals "min" = some none)
    (z_max : PySem.W.nsIn K mainGlobals "max" = some none)
    (z_sorted : PySem.W.nsIn K mainGlobals "sorted" = some none)
    (z_list : PySem.W.nsIn K mainGlobals "list" = some none)
    (z_zip : PySem.W.nsIn K mainGlobals "zip" = some none)
    (z_abs : PySem.W.nsIn K mainGlobals "abs" = some none)
    (z_set : PySem.W.nsIn K mainGlobals "set" = some none)
    (g_Portions : PySem.W.nsIn K mainGlobals "Portions" = some (some (.ref CP)))
    (pg_Portions : PySem.W.plainGet K CP Str.empty = true)
    (hd_Portions : PySem.W.hasDictIn K CP = true)
    (po_Portions : PySem.W.plainOver K CP = true)
    (sa_Portions : PySem.W.findIn K (.ref CP) "__setattr__" = some (some (.builtin "object.__setattr__")))
    (a55 : PySem.W.findIn K (.ref CP) "__init__" = some (some (.ref f55)))
    (l55 : K.lookup f55 = some ⟨oc55, od55, .func (PySem.W.fnOf "__init__" "Portions.__init__" (C8.fnArgs (L2.inClass (topS 39) 0)) (C8.fnBody (L2.inClass (topS 39) 0)) (C8.fnScope (L2.inClass (topS 39) 0)) .none kV55 dc55 pm55 an55 cd55 ct55), sl55⟩)
    (c55 : PySem.W.codeIn K cd55 "Portions.__init__" = true)
    (k55 : PySem.W.keepIn K (.ref f55) = true)
    (i55 : PySem.W.isFn K (.ref f55) = true)
    (mk_Portions : PySem.W.makesIn K CP = true)
    (kc_Portions : PySem.W.keepIn K (.ref CP) = true)
    (a56 : PySem.W.findIn K (.ref CP) "choices" = some (some (.ref f56)))
    (l56 : K.lookup f56 = some ⟨oc56, od56, .func (PySem.W.fnOf "choices" "Portions.choices" (C8.fnArgs (L2.inClass (topS 39) 1)) (C8.fnBody (L2.inClass (topS 39) 1)) (C8.fnScope (L2.inClass (topS 39) 1)) .none kV56 dc56 pm56 an56 cd56 ct56), sl56⟩)
    (c56 : PySem.W.codeIn K cd56 "Portions.choices" = true)
    (k56 : PySem.W.keepIn K (.ref f56) = true)
    (i56 : PySem.W.isFn K (.ref f56) = true)
    (a57 : PySem.W.findIn K (.ref CP) "left" = some (some (.ref f57)))
    (l57 : K.lookup f57 = some ⟨oc57, od57, .func (PySem.W.fnOf "left" "Portions.left" (C8.fnArgs (L2.inClass (topS 39) 2)) (C8.fnBody (L2.inClass (topS 39) 2)) (C8.fnScope (L2.inClass (topS 39) 2)) .none kV57 dc57 pm57 an57 cd57 ct57), sl57⟩)
    (c57 : PySem.W.codeIn K cd57 "Portions.left" = true)
    (k57 : PySem.W.keepIn K (.ref f57) = true)
    (i57 : PySem.W.isFn K (.ref f57) = true)
    (n_Portions_off : PySem.W.findIn K (.ref CP) "off" = some none)
    (n_Portions_full : PySem.W.findIn K (.ref CP) "full" = some none)
    (n_Portions_rest : PySem.W.findIn K (.ref CP) "rest" = some none)
    (g_Filling : PySem.W.nsIn K mainGlobals "Filling" = some (some (.ref CF)))
    (pg_Filling : PySem.W.plainGet K CF Str.empty = true)
    (hd_Filling : PySem.W.hasDictIn K CF = true)
    (po_Filling : PySem.W.plainOver K CF = true)
    (sa_Filling : PySem.W.findIn K (.ref CF) "__setattr__" = some (some (.builtin "object.__setattr__")))
    (a58 : PySem.W.findIn K (.ref CF) "__init__" = some (some (.ref f58)))
    (l58 : K.lookup f58 = some ⟨oc58, od58, .func (PySem.W.fnOf "__init__" "Filling.__init__" (C8.fnArgs (L2.inClass (topS 40) 0)) (C8.fnBody (L2.inClass (topS 40) 0)) (C8.fnScope (L2.inClass (topS 40) 0)) .none kV58 dc58 pm58 an58 cd58 ct58), sl58⟩)
    (c58 : PySem.W.codeIn K cd58 "Filling.__init__" = true)
    (k58 : PySem.W.keepIn K (.ref f58) = true)
    (i58 : PySem.W.isFn K (.ref f58) = true)
    (mk_Filling : PySem.W.makesIn K CF = true)
    (kc_Filling : PySem.W.keepIn K (.ref CF) = true)
    (a59 : PySem.W.findIn K (.ref CF) "go_on" = some (some (.ref f59)))
    (l59 : K.lookup f59 = some ⟨oc59, od59, .func (PySem.W.fnOf "go_on" "Filling.go_on" (C8.fnArgs (L2.inClass (topS 40) 1)) (C8.fnBody (L2.inClass (topS 40) 1)) (C8.fnScope (L2.inClass (topS 40) 1)) .none kV59 dc59 pm59 an59 cd59 ct59), sl59⟩)
    (c59 : PySem.W.codeIn K cd59 "Filling.go_on" = true)
    (k59 : PySem.W.keepIn K (.ref f59) = true)
    (i59 : PySem.W.isFn K (.ref f59) = true)
    (a60 : PySem.W.findIn K (.ref CF) "ended" = some (some (.ref f60)))
    (l60 : K.lookup f60 = some ⟨oc60, od60, .func (PySem.W.fnOf "ended" "Filling.ended" (C8.fnArgs (L2.inClass (topS 40) 2)) (C8.fnBody (L2.inClass (topS 40) 2)) (C8.fnScope (L2.inClass (topS 40) 2)) .none kV60 dc60 pm60 an60 cd60 ct60), sl60⟩)
    (c60 : PySem.W.codeIn K cd60 "Filling.ended" = true)
    (k60 : PySem.W.keepIn K (.ref f60) = true)
    (i60 : PySem.W.isFn K (.ref f60) = true)
    (a61 : PySem.W.findIn K (.ref CF) "takes" = some (some (.ref f61)))
    (l61 : K.lookup f61 = some ⟨oc61, od61, .func (PySem.W.fnOf "takes" "Filling.takes" (C8.fnArgs (L2.inClass (topS 40) 3)) (C8.fnBody (L2.inClass (topS 40) 3)) (C8.fnScope (L2.inClass (topS 40) 3)) .none kV61 dc61 pm61 an61 cd61 ct61), sl61⟩)
    (c61 : PySem.W.codeIn K cd61 "Filling.takes" = true)
    (k61 : PySem.W.keepIn K (.ref f61) = true)
    (i61 : PySem.W.isFn K (.ref f61) = true)
    (n_Filling_first : PySem.W.findIn K (.ref CF) "first" = some none)
    (n_Filling_second : PySem.W.findIn K (.ref CF) "second" = some none)
    (n_Filling_names : PySem.W.findIn K (.ref CF) "names" = some none)
    (n_Filling_best : PySem.W.findIn K (.ref CF) "best" = some none)
    (n_Filling_done : PySem.W.findIn K (.ref CF) "done" = some none)
    {R : Prop} (kont : Txt K mg CP CF → ∀ f fd, mg "law" = some (.ref f) → FunP K "law" "law" (topS 67) ["_law_script"] f fd → fd = PySem.W.fnOf "law" "law" (C8.fnArgs (topS 67)) (C8.fnBody (topS 67)) (C8.fnScope (topS 67)) .none kV41 dc41 pm41 an41 cd41 ct41 → R) : R :=
  kont ⟨(defP_mk (mg_of X G a1) l1 c1 k1 (fun _ _ _ _ _ _ us hl => match us, hl with | [_], _ => rfl)),
    (defP_mk (mg_of X G a2) l2 c2 k2 (fun _ _ _ _ _ _ us hl => match us, hl with | [_, _, _], _ => rfl)),
    (defP_mk (mg_of X G a3) l3 c3 k3 (fun _ _ _ _ _ _ us hl => match us, hl with | [_], _ => rfl)),
    (defP_mk (mg_of X G a4) l4 c4 k4 (fun _ _ _ _ _ _ us hl => match us, hl with | [_, _], _ => rfl)),
    (defP_mk (mg_of X G a5) l5 c5 k5 (fun _ _ _ _ _ _ us hl => match us, hl with | [_], _ => rfl)),
    (defP_mk (mg_of X G a6) l6 c6 k6 (fun _ _ _ _ _ _ us hl => match us, hl with | [_], _ => rfl)),
    (defP_mk (mg_of X G a7) l7 c7 k7 (fun _ _ _ _ _ _ us hl => match us, hl with | [_], _ => rfl)),
    (defP_mk (mg_of X G a8) l8 c8 k8 (fun _ _ _ _ _ _ us hl => match us, hl with | [_], _ => rfl)),
    (defP_mk (mg_of X G a9) l9 c9 k9 (fun _ _ _ _ _ _ us hl => match us, hl with | [_], _ => rfl)),
    (defP_mk (mg_of X G a10) l10 c10 k10 (fun _ _ _ _ _ _ us hl => match us, hl with | [_], _ => rfl)),
    (defP_mk (mg_of X G a11) l11 c11 k11 (fun _ _ _ _ _ _ us hl => match us, hl with | [_], _ => rfl)),
    (defP_mk (mg_of X G a12) l12 c12 k12 (fun _ _ _ _ _ _ us hl => match us, hl with | [_], _ => rfl)),
    (defP_mk (mg_of X G a13) l13 c13 k13 (fun _ _ _ _ _ _ us hl => match us, hl with | [_, _], _ => rfl)),
    (defP_mk (mg_of X G a14) l14 c14 k14 (fun _ _ _ _ _ _ us hl => match us, hl with | [_, _, _, _], _ => rfl)),
    (defP_mk (mg_of X G a15) l15 c15 k15 (fun _ _ _ _ _ _ us hl => match us, hl with | [_, _], _ => rfl)),
    (defP_mk (mg_of X G a16) l16 c16 k16 (fun _ _ _ _ _ _ us hl => match us, hl with | [_, _], _ => rfl)),
    (defP_mk (mg_of X G a17) l17 c17 k17 (fun _ _ _ _ _ _ us hl => match us, hl with | [_, _], _ => rfl)),
    (defP_mk (mg_of X G a18) l18 c18 k18 (fun _ _ _ _ _ _ us hl => match us, hl with | [_, _], _ => rfl)),
    (defP_mk (mg_of X G a19) l19 c19 k19 (fun _ _ _ _ _ _ us hl => match us, hl with | [_, _], _ => rfl)),
    (defP_mk (mg_of X G a20) l20 c20 k20 (fun _ _ _ _ _ _ us hl => match us, hl with | [_, _], _ => rfl)),
    (defP_mk (mg_of X G a21) l21 c21 k21 (fun _ _ _ _ _ _ us hl => match us, hl with | [_, _], _ => rfl)),
    (defP_mk (mg_of X G a22) l22 c22 k22 (fun _ _ _ _ _ _ us hl => match us, hl with | [_, _], _ => rfl)),
    (defP_mk (mg_of X G a23) l23 c23 k23 (fun _ _ _ _ _ _ us hl => match us, hl with | [_, _], _ => rfl)),
    (defP_mk (mg_of X G a24) l24 c24 k24 (fun _ _ _ _ _ _ us hl => match us, hl with | [_, _], _ => rfl)),
    (defP_mk (mg_of X G a25) l25 c25 k25 (fun _ _ _ _ _ _ us hl => match us, hl with | [_], _ => rfl)),
    (defP_mk (mg_of X G a26) l26 c26 k26 (fun _ _ _ _ _ _ us hl => match us, hl with | [_, _], _ => rfl)),
    (defP_mk (mg_of X G a27) l27 c27 k27 (fun _ _ _ _ _ _ us hl => match us, hl with | [_, _], _ => rfl)),
    (defP_mk (mg_of X G a28) l28 c28 k28 (fun _ _ _ _ _ _ us hl => match us, hl with | [_, _], _ => rfl)),
    (defP_mk (mg_of X G a29) l29 c29 k29 (fun _ _ _ _ _ _ us hl => match us, hl with | [_, _], _ => rfl)),
    (defP_mk (mg_of X G a30) l30 c30 k30 (fun _ _ _ _ _ _ us hl => match us, hl with | [_, _], _ => rfl)),
    (defP_mk (mg_of X G a31) l31 c31 k31 (fun _ _ _ _ _ _ us hl => match us, hl with | [_, _], _ => rfl)),
    (defP_mk (mg_of X G a32) l32 c32 k32 (fun _ _ _ _ _ _ us hl => match us, hl with | [_], _ => rfl)),
    (defP_mk (mg_of X G a33) l33 c33 k33 (fun _ _ _ _ _ _ us hl => match us, hl with | [_, _, _, _], _ => rfl)),
    (defP_mk (mg_of X G a34) l34 c34 k34 (fun _ _ _ _ _ _ us hl => match us, hl with | [_], _ => rfl)),
    (defP_mk (mg_of X G a35) l35 c35 k35 (fun _ _ _ _ _ _ us hl => match us, hl with | [_, _, _], _ => rfl)),
    (defP_mk (mg_of X G a36) l36 c36 k36 (fun _ _ _ _ _ _ us hl => match us, hl with | [_], _ => rfl)),
    (defP_mk (mg_of X G a37) l37 c37 k37 (fun _ _ _ _ _ _ us hl => match us, hl with | [_], _ => rfl)),
    (defP_mk (mg_of X G a38) l38 c38 k38 (fun _ _ _ _ _ _ us hl => match us, hl with | [_], _ => rfl)),
    (defP_mk (mg_of X G a39) l39 c39 k39 (fun _ _ _ _ _ _ us hl => match us, hl with | [_, _], _ => rfl)),
    (defP_mk (mg_of X G a40) l40 c40 k40 (fun _ _ _ _ _ _ us hl => match us, hl with | [_, _], _ => rfl)),
    ⟨_, mg_of X G a42, _, rfl⟩,
    ⟨_, mg_of X G a43, _, rfl⟩,
    ⟨_, mg_of X G a44, _, rfl⟩,
    ⟨_, mg_of X G a45, _, rfl⟩,
    ⟨_, mg_of X G a46, _, rfl⟩,
    ⟨_, mg_of X G a47, _, rfl⟩,
    ⟨_, mg_of X G a48, _, rfl⟩,
    ⟨_, mg_of X G a49, _, rfl⟩,
    ⟨_, mg_of X G a50, _, rfl⟩,
    ⟨_, mg_of X G a51, _, rfl⟩,
    ⟨_, mg_of X G a52, _, rfl⟩,
    ⟨_, mg_of X G a53, _, rfl⟩,
    ⟨_, mg_of X G a54, _, rfl⟩,
    (mg_none_of X G z_isinstance),
    (mg_none_of X G z_int),
    (mg_none_of X G z_bool),
    (mg_none_of X G z_str),
    (mg_none_of X G z_tuple),
    (mg_none_of X G z_len),
    (mg_none_of X G z_all),
    (mg_none_of X G z_range),
    (mg_none_of X G z_sum),
    (mg_none_of X G z_dict),
    (mg_none_of X G z_min),
    (mg_none_of X G z_max),
    (mg_none_of X G z_sorted),
    (mg_none_of X G z_list),
    (mg_none_of X G z_zip),
    (mg_none_of X G z_abs),
    (mg_none_of X G z_set),
    (mg_of X G g_Portions),
    ⟨pg_Portions, hd_Portions, po_Portions, sa_Portions⟩,
    ⟨_, _, ⟨mk_Portions, a55, i55, kc_Portions⟩, funP_mk l55 c55 (fun _ _ _ _ _ _ us hl => match us, hl with | [_, _], _ => rfl)⟩,
    ⟨_, _, ⟨a56, i56, k56⟩, funP_mk l56 c56 (fun _ _ _ _ _ _ us hl => match us, hl with | [_, _, _], _ => rfl)⟩,
    ⟨_, _, ⟨a57, i57, k57⟩, funP_mk l57 c57 (fun _ _ _ _ _ _ us hl => match us, hl with | [_, _, _], _ => rfl)⟩,
    n_Portions_off,
    n_Portions_full,
    n_Portions_rest,
    (mg_of X G g_Filling),
    ⟨pg_Filling, hd_Filling, po_Filling, sa_Filling⟩,
    ⟨_, _, ⟨mk_Filling, a58, i58, kc_Filling⟩, funP_mk l58 c58 (fun _ _ _ _ _ _ us hl => match us, hl with | [_, _, _], _ => rfl)⟩,
    ⟨_, _, ⟨a59, i59, k59⟩, funP_mk l59 c59 (fun _ _ _ _ _ _ us hl => match us, hl with | [_, _, _], _ => rfl)⟩,
    ⟨_, _, ⟨a60, i60, k60⟩, funP_mk l60 c60 (fun _ _ _ _ _ _ us hl => match us, hl with | [_], _ => rfl)⟩,
    ⟨_, _, ⟨a61, i61, k61⟩, funP_mk l61 c61 (fun _ _ _ _ _ _ us hl => match us, hl with | [_], _ => rfl)⟩,
    n_Filling_first,
    n_Filling_second,
    n_Filling_names,
    n_Filling_best,
    n_Filling_done⟩
    _ _ (mg_of X G a41) (funP_mk l41 c41 (fun _ _ _ _ _ _ us hl => match us, hl with | [_], _ => rfl)) rfl
end Kn
set_option Elab.async false
set_option maxRecDepth 100000
open PySem PySem.W PyProof.Rows
set_option maxHeartbeats 0 in
theorem PySem.Challenge.cw_knownends_k41_whole_joins_of_great_sketc_holds : PySem.Challenge.rw_knownends_k41_whole_joins_of_great_sketc.Holds := by
  w_on; o_law; k_head; (case hw => w_witness2)
  k_fill
  refine L2.walk_of (l := PySem.Challenge.rw_knownends_k41_whole_joins_of_great_sketc) (n := 63) (k := 12) (x := "_law_script") (CX := fun _ => C8.CX0) (sp := fun w => Kn.spLaw _) rfl (by decide) rfl ⟨rfl, by decide, by decide⟩ (fun w h Y => PySem.W.kIn_of Y) ?F (fun _ _ a ns hl _ hS => ⟨a, ns, rfl, hS, hl, fun _ => rfl⟩) (fun _ _ _ _ _ h => h)
  case F =>
    intro w mg fa h KX G hmg
    refine' Kn.txt_mk KX G ?a1 ?l1 ?c1 ?k1 ?a2 ?l2 ?c2 ?k2 ?a3 ?l3 ?c3 ?k3 ?a4 ?l4 ?c4 ?k4 ?a5 ?l5 ?c5 ?k5 ?a6 ?l6 ?c6 ?k6 ?a7 ?l7 ?c7 ?k7 ?a8 ?l8 ?c8 ?k8 ?a9 ?l9 ?c9 ?k9 ?a10 ?l10 ?c10 ?k10 ?a11 ?l11 ?c11 ?k11 ?a12 ?l12 ?c12 ?k12 ?a13 ?l13 ?c13 ?k13 ?a14 ?l14 ?c14 ?k14 ?a15 ?l15 ?c15 ?k15 ?a16 ?l16 ?c16 ?k16 ?a17 ?l17 ?c17 ?k17 ?a18 ?l18 ?c18 ?k18 ?a19 ?l19 ?c19 ?k19 ?a20 ?l20 ?c20 ?k20 ?a21 ?l21 ?c21 ?k21 ?a22 ?l22 ?c22 ?k22 ?a23 ?l23 ?c23 ?k23 ?a24 ?l24 ?c24 ?k24 ?a25 ?l25 ?c25 ?k25 ?a26 ?l26 ?c26 ?k26 ?a27 ?l27 ?c27 ?k27 ?a28 ?l28 ?c28 ?k28 ?a29 ?l29 ?c29 ?k29 ?a30 ?l30 ?c30 ?k30 ?a31 ?l31 ?c31 ?k31 ?a32 ?l32 ?c32 ?k32 ?a33 ?l33 ?c33 ?k33 ?a34 ?l34 ?c34 ?k34 ?a35 ?l35 ?c35 ?k35 ?a36 ?l36 ?c36 ?k36 ?a37 ?l37 ?c37 ?k37 ?a38 ?l38 ?c38 ?k38 ?a39 ?l39 ?c39 ?k39 ?a40 ?l40 ?c40 ?k40 ?a41 ?l41 ?c41 ?k41 ?a42 ?a43 ?a44 ?a45 ?a46 ?a47 ?a48 ?a49 ?a50 ?a51 ?a52 ?a53 ?a54 ?z_isinstance ?z_int ?z_bool ?z_str ?z_tuple ?z_len ?z_all ?z_range ?z_sum ?z_dict ?z_min ?z_max ?z_sorted ?z_list ?z_zip ?z_abs ?z_set ?g_Portions ?pg_Portions ?hd_Portions ?po_Portions ?sa_Portions ?a55 ?l55 ?c55 ?k55 ?i55 ?mk_Portions ?kc_Portions ?a56 ?l56 ?c56 ?k56 ?i56 ?a57 ?l57 ?c57 ?k57 ?i57 ?n_Portions_off ?n_Portions_full ?n_Portions_rest ?g_Filling ?pg_Filling ?hd_Filling ?po_Filling ?sa_Filling ?a58 ?l58 ?c58 ?k58 ?i58 ?mk_Filling ?kc_Filling ?a59 ?l59 ?c59 ?k59 ?i59 ?a60 ?l60 ?c60 ?k60 ?i60 ?a61 ?l61 ?c61 ?k61 ?i61 ?n_Filling_first ?n_Filling_second ?n_Filling_names ?n_Filling_best ?n_Filling_done ?kont
    (case a1 => k_is)
    (case l1 => k_is)
    (case c1 => k_is)
    (case k1 => k_is)
    (case a2 => k_is)
    (case l2 => k_is)
    (case c2 => k_is)
    (case k2 => k_is)
    (case a3 => k_is)
    (case l3 => k_is)
    (case c3 => k_is)
    (case k3 => k_is)
    (case a4 => k_is)
    (case l4 => k_is)
    (case c4 => k_is)
    (case k4 => k_is)
    (case a5 => k_is)
    (case l5 => k_is)
    (case c5 => k_is)
    (case k5 => k_is)
    (case a6 => k_is)
    (case l6 => k_is)
    (case c6 => k_is)
    (case k6 => k_is)
    (case a7 => k_is)
    (case l7 => k_is)
    (case c7 => k_is)
    (case k7 => k_is)
    (case a8 => k_is)
    (case l8 => k_is)
    (case c8 => k_is)
    (case k8 => k_is)
    (case a9 => k_is)
    (case l9 => k_is)
    (case c9 => k_is)
    (case k9 => k_is)
    (case a10 => k_is)
    (case l10 => k_is)
    (case c10 => k_is)
    (case k10 => k_is)
    (case a11 => k_is)
    (case l11 => k_is)
    (case c11 => k_is)
    (case k11 => k_is)
    (case a12 => k_is)
    (case l12 => k_is)
    (case c12 => k_is)
    (case k12 => k_is)
    (case a13 => k_is)
    (case l13 => k_is)
    (case c13 => k_is)
    (case k13 => k_is)
    (case a14 => k_is)
    (case l14 => k_is)
    (case c14 => k_is)
    (case k14 => k_is)
    (case a15 => k_is)
    (case l15 => k_is)
    (case c15 => k_is)
    (case k15 => k_is)
    (case a16 => k_is)
    (case l16 => k_is)
    (case c16 => k_is)
    (case k16 => k_is)
    (case a17 => k_is)
    (case l17 => k_is)
    (case c17 => k_is)
    (case k17 => k_is)
    (case a18 => k_is)
    (case l18 => k_is)
    (case c18 => k_is)
    (case k18 => k_is)
    (case a19 => k_is)
    (case l19 => k_is)
    (case c19 => k_is)
    (case k19 => k_is)
    (case a20 => k_is)
    (case l20 => k_is)
    (case c20 => k_is)
    (case k20 => k_is)
    (case a21 => k_is)
    (case l21 => k_is)
    (case c21 => k_is)
    (case k21 => k_is)
    (case a22 => k_is)
    (case l22 => k_is)
    (case c22 => k_is)
    (case k22 => k_is)
    (case a23 => k_is)
    (case l23 => k_is)
    (case c23 => k_is)
    (case k23 => k_is)
    (case a24 => k_is)
    (case l24 => k_is)
    (case c24 => k_is)
    (case k24 => k_is)
    (case a25 => k_is)
    (case l25 => k_is)
    (case c25 => k_is)
    (case k25 => k_is)
    (case a26 => k_is)
    (case l26 => k_is)
    (case c26 => k_is)
    (case k26 => k_is)
    (case a27 => k_is)
    (case l27 => k_is)
    (case c27 => k_is)
    (case k27 => k_is)
    (case a28 => k_is)
    (case l28 => k_is)
    (case c28 => k_is)
    (case k28 => k_is)
    (case a29 => k_is)
    (case l29 => k_is)
    (case c29 => k_is)
    (case k29 => k_is)
    (case a30 => k_is)
    (case l30 => k_is)
    (case c30 => k_is)
    (case k30 => k_is)
    (case a31 => k_is)
    (case l31 => k_is)
    (case c31 => k_is)
    (case k31 => k_is)
    (case a32 => k_is)
    (case l32 => k_is)
    (case c32 => k_is)
    (case k32 => k_is)
    (case a33 => k_is)
    (case l33 => k_is)
    (case c33 => k_is)
    (case k33 => k_is)
    (case a34 => k_is)
    (case l34 => k_is)
    (case c34 => k_is)
    (case k34 => k_is)
    (case a35 => k_is)
    (case l35 => k_is)
    (case c35 => k_is)
    (case k35 => k_is)
    (case a36 => k_is)
    (case l36 => k_is)
    (case c36 => k_is)
    (case k36 => k_is)
    (case a37 => k_is)
    (case l37 => k_is)
    (case c37 => k_is)
    (case k37 => k_is)
    (case a38 => k_is)
    (case l38 => k_is)
    (case c38 => k_is)
    (case k38 => k_is)
    (case a39 => k_is)
    (case l39 => k_is)
    (case c39 => k_is)
    (case k39 => k_is)
    (case a40 => k_is)
    (case l40 => k_is)
    (case c40 => k_is)
    (case k40 => k_is)
    (case a41 => k_is)
    (case l41 => k_is)
    (case c41 => k_is)
    (case k41 => k_is)
    (case a42 => k_is)
    (case a43 => k_is)
    (case a44 => k_is)
    (case a45 => k_is)
    (case a46 => k_is)
    (case a47 => k_is)
    (case a48 => k_is)
    (case a49 => k_is)
    (case a50 => k_is)
    (case a51 => k_is)
    (case a52 => k_is)
    (case a53 => k_is)
    (case a54 => k_is)
    (case z_isinstance => k_is)
    (case z_int => k_is)
    (case z_bool => k_is)
    (case z_str => k_is)
    (case z_tuple => k_is)
    (case z_len => k_is)
    (case z_all => k_is)
    (case z_range => k_is)
    (case z_sum => k_is)
    (case z_dict => k_is)
    (case z_min => k_is)
    (case z_max => k_is)
    (case z_sorted => k_is)
    (case z_list => k_is)
    (case z_zip => k_is)
    (case z_abs => k_is)
    (case z_set => k_is)
    (case g_Portions => k_is)
    (case pg_Portions => k_is)
    (case hd_Portions => k_is)
    (case po_Portions => k_is)
    (case sa_Portions => k_is)
    (case a55 => k_is)
    (case l55 => k_is)
    (case c55 => k_is)
    (case k55 => k_is)
    (case i55 => k_is)
    (case mk_Portions => k_is)
    (case kc_Portions => k_is)
    (case a56 => k_is)
    (case l56 => k_is)
    (case c56 => k_is)
    (case k56 => k_is)
    (case i56 => k_is)
    (case a57 => k_is)
    (case l57 => k_is)
    (case c57 => k_is)
    (case k57 => k_is)
    (case i57 => k_is)
    (case n_Portions_off => k_is)
    (case n_Portions_full => k_is)
    (case n_Portions_rest => k_is)
    (case g_Filling => k_is)
    (case pg_Filling => k_is)
    (case hd_Filling => k_is)
    (case po_Filling => k_is)
    (case sa_Filling => k_is)
    (case a58 => k_is)
    (case l58 => k_is)
    (case c58 => k_is)
    (case k58 => k_is)
    (case i58 => k_is)
    (case mk_Filling => k_is)
    (case kc_Filling => k_is)
    (case a59 => k_is)
    (case l59 => k_is)
    (case c59 => k_is)
    (case k59 => k_is)
    (case i59 => k_is)
    (case a60 => k_is)
    (case l60 => k_is)
    (case c60 => k_is)
    (case k60 => k_is)
    (case i60 => k_is)
    (case a61 => k_is)
    (case l61 => k_is)
    (case c61 => k_is)
    (case k61 => k_is)
    (case i61 => k_is)
    (case n_Filling_first => k_is)
    (case n_Filling_second => k_is)
    (case n_Filling_names => k_is)
    (case n_Filling_best => k_is)
    (case n_Filling_done => k_is)

    case kont =>
      intro T f fd e1 e2 e3
      have e := hmg.symm.trans e1
      cases e
      exact ⟨fd, fun s v => by rw [e3]; exact .of_eq rfl, fun base _ _ => Kn.c_law T e2⟩
