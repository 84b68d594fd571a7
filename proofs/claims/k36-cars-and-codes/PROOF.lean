import PyProof.Rows.All
import Wide.All
import OpenK.AllK
import Wide.FinOn
import HandS.ForMost
import HandS.More
import HandS.IsInst
import HandS.Wide
import HandS.ClsMeth
import PySem.Challenge.RW_countkin_k36_cars_and_codes
set_option Elab.async false
set_option linter.all false
set_option maxRecDepth 100000
set_option maxHeartbeats 4000000

namespace K36
open PySem PySem.Spec PyProof.Rows L2

/-! ### C.m(..) where m is a plain def of the class C -/
section
variable {X : Cx} {CX : CXT} {k : Nat} {C g : Addr} {mc : Value} {fd : FuncData} {ps : List Str} {sp : Sp} {E : XK} {e : Expr} {es : List Expr} {x m : Str} {p pos apos : Pos} {t : TA} {pl : Sem Bool}
theorem pe_cfn (hg : Gl X x) (hm : X.mg x = some (.ref C)) (r : ClX.CRead X.K C mc) (c : PySem.W.findCls X.K (.ref C) mc m = some (.val (.ref g))) (kp : PySem.W.keepIn X.K (.ref g) = true)
    (F : FnOk X.prog X.w X.K X.mg X.base CX k g fd ps sp) (hr : Room k X.A) (hb : Binds X.K fd ps []) (hx : Passes CX X E) (ha : PA X (e :: es) t)
    (hdb : (x == ("__debug__" : Str)) = false := by decide)
    (hst : starEach (e :: es) X.env = (false, eval e X.env) :: starEach es X.env := by rfl) (hpl : (backTo pos (starEach es X.env)).any (·.1) = false := by rfl)
    (ht : eval (.Call (.Attribute (.Name x p) m apos) (e :: es) [] pos) X.env = (do
      let ov ← eval (.Name x p) X.env
      standAt apos.atName
      let (f, first) ← holding [ov] (getMethod ov m pl)
      callWith pos f first (backTo pos (starEach (e :: es) X.env)) (backToKw pos (keywordEach [] X.env))) := by rfl) :
    PE X (.Call (.Attribute (.Name x p) m apos) (e :: es) [] pos) (tCall sp [] E t) := by
  have hn : PE X (.Name x p) (tC (.ref C)) := pe_glob hg hm rfl hdb
  refine ⟨fun pins s σ H Q I h => ?_⟩
  refine PySem.W.methodCall_KW (pl := pl) (thn (hn.run pins s σ H (fun v H1 => v = .ref C ∧ t σ H1 fun vs H2 => sp (vs ++ []) H2 Q E) I ⟨rfl, h⟩) fun u s1 ⟨xv, H1, I1, rx, ex, q⟩ => ?_) ht
  subst ex
  obtain rfl : u = Value.ref C := rx
  refine PySem.W.method_cls I1.kIn r.ga (ClX.getcval_ok (v := V.ref g) I1 r ⟨c, rfl⟩ fun s2 I2 => ?_)
  refine PySem.W.callWith_K (first := []) (h₀ := X.base) I2.ok.mod.kin kp (thn (ha.run pos pins s2 σ H1 _ I2 q) fun us s3 ⟨vs, H2, I3, rv, q2⟩ => ⟨I3.kIn, ?_⟩) hst hpl
  exact run_fn F hr hb .nil hx I3 rv q2
end
end K36

namespace K36

/-- all cars find a place -/
def Park (w : List Int) : Prop :=
  (∀ x ∈ w, 0 ≤ x ∧ x < (w.length : Int)) ∧ ∀ k : Nat, k < w.length → k + 1 ≤ w.countP (fun x => decide (x ≤ (k : Int)))

/-- each figure of a code is from 0 to the size -/
def CodeOk (c : List Int) : Prop := ∀ x ∈ c, 0 ≤ x ∧ x ≤ (c.length : Int) + 1

/-- the code of a row of wishes -/
def steps (w : List Int) : List Int :=
  (List.range (w.length - 1)).map fun i => (w.getD (i + 1) 0 - w.getD i 0) % ((w.length : Int) + 1)

theorem steps_length (w : List Int) : (steps w).length = w.length - 1 := by
  unfold steps; rw [List.length_map, List.length_range]

theorem steps_getD {w : List Int} {i : Nat} (h : i + 1 < w.length) :
    (steps w).getD i 0 = (w.getD (i + 1) 0 - w.getD i 0) % ((w.length : Int) + 1) := by
  unfold steps
  rw [List.getD_eq_getElem?_getD, List.getElem?_map, List.getElem?_range (by omega)]
  rfl

theorem steps_ok {w : List Int} (h : 0 < w.length) : CodeOk (steps w) := by
  intro x hx
  unfold steps at hx
  obtain ⟨i, hi, rfl⟩ := List.mem_map.mp hx
  have hi' := List.mem_range.mp hi
  rw [steps_length]
  have hm : (0 : Int) < (w.length : Int) + 1 := by omega
  have h0 := Int.emod_nonneg (w.getD (i + 1) 0 - w.getD i 0) (show (w.length : Int) + 1 ≠ 0 by omega)
  have h1 := Int.emod_lt_of_pos (w.getD (i + 1) 0 - w.getD i 0) hm
  constructor
  · exact h0
  · omega

/-! ### the round: wishes told by a code -/
/-- what round_ring tells -/
structure Ring (c : List Int) (s : Int) (r : List Int) : Prop where
  len : r.length = c.length + 1
  first : r.getD 0 0 = s
  next : ∀ j : Nat, j < c.length → r.getD (j + 1) 0 = (r.getD j 0 + c.getD j 0) % ((c.length : Int) + 2)

/-- .. so far -/
structure RingTo (c : List Int) (s : Int) (i : Nat) (r : List Int) : Prop where
  len : r.length = i + 1
  first : r.getD 0 0 = s
  next : ∀ j : Nat, j < i → r.getD (j + 1) 0 = (r.getD j 0 + c.getD j 0) % ((c.length : Int) + 2)

theorem getD_app_left {r : List Int} {v : Int} {j : Nat} (h : j < r.length) : (r ++ [v]).getD j 0 = r.getD j 0 := by
  rw [List.getD_eq_getElem?_getD, List.getD_eq_getElem?_getD, List.getElem?_append_left h]
theorem getD_app_last {r : List Int} {v : Int} {j : Nat} (h : j = r.length) : (r ++ [v]).getD j 0 = v := by
  subst h
  rw [List.getD_eq_getElem?_getD, List.getElem?_append_right (Nat.le_refl _)]
  simp

theorem RingTo.zero (c : List Int) (s : Int) : RingTo c s 0 [s] := ⟨rfl, rfl, fun _ h => absurd h (Nat.not_lt_zero _)⟩
theorem RingTo.step {c : List Int} {s : Int} {i : Nat} {r : List Int} (h : RingTo c s i r) :
    RingTo c s (i + 1) (r ++ [(r.getD i 0 + c.getD i 0) % ((c.length : Int) + 2)]) := by
  refine ⟨?_, ?_, fun j hj => ?_⟩
  · rw [List.length_append, h.len]; rfl
  · rw [getD_app_left (by rw [h.len]; omega)]; exact h.first
  · by_cases e : j = i
    · subst e
      rw [getD_app_last h.len.symm, getD_app_left (by rw [h.len]; omega)]
    · rw [getD_app_left (by rw [h.len]; omega), getD_app_left (by rw [h.len]; omega)]
      exact h.next j (by omega)
theorem RingTo.all {c : List Int} {s : Int} {r : List Int} (h : RingTo c s c.length r) : Ring c s r := ⟨h.len, h.first, h.next⟩

theorem RingTo.range {c : List Int} {s : Int} {i : Nat} {r : List Int} (h : RingTo c s i r) (h0 : 0 ≤ s) (h1 : s < (c.length : Int) + 2) :
    ∀ j : Nat, j ≤ i → 0 ≤ r.getD j 0 ∧ r.getD j 0 < (c.length : Int) + 2 := by
  intro j hj
  cases j with
  | zero => rw [h.first]; exact ⟨h0, h1⟩
  | succ j =>
    rw [h.next j (by omega)]
    exact ⟨Int.emod_nonneg _ (by omega), Int.emod_lt_of_pos _ (by omega)⟩

theorem mem_getD {r : List Int} {x : Int} (h : x ∈ r) : ∃ j : Nat, j < r.length ∧ r.getD j 0 = x := by
  obtain ⟨j, hj, e⟩ := List.getElem_of_mem h
  exact ⟨j, hj, by rw [List.getD_eq_getElem?_getD, List.getElem?_eq_getElem hj, e]; rfl⟩

theorem ext_getD {a b : List Int} (hl : a.length = b.length) (h : ∀ j : Nat, j < a.length → a.getD j 0 = b.getD j 0) : a = b := by
  refine List.ext_getElem hl fun j h1 h2 => ?_
  have e := h j h1
  rw [List.getD_eq_getElem?_getD, List.getD_eq_getElem?_getD, List.getElem?_eq_getElem h1, List.getElem?_eq_getElem h2] at e
  exact e

theorem getD_map {r : List Int} {f : Int → Int} {j : Nat} (h : j < r.length) : (r.map f).getD j 0 = f (r.getD j 0) := by
  rw [List.getD_eq_getElem?_getD, List.getD_eq_getElem?_getD, List.getElem?_map, List.getElem?_eq_getElem h]
  rfl

theorem Ring.range {c : List Int} {s : Int} {r : List Int} (h : Ring c s r) (h0 : 0 ≤ s) (h1 : s < (c.length : Int) + 2) :
    ∀ x ∈ r, 0 ≤ x ∧ x < (c.length : Int) + 2 := by
  intro x hx
  obtain ⟨j, hj, rfl⟩ := mem_getD hx
  have hl := h.len
  exact RingTo.range (i := c.length) ⟨h.len, h.first, h.next⟩ h0 h1 j (by omega)

/-- turned round the ring -/
def rot (m f x : Int) : Int := (x - f - 1) % m

theorem mod_shift (x c e m : Int) : ((x + c) % m + e) % m = ((x + e) % m + c) % m := by
  rw [Int.emod_add_emod, Int.emod_add_emod]
  congr 1
  omega

theorem Ring.rot {c : List Int} {p r : List Int} {f : Int} (hp : Ring c 0 p) (hr : Ring c ((c.length : Int) + 1 - f) r) (h0 : 0 ≤ f) (h1 : f ≤ (c.length : Int) + 1) :
    r = p.map (rot ((c.length : Int) + 2) f) := by
  have all : ∀ j : Nat, j ≤ c.length → r.getD j 0 = K36.rot ((c.length : Int) + 2) f (p.getD j 0) := by
    intro j
    induction j with
    | zero =>
      intro _
      rw [hr.first, hp.first]
      unfold K36.rot
      have e : (0 - f - 1) % ((c.length : Int) + 2) = (0 - f - 1 + ((c.length : Int) + 2)) % ((c.length : Int) + 2) := by rw [Int.add_emod_right]
      rw [e, Int.emod_eq_of_lt (by omega) (by omega)]
      omega
    | succ j ih =>
      intro hj
      rw [hr.next j (by omega), hp.next j (by omega), ih (by omega)]
      unfold K36.rot
      have e1 : p.getD j 0 - f - 1 = p.getD j 0 + (- f - 1) := by omega
      have e2 : (p.getD j 0 + c.getD j 0) % ((c.length : Int) + 2) - f - 1 = (p.getD j 0 + c.getD j 0) % ((c.length : Int) + 2) + (- f - 1) := by omega
      rw [e1, e2]
      exact (mod_shift _ _ _ _).symm
  refine ext_getD ?_ fun j hj => ?_
  · rw [List.length_map, hp.len, hr.len]
  · have hl := hr.len
    rw [getD_map (by rw [hp.len]; omega)]
    exact all j (by omega)

theorem Ring.steps {c : List Int} {s : Int} {r : List Int} (h : Ring c s r) (hc : CodeOk c) : steps r = c := by
  have hl := h.len
  refine ext_getD ?_ fun j hj => ?_
  · rw [steps_length]; omega
  · rw [steps_length] at hj
    rw [steps_getD (by omega), h.next j (by omega), hl]
    have e : ((r.getD j 0 + c.getD j 0) % ((c.length : Int) + 2) - r.getD j 0) % (((c.length + 1 : Nat) : Int) + 1) = c.getD j 0 % ((c.length : Int) + 2) := by
      have em : (((c.length + 1 : Nat) : Int) + 1) = (c.length : Int) + 2 := by omega
      rw [em]
      have e2 : (r.getD j 0 + c.getD j 0) % ((c.length : Int) + 2) - r.getD j 0 = (r.getD j 0 + c.getD j 0) % ((c.length : Int) + 2) + (- r.getD j 0) := by omega
      rw [e2, Int.emod_add_emod]
      congr 1
      omega
    rw [e]
    have hm : c.getD j 0 ∈ c := by
      rw [List.getD_eq_getElem?_getD, List.getElem?_eq_getElem (show j < c.length by omega)]
      exact List.getElem_mem _
    have hb := hc _ hm
    exact Int.emod_eq_of_lt hb.1 (by omega)

/-! ### only one of all turned round is a row of cars that all find a place -/
theorem countP_not (p : Int → Bool) (w : List Int) : w.countP p + w.countP (fun x => !p x) = w.length := by
  have e := List.length_eq_countP_add_countP p (l := w)
  have q : w.countP (fun x => !p x) = w.countP (fun a => decide ¬ p a = true) := by
    refine List.countP_congr fun x _ => ?_
    cases p x <;> decide
  omega

theorem park_one {w r : List Int} (hw : Park w) (hr : Park r) (hl : r.length = w.length) (hn : 0 < w.length) (hs : steps r = steps w) : r = w := by
  have wr : ∀ j : Nat, j < w.length → 0 ≤ w.getD j 0 ∧ w.getD j 0 < (w.length : Int) := fun j hj => hw.1 _ (by
    rw [List.getD_eq_getElem?_getD, List.getElem?_eq_getElem hj]; exact List.getElem_mem _)
  have rr : ∀ j : Nat, j < w.length → 0 ≤ r.getD j 0 ∧ r.getD j 0 < (w.length : Int) := fun j hj => by
    rw [← hl]
    exact hr.1 _ (by rw [List.getD_eq_getElem?_getD, List.getElem?_eq_getElem (by omega)]; exact List.getElem_mem _)
  have hm : (0 : Int) < (w.length : Int) + 1 := by omega
  let m : Int := (w.length : Int) + 1
  let d : Int := (r.getD 0 0 - w.getD 0 0) % m
  have d0 : 0 ≤ d := Int.emod_nonneg _ (show m ≠ 0 by show (w.length : Int) + 1 ≠ 0; omega)
  have d1 : d < m := Int.emod_lt_of_pos _ hm
  have all : ∀ j : Nat, j < w.length → r.getD j 0 = (w.getD j 0 + d) % m := by
    intro j
    induction j with
    | zero =>
      intro _
      have e : (w.getD 0 0 + d) % m = r.getD 0 0 % m := by
        show (w.getD 0 0 + (r.getD 0 0 - w.getD 0 0) % m) % m = _
        rw [Int.add_emod_emod]
        congr 1
        omega
      rw [e]
      exact (Int.emod_eq_of_lt (rr 0 hn).1 (by have := (rr 0 hn).2; show r.getD 0 0 < (w.length : Int) + 1; omega)).symm
    | succ j ih =>
      intro hj
      have e1 := steps_getD (w := r) (i := j) (by omega)
      have e2 := steps_getD (w := w) (i := j) (by omega)
      rw [hs, e2, hl] at e1
      have ihj := ih (by omega)
      have k1 : r.getD (j + 1) 0 = r.getD (j + 1) 0 % m := (Int.emod_eq_of_lt (rr (j + 1) hj).1 (by have := (rr (j + 1) hj).2; show r.getD (j + 1) 0 < (w.length : Int) + 1; omega)).symm
      have k2 : r.getD (j + 1) 0 % m = ((r.getD (j + 1) 0 - r.getD j 0) % m + r.getD j 0) % m := by
        rw [Int.emod_add_emod]; congr 1; omega
      rw [k1, k2]
      have e3 : (r.getD (j + 1) 0 - r.getD j 0) % m = (w.getD (j + 1) 0 - w.getD j 0) % m := e1.symm
      rw [e3, ihj, Int.emod_add_emod, Int.add_emod_emod]
      congr 1
      omega
  by_cases hd : d = 0
  · refine ext_getD hl fun j hj => ?_
    rw [all j (by omega), hd, Int.add_zero]
    exact Int.emod_eq_of_lt (wr j (by omega)).1 (by have := (wr j (by omega)).2; show w.getD j 0 < (w.length : Int) + 1; omega)
  · exfalso
    have er : r = w.map fun x => (x + d) % m := ext_getD (by rw [List.length_map]; exact hl) fun j hj => by
      rw [getD_map (by omega)]; exact all j (by omega)
    obtain ⟨D, hD⟩ : ∃ D : Nat, d = (D : Int) + 1 := ⟨(d - 1).toNat, by omega⟩
    have md : m = (w.length : Int) + 1 := rfl
    have hDn : D < w.length := by omega
    have c1 := hr.2 D (by omega)
    have c2 := hw.2 (w.length - (D + 1)) (by omega)
    rw [er, List.countP_map] at c1
    have e : w.countP ((fun x => decide (x ≤ (D : Int))) ∘ fun x => (x + d) % m) = w.countP fun x => !decide (x ≤ ((w.length - (D + 1) : Nat) : Int)) := by
      refine List.countP_congr fun x hx => ?_
      have hb := hw.1 x hx
      have hlt : ((w.length - (D + 1) : Nat) : Int) = (w.length : Int) - (D + 1) := by omega
      simp only [Function.comp, decide_eq_true_eq, Bool.not_eq_true', decide_eq_false_iff_not, hlt]
      by_cases hc : x + d < m
      · rw [Int.emod_eq_of_lt (by omega) hc]
        constructor <;> intro z <;> omega
      · have q : (x + d) % m = x + d - m := by
          have q1 : (x + d) % m = (x + d - m) % m := by rw [Int.sub_emod_right]
          rw [q1, Int.emod_eq_of_lt (by omega) (by omega)]
        rw [q]
        constructor <;> intro z <;> omega
    rw [e] at c1
    have c3 := countP_not (fun x => decide (x ≤ ((w.length - (D + 1) : Nat) : Int))) w
    omega

/-! ### the ring: the free place -/
def off (m g x : Int) : Int := if g < x then x - g - 1 else x - g - 1 + m
theorem off_rot {m g x : Int} (g0 : 0 ≤ g) (g1 : g < m) (x0 : 0 ≤ x) (x1 : x < m) : rot m g x = off m g x := by
  unfold rot off
  split
  · exact Int.emod_eq_of_lt (by omega) (by omega)
  · have q : (x - g - 1) % m = (x - g - 1 + m) % m := by rw [Int.add_emod_right]
    rw [q]
    exact Int.emod_eq_of_lt (by omega) (by omega)

/-- of the places behind g, up to k + 1 of them, so many are taken -/
def arc (T : List Bool) (g : Nat) (k : Nat) : Nat := (List.range (k + 1)).countP fun d => T.getD ((g + 1 + d) % T.length) false

theorem countP_one (P P' : Nat → Bool) (d0 : Nat) (h : ∀ d, d ≠ d0 → P' d = P d) : ∀ k : Nat, (List.range k).countP P' ≤ (List.range k).countP P + (if d0 < k then 1 else 0)
  | 0 => by simp
  | k + 1 => by
    have ih := countP_one P P' d0 h k
    rw [List.range_succ, List.countP_append, List.countP_append, List.countP_singleton, List.countP_singleton]
    by_cases e : k = d0
    · subst e
      rw [if_neg (Nat.lt_irrefl _)] at ih
      rw [if_pos (Nat.lt_succ_self _)]
      have : (if P' k = true then 1 else 0) ≤ 1 := by split <;> omega
      omega
    · rw [h k e]
      have q : (if d0 < k then 1 else 0) = (if d0 < k + 1 then 1 else 0) := by
        by_cases z : d0 < k
        · rw [if_pos z, if_pos (by omega)]
        · rw [if_neg z, if_neg (by omega)]
      omega

/-- what holds of the ring's places T when the cars pre have come -/
structure RInv (m : Nat) (T : List Bool) (pre : List Int) : Prop where
  len : T.length = m
  cnt : T.count true = pre.length
  arc : ∀ g : Nat, g < m → T.getD g false = false → ∀ k : Nat, k < m → K36.arc T g k ≤ pre.countP fun x => decide (off m g x ≤ (k : Int))

theorem RInv.zero (m : Nat) : RInv m (List.replicate m false) [] := by
  refine ⟨List.length_replicate, by simp [List.count_replicate], fun g _ _ k _ => ?_⟩
  unfold K36.arc
  have e : (List.range (k + 1)).countP (fun d => (List.replicate m false).getD ((g + 1 + d) % (List.replicate m false).length) false) = 0 := by
    rw [List.countP_eq_zero]
    intro d _
    rw [List.getD_eq_getElem?_getD, List.getElem?_replicate]
    split <;> simp
  rw [e]
  exact Nat.zero_le _

/-- a place is free -/
theorem RInv.some_free {m : Nat} {T : List Bool} {pre : List Int} (h : RInv m T pre) (hp : pre.length < m) : ∃ g : Nat, g < m ∧ T.getD g false = false := by
  have hf : false ∈ T := by
    refine Decidable.byContradiction fun hn => ?_
    have : T.count true = T.length := by
      rw [List.count_eq_length]
      intro b hb
      cases b with
      | true => rfl
      | false => exact absurd hb hn
    have h1 := h.len
    have h2 := h.cnt
    omega
  obtain ⟨g, hg, e⟩ := List.getElem_of_mem hf
  exact ⟨g, by rw [← h.len]; exact hg, by rw [List.getD_eq_getElem?_getD, List.getElem?_eq_getElem hg, e]; rfl⟩

/-- the car on its way: from its wish x to the place p it has passed no free place -/
structure Way (m : Nat) (T : List Bool) (x p : Int) : Prop where
  p0 : 0 ≤ p
  p1 : p < m
  by_ : ∀ g : Nat, g < m → T.getD g false = false → off m g x ≤ off m g p

theorem Way.zero {m : Nat} {T : List Bool} {x : Int} (h0 : 0 ≤ x) (h1 : x < m) : Way m T x x := ⟨h0, h1, fun _ _ _ => Int.le_refl _⟩
theorem Way.step {m : Nat} {T : List Bool} {x p : Int} (h : Way m T x p) (ht : T.getD p.toNat false = true) : Way m T x ((p + 1) % (m : Int)) := by
  have p0 := h.p0
  have p1 := h.p1
  have e : (p + 1) % (m : Int) = if p + 1 = m then 0 else p + 1 := by
    split
    · rename_i q; rw [q, Int.emod_self]
    · exact Int.emod_eq_of_lt (by omega) (by omega)
  rw [e]
  refine ⟨by split <;> omega, by split <;> omega, fun g hg hf => ?_⟩
  have hb := h.by_ g hg hf
  have ne : (g : Int) ≠ p := fun z => by
    have : p.toNat = g := by omega
    rw [this, hf] at ht
    cases ht
  unfold off at hb ⊢
  split <;> split at hb <;> split at hb <;> (try split) <;> omega

def gap (m : Nat) (g : Nat) (p : Int) : Nat := if p ≤ (g : Int) then ((g : Int) - p).toNat else ((g : Int) - p + m).toNat
theorem gap_less {m : Nat} {T : List Bool} {x p : Int} {g : Nat} (h : Way m T x p) (hg : g < m) (hf : T.getD g false = false) (ht : T.getD p.toNat false = true) : gap m g ((p + 1) % (m : Int)) < gap m g p := by
  have p0 := h.p0
  have p1 := h.p1
  have e : (p + 1) % (m : Int) = if p + 1 = m then 0 else p + 1 := by
    split
    · rename_i q; rw [q, Int.emod_self]
    · exact Int.emod_eq_of_lt (by omega) (by omega)
  rw [e]
  have ne : (g : Int) ≠ p := fun z => by
    have : p.toNat = g := by omega
    rw [this, hf] at ht
    cases ht
  unfold gap
  split <;> split <;> (try split) <;> omega

theorem getD_set (T : List Bool) (i j : Nat) (b : Bool) (hi : i < T.length) : (T.set i b).getD j false = if i = j then b else T.getD j false := by
  rw [List.getD_eq_getElem?_getD, List.getElem?_set, List.getD_eq_getElem?_getD]
  by_cases e : i = j
  · rw [if_pos e, if_pos e, if_pos hi]; rfl
  · rw [if_neg e, if_neg e]

theorem count_set (T : List Bool) (i : Nat) (hi : i < T.length) (hf : T.getD i false = false) : (T.set i true).count true = T.count true + 1 := by
  have hg : T[i] = false := by
    rw [List.getD_eq_getElem?_getD, List.getElem?_eq_getElem hi] at hf
    exact hf
  rw [List.count_set hi, hg]
  simp

/-- the car has come to stand -/
theorem RInv.step {m : Nat} {T : List Bool} {pre : List Int} {x s : Int} (h : RInv m T pre) (hx0 : 0 ≤ x) (hx1 : x < m) (hw : Way m T x s) (hs : T.getD s.toNat false = false) : RInv m (T.set s.toNat true) (pre ++ [x]) := by
  have s0 := hw.p0
  have s1 := hw.p1
  have hl := h.len
  have hsl : s.toNat < T.length := by omega
  refine ⟨by rw [List.length_set]; exact h.len, by rw [count_set T _ hsl hs, h.cnt, List.length_append]; rfl, fun g hg hf k hk => ?_⟩
  rw [getD_set T _ _ _ hsl] at hf
  by_cases e : s.toNat = g
  · rw [if_pos e] at hf; cases hf
  · rw [if_neg e] at hf
    have h1 := h.arc g hg hf k hk
    have h2 := hw.by_ g hg hf
    have es : off m g s = (((s.toNat + m - g - 1) % m : Nat) : Int) := by
      have ex : rot m g s = off m g s := off_rot (by omega) (by omega) s0 s1
      unfold off
      split
      · have : (s.toNat + m - g - 1) % m = s.toNat - g - 1 := by
          have q : s.toNat + m - g - 1 = s.toNat - g - 1 + m := by omega
          rw [q, Nat.add_mod_right, Nat.mod_eq_of_lt (by omega)]
        omega
      · have : (s.toNat + m - g - 1) % m = s.toNat + m - g - 1 := Nat.mod_eq_of_lt (by omega)
        omega
    have hd0 : off m g s < m := by unfold off; split <;> omega
    have h3 := countP_one (fun d => T.getD ((g + 1 + d) % m) false) (fun d => if d < m then (T.set s.toNat true).getD ((g + 1 + d) % m) false else T.getD ((g + 1 + d) % m) false) ((s.toNat + m - g - 1) % m) (fun d hd => by
      by_cases hdm : d < m
      · rw [if_pos hdm, getD_set T _ _ _ hsl, if_neg]
        intro z
        apply hd
        rw [z]
        by_cases q : g + 1 + d < m
        · rw [Nat.mod_eq_of_lt q]
          have : g + 1 + d + m - g - 1 = d + m := by omega
          rw [this, Nat.add_mod_right, Nat.mod_eq_of_lt hdm]
        · have : (g + 1 + d) % m = g + 1 + d - m := by
            rw [Nat.mod_eq_sub_mod (by omega), Nat.mod_eq_of_lt (by omega)]
          rw [this]
          have : g + 1 + d - m + m - g - 1 = d := by omega
          rw [this, Nat.mod_eq_of_lt hdm]
      · rw [if_neg hdm]) (k + 1)
    have h4 : K36.arc (T.set s.toNat true) g k = (List.range (k + 1)).countP (fun d => if d < m then (T.set s.toNat true).getD ((g + 1 + d) % m) false else T.getD ((g + 1 + d) % m) false) := by
      unfold K36.arc
      rw [List.length_set, h.len]
      refine List.countP_congr fun d hd => ?_
      have := List.mem_range.mp hd
      rw [if_pos (by omega)]
    have h5 : K36.arc T g k = (List.range (k + 1)).countP (fun d => T.getD ((g + 1 + d) % m) false) := by
      unfold K36.arc
      rw [h.len]
    rw [h4, List.countP_append, List.countP_singleton]
    rw [h5] at h1
    by_cases z : off m g s ≤ (k : Int)
    · have z2 : off m g x ≤ (k : Int) := Int.le_trans h2 z
      rw [if_pos (by exact decide_eq_true z2)]
      have : (if (s.toNat + m - g - 1) % m < k + 1 then 1 else 0) ≤ 1 := by split <;> omega
      omega
    · rw [if_neg (by omega)] at h3
      omega

/-- all have come: the free place, and where the others stand from it -/
theorem RInv.last {m n : Nat} {T : List Bool} {w : List Int} {f : Nat} (h : RInv m T w) (hm : m = n + 1) (hn : w.length = n) (hw : ∀ x ∈ w, 0 ≤ x ∧ x < (m : Int)) (hf : f < m) (hff : T.getD f false = false) :
    Park (w.map (rot m f)) := by
  have others : ∀ t : Nat, t < m → t ≠ f → T.getD t false = true := by
    intro t ht ne
    cases e : T.getD t false with
    | true => rfl
    | false =>
      exfalso
      have hl := h.len
      have c1 := count_set T f (by omega) hff
      have e2 : (T.set f true).getD t false = false := by rw [getD_set T _ _ _ (by omega), if_neg (Ne.symm ne)]; exact e
      have c2 := count_set (T.set f true) t (by rw [List.length_set]; omega) e2
      have c3 := List.count_le_length (a := true) (l := (T.set f true).set t true)
      rw [List.length_set, List.length_set] at c3
      have := h.cnt
      omega
  have full : ∀ k : Nat, k < n → k + 1 ≤ (w.map (rot m f)).countP (fun x => decide (x ≤ (k : Int))) := by
    intro k hk
    have h1 := h.arc f hf hff k (by omega)
    have h2 : K36.arc T f k = k + 1 := by
      unfold K36.arc
      have e : (List.range (k + 1)).countP (fun d => T.getD ((f + 1 + d) % T.length) false) = (List.range (k + 1)).length := by
        rw [List.countP_eq_length]
        intro d hd
        have hd' := List.mem_range.mp hd
        rw [h.len]
        have hlt : (f + 1 + d) % m < m := Nat.mod_lt _ (by omega)
        refine others _ hlt fun z => ?_
        by_cases q : f + 1 + d < m
        · rw [Nat.mod_eq_of_lt q] at z; omega
        · have : (f + 1 + d) % m = f + 1 + d - m := by
            rw [Nat.mod_eq_sub_mod (by omega), Nat.mod_eq_of_lt (by omega)]
          omega
      rw [e, List.length_range]
    rw [h2] at h1
    rw [List.countP_map]
    have e : w.countP ((fun x => decide (x ≤ (k : Int))) ∘ rot m f) = w.countP fun x => decide (off m f x ≤ (k : Int)) := by
      refine List.countP_congr fun x hx => ?_
      have hb := hw x hx
      simp only [Function.comp]
      rw [off_rot (by omega) (by omega) hb.1 hb.2]
    rw [e]
    exact h1
  refine ⟨fun y hy => ?_, fun k hk => full k (by rw [List.length_map] at hk; omega)⟩
  rw [List.length_map, hn]
  obtain ⟨x, hx, rfl⟩ := List.mem_map.mp hy
  have y0 : 0 ≤ rot m f x := Int.emod_nonneg _ (by omega)
  refine ⟨y0, ?_⟩
  have npos : 0 < n := by
    have := List.length_pos_of_mem hx
    omega
  have c := full (n - 1) (by omega)
  have cl := List.countP_le_length (p := fun x => decide (x ≤ ((n - 1 : Nat) : Int))) (l := w.map (rot m f))
  rw [List.length_map] at cl
  have ce : (w.map (rot m f)).countP (fun x => decide (x ≤ ((n - 1 : Nat) : Int))) = (w.map (rot m f)).length := by
    rw [List.length_map]; omega
  rw [List.countP_eq_length] at ce
  have := of_decide_eq_true (ce _ hy)
  omega

/-! ### sorted -/
theorem park_sorted {w s : List Int} (hw : Park w) (hp : s.Perm w) (hs : s.Pairwise (· ≤ ·)) : ∀ k : Nat, k < s.length → 0 ≤ s.getD k 0 ∧ s.getD k 0 ≤ (k : Int) := by
  intro k hk
  have hl := hp.length_eq
  have hm : s.getD k 0 ∈ s := by
    rw [List.getD_eq_getElem?_getD, List.getElem?_eq_getElem hk]; exact List.getElem_mem _
  refine ⟨(hw.1 _ (hp.mem_iff.mp hm)).1, ?_⟩
  refine Decidable.byContradiction fun hn => ?_
  have c := hw.2 k (by omega)
  rw [← hp.countP_eq] at c
  have e : s.countP (fun x => decide (x ≤ (k : Int))) = (s.take k).countP (fun x => decide (x ≤ (k : Int))) + (s.drop k).countP (fun x => decide (x ≤ (k : Int))) := by
    rw [← List.countP_append, List.take_append_drop]
  have z : (s.drop k).countP (fun x => decide (x ≤ (k : Int))) = 0 := by
    rw [List.countP_eq_zero]
    intro x hx
    have hge : s.getD k 0 ≤ x := by
      have hd : s.drop k = s.getD k 0 :: s.drop (k + 1) := by
        rw [List.getD_eq_getElem?_getD, List.getElem?_eq_getElem hk]
        exact List.drop_eq_getElem_cons hk
      have hpw : (s.drop k).Pairwise (· ≤ ·) := hs.sublist (List.drop_sublist k s)
      rw [hd] at hx hpw
      rcases List.mem_cons.mp hx with q | q
      · omega
      · exact (List.pairwise_cons.mp hpw).1 x q
    intro q
    have := of_decide_eq_true q
    omega
  have t := List.countP_le_length (p := fun x => decide (x ≤ (k : Int))) (l := s.take k)
  rw [List.length_take] at t
  omega

/-! ### the law's own wishes -/
/-- after j cars: each wishes less than j, of those to k at least j or k + 1 -/
structure Built (j : Nat) (w : List Int) : Prop where
  len : w.length = j
  rng : ∀ x ∈ w, 0 ≤ x ∧ x < (j : Int)
  cnt : ∀ k : Nat, min j (k + 1) ≤ w.countP fun x => decide (x ≤ (k : Int))
theorem Built.zero : Built 0 [] := ⟨rfl, (fun _ h => (nomatch h)), (fun k => by rw [Nat.zero_min]; exact Nat.zero_le _)⟩
theorem Built.step {j : Nat} {w a b : List Int} {x : Int} (h : Built j w) (e : w = a ++ b) (h0 : 0 ≤ x) (h1 : x ≤ (j : Int)) : Built (j + 1) (a ++ x :: b) := by
  subst e
  have hl := h.len
  refine ⟨by simp at hl ⊢; omega, fun y hy => ?_, fun k => ?_⟩
  · have : y = x ∨ y ∈ a ++ b := by
      simp at hy ⊢
      rcases hy with q | q | q
      · exact .inr (.inl q)
      · exact .inl q
      · exact .inr (.inr q)
    rcases this with q | q
    · subst q; constructor <;> omega
    · have := h.rng y q; constructor <;> omega
  · have c := h.cnt k
    rw [List.countP_append] at c ⊢
    rw [List.countP_cons]
    by_cases q : x ≤ (k : Int)
    · rw [if_pos (decide_eq_true q)]; omega
    · omega
theorem Built.park {j : Nat} {w : List Int} (h : Built j w) : Park w := by
  have hl := h.len
  refine ⟨fun x hx => by rw [hl]; exact h.rng x hx, fun k hk => ?_⟩
  have := h.cnt k
  omega
end K36

namespace K36
open PySem PySem.Spec PyProof.Rows L2

/-! ### lists of ints -/
theorem at_int {ns : List Int} {z : Int} (h0 : 0 ≤ z) (h1 : z < (ns.length : Int)) : atI (ns.map V.int) z = some (.int (ns.getD z.toNat 0)) := by
  have hk : z.toNat < ns.length := by omega
  have ez : z = ((z.toNat : Nat) : Int) := by omega
  have q : atI (ns.map V.int) ((z.toNat : Nat) : Int) = some (.int (ns.getD z.toNat 0)) := atI_nat (by
    rw [List.getElem?_map, List.getD_eq_getElem?_getD, List.getElem?_eq_getElem hk]; rfl)
  rw [← ez] at q
  exact q
theorem ix_in {n : Nat} {z : Int} (h0 : 0 ≤ z) (h1 : z < (n : Int)) : ixN n z = some z.toNat := by
  unfold ixN
  rw [if_pos h0, if_pos h1]
theorem atI_getD {α : Type} {xs : List α} {z : Int} {d : α} (h0 : 0 ≤ z) (h1 : z < (xs.length : Int)) : atI xs z = some (xs.getD z.toNat d) := by
  have hk : z.toNat < xs.length := by omega
  unfold atI
  rw [ix_in h0 h1]
  show xs[z.toNat]? = _
  rw [List.getD_eq_getElem?_getD, List.getElem?_eq_getElem hk]
  rfl
theorem get_map_int {ns : List Int} {i : Nat} {x : V} (h : (ns.map V.int)[i]? = some x) : i < ns.length ∧ x = .int (ns.getD i 0) := by
  rw [List.getElem?_map] at h
  cases e : ns[i]? with
  | none => rw [e] at h; cases h
  | some u =>
    rw [e] at h
    have hi := (List.getElem?_eq_some_iff.mp e).1
    refine ⟨hi, ?_⟩
    rw [List.getD_eq_getElem?_getD, e]
    exact (Option.some.inj h).symm
theorem getD_mem {ns : List Int} {i : Nat} (h : i < ns.length) : ns.getD i 0 ∈ ns := by
  rw [List.getD_eq_getElem?_getD, List.getElem?_eq_getElem h]
  exact List.getElem_mem _
theorem map_snoc (r : List Int) (v : Int) : r.map V.int ++ [V.int v] = (r ++ [v]).map V.int := by
  rw [List.map_append]; rfl
theorem Same.new {H : Hp} {p : Addr} (h : H p = none) (o : HO) : Same H (upd H p o) := fun b u q => by rw [upd_ne (ne_of_none q h)]; exact q
/-- a new object is changed: what stood before stands -/
theorem Same.onNew {H H1 : Hp} {p : Addr} (s : Same H H1) (h : H p = none) (o : HO) : Same H (upd H1 p o) := fun b u q => by rw [upd_ne (ne_of_none q h)]; exact s b u q
theorem size_le {n : Nat} (h : n ≤ 1000) : n ≤ sizeLine := Nat.le_of_lt (small1000 h)

/-! ### for over enumerate(list): Pv by the turn -/
theorem for_enum {K : PySem.W.Frag} {a : Addr} {xs : List V} {g : TG} {tb : TS} {D : Ends} {σ : L2.St} {H : Hp} (Pv : Nat → L2.St → Hp → Prop) (h0 : Pv 0 σ H) (hl : ∀ i σ H, Pv i σ H → SqL K H a xs)
    (hs : ∀ (i : Nat) x σ H T, xs[i]? = some x → Pv i σ H → H T = none → g (.ref T) σ (upd H T (.tup [.int (i : Int), x])) fun σ2 H2 => tb { D with nx := Pv (i + 1), ct := Pv (i + 1), bk := D.nx } σ2 H2)
    (hd : ∀ σ H, Pv xs.length σ H → D.nx σ H) : tFor (fun _ H R => R (Ite K a) H) g tb D σ H := by
  refine ⟨fun i m σ H => i + m = xs.length ∧ Pv i σ H, ⟨xs.length, Nat.zero_add _, h0⟩, fun i m σ' H' hw => ?_⟩
  obtain ⟨hm, hp⟩ := hw
  have hL := hl i σ' H' hp
  match m, hm with
  | 0, hm =>
    have e : i = xs.length := hm
    exact Or.inl ⟨⟨xs, hL, Nat.le_of_eq e.symm⟩, hd σ' H' (e ▸ hp)⟩
  | m + 1, hm =>
    have hi : i < xs.length := by omega
    refine Or.inr ⟨⟨xs, xs[i], hL, List.getElem?_eq_getElem hi⟩, Pv (i + 1), fun σ2 H2 hn => ⟨m, Nat.lt_succ_self m, by omega, hn⟩, fun v H2 hy => ?_⟩
    obtain ⟨T, z, rfl, hT, rfl, hz⟩ := hy
    exact hs i z σ' H' T (hz xs hL) hp hT

/-! ### comprehensions that make no objects: the list of f 0, f 1, .. -/
theorem lc_mapR {lo : Int} {n i0 : Nat} {te : TE} {vs : List Nat} {σ : L2.St} {H1 : Hp} {Q : VK} (f : Nat → V) (hn : n ≤ 1000) (hw : ∀ v, wipe ((wipe σ vs).set i0 (some v)) vs = wipe σ vs)
    (hs : ∀ (i : Nat) (H : Hp) (Q : VK), i < n → Same H1 H → Q (f i) H → te ((wipe σ vs).set i0 (some (.int (lo + (i : Int))))) H Q)
    (hd : ∀ D H, H1 D = none → Same H1 H → H D = some (.lst ((List.range n).map f)) → Q (.ref D) H) : tLc (fun _ H R => R (Itr lo n) H) (gName i0) tYes te vs σ H1 Q := by
  intro D hD
  refine lc_range (fun i H => Same H1 H ∧ H D = some (.lst ((List.range i).map f))) ⟨Same.new hD _, upd_same⟩ ?_ ?_
  · rintro i H hi ⟨s, hL⟩
    refine ⟨hw _, hs i H _ hi s ⟨_, hL, ?_, Same.onNew s hD _, ?_⟩⟩
    · rw [List.length_map, List.length_range]
      exact small1000 (by omega)
    · rw [upd_same, List.range_succ, List.map_append]
      rfl
  · rintro H ⟨s, hL⟩
    exact hd D H hD s hL
theorem lc_mapL {K : PySem.W.Frag} {a : Addr} {xs : List V} {i0 : Nat} {te : TE} {vs : List Nat} {σ : L2.St} {H1 : Hp} {D : Addr} {Qd : Hp → Prop} (f : V → V) (hD : H1 D = none) (hn : xs.length ≤ 1000) (hx : SqL K H1 a xs) (hw : ∀ v, wipe ((wipe σ vs).set i0 (some v)) vs = wipe σ vs)
    (hs : ∀ (i : Nat) (x : V) (H : Hp) (Q : VK), xs[i]? = some x → Same H1 H → Q (f x) H → te ((wipe σ vs).set i0 (some x)) H Q)
    (hd : ∀ H, Same H1 H → H D = some (.lst (xs.map f)) → Qd H) : ∃ W : Nat → Nat → Hp → Prop, (∃ m, W 0 m (upd H1 D (.lst []))) ∧ ∀ i m H, W i m H → ((Itl K a).stop i H ∧ Qd H) ∨ ((Itl K a).go i H ∧ ∃ N : Hp → Prop, (∀ H', N H' → ∃ m', m' < m ∧ W (i + 1) m' H') ∧
      ∀ x H', (Itl K a).yld i H x H' → gName i0 x (wipe σ vs) H' fun σ2 H2 => wipe σ2 vs = wipe σ vs ∧ tYes σ2 H2 fun b H3 => if b = true then te σ2 H3 fun y H4 => ∃ acc, H4 D = some (.lst acc) ∧ acc.length < sizeLine ∧ N (upd H4 D (.lst (acc ++ [y]))) else N H3) := by
  refine lc_list (xs := xs) (fun i H => Same H1 H ∧ H D = some (.lst ((xs.take i).map f))) ⟨Same.new hD _, upd_same⟩ (fun i H _ p => p.1.seq hx) ?_ ?_
  · rintro i x H hi ⟨s, hL⟩
    refine ⟨hw _, hs i x H _ hi s ⟨_, hL, ?_, Same.onNew s hD _, ?_⟩⟩
    · rw [List.length_map, List.length_take]
      exact small1000 (by omega)
    · rw [upd_same, List.take_add_one, hi, List.map_append]
      rfl
  · rintro H ⟨s, hL⟩
    rw [List.take_length] at hL
    exact hd H s hL
/-- [x for x in xs if p x] -/
theorem lc_filL {K : PySem.W.Frag} {a : Addr} {xs : List V} {i0 : Nat} {tt : TT} {te : TE} {vs : List Nat} {σ : L2.St} {H1 : Hp} {D : Addr} {Qd : Hp → Prop} (p : V → Bool) (hD : H1 D = none) (hn : xs.length ≤ 1000) (hx : SqL K H1 a xs) (hw : ∀ v, wipe ((wipe σ vs).set i0 (some v)) vs = wipe σ vs)
    (hs : ∀ (i : Nat) (x : V) (H : Hp) (Q : Bool → Hp → Prop), xs[i]? = some x → Same H1 H → Q (p x) H → tt ((wipe σ vs).set i0 (some x)) H Q)
    (he : ∀ (i : Nat) (x : V) (H : Hp) (Q : VK), xs[i]? = some x → Same H1 H → Q x H → te ((wipe σ vs).set i0 (some x)) H Q)
    (hd : ∀ H, Same H1 H → H D = some (.lst (xs.filter p)) → Qd H) : ∃ W : Nat → Nat → Hp → Prop, (∃ m, W 0 m (upd H1 D (.lst []))) ∧ ∀ i m H, W i m H → ((Itl K a).stop i H ∧ Qd H) ∨ ((Itl K a).go i H ∧ ∃ N : Hp → Prop, (∀ H', N H' → ∃ m', m' < m ∧ W (i + 1) m' H') ∧
      ∀ x H', (Itl K a).yld i H x H' → gName i0 x (wipe σ vs) H' fun σ2 H2 => wipe σ2 vs = wipe σ vs ∧ tt σ2 H2 fun b H3 => if b = true then te σ2 H3 fun y H4 => ∃ acc, H4 D = some (.lst acc) ∧ acc.length < sizeLine ∧ N (upd H4 D (.lst (acc ++ [y]))) else N H3) := by
  refine lc_list (xs := xs) (fun i H => Same H1 H ∧ H D = some (.lst ((xs.take i).filter p))) ⟨Same.new hD _, upd_same⟩ (fun i H _ p => p.1.seq hx) ?_ ?_
  · rintro i x H hi ⟨s, hL⟩
    refine ⟨hw _, hs i x H _ hi s ?_⟩
    have et : (xs.take (i + 1)).filter p = (xs.take i).filter p ++ if p x = true then [x] else [] := by
      rw [List.take_add_one, hi, List.filter_append]
      show _ ++ [x].filter p = _
      congr 1
      cases e : p x <;> simp [List.filter, e]
    cases e : p x with
    | true =>
      refine he i x H _ hi s ⟨_, hL, ?_, Same.onNew s hD _, ?_⟩
      · have z := List.length_filter_le p (xs.take i)
        rw [List.length_take] at z
        exact small1000 (by omega)
      · rw [upd_same, et, e]; rfl
    | false =>
      refine ⟨s, ?_⟩
      rw [hL, et, e]
      show _ = some (HO.lst (_ ++ []))
      rw [List.append_nil]
  · rintro H ⟨s, hL⟩
    rw [List.take_length] at hL
    exact hd H s hL

/-! ### a def that a name of the module holds -/
structure Glo (P : Program) (w : World) (K : PySem.W.Frag) (mg : Str → Option Value) (base : Heap) (k : Nat) (x : Str) (f : Addr) (fd : FuncData) (ps : List Str) (sp : Sp) : Prop where
  ok : FnOk P w K mg base CX0 k f fd ps sp
  mgx : mg x = some (.ref f)
  kp : PySem.W.keepIn K (.ref f) = true
  b : Binds K fd ps []
end K36

namespace K36
open PySem PySem.Spec PyProof.Rows L2

/-! ### the text by places -/
def top (i : Nat) : Stmt := PySem.Challenge.pw_countkin_k36_cars_and_codes.main.body.getD i (.Pass ⟨0, 0, 0, 0⟩)
abbrev sFamInit : Stmt := inClass (top 9) 0
abbrev sSure : Stmt := top 10
abbrev sRingInit : Stmt := inClass (top 12) 0
abbrev sCodesInit : Stmt := inClass (top 13) 0
abbrev sCodesOne : Stmt := inClass (top 13) 2
abbrev sCarsInit : Stmt := inClass (top 15) 0
abbrev sCarsOne : Stmt := inClass (top 15) 2
abbrev sCodeOf : Stmt := inClass (top 15) 3
abbrev sOfCode : Stmt := inClass (top 15) 4
abbrev sC2C : Stmt := top 16
abbrev sRound : Stmt := top 17
abbrev sFree : Stmt := top 18
abbrev sD2C : Stmt := top 19

theorem ifT {c : Bool} {A B : Prop} (hc : c = true) (h : A) : if c = true then A else B := by
  rw [if_pos hc]
  exact h
theorem ifF {c : Bool} {A B : Prop} (hc : c = false) (h : B) : if c = true then A else B := by
  rw [hc, if_neg Bool.false_ne_true]
  exact h

/-- the built-ins' names are the built-ins -/
structure Blt (mg : Str → Option Value) : Prop where
  len : mg "len" = none
  range : mg "range" = none
  list : mg "list" = none
  sorted : mg "sorted" = none
  enumerate : mg "enumerate" = none
  isinstance : mg "isinstance" = none
  int : mg "int" = none
  bool : mg "bool" = none
  tuple : mg "tuple" = none
  min : mg "min" = none

/-- a class whose instances the family's __init__ fills -/
structure Kin (K : PySem.W.Frag) (C : Addr) : Prop where
  cl : Cls K C
  nW : NoAttr K C "word"
  nL : NoAttr K C "least"
/-- fields that hide no method -/
def Plain (fs : List (Str × V)) : Prop := ∀ m : Str, ¬ m = "word" → ¬ m = "least" → fs.lookup m = none

/-! ### promises -/
/-- an __init__ over the fresh instance at p, with so many words behind self -/
def spIni (K : PySem.W.Frag) (n : Nat) : Sp := fun vs H Q _ => ∃ (p C dx : Addr) (z : Str) (i : Int), vs = (([.ref p, .str z, .int i] : List V)).take (n + 1) ∧ H p = some (.ins C dx []) ∧ Kin K C ∧
  ∀ fs, Plain fs → Q .non (upd H p (.ins C dx fs))
def spCarsOne (K : PySem.W.Frag) : Sp := fun vs H Q _ => ∃ (x : V) (a : Addr) (ns : List Int), vs = [x, .ref a] ∧ SqL K H a (ns.map V.int) ∧ Park ns ∧ 0 < ns.length ∧ ns.length ≤ 60 ∧ ∀ H', Same H H' → Q (.bl true) H'
def spCodesOne (K : PySem.W.Frag) : Sp := fun vs H Q _ => ∃ (x : V) (a : Addr) (ns : List Int), vs = [x, .ref a] ∧ SqL K H a (ns.map V.int) ∧ CodeOk ns ∧ ns.length ≤ 60 ∧ ∀ H', Same H H' → Q (.bl true) H'
def spSureA (K : PySem.W.Frag) (C : Addr) : Sp := fun vs H Q _ => ∃ (p dx : Addr) (fs : List (Str × V)) (a : Addr) (ns : List Int), vs = [.ref p, .ref a] ∧ H p = some (.ins C dx fs) ∧ Plain fs ∧ SqL K H a (ns.map V.int) ∧ Park ns ∧ 0 < ns.length ∧ ns.length ≤ 60 ∧ ∀ H', Same H H' → Q .non H'
def spSureC (K : PySem.W.Frag) (C : Addr) : Sp := fun vs H Q _ => ∃ (p dx : Addr) (fs : List (Str × V)) (a : Addr) (ns : List Int), vs = [.ref p, .ref a] ∧ H p = some (.ins C dx fs) ∧ Plain fs ∧ SqL K H a (ns.map V.int) ∧ CodeOk ns ∧ ns.length ≤ 60 ∧ ∀ H', Same H H' → Q .non H'
/-- a new list of ints that G holds of -/
def NewL (H : Hp) (G : List Int → Prop) (Q : VK) : Prop := ∀ (H' : Hp) (p : Addr) (r : List Int), G r → Same H H' → H p = none → H' p = some (.lst (r.map V.int)) → Q (.ref p) H'
def spC2C (K : PySem.W.Frag) : Sp := fun vs H Q _ => ∃ (a : Addr) (ns : List Int), vs = [.ref a] ∧ SqL K H a (ns.map V.int) ∧ Park ns ∧ 0 < ns.length ∧ ns.length ≤ 60 ∧ NewL H (fun r => r = steps ns) Q
def spRound (K : PySem.W.Frag) : Sp := fun vs H Q _ => ∃ (a : Addr) (c : List Int) (s : Int), vs = [.ref a, .int s] ∧ SqL K H a (c.map V.int) ∧ c.length ≤ 60 ∧ NewL H (Ring c s) Q
def spFree (K : PySem.W.Frag) : Sp := fun vs H Q _ => ∃ (a : Addr) (ns : List Int), vs = [.ref a] ∧ SqL K H a (ns.map V.int) ∧ ns.length ≤ 60 ∧ (∀ x ∈ ns, 0 ≤ x ∧ x < (ns.length : Int) + 1) ∧
  ∀ (H' : Hp) (f : Int), 0 ≤ f → f ≤ (ns.length : Int) → Park (ns.map (rot ((ns.length : Int) + 1) f)) → Same H H' → Q (.int f) H'
/-- what a code is led back to -/
def Back (c r : List Int) : Prop := r.length = c.length + 1 ∧ Park r ∧ steps r = c
def spD2C (K : PySem.W.Frag) : Sp := fun vs H Q _ => ∃ (a : Addr) (c : List Int), vs = [.ref a] ∧ SqL K H a (c.map V.int) ∧ CodeOk c ∧ c.length ≤ 50 ∧ NewL H (Back c) Q
def spCodeOf (K : PySem.W.Frag) : Sp := fun vs H Q E => ∃ (x : V) (a : Addr), vs = [x, .ref a] ∧ spC2C K [.ref a] H Q E
def spOfCode (K : PySem.W.Frag) : Sp := fun vs H Q E => ∃ (x : V) (a : Addr), vs = [x, .ref a] ∧ spD2C K [.ref a] H Q E

section
variable {P : Program} {w : World} {K : PySem.W.Frag} {mg : Str → Option Value} {base : Heap}

/-! ### __init__ -/
theorem scFam : FnScope ["self", "word", "least"] ["self", "word", "least"] (defScope sFamInit) := ⟨rfl, rfl, rfl, by decide +kernel, rfl, by decide +kernel, by decide +kernel⟩
theorem wl_ : ¬ (("word" : Str) = "least") := by decide +kernel
theorem plain_two (v u : V) : Plain (putF "least" v (putF "word" u [])) := fun m h1 h2 => by
  rw [lookup_putF, if_neg h2, lookup_putF, if_neg h1]; rfl
theorem ok_fam {f : Addr} {fd : FuncData} (F : Fun K "__init__" "Family.__init__" sFamInit f fd) : FnOk P w K mg base CX0 1 f fd ["self", "word", "least"] (spIni K 2) := by
  refine F.ok scFam (fun vs H Q E h => ?_) (fun cdv A outer s H vs Q E hr h => ?_)
  · obtain ⟨p, C, dx, z, i, rfl, _⟩ := h
    rfl
  · obtain ⟨p, C, dx, z, i, rfl, hp, kin, k⟩ := h
    refine ⟨_, pss_cons (ps_fld (pv 0) (pv 1) rfl) (pss_one (ps_fld (pv 0) (pv 2) rfl)), ?_⟩
    refine ⟨_, rfl, _, rfl, p, C, dx, [], rfl, hp, kin.cl, kin.nW, (by show 0 < 1000; decide), ?_⟩
    refine ⟨_, rfl, _, rfl, p, C, dx, _, rfl, upd_same, kin.cl, kin.nL, (by show 1 < 1000; decide), ?_⟩
    rw [upd_upd]
    exact k _ (plain_two _ _)

theorem scRingI : FnScope ["self", "word"] ["self", "word"] (defScope sRingInit) := ⟨rfl, rfl, rfl, by decide +kernel, rfl, by decide +kernel, by decide +kernel⟩
/-- C.__init__ of the class that the module's name x holds, called as a def -/
structure Base (K : PySem.W.Frag) (mg : Str → Option Value) (x : Str) (C g : Addr) (fd : FuncData) (ps : List Str) : Prop where
  mgx : mg x = some (.ref C)
  rd : ClX.CRead K C (.type "type")
  fi : PySem.W.findCls K (.ref C) (.type "type") "__init__" = some (.val (.ref g))
  kp : PySem.W.keepIn K (.ref g) = true
  b : Binds K fd ps []
theorem ok_ring {f g C : Addr} {fd gd : FuncData} (F : Fun K "__init__" "RingFamily.__init__" sRingInit f fd) (B : Base K mg "Family" C g gd ["self", "word", "least"]) (G : FnOk P w K mg base CX0 1 g gd ["self", "word", "least"] (spIni K 2)) :
    FnOk P w K mg base CX0 2 f fd ["self", "word"] (spIni K 1) := by
  refine F.ok scRingI (fun vs H Q E h => ?_) (fun cdv A outer s H vs Q E hr h => ?_)
  · obtain ⟨p, C, dx, z, i, rfl, _⟩ := h
    rfl
  · obtain ⟨p, C', dx, z, i, rfl, hp, kin, k⟩ := h
    refine ⟨_, pss_one (ps_expr (pe_cfn (by rfl) B.mgx B.rd B.fi B.kp G hr B.b pass0 (pa_cons (pv 0) (pa_cons (pv 1) (pa_cons pe_int pa_nil))))), ?_⟩
    exact ⟨_, rfl, _, rfl, p, C', dx, z, 1, rfl, hp, kin, fun fs hf => k fs hf⟩

theorem scCodesI : FnScope ["self"] ["self"] (defScope sCodesInit) := ⟨rfl, rfl, rfl, by decide +kernel, rfl, by decide +kernel, by decide +kernel⟩
theorem ok_codes_init {f g C : Addr} {fd gd : FuncData} (F : Fun K "__init__" "Codes.__init__" sCodesInit f fd) (B : Base K mg "RingFamily" C g gd ["self", "word"]) (G : FnOk P w K mg base CX0 2 g gd ["self", "word"] (spIni K 1)) :
    FnOk P w K mg base CX0 3 f fd ["self"] (spIni K 0) := by
  refine F.ok scCodesI (fun vs H Q E h => ?_) (fun cdv A outer s H vs Q E hr h => ?_)
  · obtain ⟨p, C, dx, z, i, rfl, _⟩ := h
    rfl
  · obtain ⟨p, C', dx, z, i, rfl, hp, kin, k⟩ := h
    refine ⟨_, pss_one (ps_expr (pe_cfn (by rfl) B.mgx B.rd B.fi B.kp G hr B.b pass0 (pa_cons (pv 0) (pa_cons pe_str pa_nil)))), ?_⟩
    exact ⟨_, rfl, p, C', dx, "codes", 1, rfl, hp, kin, fun fs hf => k fs hf⟩
theorem scCarsI : FnScope ["self"] ["self"] (defScope sCarsInit) := ⟨rfl, rfl, rfl, by decide +kernel, rfl, by decide +kernel, by decide +kernel⟩
theorem ok_cars_init {f g C : Addr} {fd gd : FuncData} (F : Fun K "__init__" "Cars.__init__" sCarsInit f fd) (B : Base K mg "RingFamily" C g gd ["self", "word"]) (G : FnOk P w K mg base CX0 2 g gd ["self", "word"] (spIni K 1)) :
    FnOk P w K mg base CX0 3 f fd ["self"] (spIni K 0) := by
  refine F.ok scCarsI (fun vs H Q E h => ?_) (fun cdv A outer s H vs Q E hr h => ?_)
  · obtain ⟨p, C, dx, z, i, rfl, _⟩ := h
    rfl
  · obtain ⟨p, C', dx, z, i, rfl, hp, kin, k⟩ := h
    refine ⟨_, pss_one (ps_expr (pe_cfn (by rfl) B.mgx B.rd B.fi B.kp G hr B.b pass0 (pa_cons (pv 0) (pa_cons pe_str pa_nil)))), ?_⟩
    exact ⟨_, rfl, p, C', dx, "cars", 1, rfl, hp, kin, fun fs hf => k fs hf⟩

/-! ### is_one -/
theorem scCodesOne : FnScope ["self", "thing", "figure"] ["self", "thing"] (defScope sCodesOne) := ⟨rfl, rfl, rfl, by decide +kernel, rfl, by decide +kernel, by decide +kernel⟩
theorem ok_codes_one {f : Addr} {fd : FuncData} (F : Fun K "is_one" "Codes.is_one" sCodesOne f fd) (B : Blt mg) : FnOk P w K mg base CX0 1 f fd ["self", "thing"] (spCodesOne K) := by
  refine F.ok scCodesOne (fun vs H Q E h => ?_) (fun cdv A outer s H vs Q E hr h => ?_)
  · obtain ⟨x, a, ns, rfl, _⟩ := h
    rfl
  · obtain ⟨x, a, ns, rfl, hS, hc, hlen, k⟩ := h
    refine ⟨_, pss_cons (ps_for PassesOwn.never rfl (pi_list (pv 1)) (pg_name (i := 2) scCodesOne.nd rfl (Or.inl rfl))
        (pss_one (ps_if (PW.pt (pw_or (pt_cmpR op_lt (pv 2) pe_int (nomark _)) (pw_or1 (pt_cmpR op_gt (pv 2) (pe_op op_add (pe_callB call_len_seq (by rfl) B.len PySem.boot_len (pa_cons (pv 1) pa_nil)) pe_int) (nomark _)))))
          (pss_one (ps_ret pe_bl)) pss_nil)))
      (pss_one (ps_ret pe_bl)), ?_⟩
    refine ⟨_, rfl, a, rfl, ⟨_, hS⟩, for_list (K := K) (a := a) (xs := ns.map V.int) (fun i σ H' => ∃ v : Option V, σ = [some x, some (.ref a), v] ∧ Same H H') ⟨none, rfl, Same.refl H⟩ (fun i σ H' _ ⟨_, _, s0⟩ => s0.seq hS) ?_ ?_⟩
    · rintro i y σ H' hi ⟨v, rfl, s0⟩
      obtain ⟨hi', rfl⟩ := get_map_int hi
      have hb := hc _ (getD_mem hi')
      refine ⟨_, rfl, _, _, rfl, rfl, _, rfl, ?_⟩
      refine ifF (decide_eq_false (by omega)) ?_
      refine ⟨_, rfl, _, rfl, a, _, rfl, .inl (s0.seq hS), _, _, rfl, rfl, _, _, rfl, rfl, _, rfl, ?_⟩
      refine ifF (decide_eq_false (by rw [List.length_map]; omega)) ?_
      exact ⟨_, rfl, s0⟩
    · rintro σ H' ⟨v, rfl, s0⟩
      exact k H' s0

theorem scCarsOne : FnScope ["self", "thing", "k", "wish"] ["self", "thing"] (defScope sCarsOne) := ⟨rfl, rfl, rfl, by decide +kernel, rfl, by decide +kernel, by decide +kernel⟩
theorem ok_cars_one {f : Addr} {fd : FuncData} (F : Fun K "is_one" "Cars.is_one" sCarsOne f fd) (B : Blt mg) : FnOk P w K mg base CX0 1 f fd ["self", "thing"] (spCarsOne K) := by
  refine F.ok scCarsOne (fun vs H Q E h => ?_) (fun cdv A outer s H vs Q E hr h => ?_)
  · obtain ⟨x, a, ns, rfl, _⟩ := h
    rfl
  · obtain ⟨x, a, ns, rfl, hS, hp, h0, hlen, k⟩ := h
    refine ⟨_, pss_cons (ps_for PassesOwn.never rfl (pi_enum (by rfl) B.enumerate (pa_cons (pe_callB cr_sorted (by rfl) B.sorted (by decide +kernel) (pa_cons (pv 1) pa_nil)) pa_nil))
        (pg_tup rfl (pgs_cons (pg_name (i := 2) scCarsOne.nd rfl (Or.inl rfl)) (pgs_cons (pg_name (i := 3) scCarsOne.nd rfl (Or.inl rfl)) pgs_nil)))
        (pss_one (ps_if (PW.pt (pw_or (pt_cmpR op_lt (pv 3) pe_int (nomark _)) (pw_or1 (pt_cmpR op_gt (pv 3) (pv 2) (nomark _)))))
          (pss_one (ps_ret pe_bl)) pss_nil)))
      (pss_one (ps_ret (pe_cmpR op_gt (pe_callB call_len_seq (by rfl) B.len PySem.boot_len (pa_cons (pv 1) pa_nil)) pe_int (nomark _)))), ?_⟩
    refine ⟨_, rfl, a, ns, rfl, hS, by omega, fun ns' p hperm hpw hn => ?_⟩
    have hpl := hperm.length_eq
    have hsorted := park_sorted hp hperm hpw
    have sN : Same H (upd H p (.lst (ns'.map V.int))) := Same.new hn _
    refine ⟨p, _, rfl, SqL.of upd_same, for_enum (K := K) (a := p) (xs := ns'.map V.int) (fun i σ H' => ∃ (v u : Option V), σ = [some x, some (.ref a), v, u] ∧ Same H H' ∧ H' p = some (.lst (ns'.map V.int))) ⟨none, none, rfl, sN, upd_same⟩ (fun i σ H' ⟨_, _, _, _, hL⟩ => SqL.of hL) ?_ ?_⟩
    · rintro i y σ H' T hi ⟨v, u, rfl, s0, hL⟩ hT
      obtain ⟨hi', rfl⟩ := get_map_int hi
      have hb := hsorted i hi'
      have pT : p ≠ T := ne_of_none hL hT
      refine ⟨T, _, rfl, SqT.of upd_same, rfl, _, _, rfl, _, _, rfl, rfl, ?_⟩
      refine ⟨_, rfl, _, _, rfl, rfl, _, rfl, ?_⟩
      refine ifF (decide_eq_false (by omega)) ?_
      refine ⟨_, rfl, _, rfl, _, _, rfl, rfl, _, rfl, ?_⟩
      refine ifF (decide_eq_false (by omega)) ?_
      exact ⟨_, _, rfl, s0.trans (Same.new hT _), by rw [upd_ne pT]; exact hL⟩
    · rintro σ H' ⟨v, u, rfl, s0, hL⟩
      refine ⟨_, rfl, a, _, rfl, .inl (s0.seq hS), _, _, rfl, rfl, ?_⟩
      have e : decide ((0 : Int) < (((ns.map V.int).length : Nat) : Int)) = true := decide_eq_true (by rw [List.length_map]; omega)
      show Q (.bl (decide ((0 : Int) < (((ns.map V.int).length : Nat) : Int)))) H'
      rw [e]
      exact k H' s0

/-! ### sure -/
theorem scSure : FnScope ["kin", "thing"] ["kin", "thing"] (defScope sSure) := ⟨rfl, rfl, rfl, by decide +kernel, rfl, by decide +kernel, by decide +kernel⟩
theorem no_is_one {fs : List (Str × V)} (h : Plain fs) : fs.lookup ("is_one" : Str) = none := h _ (by decide +kernel) (by decide +kernel)
theorem no_code_of {fs : List (Str × V)} (h : Plain fs) : fs.lookup ("code_of" : Str) = none := h _ (by decide +kernel) (by decide +kernel)
theorem no_of_code {fs : List (Str × V)} (h : Plain fs) : fs.lookup ("of_code" : Str) = none := h _ (by decide +kernel) (by decide +kernel)
theorem ok_sureA {f g C : Addr} {fd gd : FuncData} (F : Fun K "sure" "sure" sSure f fd) (kin : Kin K C) (m : Meth K C "is_one" g) (G : FnOk P w K mg base CX0 1 g gd ["self", "thing"] (spCarsOne K)) (b : Binds K gd ["self", "thing"] []) :
    FnOk P w K mg base CX0 2 f fd ["kin", "thing"] (spSureA K C) := by
  refine F.ok scSure (fun vs H Q E h => ?_) (fun cdv A outer s H vs Q E hr h => ?_)
  · obtain ⟨p, dx, fs, a, ns, rfl, _⟩ := h
    rfl
  · obtain ⟨p, dx, fs, a, ns, rfl, hp, hf, hS, hk, h0, hlen, k⟩ := h
    refine ⟨_, pss_one (ps_if (pt_not (pt_val (pe_meth (pv 0) kin.cl m G hr b .nil pass0 (pa_cons (pv 1) pa_nil)))) (pss_one ps_never) pss_nil), ?_⟩
    exact ⟨_, rfl, p, dx, fs, rfl, hp, no_is_one hf, _, rfl, _, a, ns, rfl, hS, hk, h0, hlen, fun H' s0 => ⟨true, rfl, k H' s0⟩⟩
theorem ok_sureC {f g C : Addr} {fd gd : FuncData} (F : Fun K "sure" "sure" sSure f fd) (kin : Kin K C) (m : Meth K C "is_one" g) (G : FnOk P w K mg base CX0 1 g gd ["self", "thing"] (spCodesOne K)) (b : Binds K gd ["self", "thing"] []) :
    FnOk P w K mg base CX0 2 f fd ["kin", "thing"] (spSureC K C) := by
  refine F.ok scSure (fun vs H Q E h => ?_) (fun cdv A outer s H vs Q E hr h => ?_)
  · obtain ⟨p, dx, fs, a, ns, rfl, _⟩ := h
    rfl
  · obtain ⟨p, dx, fs, a, ns, rfl, hp, hf, hS, hk, hlen, k⟩ := h
    refine ⟨_, pss_one (ps_if (pt_not (pt_val (pe_meth (pv 0) kin.cl m G hr b .nil pass0 (pa_cons (pv 1) pa_nil)))) (pss_one ps_never) pss_nil), ?_⟩
    exact ⟨_, rfl, p, dx, fs, rfl, hp, no_is_one hf, _, rfl, _, a, ns, rfl, hS, hk, hlen, fun H' s0 => ⟨true, rfl, k H' s0⟩⟩
end
end K36

namespace K36
open PySem PySem.Spec PyProof.Rows L2
section
variable {P : Program} {w : World} {K : PySem.W.Frag} {mg : Str → Option Value} {base : Heap}

/-- a new instance whose __init__ has filled it -/
theorem Same.kin {H : Hp} {x dx C : Addr} {fs : List (Str × V)} (nx : H x = none) (nd : H dx = none) : Same H (upd (upd (upd H dx (.own x)) x (.ins C dx [])) x (.ins C dx fs)) := fun b o e => by
  rw [upd_ne (ne_of_none e nx), upd_ne (ne_of_none e nx), upd_ne (ne_of_none e nd)]
  exact e
/-- what a class that is made here has -/
structure Made (P : Program) (w : World) (K : PySem.W.Frag) (mg : Str → Option Value) (base : Heap) (x : Str) (C g : Addr) (fd : FuncData) : Prop where
  mgx : mg x = some (.ref C)
  mk_ : Mk K C g
  kin : Kin K C
  ok : FnOk P w K mg base CX0 3 g fd ["self"] (spIni K 0)
  b : Binds K fd ["self"] []

theorem ixK {X : Cx} {K : PySem.W.Frag} (h : X.K = K) : IxR X (rIxL K) := by subst h; exact ix_list
/-! ### cars_to_code -/
theorem scC2C : FnScope ["thing", "round_many", "k"] ["thing"] (defScope sC2C) := ⟨rfl, rfl, rfl, by decide +kernel, rfl, by decide +kernel, by decide +kernel⟩
theorem steps_map (w : List Int) : (List.range (w.length - 1)).map (fun i => V.int ((w.getD (i + 1) 0 - w.getD i 0) % ((w.length : Int) + 1))) = (steps w).map V.int := by
  unfold steps
  rw [List.map_map]
  rfl
theorem ok_c2c {f g C fS : Addr} {fd gd fdS : FuncData} (F : Fun K "cars_to_code" "cars_to_code" sC2C f fd) (B : Blt mg) (M : Made P w K mg base "Cars" C g gd)
    (S : Glo P w K mg base 2 "sure" fS fdS ["kin", "thing"] (spSureA K C)) : FnOk P w K mg base CX0 5 f fd ["thing"] (spC2C K) := by
  refine F.ok scC2C (fun vs H Q E h => ?_) (fun cdv A outer s H vs Q E hr h => ?_)
  · obtain ⟨a, ns, rfl, _⟩ := h
    rfl
  · obtain ⟨a, ns, rfl, hS, hk, h0, hlen, q⟩ := h
    have hr2 : Room 2 _ := hr.mono (by decide)
    refine ⟨_, pss_cons (ps_expr (pe_call S.ok hr2 (by rfl) S.mgx S.kp S.b .nil pass0 (pa_cons (pe_make0 M.mk_ M.ok hr (by rfl) M.mgx M.b .nil pass0) (pa_cons (pv 0) pa_nil))))
      (pss_cons (ps_set (i := 1) scC2C.nd rfl (Or.inr rfl) (pe_op op_add (pe_callB call_len_seq (by rfl) B.len PySem.boot_len (pa_cons (pv 0) pa_nil)) pe_int))
      (pss_one (ps_ret (pe_lc (own := [("k", 2)]) (g := gName 2) (tt := tYes) rfl scC2C.nd (pi_range2 (by rfl) B.range (pa_cons pe_int (pa_cons (pe_callB call_len_seq (by rfl) B.len PySem.boot_len (pa_cons (pv 0) pa_nil)) pa_nil)))
        (blkOk_by (N := ["thing", "round_many", "k"]) (sc := defScope sC2C) (by decide +kernel)) (fun _ _ _ _ _ => pg_name (i := 2) scC2C.nd rfl (Or.inl rfl)) (fun _ _ _ _ _ => pts_nil)
        (fun _ _ _ _ _ => pe_op op_mod (pe_op op_sub (pe_ix (ixK (K := K) rfl) (pv 0) (pv 2) (fun _ _ => rfl)) (pe_ix (ixK (K := K) rfl) (pv 0) (pe_op op_sub (pv 2) pe_int) (fun _ _ => rfl))) (pv 1)))))), ?_⟩
    have hl : (ns.map V.int).length = ns.length := List.length_map _
    intro x dx nx ndx nex
    refine ⟨x, C, dx, "", 0, rfl, upd_same, M.kin, fun fs hf => ⟨rfl, ?_⟩⟩
    have s1 := Same.kin (C := C) (fs := fs) nx ndx
    refine ⟨_, rfl, x, dx, fs, a, ns, rfl, upd_same, hf, s1.seq hS, hk, h0, hlen, fun H2 s2 => ?_⟩
    have s02 := s1.trans s2
    refine ⟨_, rfl, a, _, rfl, .inl (s02.seq hS), _, _, rfl, rfl, ?_⟩
    refine ⟨_, rfl, a, _, rfl, .inl (s02.seq hS), 1, _, rfl, (by rw [hl]; omega), ?_⟩
    refine lc_mapR (fun i => V.int ((ns.getD (i + 1) 0 - ns.getD i 0) % ((ns.length : Int) + 1))) (by rw [hl]; omega) (fun _ => rfl) ?_ ?_
    · intro i H Q' hi s3 q'
      rw [hl] at hi
      have hq := s02.trans s3
      refine ⟨_, rfl, _, rfl, a, _, _, _, rfl, rfl, hq.seq hS, at_int (z := 1 + (i : Int)) (by omega) (by omega), ?_⟩
      refine ⟨_, rfl, _, rfl, _, _, rfl, rfl, a, _, _, _, rfl, rfl, hq.seq hS, at_int (z := 1 + (i : Int) - 1) (by omega) (by omega), ?_⟩
      refine ⟨_, _, rfl, rfl, _, rfl, _, _, rfl, rfl, (by show (0 : Int) < (((ns.map V.int).length : Nat) : Int) + 1; omega), ?_⟩
      have e1 : (1 + (i : Int)).toNat = i + 1 := by omega
      have e2 : (1 + (i : Int) - 1).toNat = i := by omega
      rw [e1, e2, hl]
      exact q'
    · intro D H3 hD s3 hL
      have en : ((((ns.map V.int).length : Nat) : Int) - 1).toNat = ns.length - 1 := by rw [hl]; omega
      rw [en, steps_map] at hL
      exact q H3 D (steps ns) rfl (s02.trans s3) (s02.free hD) hL
theorem scCodeOf : FnScope ["self", "thing"] ["self", "thing"] (defScope sCodeOf) := ⟨rfl, rfl, rfl, by decide +kernel, rfl, by decide +kernel, by decide +kernel⟩
theorem ok_code_of {f g : Addr} {fd gd : FuncData} (F : Fun K "code_of" "Cars.code_of" sCodeOf f fd) (G : Glo P w K mg base 5 "cars_to_code" g gd ["thing"] (spC2C K)) : FnOk P w K mg base CX0 6 f fd ["self", "thing"] (spCodeOf K) := by
  refine F.ok scCodeOf (fun vs H Q E h => ?_) (fun cdv A outer s H vs Q E hr h => ?_)
  · obtain ⟨x, a, rfl, _⟩ := h
    rfl
  · obtain ⟨x, a, rfl, h⟩ := h
    exact ⟨_, pss_one (ps_ret (pe_call G.ok hr (by rfl) G.mgx G.kp G.b .nil pass0 (pa_cons (pv 1) pa_nil))), ⟨_, rfl, h⟩⟩

/-! ### round_ring -/
theorem scRound : FnScope ["code", "start", "wishes", "step"] ["code", "start"] (defScope sRound) := ⟨rfl, rfl, rfl, by decide +kernel, rfl, by decide +kernel, by decide +kernel⟩
theorem at_last_int {r : List Int} {i : Nat} (h : r.length = i + 1) : atI (r.map V.int) (-1) = some (.int (r.getD i 0)) := by
  have e : r = r.take i ++ [r.getD i 0] := by
    have hi : i < r.length := by omega
    have q : r.take (i + 1) = r := List.take_of_length_le (by omega)
    have q2 : r.take (i + 1) = r.take i ++ [r.getD i 0] := by
      rw [List.take_add_one, List.getD_eq_getElem?_getD, List.getElem?_eq_getElem hi]; rfl
    rw [← q2, q]
  have z : r.map V.int = (r.take i).map V.int ++ [V.int (r.getD i 0)] := by
    conv => lhs; rw [e]
    rw [List.map_append]; rfl
  rw [z]
  exact atI_last _ _
theorem ok_round {f : Addr} {fd : FuncData} (F : Fun K "round_ring" "round_ring" sRound f fd) (B : Blt mg) : FnOk P w K mg base CX0 1 f fd ["code", "start"] (spRound K) := by
  refine F.ok scRound (fun vs H Q E h => ?_) (fun cdv A outer s H vs Q E hr h => ?_)
  · obtain ⟨a, c, s, rfl, _⟩ := h
    rfl
  · obtain ⟨a, c, s0, rfl, hS, hlen, q⟩ := h
    refine ⟨_, pss_cons (ps_set (i := 2) scRound.nd rfl (Or.inl rfl) (pe_lst (pa_cons (pv 1) pa_nil)))
      (pss_cons (ps_for PassesOwn.never rfl (pi_list (pv 0)) (pg_name (i := 3) scRound.nd rfl (Or.inl rfl))
        (pss_one (ps_expr (pe_bm PySem.F.plainAttrs_list PySem.F.slot_list_append PySem.F.type_list_append mt_append (pv 2)
          (pa_cons (pe_op op_mod (pe_op op_add (pe_ix ix_list (pv 2) (pe_un un_neg pe_int) (fun _ _ => rfl)) (pv 3)) (pe_op op_add (pe_callB call_len_seq (by rfl) B.len PySem.boot_len (pa_cons (pv 0) pa_nil)) pe_int)) pa_nil)))))
      (pss_one (ps_ret (pv 2)))), ?_⟩
    have hl : (c.map V.int).length = c.length := List.length_map _
    refine ⟨_, rfl, (by show 1 ≤ sizeLine; decide), fun p hp => ?_⟩
    have sN : Same H (upd H p (.lst [V.int s0])) := Same.new hp _
    refine ⟨_, rfl, a, rfl, ⟨_, sN.seq hS⟩, for_list (K := K) (a := a) (xs := c.map V.int) (fun i σ H' => ∃ (v : Option V) (r : List Int), σ = [some (.ref a), some (.int s0), some (.ref p), v] ∧ Same H H' ∧ RingTo c s0 i r ∧ H' p = some (.lst (r.map V.int)))
      ⟨none, [s0], rfl, sN, RingTo.zero c s0, upd_same⟩ (fun i σ H' _ ⟨_, _, _, s1, _⟩ => s1.seq hS) ?_ ?_⟩
    · rintro i y σ H' hi ⟨v, r, rfl, s1, hr', hL⟩
      obtain ⟨hi', rfl⟩ := get_map_int hi
      have hrl := hr'.len
      refine ⟨_, rfl, .inl ⟨rfl, _, SqL.of hL⟩, _, rfl, 1, rfl, p, _, _, _, rfl, rfl, SqL.of hL, at_last_int hrl, ?_⟩
      refine ⟨_, rfl, _, _, rfl, rfl, _, rfl, a, _, rfl, .inl (s1.seq hS), _, _, rfl, rfl, _, _, rfl, rfl, (by show (0 : Int) < (((c.map V.int).length : Nat) : Int) + 2; omega), ?_⟩
      refine ⟨p, _, _, rfl, rfl, hL, (by rw [List.length_map]; exact small1000 (by omega)), ?_⟩
      refine ⟨_, _, rfl, Same.onNew s1 hp _, hr'.step, ?_⟩
      rw [upd_same, map_snoc, hl]
    · rintro σ H' ⟨v, r, rfl, s1, hr', hL⟩
      rw [hl] at hr'
      exact ⟨_, rfl, q H' p r hr'.all s1 hp hL⟩

/-! ### left_free -/
theorem scFree : FnScope ["wishes", "places", "taken", "wish", "place"] ["wishes"] (defScope sFree) := ⟨rfl, rfl, rfl, by decide +kernel, rfl, by decide +kernel, by decide +kernel⟩
theorem flat_rep (n : Nat) (x : V) : (List.replicate n [x]).flatten = List.replicate n x := by
  induction n with
  | zero => rfl
  | succ n ih => rw [List.replicate_succ, List.flatten_cons, ih, List.replicate_succ]; rfl
theorem at_bool {T : List Bool} {z : Int} (h0 : 0 ≤ z) (h1 : z < (T.length : Int)) : atI (T.map V.bl) z = some (.bl (T.getD z.toNat false)) := by
  have hk : z.toNat < T.length := by omega
  have ez : z = ((z.toNat : Nat) : Int) := by omega
  have q : atI (T.map V.bl) ((z.toNat : Nat) : Int) = some (.bl (T.getD z.toNat false)) := atI_nat (by
    rw [List.getElem?_map, List.getD_eq_getElem?_getD, List.getElem?_eq_getElem hk]; rfl)
  rw [← ez] at q
  exact q
theorem first_false (T : List Bool) (g : Nat) (hg : g < T.length) (hf : T.getD g false = false) : ∃ f : Nat, f < T.length ∧ T.getD f false = false ∧ ∀ m, m < f → T.getD m false = true := by
  induction g using Nat.strongRecOn with
  | ind g ih =>
    by_cases h : ∃ m, m < g ∧ T.getD m false = false
    · obtain ⟨m, hm, e⟩ := h
      exact ih m hm (by omega) e
    · refine ⟨g, hg, hf, fun m hm => ?_⟩
      cases e : T.getD m false with
      | true => rfl
      | false => exact absurd ⟨m, hm, e⟩ h
theorem get_map_bl {T : List Bool} {i : Nat} {x : V} (h : (T.map V.bl)[i]? = some x) : i < T.length ∧ x = .bl (T.getD i false) := by
  rw [List.getElem?_map] at h
  cases e : T[i]? with
  | none => rw [e] at h; cases h
  | some u =>
    rw [e] at h
    have hi := (List.getElem?_eq_some_iff.mp e).1
    refine ⟨hi, ?_⟩
    rw [List.getD_eq_getElem?_getD, e]
    exact (Option.some.inj h).symm
theorem flat_bools (T : List Bool) : (T.map V.bl).all flatV = true := by
  rw [List.all_map, List.all_eq_true]
  intro b _
  rfl
theorem ok_free {f : Addr} {fd : FuncData} (F : Fun K "left_free" "left_free" sFree f fd) (B : Blt mg) : FnOk P w K mg base CX0 1 f fd ["wishes"] (spFree K) := by
  refine F.ok scFree (fun vs H Q E h => ?_) (fun cdv A outer s H vs Q E hr h => ?_)
  · obtain ⟨a, ns, rfl, _⟩ := h
    rfl
  · obtain ⟨a, ns, rfl, hS, hlen, hb, q⟩ := h
    refine ⟨_, pss_cons (ps_set (i := 1) scFree.nd rfl (Or.inl rfl) (pe_op op_add (pe_callB call_len_seq (by rfl) B.len PySem.boot_len (pa_cons (pv 0) pa_nil)) pe_int))
      (pss_cons (ps_set (i := 2) scFree.nd rfl (Or.inl rfl) (pe_op op_rep (pe_lst (pa_cons pe_bl pa_nil)) (pv 1)))
      (pss_cons (ps_for PassesOwn.never rfl (pi_list (pv 0)) (pg_name (i := 3) scFree.nd rfl (Or.inl rfl))
        (pss_cons (ps_set (i := 4) scFree.nd rfl (Or.inl rfl) (pv 3))
        (pss_cons (ps_while PassesOwn.never (pt_val (pe_ix ix_list (pv 2) (pv 4) (fun _ _ => rfl)))
          (pss_one (ps_set (i := 4) scFree.nd rfl (Or.inl rfl) (pe_op op_mod (pe_op op_add (pv 4) pe_int) (pv 1)))))
        (pss_one (ps_asg pe_bl (pg_sub (pv 2) (pv 4) set_list))))))
      (pss_one (ps_ret (pe_bm PySem.F.plainAttrs_list PySem.F.slot_list_index PySem.F.type_list_index mt_index (pv 2) (pa_cons pe_bl pa_nil)))))), ?_⟩
    have hl : (ns.map V.int).length = ns.length := List.length_map _
    refine ⟨_, rfl, a, _, rfl, .inl hS, _, _, rfl, rfl, ?_⟩
    refine ⟨(by show 1 ≤ sizeLine; decide), fun l hl0 => ?_⟩
    refine ⟨_, rfl, l, _, _, rfl, rfl, upd_same, (by rw [hl]; omega), (by rw [hl]; omega), (by
      show 1 * ((((ns.map V.int).length : Nat) : Int) + 1).toNat ≤ sizeLine
      rw [hl]; exact size_le (by omega)), fun p hp => ?_⟩
    have sL : Same H (upd H l (.lst [V.bl false])) := Same.new hl0 _
    have hp0 : H p = none := sL.free hp
    have sN := sL.trans (Same.new hp (.lst (List.replicate ((((ns.map V.int).length : Nat) : Int) + 1).toNat [V.bl false]).flatten))
    have eM : ((((ns.map V.int).length : Nat) : Int) + 1) = ((ns.length : Int) + 1) := by rw [hl]
    have em : ((ns.length : Int) + 1).toNat = ns.length + 1 := by omega
    have ec : (((ns.length + 1 : Nat)) : Int) = (ns.length : Int) + 1 := by omega
    refine ⟨_, rfl, a, rfl, ⟨_, sN.seq hS⟩, for_list (K := K) (a := a) (xs := ns.map V.int) (fun i σ H' => ∃ (v u : Option V) (T : List Bool), σ = [some (.ref a), some (.int ((ns.length : Int) + 1)), some (.ref p), v, u] ∧ Same H H' ∧ RInv (ns.length + 1) T (ns.take i) ∧ H' p = some (.lst (T.map V.bl)))
      ⟨none, none, List.replicate (ns.length + 1) false, (by rw [← eM]; rfl), sN, RInv.zero _, (by rw [upd_same, flat_rep, eM, em, List.map_replicate])⟩ (fun i σ H' _ ⟨_, _, _, _, s1, _⟩ => s1.seq hS) ?_ ?_⟩
    · rintro i y σ H' hi ⟨v, u, T, rfl, s1, hT, hL⟩
      obtain ⟨hi', rfl⟩ := get_map_int hi
      have hx := hb _ (getD_mem hi')
      have hTl := hT.len
      obtain ⟨g, hg, hgf⟩ := hT.some_free (by rw [List.length_take]; omega)
      refine ⟨_, rfl, ?_⟩
      refine ⟨fun m σ H'' => H' = H'' ∧ ∃ pl : Int, σ = [some (.ref a), some (.int ((ns.length : Int) + 1)), some (.ref p), some (.int (ns.getD i 0)), some (.int pl)] ∧ Way (ns.length + 1) T (ns.getD i 0) pl ∧ m = gap (ns.length + 1) g pl,
        ⟨_, rfl, _, rfl, Way.zero hx.1 (by omega), rfl⟩, ?_⟩
      rintro m σ H'' ⟨rfl, pl, rfl, hw, rfl⟩
      have p0 := hw.p0
      have p1 := hw.p1
      refine ⟨_, rfl, _, rfl, p, _, _, _, rfl, rfl, SqL.of hL, at_bool p0 (by rw [hTl]; exact p1), _, rfl, ?_⟩
      cases ht : T.getD pl.toNat false with
      | true =>
        refine ifT rfl ⟨fun σ' H'' => H' = H'' ∧ ∃ pl' : Int, σ' = [some (.ref a), some (.int ((ns.length : Int) + 1)), some (.ref p), some (.int (ns.getD i 0)), some (.int pl')] ∧ Way (ns.length + 1) T (ns.getD i 0) pl' ∧ gap (ns.length + 1) g pl' < gap (ns.length + 1) g pl, fun σ' H'' ⟨e1, pl', e2, w', lt'⟩ => ⟨_, lt', e1, pl', e2, w', rfl⟩, ?_⟩
        refine ⟨_, rfl, _, _, rfl, rfl, _, rfl, _, _, rfl, rfl, (by show (0 : Int) < (ns.length : Int) + 1; omega), rfl, _, rfl, ?_, ?_⟩
        · rw [← ec]; exact hw.step ht
        · rw [← ec]; exact gap_less hw hg hgf ht
      | false =>
        refine ifF rfl ?_
        refine ⟨_, rfl, _, rfl, p, _, pl, pl.toNat, rfl, rfl, hL, ix_in p0 (by rw [List.length_map, hTl]; exact p1), ?_⟩
        refine ⟨_, _, T.set pl.toNat true, rfl, Same.onNew s1 hp0 _, ?_, ?_⟩
        · have e : ns.take (i + 1) = ns.take i ++ [ns.getD i 0] := by
            rw [List.take_add_one, List.getD_eq_getElem?_getD, List.getElem?_eq_getElem hi']; rfl
          rw [e]
          exact hT.step hx.1 (by omega) hw ht
        · rw [upd_same, List.map_set]
    · rintro σ H' ⟨v, u, T, rfl, s1, hT, hL⟩
      rw [hl, List.take_length] at hT
      obtain ⟨g, hg, hgf⟩ := hT.some_free (by omega)
      have hTl := hT.len
      obtain ⟨f0, hf0, hff, hbef⟩ := first_false T g (by omega) hgf
      have hpark := hT.last rfl rfl (fun x hx => by rw [ec]; exact hb x hx) (by omega) hff
      rw [ec] at hpark
      refine ⟨_, rfl, .inl ⟨rfl, _, SqL.of hL⟩, p, _, _, f0, .bl false, rfl, rfl, SqL.of hL, rfl, flat_bools T, ?_, rfl, ?_, ?_⟩
      · rw [List.getElem?_map, List.getElem?_eq_getElem hf0]
        rw [List.getD_eq_getElem?_getD, List.getElem?_eq_getElem hf0] at hff
        exact congrArg (fun b => some (V.bl b)) hff
      · intro m z hm hz
        obtain ⟨_, rfl⟩ := get_map_bl hz
        rw [hbef m hm]
        rfl
      · exact q H' (f0 : Int) (by omega) (by omega) hpark s1

/-! ### code_to_cars -/
theorem scD2C : FnScope ["thing"] ["thing"] (defScope sD2C) := ⟨rfl, rfl, rfl, by decide +kernel, rfl, by decide +kernel, by decide +kernel⟩
theorem ok_d2c {f g C fS fR fL : Addr} {fd gd fdS fdR fdL : FuncData} (F : Fun K "code_to_cars" "code_to_cars" sD2C f fd) (B : Blt mg) (M : Made P w K mg base "Codes" C g gd)
    (S : Glo P w K mg base 2 "sure" fS fdS ["kin", "thing"] (spSureC K C)) (R : Glo P w K mg base 1 "round_ring" fR fdR ["code", "start"] (spRound K)) (L : Glo P w K mg base 1 "left_free" fL fdL ["wishes"] (spFree K)) :
    FnOk P w K mg base CX0 5 f fd ["thing"] (spD2C K) := by
  refine F.ok scD2C (fun vs H Q E h => ?_) (fun cdv A outer s H vs Q E hr h => ?_)
  · obtain ⟨a, ns, rfl, _⟩ := h
    rfl
  · obtain ⟨a, c, rfl, hS, hk, hlen, q⟩ := h
    have hr2 : Room 2 _ := hr.mono (by decide)
    have hr1 : Room 1 _ := hr.mono (by decide)
    refine ⟨_, pss_cons (ps_expr (pe_call S.ok hr2 (by rfl) S.mgx S.kp S.b .nil pass0 (pa_cons (pe_make0 M.mk_ M.ok hr (by rfl) M.mgx M.b .nil pass0) (pa_cons (pv 0) pa_nil))))
      (pss_one (ps_ret (pe_call R.ok hr1 (by rfl) R.mgx R.kp R.b .nil pass0 (pa_cons (pv 0) (pa_cons (pe_op op_sub (pe_op op_add (pe_callB call_len_seq (by rfl) B.len PySem.boot_len (pa_cons (pv 0) pa_nil)) pe_int)
        (pe_call L.ok hr1 (by rfl) L.mgx L.kp L.b .nil pass0 (pa_cons (pe_call R.ok hr1 (by rfl) R.mgx R.kp R.b .nil pass0 (pa_cons (pv 0) (pa_cons pe_int pa_nil))) pa_nil))) pa_nil))))), ?_⟩
    have hl : (c.map V.int).length = c.length := List.length_map _
    intro x dx nx ndx nex
    refine ⟨x, C, dx, "", 0, rfl, upd_same, M.kin, fun fs hf => ⟨rfl, ?_⟩⟩
    have s1 := Same.kin (C := C) (fs := fs) nx ndx
    refine ⟨_, rfl, x, dx, fs, a, c, rfl, upd_same, hf, s1.seq hS, hk, by omega, fun H2 s2 => ?_⟩
    have s02 := s1.trans s2
    refine ⟨_, rfl, _, rfl, a, _, rfl, .inl (s02.seq hS), _, _, rfl, rfl, ?_⟩
    refine ⟨_, rfl, a, c, 0, rfl, s02.seq hS, by omega, fun H3 p3 r3 g3 s3 n3 h3 => ?_⟩
    have rng := g3.range (Int.le_refl 0) (by omega)
    have l3 := g3.len
    refine ⟨p3, r3, rfl, SqL.of h3, by omega, fun y hy => by have := rng y hy; omega, fun H4 f f0 f1 hpark s4 => ?_⟩
    have s04 := (s02.trans s3).trans s4
    refine ⟨_, _, rfl, rfl, a, c, _, rfl, s04.seq hS, by omega, fun H5 p5 r5 g5 s5 n5 h5 => ?_⟩
    rw [hl] at g5
    have er := Ring.rot g3 g5 f0 (by omega)
    have em : ((r3.length : Int) + 1) = (c.length : Int) + 2 := by omega
    rw [em, ← er] at hpark
    exact q H5 p5 r5 ⟨g5.len, hpark, g5.steps hk⟩ (s04.trans s5) (s04.free n5) h5
theorem scOfCode : FnScope ["self", "code"] ["self", "code"] (defScope sOfCode) := ⟨rfl, rfl, rfl, by decide +kernel, rfl, by decide +kernel, by decide +kernel⟩
theorem ok_of_code {f g : Addr} {fd gd : FuncData} (F : Fun K "of_code" "Cars.of_code" sOfCode f fd) (G : Glo P w K mg base 5 "code_to_cars" g gd ["thing"] (spD2C K)) : FnOk P w K mg base CX0 6 f fd ["self", "code"] (spOfCode K) := by
  refine F.ok scOfCode (fun vs H Q E h => ?_) (fun cdv A outer s H vs Q E hr h => ?_)
  · obtain ⟨x, a, rfl, _⟩ := h
    rfl
  · obtain ⟨x, a, rfl, h⟩ := h
    exact ⟨_, pss_one (ps_ret (pe_call G.ok hr (by rfl) G.mgx G.kp G.b .nil pass0 (pa_cons (pv 1) pa_nil))), ⟨_, rfl, h⟩⟩
end
end K36

namespace K36
open PySem PySem.Spec PyProof.Rows L2

/-! ### the law's own defs by places -/
abbrev sCell : Stmt := top 21
abbrev sDraws : Stmt := top 22
abbrev sWhole : Stmt := top 23
abbrev sAlike : Stmt := top 24
abbrev sCars : Stmt := top 25
abbrev sFigs : Stmt := top 26
abbrev sPark : Stmt := top 27
abbrev sSteps : Stmt := top 28
abbrev sByCode : Stmt := top 29

/-! ### a statement behind which all ways meet in N -/
def tCut (t u : TS) : TS := fun D σ H => ∃ N : L2.St → Hp → Prop, t { D with nx := N } σ H ∧ ∀ σ' H', N σ' H' → u D σ' H'
theorem pss_cutN {X : Cx} {st : Stmt} {rest : List Stmt} {t u : TS} (h1 : PS X st t) (h2 : PSs X rest u) : PSs X (st :: rest) (tCut t u) := by
  refine ⟨fun pins s σ H D I h => ?_⟩
  obtain ⟨N, h, hN⟩ := h
  refine wpAny_execs_cons (thn (h1.run pins s σ H { D with nx := N } I h) fun f s1 q => ?_)
  cases f with
  | next =>
    obtain ⟨σ', H', I', q⟩ := q
    exact h2.run pins s1 σ' H' D I' (hN σ' H' q)
  | ret v => exact q
  | brk => exact q
  | cont => exact q

theorem list_ty {H : Hp} {K : PySem.W.Frag} {a : Addr} {xs : List V} (h : SqL K H a xs) : TyX K H (.ref a) (.type "list") := by
  rcases h with (h | ⟨o, h⟩) | ⟨o, its, n, hk, hc, _⟩
  · exact .base (.lst h)
  · exact .base (.frz h)
  · exact .kList hk hc

/-! ### promises -/
def spCell (K : PySem.W.Frag) : Sp := fun vs H Q _ => ∃ (a : Addr) (ns : List Int) (k : Int), vs = [.ref a, .int k] ∧ SqL K H a (ns.map V.int) ∧ 0 ≤ k ∧ ∀ z : Int, Q (.int z) H
/-- M numbers below 2147483587 -/
def DrawsOk (M : Nat) (ds : List Int) : Prop := ds.length = M ∧ ∀ d ∈ ds, 0 ≤ d ∧ d < 2147483587
def spDraws (K : PySem.W.Frag) : Sp := fun vs H Q _ => ∃ (a : Addr) (ns : List Int) (T M : Nat), vs = [.ref a, .int (T : Int), .int (M : Int)] ∧ SqL K H a (ns.map V.int) ∧ ns.length ≤ 63 ∧ T ≤ 1000 ∧ M ≤ 500 ∧ NewL H (DrawsOk M) Q
def spWhole : Sp := fun vs H Q _ => ∃ i : Int, vs = [.int i] ∧ Q (.bl true) H
/-- alike to the depth n -/
def Alk (K : PySem.W.Frag) : Nat → Hp → V → V → Prop
  | 0, _, x, y => ∃ i : Int, x = .int i ∧ y = .int i
  | n + 1, H, x, y => ∃ (a b : Addr) (xs ys : List V), x = .ref a ∧ y = .ref b ∧ SqL K H a xs ∧ SqL K H b ys ∧ xs.length = ys.length ∧ xs.length ≤ 1000 ∧ ∀ (j : Nat) (u v : V), xs[j]? = some u → ys[j]? = some v → Alk K n H u v
theorem Alk.same {K : PySem.W.Frag} : ∀ {n : Nat} {H H' : Hp} {x y : V}, Same H H' → Alk K n H x y → Alk K n H' x y
  | 0, _, _, _, _, _, h => h
  | n + 1, _, _, _, _, s, ⟨a, b, xs, ys, e1, e2, h1, h2, hl, hz, h⟩ => ⟨a, b, xs, ys, e1, e2, s.seq h1, s.seq h2, hl, hz, fun j u v hu hv => Alk.same s (h j u v hu hv)⟩
def spAlike (K : PySem.W.Frag) (n : Nat) : Sp := fun vs H Q _ => ∃ x y : V, vs = [x, y] ∧ Alk K n H x y ∧ ∀ H', Same H H' → Q (.bl true) H'
def spCars (K : PySem.W.Frag) : Sp := fun vs H Q _ => ∃ (a : Addr) (ns : List Int) (n T : Nat), vs = [.ref a, .int (n : Int), .int (T : Int)] ∧ SqL K H a (ns.map V.int) ∧ ns.length ≤ 63 ∧ n ≤ 60 ∧ T ≤ 1000 ∧ NewL H (Built n) Q
def spFigs (K : PySem.W.Frag) : Sp := fun vs H Q _ => ∃ (a : Addr) (ns : List Int) (n T : Nat), vs = [.ref a, .int (n : Int), .int (T : Int)] ∧ SqL K H a (ns.map V.int) ∧ ns.length ≤ 63 ∧ 1 ≤ n ∧ n ≤ 60 ∧ T ≤ 1000 ∧ NewL H (fun c => c.length = n - 1 ∧ CodeOk c) Q
def spPark (K : PySem.W.Frag) : Sp := fun vs H Q _ => ∃ (a : Addr) (ns : List Int), vs = [.ref a] ∧ SqL K H a (ns.map V.int) ∧ Park ns ∧ 0 < ns.length ∧ ns.length ≤ 60 ∧ ∀ H', Same H H' → Q (.bl true) H'
def spSteps (K : PySem.W.Frag) : Sp := fun vs H Q _ => ∃ (a : Addr) (ns : List Int), vs = [.ref a] ∧ SqL K H a (ns.map V.int) ∧ ns.length ≤ 60 ∧ NewL H (fun r => r = steps ns) Q
def spByCode (K : PySem.W.Frag) : Sp := fun vs H Q _ => ∃ (a b : Addr) (r c : List Int), vs = [.ref a, .ref b] ∧ SqL K H a (r.map V.int) ∧ SqL K H b (c.map V.int) ∧ Back c r ∧ c.length ≤ 50 ∧ ∀ H', Same H H' → Q (.bl true) H'

section
variable {P : Program} {w : World} {K : PySem.W.Frag} {mg : Str → Option Value} {base : Heap}

/-! ### _law_cell_at -/
theorem scCell : FnScope ["_law_script", "_law_k"] ["_law_script", "_law_k"] (defScope sCell) := ⟨rfl, rfl, rfl, by decide +kernel, rfl, by decide +kernel, by decide +kernel⟩
theorem ok_cell {f : Addr} {fd : FuncData} (F : Fun K "_law_cell_at" "_law_cell_at" sCell f fd) (B : Blt mg) : FnOk P w K mg base CX0 1 f fd ["_law_script", "_law_k"] (spCell K) := by
  refine F.ok scCell (fun vs H Q E h => ?_) (fun cdv A outer s H vs Q E hr h => ?_)
  · obtain ⟨a, ns, k, rfl, _⟩ := h
    rfl
  · obtain ⟨a, ns, k, rfl, hS, h0, q⟩ := h
    refine ⟨_, pss_cons (ps_if (pt_cmpR op_lt (pv 1) (pe_callB call_len_seq (by rfl) B.len PySem.boot_len (pa_cons (pv 0) pa_nil)) (nomark _)) (pss_one (ps_ret (pe_ix ix_list (pv 0) (pv 1) (fun _ _ => rfl)))) pss_nil) (pss_one (ps_ret pe_int)), ?_⟩
    have hl : (ns.map V.int).length = ns.length := List.length_map _
    refine ⟨_, rfl, _, rfl, a, _, rfl, .inl hS, _, _, rfl, rfl, _, rfl, ?_⟩
    refine ite2 (fun c => ?_) (fun c => ?_)
    · have c' : k < (((ns.map V.int).length : Nat) : Int) := of_decide_eq_true c
      rw [hl] at c'
      exact ⟨_, rfl, _, rfl, a, _, _, _, rfl, rfl, hS, at_int h0 c', q _⟩
    · exact q 0

/-! ### _law_whole -/
theorem scWhole : FnScope ["_law_found"] ["_law_found"] (defScope sWhole) := ⟨rfl, rfl, rfl, by decide +kernel, rfl, by decide +kernel, by decide +kernel⟩
theorem ok_whole {f : Addr} {fd : FuncData} (F : Fun K "_law_whole" "_law_whole" sWhole f fd) (B : Blt mg) : FnOk P w K mg base CX0 1 f fd ["_law_found"] spWhole := by
  refine F.ok scWhole (fun vs H Q E h => ?_) (fun cdv A outer s H vs Q E hr h => ?_)
  · obtain ⟨i, rfl, _⟩ := h
    rfl
  · obtain ⟨i, rfl, q⟩ := h
    refine ⟨_, pss_one (ps_ret (pe_and (pe_callB call_isi (by rfl) B.isinstance (by decide +kernel) (pa_cons (pv 0) (pa_cons (pe_bltn (v := .ty "int") (by rfl) B.int (by decide +kernel) rfl) pa_nil)))
      (pe_one (pe_not (pe_callB call_isi (by rfl) B.isinstance (by decide +kernel) (pa_cons (pv 0) (pa_cons (pe_bltn (v := .ty "bool") (by rfl) B.bool (by decide +kernel) rfl) pa_nil))))))), ?_⟩
    refine ⟨_, rfl, _, _, _, _, true, rfl, .ty _, .base (.int i), kit_ty (by decide +kernel), true, rfl, ?_⟩
    refine ifT rfl ?_
    exact ⟨_, rfl, _, _, _, _, false, rfl, .ty _, .base (.int i), kit_ty (by decide +kernel), false, rfl, q⟩

/-! ### _law_alike -/
theorem scAlike : FnScope ["_law_found", "_law_due", "_law_k"] ["_law_found", "_law_due"] (defScope sAlike) := ⟨rfl, rfl, rfl, by decide +kernel, rfl, by decide +kernel, by decide +kernel⟩
theorem ok_alike0 {f : Addr} {fd : FuncData} (F : Fun K "_law_alike" "_law_alike" sAlike f fd) (B : Blt mg) : FnOk P w K mg base CX0 1 f fd ["_law_found", "_law_due"] (spAlike K 0) := by
  refine F.ok scAlike (fun vs H Q E h => ?_) (fun cdv A outer s H vs Q E hr h => ?_)
  · obtain ⟨x, y, rfl, _⟩ := h
    rfl
  · obtain ⟨x, y, rfl, ⟨i, rfl, rfl⟩, q⟩ := h
    refine ⟨_, pss_cons (ps_if (pt_val (pe_callB call_isi (by rfl) B.isinstance (by decide +kernel) (pa_cons (pv 1) (pa_cons (pe_bltn (v := .ty "int") (by rfl) B.int (by decide +kernel) rfl) pa_nil))))
      (pss_one (ps_ret (pe_and (pe_callB call_isi (by rfl) B.isinstance (by decide +kernel) (pa_cons (pv 0) (pa_cons (pe_bltn (v := .ty "int") (by rfl) B.int (by decide +kernel) rfl) pa_nil)))
        (pe_and (pe_not (pe_callB call_isi (by rfl) B.isinstance (by decide +kernel) (pa_cons (pv 0) (pa_cons (pe_bltn (v := .ty "bool") (by rfl) B.bool (by decide +kernel) rfl) pa_nil))))
          (pe_one (pe_cmpR op_eq (pv 0) (pv 1) (nomark _))))))) pss_nil) pss_never, ?_⟩
    refine ⟨_, rfl, _, _, _, _, true, rfl, .ty _, .base (.int i), kit_ty (by decide +kernel), true, rfl, ?_⟩
    refine ifT rfl ?_
    refine ⟨_, rfl, _, _, _, _, true, rfl, .ty _, .base (.int i), kit_ty (by decide +kernel), true, rfl, ?_⟩
    refine ifT rfl ?_
    refine ⟨_, rfl, _, _, _, _, false, rfl, .ty _, .base (.int i), kit_ty (by decide +kernel), false, rfl, true, rfl, ?_⟩
    refine ifT rfl ?_
    refine ⟨_, rfl, _, rfl, rfl, ?_⟩
    have e : decide (V.int i = V.int i) = true := decide_eq_true rfl
    show Q (V.bl (decide (V.int i = V.int i))) H
    rw [e]
    exact q H (Same.refl H)
theorem ok_alikeS {n : Nat} {f : Addr} {fd : FuncData} (F : Fun K "_law_alike" "_law_alike" sAlike f fd) (B : Blt mg) (G : Glo P w K mg base (n + 1) "_law_alike" f fd ["_law_found", "_law_due"] (spAlike K n)) :
    FnOk P w K mg base CX0 (n + 2) f fd ["_law_found", "_law_due"] (spAlike K (n + 1)) := by
  refine F.ok scAlike (fun vs H Q E h => ?_) (fun cdv A outer s H vs Q E hr h => ?_)
  · obtain ⟨x, y, rfl, _⟩ := h
    rfl
  · obtain ⟨x, y, rfl, ⟨a, b, xs, ys, rfl, rfl, hx, hy, hl, hz, hj⟩, q⟩ := h
    refine ⟨_, pss_cons (ps_if (pt_val (pe_callB call_isi (by rfl) B.isinstance (by decide +kernel) (pa_cons (pv 1) (pa_cons (pe_bltn (v := .ty "int") (by rfl) B.int (by decide +kernel) rfl) pa_nil)))) pss_never pss_nil)
      (pss_cons (ps_if (pt_val (pe_callB call_isi (by rfl) B.isinstance (by decide +kernel) (pa_cons (pv 1) (pa_cons (pe_bltn (v := .ty "list") (by rfl) B.list (by decide +kernel) rfl) pa_nil))))
        (pss_one (ps_if (pt_not (pt_val (pe_callB call_isi (by rfl) B.isinstance (by decide +kernel) (pa_cons (pv 0) (pa_cons (pe_bltn (v := .ty "list") (by rfl) B.list (by decide +kernel) rfl) pa_nil))))) pss_never pss_nil)) pss_never)
      (pss_cons (ps_if (pt_cmpR op_ne (pe_callB call_len_seq (by rfl) B.len PySem.boot_len (pa_cons (pv 0) pa_nil)) (pe_callB call_len_seq (by rfl) B.len PySem.boot_len (pa_cons (pv 1) pa_nil)) (nomark _)) pss_never pss_nil)
      (pss_cons (ps_for PassesOwn.never rfl (pi_range1 (by rfl) B.range (pa_cons (pe_callB call_len_seq (by rfl) B.len PySem.boot_len (pa_cons (pv 1) pa_nil)) pa_nil)) (pg_name (i := 2) scAlike.nd rfl (Or.inl rfl))
        (pss_one (ps_if (pt_not (pt_val (pe_call G.ok hr (by rfl) G.mgx G.kp G.b .nil pass0 (pa_cons (pe_ix ix_list (pv 0) (pv 2) (fun _ _ => rfl)) (pa_cons (pe_ix ix_list (pv 1) (pv 2) (fun _ _ => rfl)) pa_nil))))) pss_never pss_nil)))
      (pss_one (ps_ret pe_bl))))), ?_⟩
    refine ⟨_, rfl, _, _, _, _, false, rfl, .ty _, list_ty hy, kit_ty (by decide +kernel), false, rfl, ?_⟩
    refine ifF rfl ?_
    refine ⟨_, rfl, _, _, _, _, true, rfl, .ty _, list_ty hy, kit_ty (by decide +kernel), true, rfl, ?_⟩
    refine ifT rfl ?_
    refine ⟨_, rfl, _, _, _, _, true, rfl, .ty _, list_ty hx, kit_ty (by decide +kernel), true, rfl, ?_⟩
    refine ifF rfl ?_
    refine ⟨_, rfl, a, _, rfl, .inl hx, _, rfl, b, _, rfl, .inl hy, rfl, _, rfl, ?_⟩
    refine ifF (by rw [hl]; simp) ?_
    refine ⟨_, rfl, b, _, rfl, .inl hy, _, rfl, (by omega), (by omega), ?_⟩
    refine for_range (fun i σ H' => ∃ v : Option V, σ = [some (.ref a), some (.ref b), v] ∧ Same H H') ⟨none, rfl, Same.refl H⟩ ?_ ?_
    · rintro i σ H' hi ⟨v, rfl, s0⟩
      have hi2 : i < ys.length := by omega
      have hi1 : i < xs.length := by omega
      have ei : (0 + (i : Int)) = (i : Int) := by omega
      refine ⟨_, rfl, _, rfl, a, _, _, _, rfl, rfl, s0.seq hx, (by rw [ei]; exact atI_nat (List.getElem?_eq_getElem hi1)), ?_⟩
      refine ⟨_, rfl, _, rfl, b, _, _, _, rfl, rfl, s0.seq hy, (by rw [ei]; exact atI_nat (List.getElem?_eq_getElem hi2)), ?_⟩
      refine ⟨_, _, rfl, Alk.same s0 (hj i _ _ (List.getElem?_eq_getElem hi1) (List.getElem?_eq_getElem hi2)), fun H2 s2 => ⟨true, rfl, ?_⟩⟩
      exact ⟨_, rfl, s0.trans s2⟩
    · rintro σ H' ⟨v, rfl, s0⟩
      exact q H' s0

/-! ### _law_steps -/
theorem scSteps : FnScope ["_law_wishes", "_law_size", "_law_k"] ["_law_wishes"] (defScope sSteps) := ⟨rfl, rfl, rfl, by decide +kernel, rfl, by decide +kernel, by decide +kernel⟩
theorem ok_steps {f : Addr} {fd : FuncData} (F : Fun K "_law_steps" "_law_steps" sSteps f fd) (B : Blt mg) : FnOk P w K mg base CX0 1 f fd ["_law_wishes"] (spSteps K) := by
  refine F.ok scSteps (fun vs H Q E h => ?_) (fun cdv A outer s H vs Q E hr h => ?_)
  · obtain ⟨a, ns, rfl, _⟩ := h
    rfl
  · obtain ⟨a, ns, rfl, hS, hlen, q⟩ := h
    refine ⟨_, pss_cons (ps_set (i := 1) scSteps.nd rfl (Or.inr rfl) (pe_callB call_len_seq (by rfl) B.len PySem.boot_len (pa_cons (pv 0) pa_nil)))
      (pss_one (ps_ret (pe_lc (own := [("_law_k", 2)]) (g := gName 2) (tt := tYes) rfl scSteps.nd (pi_range2 (by rfl) B.range (pa_cons pe_int (pa_cons (pv 1) pa_nil)))
        (blkOk_by (N := ["_law_wishes", "_law_size", "_law_k"]) (sc := defScope sSteps) (by decide +kernel)) (fun _ _ _ _ _ => pg_name (i := 2) scSteps.nd rfl (Or.inl rfl)) (fun _ _ _ _ _ => pts_nil)
        (fun _ _ _ _ _ => pe_op op_mod (pe_op op_sub (pe_ix (ixK (K := K) rfl) (pv 0) (pv 2) (fun _ _ => rfl)) (pe_ix (ixK (K := K) rfl) (pv 0) (pe_op op_sub (pv 2) pe_int) (fun _ _ => rfl))) (pe_op op_add (pv 1) pe_int))))), ?_⟩
    have hl : (ns.map V.int).length = ns.length := List.length_map _
    refine ⟨_, rfl, a, _, rfl, .inl hS, ?_⟩
    refine ⟨_, rfl, 1, _, rfl, (by rw [hl]; omega), ?_⟩
    refine lc_mapR (fun i => V.int ((ns.getD (i + 1) 0 - ns.getD i 0) % ((ns.length : Int) + 1))) (by rw [hl]; omega) (fun _ => rfl) ?_ ?_
    · intro i H' Q' hi s3 q'
      rw [hl] at hi
      refine ⟨_, rfl, _, rfl, a, _, _, _, rfl, rfl, s3.seq hS, at_int (z := 1 + (i : Int)) (by omega) (by omega), ?_⟩
      refine ⟨_, rfl, _, rfl, _, _, rfl, rfl, a, _, _, _, rfl, rfl, s3.seq hS, at_int (z := 1 + (i : Int) - 1) (by omega) (by omega), ?_⟩
      refine ⟨_, _, rfl, rfl, _, rfl, _, _, rfl, rfl, _, _, rfl, rfl, (by show (0 : Int) < (((ns.map V.int).length : Nat) : Int) + 1; omega), ?_⟩
      have e1 : (1 + (i : Int)).toNat = i + 1 := by omega
      have e2 : (1 + (i : Int) - 1).toNat = i := by omega
      rw [e1, e2, hl]
      exact q'
    · intro D H3 hD s3 hL
      have en : ((((ns.map V.int).length : Nat) : Int) - 1).toNat = ns.length - 1 := by rw [hl]; omega
      rw [en, steps_map] at hL
      exact q H3 D (steps ns) rfl s3 hD hL

/-! ### _law_all_park -/
theorem scPark : FnScope ["_law_wishes", "_law_size", "_law_k", "_law_wish"] ["_law_wishes"] (defScope sPark) := ⟨rfl, rfl, rfl, by decide +kernel, rfl, by decide +kernel, by decide +kernel⟩
def leV (k : Int) : V → Bool
  | .int z => decide (z ≤ k)
  | _ => false
theorem fil_len (ns : List Int) (k : Int) : ((ns.map V.int).filter (leV k)).length = ns.countP fun x => decide (x ≤ k) := by
  rw [List.filter_map, List.length_map, List.countP_eq_length_filter]
  rfl
theorem ok_park {f : Addr} {fd : FuncData} (F : Fun K "_law_all_park" "_law_all_park" sPark f fd) (B : Blt mg) : FnOk P w K mg base CX0 1 f fd ["_law_wishes"] (spPark K) := by
  refine F.ok scPark (fun vs H Q E h => ?_) (fun cdv A outer s H vs Q E hr h => ?_)
  · obtain ⟨a, ns, rfl, _⟩ := h
    rfl
  · obtain ⟨a, ns, rfl, hS, hp, h0, hlen, q⟩ := h
    refine ⟨_, pss_cons (ps_set (i := 1) scPark.nd rfl (Or.inl rfl) (pe_callB call_len_seq (by rfl) B.len PySem.boot_len (pa_cons (pv 0) pa_nil)))
      (pss_cons (ps_for PassesOwn.never rfl (pi_range1 (by rfl) B.range (pa_cons (pv 1) pa_nil)) (pg_name (i := 2) scPark.nd rfl (Or.inr rfl))
        (pss_cons (ps_if (PW.pt (pw_or (pt_cmpR op_lt (pe_ix ix_list (pv 0) (pv 2) (fun _ _ => rfl)) pe_int (nomark _)) (pw_or1 (pt_cmpR op_ge (pe_ix ix_list (pv 0) (pv 2) (fun _ _ => rfl)) (pv 1) (nomark _))))) pss_never pss_nil)
        (pss_one (ps_if (pt_cmpR op_lt (pe_callB call_len_seq (by rfl) B.len PySem.boot_len (pa_cons (pe_lc (own := [("_law_wish", 3)]) (g := gName 3) rfl scPark.nd (pi_list (pv 0))
          (blkOk_by (N := ["_law_wishes", "_law_size", "_law_k", "_law_wish"]) (sc := defScope sPark) (by decide +kernel)) (fun _ _ _ _ _ => pg_name (i := 3) scPark.nd rfl (Or.inl rfl)) (fun _ _ _ _ _ => pts_one (pt_cmpR op_le (pv 3) (pv 2) (nomark _)))
          (fun _ _ _ _ _ => pv 3)) pa_nil)) (pe_op op_add (pv 2) pe_int) (nomark _)) pss_never pss_nil))))
      (pss_one (ps_ret (pe_cmpR op_gt (pv 1) pe_int (nomark _))))), ?_⟩
    have hl : (ns.map V.int).length = ns.length := List.length_map _
    refine ⟨_, rfl, a, _, rfl, .inl hS, ?_⟩
    refine ⟨_, rfl, _, rfl, (by omega), (by rw [hl]; omega), ?_⟩
    refine for_range (fun i σ H' => ∃ v u : Option V, σ = [some (.ref a), some (.int (ns.length : Int)), v, u] ∧ Same H H') ⟨none, none, (by rw [← hl]; rfl), Same.refl H⟩ ?_ ?_
    · rintro i σ H' hi ⟨v, u, rfl, s0⟩
      have hi1 : i < ns.length := by rw [hl] at hi; omega
      have hb := hp.1 _ (getD_mem hi1)
      have hc := hp.2 i hi1
      have ei : (0 + (i : Int)).toNat = i := by omega
      refine ⟨_, rfl, _, rfl, a, _, _, _, rfl, rfl, s0.seq hS, at_int (z := 0 + (i : Int)) (by omega) (by omega), _, _, rfl, rfl, _, rfl, ?_⟩
      refine ifF (decide_eq_false (by rw [ei]; omega)) ?_
      refine ⟨_, rfl, _, rfl, a, _, _, _, rfl, rfl, s0.seq hS, at_int (z := 0 + (i : Int)) (by omega) (by omega), _, rfl, _, _, rfl, rfl, _, rfl, ?_⟩
      refine ifF (decide_eq_false (by rw [ei]; omega)) ?_
      refine ⟨_, rfl, a, rfl, ⟨_, s0.seq hS⟩, ?_⟩
      intro D hD
      refine lc_filL (K := K) (xs := ns.map V.int) (leV (0 + (i : Int))) hD (by rw [hl]; omega) (s0.seq hS) (fun _ => rfl) ?_ ?_ ?_
      · intro j x H2 Q2 hj s2 q2
        obtain ⟨_, rfl⟩ := get_map_int hj
        exact ⟨_, rfl, _, rfl, _, _, rfl, rfl, _, rfl, q2⟩
      · intro j x H2 Q2 hj s2 q2
        exact ⟨_, rfl, q2⟩
      · intro H2 s2 hL
        refine ⟨D, _, rfl, .inl (SqL.of hL), _, rfl, _, _, rfl, rfl, _, _, rfl, rfl, _, rfl, ?_⟩
        refine ifF (decide_eq_false ?_) ⟨_, _, rfl, s0.trans s2⟩
        rw [fil_len]
        have ek : (0 + (i : Int)) = (i : Int) := by omega
        rw [ek]
        omega
    · rintro σ H' ⟨v, u, rfl, s0⟩
      refine ⟨_, rfl, _, _, rfl, rfl, ?_⟩
      have e : decide ((0 : Int) < (ns.length : Int)) = true := decide_eq_true (by omega)
      show Q (.bl (decide ((0 : Int) < (ns.length : Int)))) H'
      rw [e]
      exact q H' s0

/-! ### == of lists of ints, of lists of lists -/
theorem dp_ints {H : Hp} (ns : List Int) : DpAll K H (ns.map V.int) (ns.map PyData.int) := by
  induction ns with
  | nil => exact .nil
  | cons n ns ih => exact .cons (.int n) ih
theorem lay_ints (ns : List Int) : PyData.canLayAll0 (ns.map PyData.int) = true := by
  induction ns with
  | nil => rfl
  | cons n ns ih =>
    show (PyData.canLay0 (.int n) && PyData.canLayAll0 (ns.map PyData.int)) = true
    rw [ih]; simp [PyData.canLay0]
theorem depth_ints (ns : List Int) : PyData.depthAll (ns.map PyData.int) ≤ 1 := by
  induction ns with
  | nil => simp [PyData.depthAll]
  | cons n ns ih =>
    show PyData.depthAll (PyData.int n :: ns.map PyData.int) ≤ 1
    simp only [PyData.depthAll, PyData.depth]
    omega
/-- a list of ints as data -/
abbrev dL (ns : List Int) : PyData := .list (ns.map PyData.int)
theorem shaped_dL (ns : List Int) : SeqAt.shaped (dL ns) = true := by
  unfold SeqAt.shaped
  rw [Bool.and_eq_true]
  refine ⟨lay_ints ns, decide_eq_true ?_⟩
  have := depth_ints ns
  simp only [PyData.depth]
  omega
theorem eqv_dL (ns : List Int) : PyData.eqv (dL ns) (dL ns) = true := SeqAt.eqv_refl _ (lay_ints ns)

/-! ### _law_by_code -/
theorem scByCode : FnScope ["_law_found", "_law_code", "_law_wish"] ["_law_found", "_law_code"] (defScope sByCode) := ⟨rfl, rfl, rfl, by decide +kernel, rfl, by decide +kernel, by decide +kernel⟩
theorem ok_by_code {f fW fP fS : Addr} {fd fdW fdP fdS : FuncData} (F : Fun K "_law_by_code" "_law_by_code" sByCode f fd) (B : Blt mg) (W : Glo P w K mg base 1 "_law_whole" fW fdW ["_law_found"] spWhole)
    (A1 : Glo P w K mg base 1 "_law_all_park" fP fdP ["_law_wishes"] (spPark K)) (S : Glo P w K mg base 1 "_law_steps" fS fdS ["_law_wishes"] (spSteps K)) : FnOk P w K mg base CX0 2 f fd ["_law_found", "_law_code"] (spByCode K) := by
  refine F.ok scByCode (fun vs H Q E h => ?_) (fun cdv A outer s H vs Q E hr h => ?_)
  · obtain ⟨a, b, r, c, rfl, _⟩ := h
    rfl
  · obtain ⟨a, b, r, c, rfl, hr', hc, ⟨hlen, hp, hs⟩, hz, q⟩ := h
    refine ⟨_, pss_cons (ps_if (PW.pt (pw_or (pt_not (pt_val (pe_callB call_isi (by rfl) B.isinstance (by decide +kernel) (pa_cons (pv 0) (pa_cons (pe_bltn (v := .ty "list") (by rfl) B.list (by decide +kernel) rfl) pa_nil)))))
        (pw_or1 (pt_cmpR op_ne (pe_callB call_len_seq (by rfl) B.len PySem.boot_len (pa_cons (pv 0) pa_nil)) (pe_op op_add (pe_callB call_len_seq (by rfl) B.len PySem.boot_len (pa_cons (pv 1) pa_nil)) pe_int) (nomark _))))) pss_never pss_nil)
      (pss_cons (ps_for PassesOwn.never rfl (pi_list (pv 0)) (pg_name (i := 2) scByCode.nd rfl (Or.inl rfl))
        (pss_one (ps_if (pt_not (pt_val (pe_call W.ok hr (by rfl) W.mgx W.kp W.b .nil pass0 (pa_cons (pv 2) pa_nil)))) pss_never pss_nil)))
      (pss_one (ps_ret (pe_and (pe_call A1.ok hr (by rfl) A1.mgx A1.kp A1.b .nil pass0 (pa_cons (pv 0) pa_nil))
        (pe_one (pe_cmpR (op_eqD hr.units) (pe_call S.ok hr (by rfl) S.mgx S.kp S.b .nil pass0 (pa_cons (pv 0) pa_nil)) (pv 1) (nomark _))))))), ?_⟩
    have hl : (r.map V.int).length = r.length := List.length_map _
    have hl2 : (c.map V.int).length = c.length := List.length_map _
    refine ⟨_, rfl, _, _, _, _, true, rfl, .ty _, list_ty hr', kit_ty (by decide +kernel), true, rfl, ?_⟩
    refine ifF rfl ?_
    refine ⟨_, rfl, a, _, rfl, .inl hr', _, rfl, b, _, rfl, .inl hc, _, _, rfl, rfl, rfl, _, rfl, ?_⟩
    refine ifF ?_ ?_
    · have e : V.int (((r.map V.int).length : Nat) : Int) = V.int ((((c.map V.int).length : Nat) : Int) + 1) := by
        rw [hl, hl2, hlen]
        exact congrArg V.int (by omega)
      rw [decide_eq_true e]; rfl
    refine ⟨_, rfl, a, rfl, ⟨_, hr'⟩, for_list (K := K) (a := a) (xs := r.map V.int) (fun i σ H' => ∃ v : Option V, σ = [some (.ref a), some (.ref b), v] ∧ Same H H') ⟨none, rfl, Same.refl H⟩ (fun i σ H' _ ⟨_, _, s0⟩ => s0.seq hr') ?_ ?_⟩
    · rintro i y σ H' hi ⟨v, rfl, s0⟩
      obtain ⟨hi', rfl⟩ := get_map_int hi
      exact ⟨_, rfl, _, rfl, true, rfl, _, rfl, s0⟩
    · rintro σ H' ⟨v, rfl, s0⟩
      refine ⟨_, rfl, a, r, rfl, s0.seq hr', hp, by omega, by omega, fun H2 s2 => ⟨true, rfl, ?_⟩⟩
      refine ifT rfl ?_
      have s02 := s0.trans s2
      refine ⟨_, rfl, a, r, rfl, s02.seq hr', by omega, fun H3 p3 r3 e3 s3 n3 h3 => ?_⟩
      subst e3
      rw [hs] at h3
      refine ⟨_, rfl, dL c, dL c, .lst (SqL.of h3) (dp_ints c), .lst ((s02.trans s3).seq hc) (dp_ints c), shaped_dL c, shaped_dL c, ?_⟩
      rw [eqv_dL]
      exact q H3 (s02.trans s3)
end
end K36

namespace K36
open PySem PySem.Spec PyProof.Rows L2
section
variable {P : Program} {w : World} {K : PySem.W.Frag} {mg : Str → Option Value} {base : Heap}

theorem cut_map (ns : List Int) (lo hi : Option Int) : ∃ ms : List Int, cutV (ns.map V.int) lo hi = ms.map V.int ∧ ms.length ≤ ns.length := by
  refine ⟨(ns.drop (HT.sIx ns.length 0 lo)).take (HT.sIx ns.length ns.length hi - HT.sIx ns.length 0 lo), ?_, ?_⟩
  · unfold cutV
    rw [List.length_map, List.map_take, List.map_drop]
  · rw [List.length_take, List.length_drop]; omega
def divV (m : Int) : V → V
  | .int z => .int (z / m)
  | v => v
theorem div_map (m : Int) (ns : List Int) : (ns.map V.int).map (divV m) = (ns.map (· / m)).map V.int := by
  rw [List.map_map, List.map_map]; rfl

/-! ### _law_draws -/
abbrev nDraws : List Str := ["_law_script", "_law_turn", "_law_many", "_law_cells", "_law_found", "_law_left", "_law_k", "_law_at", "_law_place", "_law_number", "_law_cell"]
theorem scDraws : FnScope nDraws ["_law_script", "_law_turn", "_law_many"] (defScope sDraws) := ⟨rfl, rfl, rfl, by decide +kernel, rfl, by decide +kernel, by decide +kernel⟩
theorem snoc_ok {ds : List Int} {d : Int} (h : ∀ x ∈ ds, 0 ≤ x ∧ x < 2147483587) (h0 : 0 ≤ d) (h1 : d < 2147483587) : ∀ x ∈ ds ++ [d], 0 ≤ x ∧ x < 2147483587 := by
  intro x hx
  rcases List.mem_append.mp hx with q | q
  · exact h x q
  · rw [List.mem_singleton.mp q]; exact ⟨h0, h1⟩
theorem mod31 (z : Int) {m : Int} (h : 0 < m) : 0 ≤ z % m ∧ z % m < m := ⟨Int.emod_nonneg _ (by omega), Int.emod_lt_of_pos _ h⟩
theorem ok_draws {f : Addr} {fd : FuncData} (F : Fun K "_law_draws" "_law_draws" sDraws f fd) (B : Blt mg) : FnOk P w K mg base CX0 1 f fd ["_law_script", "_law_turn", "_law_many"] (spDraws K) := by
  refine F.ok scDraws (fun vs H Q E h => ?_) (fun cdv A outer s H vs Q E hr h => ?_)
  · obtain ⟨a, ns, T, M, rfl, _⟩ := h
    rfl
  · obtain ⟨a, ns, T, M, rfl, hS, h63, hT, hM, q⟩ := h
    refine ⟨_, pss_cons (ps_set (i := 3) scDraws.nd rfl (Or.inl rfl) (pe_op op_cat (pe_slice sl_list (pv 0) po_none (po_some pe_int)) (pe_lst (pa_cons (pv 1) pa_nil))))
      (pss_cons (ps_set (i := 4) scDraws.nd rfl (Or.inl rfl) (pe_lst pa_nil))
      (pss_cons (ps_if (pt_cmpR op_eq (pe_op op_mod (pe_op op_fdiv (pe_ix ix_list (pv 3) pe_int (fun _ _ => rfl)) pe_int) pe_int) pe_int (nomark _))
        (pss_cons (ps_setLc (i := 5) (own := [("_law_cell", 10)]) (g := gName 10) (tt := tYes) rfl scDraws.nd rfl rfl (sw_true rfl rfl rfl (by decide +kernel)) (pi_list (pv 3))
          (blkOk_by (N := nDraws) (sc := defScope sDraws) (by decide +kernel)) (fun _ _ _ _ _ => pg_name (i := 10) scDraws.nd rfl (Or.inl rfl)) (fun _ _ _ _ _ => pts_nil) (fun _ _ _ _ _ => pe_op op_fdiv (pv 10) pe_int))
        (pss_cons (ps_for PassesOwn.never rfl (pi_range1 (by rfl) B.range (pa_cons (pe_op op_add (pv 1) (pv 2)) pa_nil)) (pg_name (i := 6) scDraws.nd rfl (Or.inl rfl))
          (pss_cons (ps_set (i := 7) scDraws.nd rfl (Or.inl rfl) (pe_op op_mod (pv 6) (pe_callB call_len_seq (by rfl) B.len PySem.boot_len (pa_cons (pv 5) pa_nil))))
          (pss_cutN (ps_if (pt_cmpR op_ge (pv 6) (pv 1) (nomark _)) (pss_one (ps_expr (pe_bm PySem.F.plainAttrs_list PySem.F.slot_list_append PySem.F.type_list_append mt_append (pv 4)
            (pa_cons (pe_op op_mod (pe_ix ix_list (pv 5) (pv 7) (fun _ _ => rfl)) pe_int) pa_nil)))) pss_nil)
          (pss_one (ps_asg (pe_op op_fdivW (pe_ix ix_list (pv 5) (pv 7) (fun _ _ => rfl)) pe_int) (pg_sub (pv 5) (pv 7) set_list))))))
        (pss_one (ps_ret (pv 4))))) pss_nil)
      (pss_cons (ps_for PassesOwn.never rfl (pi_range1 (by rfl) B.range (pa_cons (pv 2) pa_nil)) (pg_name (i := 6) scDraws.nd rfl (Or.inl rfl))
        (pss_cons (ps_set (i := 8) scDraws.nd rfl (Or.inl rfl) (pe_op op_add (pe_op op_mul (pe_op op_mul (pe_op op_add (pv 6) (pv 1)) (pe_op op_add (pv 6) (pv 1))) pe_int) pe_int))
        (pss_cons (ps_set (i := 9) scDraws.nd rfl (Or.inl rfl) (pe_op op_mod (pe_op op_mul (pe_op op_add (pe_op op_mod (pe_ix ix_list (pv 3) (pe_op op_mod (pv 6) (pe_callB call_len_seq (by rfl) B.len PySem.boot_len (pa_cons (pv 3) pa_nil))) (fun _ _ => rfl)) pe_int) (pv 8)) pe_int) pe_int))
        (pss_cons (ps_set (i := 9) scDraws.nd rfl (Or.inl rfl) (pe_op op_mod (pe_op op_add (pe_op op_mul (pv 9) (pv 9)) (pe_op op_mul pe_int (pv 6))) pe_int))
        (pss_one (ps_expr (pe_bm PySem.F.plainAttrs_list PySem.F.slot_list_append PySem.F.type_list_append mt_append (pv 4) (pa_cons (pe_op op_mod (pe_op op_mul (pv 9) (pv 9)) pe_int) pa_nil))))))))
      (pss_one (ps_ret (pv 4)))))), ?_⟩
    -- the cells
    obtain ⟨ms, ems, lms⟩ := cut_map ns none (some 63)
    refine ⟨_, rfl, 63, rfl, a, _, rfl, hS, fun l1 n1 => ?_⟩
    have s1 : Same H _ := Same.new n1 (.lst (cutV (ns.map V.int) none (some 63)))
    rw [ems] at s1 ⊢
    refine ⟨_, rfl, (by show 1 ≤ sizeLine; decide), fun l2 n2 => ?_⟩
    have s2 := Same.new n2 (.lst [V.int (T : Int)])
    have h1 := s2 _ _ (upd_same (H := H) (a := l1) (o := .lst (ms.map V.int)))
    refine ⟨l1, l2, _, _, rfl, rfl, h1, upd_same, (by rw [List.length_map]; exact size_le (by show ms.length + 1 ≤ 1000; omega)), fun c n3 => ?_⟩
    have s3 := Same.new n3 (.lst (ms.map V.int ++ [V.int (T : Int)]))
    have s03 := (s1.trans s2).trans s3
    rw [map_snoc] at s03 ⊢
    obtain ⟨cs, ecs⟩ : ∃ cs : List Int, cs = ms ++ [(T : Int)] := ⟨_, rfl⟩
    rw [← ecs] at s03 ⊢
    have lcs : cs.length = ms.length + 1 := by rw [ecs]; simp
    have n0c : H c = none := (s1.trans s2).free n3
    -- found
    refine ⟨Nat.zero_le _, fun p n4 => ?_⟩
    have s4 := Same.new n4 (.lst [])
    have s04 := s03.trans s4
    have np : H p = none := s03.free n4
    have hc4 := s4 _ _ (upd_same (H := upd (upd H l1 (.lst (ms.map V.int))) l2 (.lst [V.int (T : Int)])) (a := c) (o := .lst (cs.map V.int)))
    generalize eH4 : upd (upd (upd (upd H l1 (.lst (ms.map V.int))) l2 (.lst [V.int (T : Int)])) c (.lst (cs.map V.int))) p (.lst []) = H4 at s04 hc4 ⊢
    have hp4 : H4 p = some (.lst []) := by rw [← eH4]; exact upd_same
    have hcl : (cs.map V.int).length = cs.length := List.length_map _
    refine ⟨_, rfl, c, _, _, _, rfl, rfl, SqL.of hc4, at_int (Int.le_refl 0) (by omega), _, _, rfl, rfl, (by show (0 : Int) < 50000 ∧ (50000 : Int) < 1073741824; decide), _, _, rfl, rfl, (by show (0 : Int) < 2; decide), rfl, _, rfl, ?_⟩
    refine ite2 (fun _ => ?_) (fun _ => ?_)
    · -- left
      refine ⟨_, rfl, c, rfl, ⟨_, SqL.of hc4⟩, ?_⟩
      intro l n5
      refine lc_mapL (K := K) (xs := cs.map V.int) (divV 100000) n5 (by omega) (SqL.of hc4) (fun _ => rfl) ?_ ?_
      · intro j x H' Q' hj s' q'
        obtain ⟨_, rfl⟩ := get_map_int hj
        exact ⟨_, rfl, _, _, rfl, rfl, (by show (0 : Int) < 100000 ∧ (100000 : Int) < 1073741824; decide), q'⟩
      · intro H5 s5 hl5
        rw [div_map] at hl5
        have s05 := s04.trans s5
        have nl : H l = none := s04.free n5
        have npl : p ≠ l := ne_of_none hp4 n5
        refine ⟨_, rfl, _, rfl, _, _, rfl, rfl, (T : Int) + (M : Int), rfl, (by omega), (by omega), ?_⟩
        refine for_range (fun i σ H' => ∃ (v u : Option V) (ls ds : List Int), σ = [some (.ref a), some (.int (T : Int)), some (.int (M : Int)), some (.ref c), some (.ref p), some (.ref l), v, u, none, none, none] ∧ Same H H' ∧ H' l = some (.lst (ls.map V.int)) ∧ ls.length = cs.length ∧
          H' p = some (.lst (ds.map V.int)) ∧ ds.length = i - T ∧ ∀ d ∈ ds, 0 ≤ d ∧ d < 2147483587) ⟨none, none, cs.map (· / 100000), [], rfl, s05, hl5, List.length_map _, s5 _ _ hp4, (by simp), fun d hd => nomatch hd⟩ ?_ ?_
        · rintro i σ H' hi ⟨v, u, ls, ds, rfl, s0, hl', ll, hp', ld, hd⟩
          have lm : (ls.map V.int).length = ls.length := List.length_map _
          have lpos : (0 : Int) < (((ls.map V.int).length : Nat) : Int) := by omega
          have hat := mod31 (0 + (i : Int)) lpos
          refine ⟨_, rfl, _, rfl, l, _, rfl, .inl (SqL.of hl'), _, _, rfl, rfl, lpos, ?_⟩
          refine ⟨fun σ' H'' => ∃ ds' : List Int, σ' = [some (.ref a), some (.int (T : Int)), some (.int (M : Int)), some (.ref c), some (.ref p), some (.ref l), some (.int (0 + (i : Int))), some (.int ((0 + (i : Int)) % (((ls.map V.int).length : Nat) : Int))), none, none, none] ∧ Same H H'' ∧ H'' l = some (.lst (ls.map V.int)) ∧
            H'' p = some (.lst (ds'.map V.int)) ∧ ds'.length = (i + 1) - T ∧ ∀ d ∈ ds', 0 ≤ d ∧ d < 2147483587, ?_, ?_⟩
          · refine ⟨_, rfl, _, rfl, _, _, rfl, rfl, _, rfl, ?_⟩
            refine ite2 (fun cc => ?_) (fun cc => ?_)
            · have cc' : (T : Int) ≤ 0 + (i : Int) := of_decide_eq_true cc
              refine ⟨_, rfl, .inl ⟨rfl, _, SqL.of hp'⟩, _, rfl, _, rfl, l, _, _, _, rfl, rfl, SqL.of hl', at_int hat.1 (by omega), _, _, rfl, rfl, (by show (0 : Int) < 2147483587; decide), p, _, _, rfl, rfl, hp', (by rw [List.length_map]; exact small1000 (by omega)), ?_⟩
              have hm := mod31 (ls.getD ((0 + (i : Int)) % (((ls.map V.int).length : Nat) : Int)).toNat 0) (m := 2147483587) (by decide)
              refine ⟨ds ++ [_], rfl, Same.onNew s0 np _, (by rw [upd_ne npl.symm]; exact hl'), (by rw [upd_same, map_snoc]), ?_, snoc_ok hd hm.1 hm.2⟩
              rw [List.length_append, List.length_singleton, ld]
              omega
            · have cc' : ¬ (T : Int) ≤ 0 + (i : Int) := of_decide_eq_false (Bool.eq_false_iff.mpr cc)
              exact ⟨ds, rfl, s0, hl', hp', by omega, hd⟩
          · rintro σ' H'' ⟨ds', rfl, s0', hl'', hp'', ld', hd'⟩
            refine ⟨_, rfl, _, rfl, l, _, _, _, rfl, rfl, SqL.of hl'', at_int hat.1 (by omega), _, _, rfl, rfl, wide_div (b := 32) (by decide) (by decide) (by decide) (by decide), ?_⟩
            refine ⟨_, rfl, _, rfl, l, _, _, _, rfl, rfl, hl'', ix_in hat.1 (by omega), ?_⟩
            refine ⟨_, _, ls.set _ _, ds', rfl, Same.onNew s0' nl _, (by rw [upd_same, List.map_set]), (by rw [List.length_set]; exact ll), (by rw [upd_ne npl]; exact hp''), ld', hd'⟩
        · rintro σ H' ⟨v, u, ls, ds, rfl, s0, hl', ll, hp', ld, hd⟩
          refine ⟨_, rfl, q H' p ds ⟨?_, hd⟩ s0 np hp'⟩
          omega
    · refine ⟨_, rfl, (M : Int), rfl, (by omega), (by omega), ?_⟩
      refine for_range (fun i σ H' => ∃ (v u z : Option V) (ds : List Int), σ = [some (.ref a), some (.int (T : Int)), some (.int (M : Int)), some (.ref c), some (.ref p), none, v, none, u, z, none] ∧ Same H H' ∧ H' c = some (.lst (cs.map V.int)) ∧
          H' p = some (.lst (ds.map V.int)) ∧ ds.length = i ∧ ∀ d ∈ ds, 0 ≤ d ∧ d < 2147483587) ⟨none, none, none, [], rfl, s04, hc4, hp4, rfl, fun d hd => nomatch hd⟩ ?_ ?_
      · rintro i σ H' hi ⟨v, u, z, ds, rfl, s0, hc', hp', ld, hd⟩
        have lpos : (0 : Int) < (((cs.map V.int).length : Nat) : Int) := by omega
        have hat := mod31 (0 + (i : Int)) lpos
        have ncp : c ≠ p := by
          intro z
          subst z
          rw [← eH4] at hc4
          rw [upd_same] at hc4
          have e := HO.lst.inj (Option.some.inj hc4)
          have e2 := congrArg List.length e
          rw [hcl] at e2
          simp at e2
          omega
        refine ⟨_, rfl, _, rfl, _, _, rfl, rfl, _, rfl, _, rfl, _, _, rfl, rfl, _, _, rfl, rfl, .inl ⟨by omega, by omega⟩, _, _, rfl, rfl, .inr (by decide), _, _, rfl, rfl, ?_⟩
        refine ⟨_, rfl, _, rfl, _, rfl, c, _, rfl, .inl (SqL.of hc'), _, _, rfl, rfl, lpos, c, _, _, _, rfl, rfl, SqL.of hc', at_int hat.1 (by omega), _, _, rfl, rfl, (by show (0 : Int) < 2147483647; decide), _, rfl, _, _, rfl, rfl, _, _, rfl, rfl, .inr (by decide), _, _, rfl, rfl, (by show (0 : Int) < 2147483647; decide), ?_⟩
        refine ⟨_, rfl, _, rfl, _, _, rfl, rfl, .inl ?_, ?_⟩
        · have hm := mod31 ((cs.getD ((0 + (i : Int)) % (((cs.map V.int).length : Nat) : Int)).toNat 0 % 2147483647 + ((0 + (i : Int) + (T : Int)) * (0 + (i : Int) + (T : Int)) * 7919 + 104729)) * 48271) (m := 2147483647) (by decide)
          exact ⟨by omega, by omega⟩
        refine ⟨_, rfl, _, _, rfl, rfl, .inl (by decide), _, _, rfl, rfl, _, _, rfl, rfl, (by show (0 : Int) < 2147483629; decide), ?_⟩
        generalize eN : (((cs.getD ((0 + (i : Int)) % (((cs.map V.int).length : Nat) : Int)).toNat 0 % 2147483647 + ((0 + (i : Int) + (T : Int)) * (0 + (i : Int) + (T : Int)) * 7919 + 104729)) * 48271 % 2147483647) * ((cs.getD ((0 + (i : Int)) % (((cs.map V.int).length : Nat) : Int)).toNat 0 % 2147483647 + ((0 + (i : Int) + (T : Int)) * (0 + (i : Int) + (T : Int)) * 7919 + 104729)) * 48271 % 2147483647) + 69621 * (0 + (i : Int))) % 2147483629 = N
        have hN := mod31 (((cs.getD ((0 + (i : Int)) % (((cs.map V.int).length : Nat) : Int)).toNat 0 % 2147483647 + ((0 + (i : Int) + (T : Int)) * (0 + (i : Int) + (T : Int)) * 7919 + 104729)) * 48271 % 2147483647) * ((cs.getD ((0 + (i : Int)) % (((cs.map V.int).length : Nat) : Int)).toNat 0 % 2147483647 + ((0 + (i : Int) + (T : Int)) * (0 + (i : Int) + (T : Int)) * 7919 + 104729)) * 48271 % 2147483647) + 69621 * (0 + (i : Int))) (m := 2147483629) (by decide)
        rw [eN] at hN
        refine ⟨_, rfl, .inl ⟨rfl, _, SqL.of hp'⟩, _, rfl, _, rfl, _, _, rfl, rfl, .inl ⟨by omega, by omega⟩, _, _, rfl, rfl, (by show (0 : Int) < 2147483587; decide), p, _, _, rfl, rfl, hp', (by rw [List.length_map]; exact small1000 (by omega)), ?_⟩
        have hm := mod31 (N * N) (m := 2147483587) (by decide)
        refine ⟨_, _, _, ds ++ [N * N % 2147483587], rfl, Same.onNew s0 np _, (by rw [upd_ne ncp]; exact hc'), (by rw [upd_same, map_snoc, eN]), ?_, snoc_ok hd hm.1 hm.2⟩
        rw [List.length_append, List.length_singleton, ld]
      · rintro σ H' ⟨v, u, z, ds, rfl, s0, hc', hp', ld, hd⟩
        refine ⟨_, rfl, q H' p ds ⟨?_, hd⟩ s0 np hp'⟩
        omega
end
end K36

namespace K36
open PySem PySem.Spec PyProof.Rows L2
section
variable {P : Program} {w : World} {K : PySem.W.Frag} {mg : Str → Option Value} {base : Heap}

/-! ### _law_cars -/
theorem scCars : FnScope ["_law_script", "_law_size", "_law_turn", "_law_draws_here", "_law_shape", "_law_wishes", "_law_k", "_law_wish"] ["_law_script", "_law_size", "_law_turn"] (defScope sCars) := ⟨rfl, rfl, rfl, by decide +kernel, rfl, by decide +kernel, by decide +kernel⟩
theorem ins_map (w : List Int) (j : Nat) (y : Int) : (w.map V.int).take j ++ [V.int y] ++ (w.map V.int).drop j = (w.take j ++ y :: w.drop j).map V.int := by
  rw [List.map_append, List.map_cons, List.map_take, List.map_drop, List.append_assoc]; rfl
theorem ok_cars {f g : Addr} {fd gd : FuncData} (F : Fun K "_law_cars" "_law_cars" sCars f fd) (B : Blt mg) (G : Glo P w K mg base 1 "_law_draws" g gd ["_law_script", "_law_turn", "_law_many"] (spDraws K)) :
    FnOk P w K mg base CX0 2 f fd ["_law_script", "_law_size", "_law_turn"] (spCars K) := by
  refine F.ok scCars (fun vs H Q E h => ?_) (fun cdv A outer s H vs Q E hr h => ?_)
  · obtain ⟨a, ns, n, T, rfl, _⟩ := h
    rfl
  · obtain ⟨a, ns, n, T, rfl, hS, h63, hn, hT, q⟩ := h
    refine ⟨_, pss_cons (ps_set (i := 3) scCars.nd rfl (Or.inl rfl) (pe_call G.ok hr (by rfl) G.mgx G.kp G.b .nil pass0 (pa_cons (pv 0) (pa_cons (pv 2) (pa_cons (pe_op op_add (pe_op op_mul pe_int (pv 1)) pe_int) pa_nil)))))
      (pss_cons (ps_set (i := 4) scCars.nd rfl (Or.inl rfl) (pe_op op_mod (pe_ix ix_list (pv 3) (pe_op op_mul pe_int (pv 1)) (fun _ _ => rfl)) pe_int))
      (pss_cons (ps_set (i := 5) scCars.nd rfl (Or.inl rfl) (pe_lst pa_nil))
      (pss_cons (ps_for PassesOwn.never rfl (pi_range1 (by rfl) B.range (pa_cons (pv 1) pa_nil)) (pg_name (i := 6) scCars.nd rfl (Or.inl rfl))
        (pss_cons (ps_set (i := 7) scCars.nd rfl (Or.inl rfl) (pe_op op_mod (pe_op op_fdiv (pe_ix ix_list (pv 3) (pv 6) (fun _ _ => rfl)) pe_int) (pe_op op_add (pv 6) pe_int)))
        (pss_cutN (ps_if (PW.pt (pw_or (pt_cmpR op_eq (pv 4) pe_int (nomark _)) (pw_or1 (PW.pt (pw_and (pt_cmpR op_gt (pv 4) pe_int (nomark _)) (pw_and1 (pt_cmpR op_eq (pe_op op_mod (pe_ix ix_list (pv 3) (pv 6) (fun _ _ => rfl)) pe_int) pe_int (nomark _))))))))
          (pss_one (ps_set (i := 7) scCars.nd rfl (Or.inl rfl) (pv 6))) pss_nil)
        (pss_cutN (ps_if (pt_cmpR op_eq (pv 4) pe_int (nomark _)) (pss_one (ps_set (i := 7) scCars.nd rfl (Or.inl rfl) pe_int)) pss_nil)
        (pss_one (ps_expr (pe_bm PySem.F.plainAttrs_list PySem.F.slot_list_insert PySem.F.type_list_insert mt_insert (pv 5)
          (pa_cons (pe_op op_mod (pe_ix ix_list (pv 3) (pe_op op_add (pv 1) (pv 6)) (fun _ _ => rfl)) (pe_op op_add (pv 6) pe_int)) (pa_cons (pv 7) pa_nil)))))))))
      (pss_one (ps_ret (pv 5)))))), ?_⟩
    have eM : 2 * (n : Int) + 1 = ((2 * n + 1 : Nat) : Int) := by omega
    refine ⟨_, rfl, _, rfl, _, rfl, _, _, rfl, rfl, .inl (by decide), _, _, rfl, rfl, a, ns, T, 2 * n + 1, (by rw [← eM]; rfl), hS, h63, hT, by omega, fun H1 d ds hds s1 nd hd => ?_⟩
    obtain ⟨ld, rd⟩ := hds
    refine ⟨_, rfl, _, rfl, _, _, rfl, rfl, .inl (by decide), d, _, _, _, rfl, rfl, SqL.of hd, at_int (z := 2 * (n : Int)) (by omega) (by omega), _, _, rfl, rfl, (by show (0 : Int) < 5; decide), ?_⟩
    obtain ⟨shape, eS⟩ : ∃ z : Int, z = ds.getD (2 * (n : Int)).toNat 0 % 5 := ⟨_, rfl⟩
    refine ⟨Nat.zero_le _, fun p np => ?_⟩
    have s2 := Same.new np (.lst [])
    have s02 := s1.trans s2
    have np0 : H p = none := s1.free np
    have ndp : d ≠ p := ne_of_none hd np
    refine ⟨_, rfl, (n : Int), rfl, (by omega), (by omega), ?_⟩
    refine for_range (fun i σ H' => ∃ (v u : Option V) (ws : List Int), σ = [some (.ref a), some (.int (n : Int)), some (.int (T : Int)), some (.ref d), some (.int shape), some (.ref p), v, u] ∧ Same H H' ∧ H' d = some (.lst (ds.map V.int)) ∧ H' p = some (.lst (ws.map V.int)) ∧ Built i ws)
      ⟨none, none, [], (by rw [eS]; rfl), s02, (by rw [upd_ne ndp]; exact hd), upd_same, Built.zero⟩ ?_ ?_
    · rintro i σ H' hi ⟨v, u, ws, rfl, s0, hd', hp', hb⟩
      have hi' : i < n := by omega
      have lw := hb.len
      have kpos : (0 : Int) < 0 + (i : Int) + 1 := by omega
      refine ⟨_, rfl, _, rfl, d, _, _, _, rfl, rfl, SqL.of hd', at_int (z := 0 + (i : Int)) (by omega) (by omega), _, _, rfl, rfl, (by show (0 : Int) < 4 ∧ (4 : Int) < 1073741824; decide), _, rfl, _, _, rfl, rfl, _, _, rfl, rfl, kpos, ?_⟩
      have hm := mod31 (ds.getD (0 + (i : Int)).toNat 0 / 4) kpos
      obtain ⟨w0, e0⟩ : ∃ z : Int, z = ds.getD (0 + (i : Int)).toNat 0 / 4 % (0 + (i : Int) + 1) := ⟨_, rfl⟩
      rw [← e0] at hm
      refine ⟨fun σ' H'' => H'' = H' ∧ ∃ z : Int, 0 ≤ z ∧ z ≤ (i : Int) ∧ σ' = [some (.ref a), some (.int (n : Int)), some (.int (T : Int)), some (.ref d), some (.int shape), some (.ref p), some (.int (0 + (i : Int))), some (.int z)], ?_, ?_⟩
      · refine ⟨_, rfl, rfl, _, rfl, ?_⟩
        refine ite2 (fun _ => ?_) (fun _ => ?_)
        · exact ifT rfl ⟨_, rfl, rfl, 0 + (i : Int), by omega, by omega, rfl⟩
        · refine ⟨_, rfl, _, _, rfl, rfl, _, rfl, ?_⟩
          refine ite2 (fun _ => ?_) (fun _ => ?_)
          · refine ⟨_, rfl, _, rfl, d, _, _, _, rfl, rfl, SqL.of hd', at_int (z := 0 + (i : Int)) (by omega) (by omega), _, _, rfl, rfl, (by show (0 : Int) < 4; decide), rfl, _, rfl, ?_⟩
            refine ite2 (fun _ => ?_) (fun _ => ?_)
            · exact ⟨_, rfl, rfl, 0 + (i : Int), by omega, by omega, rfl⟩
            · exact ⟨rfl, w0, by omega, by omega, by rw [e0]; rfl⟩
          · exact ifF rfl ⟨rfl, w0, by omega, by omega, by rw [e0]; rfl⟩
      · rintro σ' H'' ⟨rfl, z, z0, z1, rfl⟩
        refine ⟨fun σ' H3 => H3 = H'' ∧ ∃ z : Int, 0 ≤ z ∧ z ≤ (i : Int) ∧ σ' = [some (.ref a), some (.int (n : Int)), some (.int (T : Int)), some (.ref d), some (.int shape), some (.ref p), some (.int (0 + (i : Int))), some (.int z)], ?_, ?_⟩
        · refine ⟨_, rfl, rfl, _, rfl, ?_⟩
          refine ite2 (fun _ => ?_) (fun _ => ?_)
          · exact ⟨rfl, 0, by omega, by omega, rfl⟩
          · exact ⟨rfl, z, z0, z1, rfl⟩
        · rintro σ' H3 ⟨rfl, z, z0, z1, rfl⟩
          have hq := mod31 (ds.getD ((n : Int) + (0 + (i : Int))).toNat 0) kpos
          refine ⟨_, rfl, .inl ⟨rfl, _, SqL.of hp'⟩, _, rfl, _, rfl, _, rfl, _, _, rfl, rfl, d, _, _, _, rfl, rfl, SqL.of hd', at_int (z := (n : Int) + (0 + (i : Int))) (by omega) (by omega), _, rfl, _, _, rfl, rfl, _, _, rfl, rfl, kpos, _, rfl, ?_⟩
          refine ⟨p, _, _, _, rfl, rfl, hp', (by rw [List.length_map]; exact small1000 (by omega)), hq.1, (by omega), ?_⟩
          refine ⟨_, _, _, rfl, Same.onNew s0 np0 _, (by rw [upd_ne ndp]; exact hd'), (by rw [upd_same, ins_map]), hb.step (List.take_append_drop _ _).symm z0 z1⟩
    · rintro σ H' ⟨v, u, ws, rfl, s0, hd', hp', hb⟩
      have en : (n : Int).toNat = n := by omega
      rw [en] at hb
      exact ⟨_, rfl, q H' p ws hb s0 np0 hp'⟩

/-! ### _law_figures -/
abbrev nFigs : List Str := ["_law_script", "_law_size", "_law_turn", "_law_draws_here", "_law_share", "_law_k"]
theorem scFigs : FnScope nFigs ["_law_script", "_law_size", "_law_turn"] (defScope sFigs) := ⟨rfl, rfl, rfl, by decide +kernel, rfl, by decide +kernel, by decide +kernel⟩
theorem share_at (n : Nat) (h : 1 ≤ n) (z : Int) (h0 : 0 ≤ z) (h1 : z < 4) : ∃ sh : Int, 2 ≤ sh ∧ atI [V.int ((n : Int) + 1), V.int ((n : Int) + 1), V.int 2, V.int 3] z = some (.int sh) := by
  have c : z = 0 ∨ z = 1 ∨ z = 2 ∨ z = 3 := by omega
  rcases c with rfl | rfl | rfl | rfl
  · exact ⟨(n : Int) + 1, by omega, rfl⟩
  · exact ⟨(n : Int) + 1, by omega, rfl⟩
  · exact ⟨2, by omega, rfl⟩
  · exact ⟨3, by omega, rfl⟩
def fig (ds : List Int) (n : Nat) (sh : Int) (i : Nat) : Int := if (n : Int) < ds.getD i 0 % sh + ds.getD n 0 / 4 % 2 * ((n : Int) - 2) then (n : Int) else ds.getD i 0 % sh + ds.getD n 0 / 4 % 2 * ((n : Int) - 2)
theorem fig_ok {ds : List Int} {n : Nat} {sh : Int} (hs : 2 ≤ sh) (i : Nat) (hn : 2 ≤ n) : 0 ≤ fig ds n sh i ∧ fig ds n sh i ≤ (n : Int) := by
  have h1 := mod31 (ds.getD i 0) (m := sh) (by omega)
  have h2 := mod31 (ds.getD n 0 / 4) (m := 2) (by decide)
  have h3 : 0 ≤ ds.getD n 0 / 4 % 2 * ((n : Int) - 2) := Int.mul_nonneg h2.1 (by omega)
  unfold fig
  split <;> constructor <;> omega
theorem ok_figs {f g : Addr} {fd gd : FuncData} (F : Fun K "_law_figures" "_law_figures" sFigs f fd) (B : Blt mg) (G : Glo P w K mg base 1 "_law_draws" g gd ["_law_script", "_law_turn", "_law_many"] (spDraws K)) :
    FnOk P w K mg base CX0 2 f fd ["_law_script", "_law_size", "_law_turn"] (spFigs K) := by
  refine F.ok scFigs (fun vs H Q E h => ?_) (fun cdv A outer s H vs Q E hr h => ?_)
  · obtain ⟨a, ns, n, T, rfl, _⟩ := h
    rfl
  · obtain ⟨a, ns, n, T, rfl, hS, h63, hn1, hn, hT, q⟩ := h
    refine ⟨_, pss_cons (ps_set (i := 3) scFigs.nd rfl (Or.inr rfl) (pe_call G.ok hr (by rfl) G.mgx G.kp G.b .nil pass0 (pa_cons (pv 0) (pa_cons (pv 2) (pa_cons (pe_op op_add (pv 1) pe_int) pa_nil)))))
      (pss_cons (ps_set (i := 4) scFigs.nd rfl (Or.inr rfl) (pe_ix ix_list (pe_lst (pa_cons (pe_op op_add (pv 1) pe_int) (pa_cons (pe_op op_add (pv 1) pe_int) (pa_cons pe_int (pa_cons pe_int pa_nil))))) (pe_op op_mod (pe_ix ix_list (pv 3) (pv 1) (fun _ _ => rfl)) pe_int) (fun _ _ => rfl)))
      (pss_one (ps_ret (pe_lc (own := [("_law_k", 5)]) (g := gName 5) (tt := tYes) rfl scFigs.nd (pi_range1 (by rfl) B.range (pa_cons (pe_op op_sub (pv 1) pe_int) pa_nil))
        (blkOk_by (N := nFigs) (sc := defScope sFigs) (by decide +kernel)) (fun _ _ _ _ _ => pg_name (i := 5) scFigs.nd rfl (Or.inl rfl)) (fun _ _ _ _ _ => pts_nil)
        (fun _ _ _ _ _ => pe_callB (call_min2 rfl) (by rfl) B.min (by decide +kernel) (pa_cons (pe_op op_add (pe_op op_mod (pe_ix (ixK (K := K) rfl) (pv 3) (pv 5) (fun _ _ => rfl)) (pv 4))
          (pe_op op_mul (pe_op op_mod (pe_op op_fdiv (pe_ix (ixK (K := K) rfl) (pv 3) (pv 1) (fun _ _ => rfl)) pe_int) pe_int) (pe_op op_sub (pv 1) pe_int))) (pa_cons (pv 1) pa_nil))))))), ?_⟩
    have eM : (n : Int) + 1 = ((n + 1 : Nat) : Int) := by omega
    refine ⟨_, rfl, _, rfl, _, rfl, _, _, rfl, rfl, a, ns, T, n + 1, (by rw [← eM]; rfl), hS, h63, hT, by omega, fun H1 d ds hds s1 nd hd => ?_⟩
    obtain ⟨ld, rd⟩ := hds
    refine ⟨_, rfl, _, _, rfl, rfl, _, rfl, _, _, rfl, rfl, (by show 4 ≤ sizeLine; decide), fun l nl => ?_⟩
    have s2 := Same.new nl (.lst [V.int ((n : Int) + 1), V.int ((n : Int) + 1), V.int 2, V.int 3])
    have s02 := s1.trans s2
    have hd2 := s2 _ _ hd
    have hq := mod31 (ds.getD ((n : Int)).toNat 0) (m := 4) (by decide)
    obtain ⟨sh, hsh, hat⟩ := share_at n hn1 _ hq.1 hq.2
    refine ⟨_, rfl, _, rfl, d, _, _, _, rfl, rfl, SqL.of hd2, at_int (z := (n : Int)) (by omega) (by omega), _, _, rfl, rfl, (by show (0 : Int) < 4; decide), l, _, _, _, rfl, rfl, SqL.of upd_same, hat, ?_⟩
    refine ⟨_, rfl, _, _, rfl, rfl, (n : Int) - 1, rfl, (by omega), (by omega), ?_⟩
    refine lc_mapR (fun i => V.int (fig ds n sh i)) (by omega) (fun _ => rfl) ?_ ?_
    · intro i H' Q' hi s3 q'
      have hd3 := s3 _ _ hd2
      have ei : (0 + (i : Int)).toNat = i := by omega
      have en : ((n : Int)).toNat = n := by omega
      have h2 := mod31 (ds.getD n 0 / 4) (m := 2) (by decide)
      refine ⟨_, rfl, _, rfl, d, _, _, _, rfl, rfl, SqL.of hd3, at_int (z := 0 + (i : Int)) (by omega) (by omega), _, rfl, _, _, rfl, rfl, (by show (0 : Int) < sh; omega), ?_⟩
      refine ⟨_, rfl, _, rfl, d, _, _, _, rfl, rfl, SqL.of hd3, at_int (z := (n : Int)) (by omega) (by omega), _, _, rfl, rfl, (by show (0 : Int) < 4 ∧ (4 : Int) < 1073741824; decide), _, _, rfl, rfl, (by show (0 : Int) < 2; decide), ?_⟩
      rw [ei, en]
      refine ⟨_, rfl, _, _, rfl, rfl, _, _, rfl, rfl, .inl ⟨by omega, by omega⟩, _, _, rfl, rfl, _, rfl, _, _, rfl, q'⟩
    · intro D H3 hD s3 hL
      have en : ((n : Int) - 1).toNat = n - 1 := by omega
      rw [en] at hL
      refine q H3 D ((List.range (n - 1)).map (fig ds n sh)) ⟨by rw [List.length_map, List.length_range], ?_⟩ (s02.trans s3) (s02.free hD) (by rw [List.map_map]; exact hL)
      intro x hx
      obtain ⟨i, hi, rfl⟩ := List.mem_map.mp hx
      have hi' := List.mem_range.mp hi
      have := fig_ok (ds := ds) hsh i (show 2 ≤ n by omega)
      rw [List.length_map, List.length_range]
      omega
end
end K36

namespace K36
open PySem PySem.Spec PyProof.Rows L2
abbrev sLaw : Stmt := top 30
def spLaw (K : PySem.W.Frag) : Sp := fun vs H Q _ => ∃ (a : Addr) (ns : List Int), vs = [.ref a] ∧ SqL K H a (ns.map V.int) ∧ ns.length ≤ 63 ∧ ∀ H', Q (.bl true) H'
section
variable {P : Program} {w : World} {K : PySem.W.Frag} {mg : Str → Option Value} {base : Heap}

theorem alk_ints {H : Hp} {a b : Addr} {ns : List Int} (h1 : SqL K H a (ns.map V.int)) (h2 : SqL K H b (ns.map V.int)) (hz : ns.length ≤ 1000) : Alk K 1 H (.ref a) (.ref b) :=
  ⟨a, b, _, _, rfl, rfl, h1, h2, rfl, by rw [List.length_map]; exact hz, fun j u v hu hv => by
    obtain ⟨_, rfl⟩ := get_map_int hu
    obtain ⟨_, rfl⟩ := get_map_int hv
    exact ⟨_, rfl, rfl⟩⟩
theorem alk_two {H : Hp} {a b : Addr} {x1 x2 y1 y2 : V} (h1 : SqL K H a [x1, x2]) (h2 : SqL K H b [y1, y2]) (k1 : Alk K 1 H x1 y1) (k2 : Alk K 1 H x2 y2) : Alk K 2 H (.ref a) (.ref b) :=
  ⟨a, b, _, _, rfl, rfl, h1, h2, rfl, (by show 2 ≤ 1000; decide), fun j u v hu hv => by
    match j, hu, hv with
    | 0, hu, hv => cases hu; cases hv; exact k1
    | 1, hu, hv => cases hu; cases hv; exact k2
    | j + 2, hu, hv => simp at hu⟩
/-- three lists of ints in a list, as data -/
abbrev d3 (a b c : List Int) : PyData := .list [dL a, dL b, dL c]
theorem lay_d3 (a b c : List Int) : PyData.canLayAll0 [dL a, dL b, dL c] = true := by
  have h1 : PyData.canLay0 (dL a) = true := lay_ints a
  have h2 : PyData.canLay0 (dL b) = true := lay_ints b
  have h3 : PyData.canLay0 (dL c) = true := lay_ints c
  simp only [PyData.canLayAll0, h1, h2, h3, Bool.and_self]
theorem shaped_d3 (a b c : List Int) : SeqAt.shaped (d3 a b c) = true := by
  unfold SeqAt.shaped
  rw [Bool.and_eq_true]
  refine ⟨lay_d3 a b c, decide_eq_true ?_⟩
  have h1 := depth_ints a
  have h2 := depth_ints b
  have h3 := depth_ints c
  simp only [PyData.depth, PyData.depthAll]
  omega
theorem dp_d3 {H : Hp} {q x y z : Addr} {a b c : List Int} (hq : SqL K H q [.ref x, .ref y, .ref z]) (h1 : SqL K H x (a.map V.int)) (h2 : SqL K H y (b.map V.int)) (h3 : SqL K H z (c.map V.int)) : Dp K H (.ref q) (d3 a b c) :=
  .lst hq (.cons (.lst h1 (dp_ints a)) (.cons (.lst h2 (dp_ints b)) (.cons (.lst h3 (dp_ints c)) .nil)))
theorem size_draw (z : Int) : ∃ n : Nat, 1 + z % 40 = (n : Int) ∧ 1 ≤ n ∧ n ≤ 40 := by
  have h := mod31 z (m := 40) (by decide)
  exact ⟨(1 + z % 40).toNat, by omega, by omega, by omega⟩

abbrev nLaw : List Str := ["_law_script", "_law_wishes", "_law_steps_here", "_law_code", "_law_kin", "_law_handed", "_law_k", "_law_codes", "_law_cars_here", "_law_found", "_law_told"]
theorem scLaw : FnScope nLaw ["_law_script"] (defScope sLaw) := ⟨rfl, rfl, rfl, by decide +kernel, rfl, by decide +kernel, by decide +kernel⟩

/-- what stands ahead of the law's rounds -/
structure Stage (Hb : Hp) (C : Addr) (p1 p2 p3 x q l1 l2 l3 : Addr) (ws cs : List Int) : Prop where
  w1 : Hb p1 = some (.lst (ws.map V.int))
  w2 : Hb p2 = some (.lst ((steps ws).map V.int))
  w3 : Hb p3 = some (.lst (cs.map V.int))
  kin : ∃ (dx : Addr) (fs : List (Str × V)), Hb x = some (.ins C dx fs) ∧ Plain fs
  hq : Hb q = some (.lst [.ref l1, .ref l2, .ref l3])
  h1 : Hb l1 = some (.lst (ws.map V.int))
  h2 : Hb l2 = some (.lst ((steps ws).map V.int))
  h3 : Hb l3 = some (.lst (cs.map V.int))

theorem ok_law {f g C fc fd2 fco fof fa fbc fcl fst fca ffi : Addr} {fd gd fdc fdd fdco fdof fda fdbc fdcl fdst fdca fdfi : FuncData} (F : Fun K "law" "law" sLaw f fd) (B : Blt mg) (M : Made P w K mg base "Cars" C g gd)
    (C2C : Glo P w K mg base 5 "cars_to_code" fc fdc ["thing"] (spC2C K)) (D2C : Glo P w K mg base 5 "code_to_cars" fd2 fdd ["thing"] (spD2C K))
    (mCo : Meth K C "code_of" fco) (GCo : FnOk P w K mg base CX0 6 fco fdco ["self", "thing"] (spCodeOf K)) (bCo : Binds K fdco ["self", "thing"] [])
    (mOf : Meth K C "of_code" fof) (GOf : FnOk P w K mg base CX0 6 fof fdof ["self", "code"] (spOfCode K)) (bOf : Binds K fdof ["self", "code"] [])
    (AL : Glo P w K mg base 3 "_law_alike" fa fda ["_law_found", "_law_due"] (spAlike K 2)) (BC : Glo P w K mg base 2 "_law_by_code" fbc fdbc ["_law_found", "_law_code"] (spByCode K))
    (CL : Glo P w K mg base 1 "_law_cell_at" fcl fdcl ["_law_script", "_law_k"] (spCell K)) (ST : Glo P w K mg base 1 "_law_steps" fst fdst ["_law_wishes"] (spSteps K))
    (CA : Glo P w K mg base 2 "_law_cars" fca fdca ["_law_script", "_law_size", "_law_turn"] (spCars K)) (FI : Glo P w K mg base 2 "_law_figures" ffi fdfi ["_law_script", "_law_size", "_law_turn"] (spFigs K)) :
    FnOk P w K mg base CX0 7 f fd ["_law_script"] (spLaw K) := by
  refine F.ok scLaw (fun vs H Q E h => ?_) (fun cdv A outer s H vs Q E hr h => ?_)
  · obtain ⟨a, ns, rfl, _⟩ := h
    rfl
  · obtain ⟨a, ns, rfl, hS, h63, q⟩ := h
    have hr1 : Room 1 _ := hr.mono (by decide)
    have hr2 : Room 2 _ := hr.mono (by decide)
    have hr3 : Room 3 _ := hr.mono (by decide)
    have hr4 : Room 4 _ := hr.mono (by decide)
    have hr5 : Room 5 _ := hr.mono (by decide)
    refine ⟨_, pss_cons (ps_set (i := 1) scLaw.nd rfl (Or.inl rfl) (pe_call CA.ok hr2 (by rfl) CA.mgx CA.kp CA.b .nil pass0 (pa_cons (pv 0) (pa_cons (pe_op op_add pe_int (pe_op op_mod (pe_call CL.ok hr1 (by rfl) CL.mgx CL.kp CL.b .nil pass0 (pa_cons (pv 0) (pa_cons pe_int pa_nil))) pe_int)) (pa_cons pe_int pa_nil)))))
      (pss_cons (ps_set (i := 2) scLaw.nd rfl (Or.inl rfl) (pe_call ST.ok hr1 (by rfl) ST.mgx ST.kp ST.b .nil pass0 (pa_cons (pv 1) pa_nil)))
      (pss_cons (ps_set (i := 3) scLaw.nd rfl (Or.inl rfl) (pe_call FI.ok hr2 (by rfl) FI.mgx FI.kp FI.b .nil pass0 (pa_cons (pv 0) (pa_cons (pe_op op_add pe_int (pe_op op_mod (pe_call CL.ok hr1 (by rfl) CL.mgx CL.kp CL.b .nil pass0 (pa_cons (pv 0) (pa_cons pe_int pa_nil))) pe_int)) (pa_cons pe_int pa_nil)))))
      (pss_cons (ps_set (i := 4) scLaw.nd rfl (Or.inl rfl) (pe_make0 M.mk_ M.ok hr4 (by rfl) M.mgx M.b .nil pass0))
      (pss_cons (ps_set (i := 5) scLaw.nd rfl (Or.inl rfl) (pe_lst (pa_cons (pe_callTy call_list_of (by rfl) B.list (by decide +kernel) (pa_cons (pv 1) pa_nil)) (pa_cons (pe_callTy call_list_of (by rfl) B.list (by decide +kernel) (pa_cons (pv 2) pa_nil)) (pa_cons (pe_callTy call_list_of (by rfl) B.list (by decide +kernel) (pa_cons (pv 3) pa_nil)) pa_nil)))))
      (pss_cons (ps_for PassesOwn.never rfl (pi_range1 (by rfl) B.range (pa_cons pe_int pa_nil)) (pg_name (i := 6) scLaw.nd rfl (Or.inl rfl))
        (pss_cons (ps_set (i := 7) scLaw.nd rfl (Or.inl rfl) (pe_lst (pa_cons (pe_call C2C.ok hr5 (by rfl) C2C.mgx C2C.kp C2C.b .nil pass0 (pa_cons (pe_ix ix_list (pv 5) pe_int (fun _ _ => rfl)) pa_nil))
          (pa_cons (pe_meth (pv 4) M.kin.cl mCo GCo hr bCo .nil pass0 (pa_cons (pe_ix ix_list (pv 5) pe_int (fun _ _ => rfl)) pa_nil)) pa_nil))))
        (pss_cons (ps_set (i := 8) scLaw.nd rfl (Or.inl rfl) (pe_lst (pa_cons (pe_call D2C.ok hr5 (by rfl) D2C.mgx D2C.kp D2C.b .nil pass0 (pa_cons (pe_ix ix_list (pv 5) pe_int (fun _ _ => rfl)) pa_nil))
          (pa_cons (pe_meth (pv 4) M.kin.cl mOf GOf hr bOf .nil pass0 (pa_cons (pe_ix ix_list (pv 5) pe_int (fun _ _ => rfl)) pa_nil)) pa_nil))))
        (pss_cons (ps_if (PW.pt (pw_or (pt_not (pt_val (pe_call AL.ok hr3 (by rfl) AL.mgx AL.kp AL.b .nil pass0 (pa_cons (pv 7) (pa_cons (pe_lst (pa_cons (pv 2) (pa_cons (pv 2) pa_nil))) pa_nil)))))
          (pw_or1 (pt_not (pt_val (pe_call AL.ok hr3 (by rfl) AL.mgx AL.kp AL.b .nil pass0 (pa_cons (pv 8) (pa_cons (pe_lst (pa_cons (pv 1) (pa_cons (pv 1) pa_nil))) pa_nil)))))))) pss_never pss_nil)
        (pss_cons (ps_set (i := 9) scLaw.nd rfl (Or.inl rfl) (pe_lst (pa_cons (pe_call D2C.ok hr5 (by rfl) D2C.mgx D2C.kp D2C.b .nil pass0 (pa_cons (pe_ix ix_list (pv 5) pe_int (fun _ _ => rfl)) pa_nil))
          (pa_cons (pe_meth (pv 4) M.kin.cl mOf GOf hr bOf .nil pass0 (pa_cons (pe_ix ix_list (pv 5) pe_int (fun _ _ => rfl)) pa_nil)) pa_nil))))
        (pss_cons (ps_if (PW.pt (pw_or (pt_not (pt_val (pe_call BC.ok hr2 (by rfl) BC.mgx BC.kp BC.b .nil pass0 (pa_cons (pe_ix ix_list (pv 9) pe_int (fun _ _ => rfl)) (pa_cons (pv 3) pa_nil)))))
          (pw_or1 (pt_not (pt_val (pe_call BC.ok hr2 (by rfl) BC.mgx BC.kp BC.b .nil pass0 (pa_cons (pe_ix ix_list (pv 9) pe_int (fun _ _ => rfl)) (pa_cons (pv 3) pa_nil)))))))) pss_never pss_nil)
        (pss_one (ps_for PassesOwn.never rfl (pi_list (pe_op op_cat (pe_op op_cat (pv 7) (pv 8)) (pv 9))) (pg_name (i := 10) scLaw.nd rfl (Or.inl rfl))
          (pss_one (ps_expr (pe_bm PySem.F.plainAttrs_list PySem.F.slot_list_append PySem.F.type_list_append mt_append (pv 10) (pa_cons pe_int pa_nil))))))))))))
      (pss_one (ps_ret (pe_cmpR (op_eqD hr.units) (pv 5) (pe_lst (pa_cons (pv 1) (pa_cons (pv 2) (pa_cons (pv 3) pa_nil)))) (nomark _))))))))), ?_⟩
    -- the wishes
    refine ⟨_, rfl, _, rfl, a, ns, 0, rfl, hS, Int.le_refl 0, fun z1 => ?_⟩
    obtain ⟨n1, e1, n11, n140⟩ := size_draw z1
    refine ⟨_, _, rfl, rfl, (by show (0 : Int) < 40; decide), _, _, rfl, rfl, a, ns, n1, 2, (by show [V.ref a, V.int (1 + z1 % 40), V.int 2] = _; rw [e1]; rfl), hS, h63, by omega, by omega, fun H1 p1 ws hw s1 np1 w1 => ?_⟩
    have hpark := hw.park
    have lws := hw.len
    refine ⟨_, rfl, p1, ws, rfl, SqL.of w1, by omega, fun H2 p2 r2 er2 s2 np2 w2 => ?_⟩
    subst er2
    have s02 := s1.trans s2
    -- the code
    refine ⟨_, rfl, _, rfl, a, ns, 1, rfl, s02.seq hS, by decide, fun z2 => ?_⟩
    obtain ⟨n2, e2, n21, n240⟩ := size_draw z2
    refine ⟨_, _, rfl, rfl, (by show (0 : Int) < 40; decide), _, _, rfl, rfl, a, ns, n2, 200, (by show [V.ref a, V.int (1 + z2 % 40), V.int 200] = _; rw [e2]; rfl), s02.seq hS, h63, by omega, by omega, by omega, fun H3 p3 cs hcs s3 np3 w3 => ?_⟩
    obtain ⟨lcs, hcode⟩ := hcs
    -- the object
    intro x dx nx ndx nex
    refine ⟨x, C, dx, "", 0, rfl, upd_same, M.kin, fun fs hf => ⟨rfl, ?_⟩⟩
    have s4 := Same.kin (C := C) (fs := fs) nx ndx
    have w1' := s4 _ _ (s3 _ _ (s2 _ _ w1))
    have w2' := s4 _ _ (s3 _ _ w2)
    have w3' := s4 _ _ w3
    have hx : upd (upd (upd H3 dx (.own x)) x (.ins C dx [])) x (.ins C dx fs) x = some (.ins C dx fs) := upd_same
    generalize upd (upd (upd H3 dx (.own x)) x (.ins C dx [])) x (.ins C dx fs) = H4 at w1' w2' w3' hx ⊢
    -- what is handed in
    refine ⟨_, rfl, p1, _, rfl, .inl (SqL.of w1'), fun l1 nl1 => ?_⟩
    have s5 := Same.new nl1 (.lst (ws.map V.int))
    refine ⟨_, rfl, p2, _, rfl, .inl (SqL.of (s5 _ _ w2')), fun l2 nl2 => ?_⟩
    have s6 := Same.new nl2 (.lst ((steps ws).map V.int))
    refine ⟨_, rfl, p3, _, rfl, .inl (SqL.of (s6 _ _ (s5 _ _ w3'))), fun l3 nl3 => ?_⟩
    have s7 := Same.new nl3 (.lst (cs.map V.int))
    refine ⟨(by show 3 ≤ sizeLine; decide), fun qa nqa => ?_⟩
    have s8 := Same.new nqa (.lst [.ref l1, .ref l2, .ref l3])
    have stage : Stage (upd (upd (upd (upd H4 l1 (.lst (ws.map V.int))) l2 (.lst ((steps ws).map V.int))) l3 (.lst (cs.map V.int))) qa (.lst [.ref l1, .ref l2, .ref l3])) C p1 p2 p3 x qa l1 l2 l3 ws cs :=
      ⟨s8 _ _ (s7 _ _ (s6 _ _ (s5 _ _ w1'))), s8 _ _ (s7 _ _ (s6 _ _ (s5 _ _ w2'))), s8 _ _ (s7 _ _ (s6 _ _ (s5 _ _ w3'))), ⟨dx, fs, s8 _ _ (s7 _ _ (s6 _ _ (s5 _ _ hx))), hf⟩, upd_same, s8 _ _ (s7 _ _ (s6 _ _ upd_same)), s8 _ _ (s7 _ _ upd_same), s8 _ _ upd_same⟩
    generalize upd (upd (upd (upd H4 l1 (.lst (ws.map V.int))) l2 (.lst ((steps ws).map V.int))) l3 (.lst (cs.map V.int))) qa (.lst [.ref l1, .ref l2, .ref l3]) = Hb at stage ⊢
    clear s8 s7 s6 s5 s4 s3 s2 s1 w1' w2' w3' hx nqa nl3 nl2 nl1 w1 w2 w3 np1 np2 np3
    obtain ⟨w1, w2, w3, ⟨dx', fs', hx, hf'⟩, hq, h1, h2, h3⟩ := stage
    have lst' : (steps ws).length + 1 = ws.length := by rw [steps_length]; omega
    have stok : CodeOk (steps ws) := steps_ok (by omega)
    -- the rounds
    refine ⟨2, rfl, by decide, by decide, ?_⟩
    refine for_range (fun i σ H' => ∃ v0 v1 v2 v3 v4 : Option V, σ = [some (.ref a), some (.ref p1), some (.ref p2), some (.ref p3), some (.ref x), some (.ref qa), v0, v1, v2, v3, v4] ∧ Same Hb H') ⟨none, none, none, none, none, rfl, Same.refl Hb⟩ ?_ ?_
    · rintro i σ H0 hi ⟨v0, v1, v2, v3, v4, rfl, s0⟩
      -- codes
      refine ⟨_, rfl, qa, _, _, _, rfl, rfl, SqL.of (s0 _ _ hq), rfl, l1, ws, rfl, SqL.of (s0 _ _ h1), hpark, by omega, by omega, fun H1 c1 r1 er1 t1 nc1 hc1 => ?_⟩
      subst er1
      have s1 := s0.trans t1
      refine ⟨_, rfl, x, dx', fs', rfl, s1 _ _ hx, no_code_of hf', _, rfl, qa, _, _, _, rfl, rfl, SqL.of (s1 _ _ hq), rfl, _, l1, rfl, l1, ws, rfl, SqL.of (s1 _ _ h1), hpark, by omega, by omega, fun H2 c2 r2 er2 t2 nc2 hc2 => ?_⟩
      subst er2
      have s2 := s1.trans t2
      refine ⟨(by show 2 ≤ sizeLine; decide), fun lc nlc => ?_⟩
      have t3 := Same.new nlc (.lst [.ref c1, .ref c2])
      have s3 := s2.trans t3
      have hlc := upd_same (H := H2) (a := lc) (o := .lst [.ref c1, .ref c2])
      have b1 : Hb c1 = none := s0.free nc1
      have b2 : Hb c2 = none := s1.free nc2
      have hc1' := t3 _ _ (t2 _ _ hc1)
      have hc2' := t3 _ _ hc2
      generalize upd H2 lc (.lst [.ref c1, .ref c2]) = H3 at s3 hlc hc1' hc2' ⊢
      -- cars_here
      refine ⟨_, rfl, qa, _, _, _, rfl, rfl, SqL.of (s3 _ _ hq), rfl, l2, steps ws, rfl, SqL.of (s3 _ _ h2), stok, by omega, fun H4 d1 r4 g4 t4 nd1 hd1 => ?_⟩
      obtain ⟨g41, g42, g43⟩ := g4
      have e4 := park_one hpark g42 (by omega) (by omega) g43
      subst e4
      have s4 := s3.trans t4
      refine ⟨_, rfl, x, dx', fs', rfl, s4 _ _ hx, no_of_code hf', _, rfl, qa, _, _, _, rfl, rfl, SqL.of (s4 _ _ hq), rfl, _, l2, rfl, l2, steps r4, rfl, SqL.of (s4 _ _ h2), stok, by omega, fun H5 d2 r5 g5 t5 nd2 hd2 => ?_⟩
      obtain ⟨g51, g52, g53⟩ := g5
      have e5 := park_one hpark g52 (by omega) (by omega) g53
      subst e5
      have s5 := s4.trans t5
      refine ⟨(by show 2 ≤ sizeLine; decide), fun ld nld => ?_⟩
      have t6 := Same.new nld (.lst [.ref d1, .ref d2])
      have s6 := s5.trans t6
      have hld := upd_same (H := H5) (a := ld) (o := .lst [.ref d1, .ref d2])
      have b3 : Hb d1 = none := s3.free nd1
      have b4 : Hb d2 = none := s4.free nd2
      have hlc6 := t6 _ _ (t5 _ _ (t4 _ _ hlc))
      have hc16 := t6 _ _ (t5 _ _ (t4 _ _ hc1'))
      have hc26 := t6 _ _ (t5 _ _ (t4 _ _ hc2'))
      have hd16 := t6 _ _ (t5 _ _ hd1)
      have hd26 := t6 _ _ hd2
      generalize upd H5 ld (.lst [.ref d1, .ref d2]) = H6 at s6 hld hlc6 hc16 hc26 hd16 hd26 ⊢
      -- alike
      refine ⟨_, rfl, _, rfl, _, rfl, (by show 2 ≤ sizeLine; decide), fun y1 ny1 => ?_⟩
      have t7 := Same.new ny1 (.lst [.ref p2, .ref p2])
      have s7 := s6.trans t7
      refine ⟨_, _, rfl, alk_two (SqL.of (t7 _ _ hlc6)) (SqL.of upd_same) (alk_ints (SqL.of (t7 _ _ hc16)) (SqL.of (s7 _ _ w2)) (by omega)) (alk_ints (SqL.of (t7 _ _ hc26)) (SqL.of (s7 _ _ w2)) (by omega)), fun H8 t8 => ⟨true, rfl, ?_⟩⟩
      refine ifF rfl ?_
      have s8 := s7.trans t8
      have t78 := t7.trans t8
      refine ⟨_, rfl, _, rfl, _, rfl, (by show 2 ≤ sizeLine; decide), fun y2 ny2 => ?_⟩
      have t9 := Same.new ny2 (.lst [.ref p1, .ref p1])
      have t89 := t78.trans t9
      have s9 := s8.trans t9
      refine ⟨_, _, rfl, alk_two (SqL.of (t89 _ _ hld)) (SqL.of upd_same) (alk_ints (SqL.of (t89 _ _ hd16)) (SqL.of (s9 _ _ w1)) (by omega)) (alk_ints (SqL.of (t89 _ _ hd26)) (SqL.of (s9 _ _ w1)) (by omega)), fun H10 t10 => ⟨true, rfl, ?_⟩⟩
      refine ifF rfl ?_
      have s10 := s9.trans t10
      have t610 := t89.trans t10
      -- found
      refine ⟨_, rfl, qa, _, _, _, rfl, rfl, SqL.of (s10 _ _ hq), rfl, l3, cs, rfl, SqL.of (s10 _ _ h3), hcode, by omega, fun H11 f1 r11 g11 t11 nf1 hf1 => ?_⟩
      have s11 := s10.trans t11
      refine ⟨_, rfl, x, dx', fs', rfl, s11 _ _ hx, no_of_code hf', _, rfl, qa, _, _, _, rfl, rfl, SqL.of (s11 _ _ hq), rfl, _, l3, rfl, l3, cs, rfl, SqL.of (s11 _ _ h3), hcode, by omega, fun H12 f2 r12 g12 t12 nf2 hf2 => ?_⟩
      have s12 := s11.trans t12
      refine ⟨(by show 2 ≤ sizeLine; decide), fun lf nlf => ?_⟩
      have t13 := Same.new nlf (.lst [.ref f1, .ref f2])
      have s13 := s12.trans t13
      have hlf := upd_same (H := H12) (a := lf) (o := .lst [.ref f1, .ref f2])
      have b5 : Hb f1 = none := s10.free nf1
      have b6 : Hb f2 = none := s11.free nf2
      have t613 := ((t610.trans t11).trans t12).trans t13
      have hf113 := t13 _ _ (t12 _ _ hf1)
      have hf213 := t13 _ _ hf2
      generalize upd H12 lf (.lst [.ref f1, .ref f2]) = H13 at s13 hlf t613 hf113 hf213 ⊢
      -- by code
      refine ⟨_, rfl, lf, _, _, _, rfl, rfl, SqL.of hlf, rfl, _, rfl, f1, p3, r11, cs, rfl, SqL.of hf113, SqL.of (s13 _ _ w3), g11, by omega, fun H14 t14 => ⟨true, rfl, ?_⟩⟩
      refine ifF rfl ?_
      have s14 := s13.trans t14
      refine ⟨_, rfl, lf, _, _, _, rfl, rfl, SqL.of (t14 _ _ hlf), rfl, _, rfl, f2, p3, r12, cs, rfl, SqL.of (t14 _ _ hf213), SqL.of (s14 _ _ w3), g12, by omega, fun H15 t15 => ⟨true, rfl, ?_⟩⟩
      refine ifF rfl ?_
      have s15 := s14.trans t15
      have t1315 := t14.trans t15
      have t615 := t613.trans t1315
      have kc := t615 _ _ hlc6
      have kd := t615 _ _ hld
      have kf := t1315 _ _ hlf
      -- what was told is changed
      refine ⟨_, rfl, _, rfl, lc, ld, _, _, rfl, rfl, kc, kd, (by show 4 ≤ sizeLine; decide), fun u1 nu1 => ?_⟩
      have t16 := Same.new nu1 (.lst ([.ref c1, .ref c2] ++ [.ref d1, .ref d2]))
      refine ⟨_, rfl, u1, lf, _, _, rfl, rfl, upd_same, t16 _ _ kf, (by show 6 ≤ sizeLine; decide), fun u nu => ?_⟩
      have t17 := Same.new nu (.lst ([.ref c1, .ref c2] ++ [.ref d1, .ref d2] ++ [.ref f1, .ref f2]))
      have s17 := (s15.trans t16).trans t17
      have t617 := (t615.trans t16).trans t17
      have t1317 := (t1315.trans t16).trans t17
      have nw : ∀ z o, (upd H15 u1 (.lst ([.ref c1, .ref c2] ++ [.ref d1, .ref d2]))) z = some o → z ≠ u := fun z o hz => ne_of_none hz nu
      have bu : Hb u = none := (s15.trans t16).free nu
      have t616 := t615.trans t16
      have t1316 := t1315.trans t16
      have six : ∀ z ∈ [c1, c2, d1, d2, f1, f2], Hb z = none ∧ z ≠ u ∧ ∃ ys : List V, upd (upd H15 u1 (.lst ([.ref c1, .ref c2] ++ [.ref d1, .ref d2]))) u (.lst ([.ref c1, .ref c2] ++ [.ref d1, .ref d2] ++ [.ref f1, .ref f2])) z = some (.lst ys) ∧ ys.length ≤ 100 + 0 := by
        have big : ∀ (z : Addr) (ys : List Int), Hb z = none → ys.length ≤ 100 → (upd H15 u1 (.lst ([.ref c1, .ref c2] ++ [.ref d1, .ref d2]))) z = some (.lst (ys.map V.int)) → Hb z = none ∧ z ≠ u ∧ ∃ zs : List V, upd (upd H15 u1 (.lst ([.ref c1, .ref c2] ++ [.ref d1, .ref d2]))) u (.lst ([.ref c1, .ref c2] ++ [.ref d1, .ref d2] ++ [.ref f1, .ref f2])) z = some (.lst zs) ∧ zs.length ≤ 100 + 0 :=
          fun z ys hb hl hz => ⟨hb, nw z _ hz, _, t17 _ _ hz, by rw [List.length_map]; exact hl⟩
        intro z hz
        have g111 := g11.1
        have g121 := g12.1
        rcases List.mem_cons.mp hz with rfl | hz
        · exact big _ _ b1 (by omega) (t616 _ _ hc16)
        rcases List.mem_cons.mp hz with rfl | hz
        · exact big _ _ b2 (by omega) (t616 _ _ hc26)
        rcases List.mem_cons.mp hz with rfl | hz
        · exact big _ _ b3 (by omega) (t616 _ _ hd16)
        rcases List.mem_cons.mp hz with rfl | hz
        · exact big _ _ b4 (by omega) (t616 _ _ hd26)
        rcases List.mem_cons.mp hz with rfl | hz
        · exact big _ _ b5 (by omega) (t1316 _ _ hf113)
        rcases List.mem_cons.mp hz with rfl | hz
        · exact big _ _ b6 (by omega) (t1316 _ _ hf213)
        · cases hz
      have hu : upd (upd H15 u1 (.lst ([.ref c1, .ref c2] ++ [.ref d1, .ref d2]))) u (.lst ([.ref c1, .ref c2] ++ [.ref d1, .ref d2] ++ [.ref f1, .ref f2])) u = some (.lst ([c1, c2, d1, d2, f1, f2].map V.ref)) := upd_same
      refine ⟨u, rfl, ⟨_, SqL.of upd_same⟩, ?_⟩
      generalize upd (upd H15 u1 (.lst ([.ref c1, .ref c2] ++ [.ref d1, .ref d2]))) u (.lst ([.ref c1, .ref c2] ++ [.ref d1, .ref d2] ++ [.ref f1, .ref f2])) = H17 at s17 six hu ⊢
      refine for_list (K := K) (a := u) (xs := [c1, c2, d1, d2, f1, f2].map V.ref) (fun j σ H' => ∃ v4 : Option V, σ = [some (.ref a), some (.ref p1), some (.ref p2), some (.ref p3), some (.ref x), some (.ref qa), some (.int (0 + (i : Int))), some (.ref lc), some (.ref ld), some (.ref lf), v4] ∧ Same Hb H' ∧ H' u = some (.lst ([c1, c2, d1, d2, f1, f2].map V.ref)) ∧
          ∀ z ∈ [c1, c2, d1, d2, f1, f2], Hb z = none ∧ z ≠ u ∧ ∃ ys : List V, H' z = some (.lst ys) ∧ ys.length ≤ 100 + j) ⟨_, rfl, s17, hu, six⟩ (fun j σ H' _ ⟨_, _, _, hL, _⟩ => SqL.of hL) ?_ ?_
      · rintro j y σ H' hj ⟨v4', rfl, sJ, uJ, zJ⟩
        obtain ⟨z, hz, rfl⟩ : ∃ z, z ∈ [c1, c2, d1, d2, f1, f2] ∧ y = V.ref z := by
          have := List.mem_of_getElem? hj
          obtain ⟨z, hz, e⟩ := List.mem_map.mp this
          exact ⟨z, hz, e.symm⟩
        have hj6 : j < 6 := (List.getElem?_eq_some_iff.mp hj).1
        obtain ⟨bz, nzu, ys, hys, lys⟩ := zJ z hz
        refine ⟨_, rfl, .inl ⟨rfl, _, SqL.of hys⟩, z, _, _, rfl, rfl, hys, small1000 (by omega), ?_⟩
        refine ⟨_, rfl, Same.onNew sJ bz _, by rw [upd_ne nzu.symm]; exact uJ, fun z' hz' => ?_⟩
        obtain ⟨bz', nzu', ys', hys', lys'⟩ := zJ z' hz'
        by_cases e : z' = z
        · subst e
          refine ⟨bz', nzu', _, upd_same, ?_⟩
          rw [List.length_append, List.length_singleton]
          omega
        · exact ⟨bz', nzu', ys', by rw [upd_ne e]; exact hys', by omega⟩
      · rintro σ H' ⟨v4', rfl, sJ, uJ, zJ⟩
        exact ⟨_, _, _, _, _, rfl, sJ⟩
    · rintro σ H' ⟨v0, v1, v2, v3, v4, rfl, s0⟩
      refine ⟨_, rfl, _, rfl, _, rfl, _, rfl, (by show 3 ≤ sizeLine; decide), fun y ny => ?_⟩
      have t1 := Same.new ny (.lst [.ref p1, .ref p2, .ref p3])
      have s1 := s0.trans t1
      refine ⟨d3 ws (steps ws) cs, d3 ws (steps ws) cs, dp_d3 (SqL.of (s1 _ _ hq)) (SqL.of (s1 _ _ h1)) (SqL.of (s1 _ _ h2)) (SqL.of (s1 _ _ h3)), dp_d3 (SqL.of upd_same) (SqL.of (s1 _ _ w1)) (SqL.of (s1 _ _ w2)) (SqL.of (s1 _ _ w3)), shaped_d3 _ _ _, shaped_d3 _ _ _, ?_⟩
      rw [SeqAt.eqv_refl (d3 ws (steps ws) cs) (lay_d3 _ _ _)]
      exact q _
end
end K36

namespace K36
open PySem PySem.Spec PyProof.Rows L2
/-! ### what the top has left -/
theorem all_mk {l : PySem.W.OpenLaw} {w : World} {K : PySem.W.Frag} {h : Heap} {mg : Str → Option Value} {fa CF CR CC CA f1 f2 f3 f4 f5 f6 f7 f8 f9 f10 f11 f12 f13 f14 f15 f16 f17 f18 f19 f20 f21 f22 f23 : Addr} (X : K.In h) (G : h.Ns mainGlobals mg) (hfa : mg "law" = some (.ref fa))
    {od1 an1 od2 an2 od3 an3 od4 an4 od5 an5 od6 an6 od7 an7 od8 an8 od9 an9 od10 an10 od11 an11 od12 an12 od13 an13 od14 an14 od15 an15 od16 an16 od17 an17 od18 an18 od19 an19 od20 an20 od21 an21 od22 an22 od23 an23 : Option Addr} {sl1 sl2 sl3 sl4 sl5 sl6 sl7 sl8 sl9 sl10 sl11 sl12 sl13 sl14 sl15 sl16 sl17 sl18 sl19 sl20 sl21 sl22 sl23 : Array (Option Value)} {oc1 kV1 dc1 pm1 cd1 ct1 oc2 kV2 dc2 pm2 cd2 ct2 oc3 kV3 dc3 pm3 cd3 ct3 oc4 kV4 dc4 pm4 cd4 ct4 oc5 kV5 dc5 pm5 cd5 ct5 oc6 kV6 dc6 pm6 cd6 ct6 oc7 kV7 dc7 pm7 cd7 ct7 oc8 kV8 dc8 pm8 cd8 ct8 oc9 kV9 dc9 pm9 cd9 ct9 oc10 kV10 dc10 pm10 cd10 ct10 oc11 kV11 dc11 pm11 cd11 ct11 oc12 kV12 dc12 pm12 cd12 ct12 oc13 kV13 dc13 pm13 cd13 ct13 oc14 kV14 dc14 pm14 cd14 ct14 oc15 kV15 dc15 pm15 cd15 ct15 oc16 kV16 dc16 pm16 cd16 ct16 oc17 kV17 dc17 pm17 cd17 ct17 oc18 kV18 dc18 pm18 cd18 ct18 oc19 kV19 dc19 pm19 cd19 ct19 oc20 kV20 dc20 pm20 cd20 ct20 oc21 kV21 dc21 pm21 cd21 ct21 oc22 kV22 dc22 pm22 cd22 ct22 oc23 kV23 dc23 pm23 cd23 ct23 : Value}
    (aCF : PySem.W.nsIn K mainGlobals "Family" = some (some (.ref CF)))
    (aCR : PySem.W.nsIn K mainGlobals "RingFamily" = some (some (.ref CR)))
    (aCC : PySem.W.nsIn K mainGlobals "Codes" = some (some (.ref CC)))
    (aCA : PySem.W.nsIn K mainGlobals "Cars" = some (some (.ref CA)))
    (a1 : PySem.W.findCls K (.ref CF) (.type "type") "__init__" = some (.val (.ref f1)))
    (l1 : K.lookup f1 = some ⟨oc1, od1, .func (PySem.W.fnOf "__init__" "Family.__init__" (defArgs sFamInit) (defBody sFamInit) (defScope sFamInit) .none kV1 dc1 pm1 an1 cd1 ct1), sl1⟩)
    (c1 : PySem.W.codeIn K cd1 "Family.__init__" = true)
    (k1 : PySem.W.keepIn K (.ref f1) = true)
    (a2 : PySem.W.findCls K (.ref CR) (.type "type") "__init__" = some (.val (.ref f2)))
    (l2 : K.lookup f2 = some ⟨oc2, od2, .func (PySem.W.fnOf "__init__" "RingFamily.__init__" (defArgs sRingInit) (defBody sRingInit) (defScope sRingInit) .none kV2 dc2 pm2 an2 cd2 ct2), sl2⟩)
    (c2 : PySem.W.codeIn K cd2 "RingFamily.__init__" = true)
    (k2 : PySem.W.keepIn K (.ref f2) = true)
    (a3 : PySem.W.findIn K (.ref CC) "__init__" = some (some (.ref f3)))
    (i3 : PySem.W.isFn K (.ref f3) = true)
    (l3 : K.lookup f3 = some ⟨oc3, od3, .func (PySem.W.fnOf "__init__" "Codes.__init__" (defArgs sCodesInit) (defBody sCodesInit) (defScope sCodesInit) .none kV3 dc3 pm3 an3 cd3 ct3), sl3⟩)
    (c3 : PySem.W.codeIn K cd3 "Codes.__init__" = true)
    (k3 : PySem.W.keepIn K (.ref f3) = true)
    (a4 : PySem.W.findIn K (.ref CC) "is_one" = some (some (.ref f4)))
    (i4 : PySem.W.isFn K (.ref f4) = true)
    (l4 : K.lookup f4 = some ⟨oc4, od4, .func (PySem.W.fnOf "is_one" "Codes.is_one" (defArgs sCodesOne) (defBody sCodesOne) (defScope sCodesOne) .none kV4 dc4 pm4 an4 cd4 ct4), sl4⟩)
    (c4 : PySem.W.codeIn K cd4 "Codes.is_one" = true)
    (k4 : PySem.W.keepIn K (.ref f4) = true)
    (a5 : PySem.W.findIn K (.ref CA) "__init__" = some (some (.ref f5)))
    (i5 : PySem.W.isFn K (.ref f5) = true)
    (l5 : K.lookup f5 = some ⟨oc5, od5, .func (PySem.W.fnOf "__init__" "Cars.__init__" (defArgs sCarsInit) (defBody sCarsInit) (defScope sCarsInit) .none kV5 dc5 pm5 an5 cd5 ct5), sl5⟩)
    (c5 : PySem.W.codeIn K cd5 "Cars.__init__" = true)
    (k5 : PySem.W.keepIn K (.ref f5) = true)
    (a6 : PySem.W.findIn K (.ref CA) "is_one" = some (some (.ref f6)))
    (i6 : PySem.W.isFn K (.ref f6) = true)
    (l6 : K.lookup f6 = some ⟨oc6, od6, .func (PySem.W.fnOf "is_one" "Cars.is_one" (defArgs sCarsOne) (defBody sCarsOne) (defScope sCarsOne) .none kV6 dc6 pm6 an6 cd6 ct6), sl6⟩)
    (c6 : PySem.W.codeIn K cd6 "Cars.is_one" = true)
    (k6 : PySem.W.keepIn K (.ref f6) = true)
    (a7 : PySem.W.findIn K (.ref CA) "code_of" = some (some (.ref f7)))
    (i7 : PySem.W.isFn K (.ref f7) = true)
    (l7 : K.lookup f7 = some ⟨oc7, od7, .func (PySem.W.fnOf "code_of" "Cars.code_of" (defArgs sCodeOf) (defBody sCodeOf) (defScope sCodeOf) .none kV7 dc7 pm7 an7 cd7 ct7), sl7⟩)
    (c7 : PySem.W.codeIn K cd7 "Cars.code_of" = true)
    (k7 : PySem.W.keepIn K (.ref f7) = true)
    (a8 : PySem.W.findIn K (.ref CA) "of_code" = some (some (.ref f8)))
    (i8 : PySem.W.isFn K (.ref f8) = true)
    (l8 : K.lookup f8 = some ⟨oc8, od8, .func (PySem.W.fnOf "of_code" "Cars.of_code" (defArgs sOfCode) (defBody sOfCode) (defScope sOfCode) .none kV8 dc8 pm8 an8 cd8 ct8), sl8⟩)
    (c8 : PySem.W.codeIn K cd8 "Cars.of_code" = true)
    (k8 : PySem.W.keepIn K (.ref f8) = true)
    (a9 : PySem.W.nsIn K mainGlobals "sure" = some (some (.ref f9)))
    (l9 : K.lookup f9 = some ⟨oc9, od9, .func (PySem.W.fnOf "sure" "sure" (defArgs sSure) (defBody sSure) (defScope sSure) .none kV9 dc9 pm9 an9 cd9 ct9), sl9⟩)
    (c9 : PySem.W.codeIn K cd9 "sure" = true)
    (k9 : PySem.W.keepIn K (.ref f9) = true)
    (a10 : PySem.W.nsIn K mainGlobals "cars_to_code" = some (some (.ref f10)))
    (l10 : K.lookup f10 = some ⟨oc10, od10, .func (PySem.W.fnOf "cars_to_code" "cars_to_code" (defArgs sC2C) (defBody sC2C) (defScope sC2C) .none kV10 dc10 pm10 an10 cd10 ct10), sl10⟩)
    (c10 : PySem.W.codeIn K cd10 "cars_to_code" = true)
    (k10 : PySem.W.keepIn K (.ref f10) = true)
    (a11 : PySem.W.nsIn K mainGlobals "round_ring" = some (some (.ref f11)))
    (l11 : K.lookup f11 = some ⟨oc11, od11, .func (PySem.W.fnOf "round_ring" "round_ring" (defArgs sRound) (defBody sRound) (defScope sRound) .none kV11 dc11 pm11 an11 cd11 ct11), sl11⟩)
    (c11 : PySem.W.codeIn K cd11 "round_ring" = true)
    (k11 : PySem.W.keepIn K (.ref f11) = true)
    (a12 : PySem.W.nsIn K mainGlobals "left_free" = some (some (.ref f12)))
    (l12 : K.lookup f12 = some ⟨oc12, od12, .func (PySem.W.fnOf "left_free" "left_free" (defArgs sFree) (defBody sFree) (defScope sFree) .none kV12 dc12 pm12 an12 cd12 ct12), sl12⟩)
    (c12 : PySem.W.codeIn K cd12 "left_free" = true)
    (k12 : PySem.W.keepIn K (.ref f12) = true)
    (a13 : PySem.W.nsIn K mainGlobals "code_to_cars" = some (some (.ref f13)))
    (l13 : K.lookup f13 = some ⟨oc13, od13, .func (PySem.W.fnOf "code_to_cars" "code_to_cars" (defArgs sD2C) (defBody sD2C) (defScope sD2C) .none kV13 dc13 pm13 an13 cd13 ct13), sl13⟩)
    (c13 : PySem.W.codeIn K cd13 "code_to_cars" = true)
    (k13 : PySem.W.keepIn K (.ref f13) = true)
    (a14 : PySem.W.nsIn K mainGlobals "_law_cell_at" = some (some (.ref f14)))
    (l14 : K.lookup f14 = some ⟨oc14, od14, .func (PySem.W.fnOf "_law_cell_at" "_law_cell_at" (defArgs sCell) (defBody sCell) (defScope sCell) .none kV14 dc14 pm14 an14 cd14 ct14), sl14⟩)
    (c14 : PySem.W.codeIn K cd14 "_law_cell_at" = true)
    (k14 : PySem.W.keepIn K (.ref f14) = true)
    (a15 : PySem.W.nsIn K mainGlobals "_law_draws" = some (some (.ref f15)))
    (l15 : K.lookup f15 = some ⟨oc15, od15, .func (PySem.W.fnOf "_law_draws" "_law_draws" (defArgs sDraws) (defBody sDraws) (defScope sDraws) .none kV15 dc15 pm15 an15 cd15 ct15), sl15⟩)
    (c15 : PySem.W.codeIn K cd15 "_law_draws" = true)
    (k15 : PySem.W.keepIn K (.ref f15) = true)
    (a16 : PySem.W.nsIn K mainGlobals "_law_whole" = some (some (.ref f16)))
    (l16 : K.lookup f16 = some ⟨oc16, od16, .func (PySem.W.fnOf "_law_whole" "_law_whole" (defArgs sWhole) (defBody sWhole) (defScope sWhole) .none kV16 dc16 pm16 an16 cd16 ct16), sl16⟩)
    (c16 : PySem.W.codeIn K cd16 "_law_whole" = true)
    (k16 : PySem.W.keepIn K (.ref f16) = true)
    (a17 : PySem.W.nsIn K mainGlobals "_law_alike" = some (some (.ref f17)))
    (l17 : K.lookup f17 = some ⟨oc17, od17, .func (PySem.W.fnOf "_law_alike" "_law_alike" (defArgs sAlike) (defBody sAlike) (defScope sAlike) .none kV17 dc17 pm17 an17 cd17 ct17), sl17⟩)
    (c17 : PySem.W.codeIn K cd17 "_law_alike" = true)
    (k17 : PySem.W.keepIn K (.ref f17) = true)
    (a18 : PySem.W.nsIn K mainGlobals "_law_cars" = some (some (.ref f18)))
    (l18 : K.lookup f18 = some ⟨oc18, od18, .func (PySem.W.fnOf "_law_cars" "_law_cars" (defArgs sCars) (defBody sCars) (defScope sCars) .none kV18 dc18 pm18 an18 cd18 ct18), sl18⟩)
    (c18 : PySem.W.codeIn K cd18 "_law_cars" = true)
    (k18 : PySem.W.keepIn K (.ref f18) = true)
    (a19 : PySem.W.nsIn K mainGlobals "_law_figures" = some (some (.ref f19)))
    (l19 : K.lookup f19 = some ⟨oc19, od19, .func (PySem.W.fnOf "_law_figures" "_law_figures" (defArgs sFigs) (defBody sFigs) (defScope sFigs) .none kV19 dc19 pm19 an19 cd19 ct19), sl19⟩)
    (c19 : PySem.W.codeIn K cd19 "_law_figures" = true)
    (k19 : PySem.W.keepIn K (.ref f19) = true)
    (a20 : PySem.W.nsIn K mainGlobals "_law_all_park" = some (some (.ref f20)))
    (l20 : K.lookup f20 = some ⟨oc20, od20, .func (PySem.W.fnOf "_law_all_park" "_law_all_park" (defArgs sPark) (defBody sPark) (defScope sPark) .none kV20 dc20 pm20 an20 cd20 ct20), sl20⟩)
    (c20 : PySem.W.codeIn K cd20 "_law_all_park" = true)
    (k20 : PySem.W.keepIn K (.ref f20) = true)
    (a21 : PySem.W.nsIn K mainGlobals "_law_steps" = some (some (.ref f21)))
    (l21 : K.lookup f21 = some ⟨oc21, od21, .func (PySem.W.fnOf "_law_steps" "_law_steps" (defArgs sSteps) (defBody sSteps) (defScope sSteps) .none kV21 dc21 pm21 an21 cd21 ct21), sl21⟩)
    (c21 : PySem.W.codeIn K cd21 "_law_steps" = true)
    (k21 : PySem.W.keepIn K (.ref f21) = true)
    (a22 : PySem.W.nsIn K mainGlobals "_law_by_code" = some (some (.ref f22)))
    (l22 : K.lookup f22 = some ⟨oc22, od22, .func (PySem.W.fnOf "_law_by_code" "_law_by_code" (defArgs sByCode) (defBody sByCode) (defScope sByCode) .none kV22 dc22 pm22 an22 cd22 ct22), sl22⟩)
    (c22 : PySem.W.codeIn K cd22 "_law_by_code" = true)
    (k22 : PySem.W.keepIn K (.ref f22) = true)
    (a23 : PySem.W.nsIn K mainGlobals "law" = some (some (.ref f23)))
    (l23 : K.lookup f23 = some ⟨oc23, od23, .func (PySem.W.fnOf "law" "law" (defArgs sLaw) (defBody sLaw) (defScope sLaw) .none kV23 dc23 pm23 an23 cd23 ct23), sl23⟩)
    (c23 : PySem.W.codeIn K cd23 "law" = true)
    (k23 : PySem.W.keepIn K (.ref f23) = true)
    (rdCF : PySem.W.readsIn K CF (.type "type") = true)
    (gaCF : PySem.W.specialIn K (.ref CF) "__getattribute__" = some (some (.builtin "type.__getattribute__")))
    (rdCR : PySem.W.readsIn K CR (.type "type") = true)
    (gaCR : PySem.W.specialIn K (.ref CR) "__getattribute__" = some (some (.builtin "type.__getattribute__")))
    (pgCC : PySem.W.plainGet K CC Str.empty = true)
    (hdCC : PySem.W.hasDictIn K CC = true)
    (poCC : PySem.W.plainOver K CC = true)
    (saCC : PySem.W.findIn K (.ref CC) "__setattr__" = some (some (.builtin "object.__setattr__")))
    (mkCC : PySem.W.makesIn K CC = true)
    (kcCC : PySem.W.keepIn K (.ref CC) = true)
    (nWCC : PySem.W.findIn K (.ref CC) "word" = some none)
    (nLCC : PySem.W.findIn K (.ref CC) "least" = some none)
    (pgCA : PySem.W.plainGet K CA Str.empty = true)
    (hdCA : PySem.W.hasDictIn K CA = true)
    (poCA : PySem.W.plainOver K CA = true)
    (saCA : PySem.W.findIn K (.ref CA) "__setattr__" = some (some (.builtin "object.__setattr__")))
    (mkCA : PySem.W.makesIn K CA = true)
    (kcCA : PySem.W.keepIn K (.ref CA) = true)
    (nWCA : PySem.W.findIn K (.ref CA) "word" = some none)
    (nLCA : PySem.W.findIn K (.ref CA) "least" = some none)
    (zlen : PySem.W.nsIn K mainGlobals "len" = some none)
    (zrange : PySem.W.nsIn K mainGlobals "range" = some none)
    (zlist : PySem.W.nsIn K mainGlobals "list" = some none)
    (zsorted : PySem.W.nsIn K mainGlobals "sorted" = some none)
    (zenumerate : PySem.W.nsIn K mainGlobals "enumerate" = some none)
    (zisinstance : PySem.W.nsIn K mainGlobals "isinstance" = some none)
    (zint : PySem.W.nsIn K mainGlobals "int" = some none)
    (zbool : PySem.W.nsIn K mainGlobals "bool" = some none)
    (ztuple : PySem.W.nsIn K mainGlobals "tuple" = some none)
    (zmin : PySem.W.nsIn K mainGlobals "min" = some none)
    : ∃ fd : FuncData, (∀ (s : Shared) (v : Value), BindsTo s fd ⟨[v], []⟩ [("_law_script", v)]) ∧ ∀ base : Heap, K.In base → base.Ns mainGlobals mg → FnOk l.prog w K mg base CX0 7 fa fd ["_law_script"] (spLaw K) := by
  have e := hfa.symm.trans (PySem.W.mg_of X G a23)
  cases e
  have B : Blt mg := ⟨PySem.W.mg_none_of X G zlen, PySem.W.mg_none_of X G zrange, PySem.W.mg_none_of X G zlist, PySem.W.mg_none_of X G zsorted, PySem.W.mg_none_of X G zenumerate, PySem.W.mg_none_of X G zisinstance, PySem.W.mg_none_of X G zint, PySem.W.mg_none_of X G zbool, PySem.W.mg_none_of X G ztuple, PySem.W.mg_none_of X G zmin⟩
  have F1 := fun_mk (st := sFamInit) l1 c1 k1
  have b1 := F1.binds (ps := ["self", "word", "least"]) fun _ _ _ _ _ _ us hl => match us, hl with | [_, _, _], _ => rfl
  have F2 := fun_mk (st := sRingInit) l2 c2 k2
  have b2 := F2.binds (ps := ["self", "word"]) fun _ _ _ _ _ _ us hl => match us, hl with | [_, _], _ => rfl
  have F3 := fun_mk (st := sCodesInit) l3 c3 k3
  have b3 := F3.binds (ps := ["self"]) fun _ _ _ _ _ _ us hl => match us, hl with | [_], _ => rfl
  have F4 := fun_mk (st := sCodesOne) l4 c4 k4
  have b4 := F4.binds (ps := ["self", "thing"]) fun _ _ _ _ _ _ us hl => match us, hl with | [_, _], _ => rfl
  have F5 := fun_mk (st := sCarsInit) l5 c5 k5
  have b5 := F5.binds (ps := ["self"]) fun _ _ _ _ _ _ us hl => match us, hl with | [_], _ => rfl
  have F6 := fun_mk (st := sCarsOne) l6 c6 k6
  have b6 := F6.binds (ps := ["self", "thing"]) fun _ _ _ _ _ _ us hl => match us, hl with | [_, _], _ => rfl
  have F7 := fun_mk (st := sCodeOf) l7 c7 k7
  have b7 := F7.binds (ps := ["self", "thing"]) fun _ _ _ _ _ _ us hl => match us, hl with | [_, _], _ => rfl
  have F8 := fun_mk (st := sOfCode) l8 c8 k8
  have b8 := F8.binds (ps := ["self", "code"]) fun _ _ _ _ _ _ us hl => match us, hl with | [_, _], _ => rfl
  have F9 := fun_mk (st := sSure) l9 c9 k9
  have b9 := F9.binds (ps := ["kin", "thing"]) fun _ _ _ _ _ _ us hl => match us, hl with | [_, _], _ => rfl
  have F10 := fun_mk (st := sC2C) l10 c10 k10
  have b10 := F10.binds (ps := ["thing"]) fun _ _ _ _ _ _ us hl => match us, hl with | [_], _ => rfl
  have F11 := fun_mk (st := sRound) l11 c11 k11
  have b11 := F11.binds (ps := ["code", "start"]) fun _ _ _ _ _ _ us hl => match us, hl with | [_, _], _ => rfl
  have F12 := fun_mk (st := sFree) l12 c12 k12
  have b12 := F12.binds (ps := ["wishes"]) fun _ _ _ _ _ _ us hl => match us, hl with | [_], _ => rfl
  have F13 := fun_mk (st := sD2C) l13 c13 k13
  have b13 := F13.binds (ps := ["thing"]) fun _ _ _ _ _ _ us hl => match us, hl with | [_], _ => rfl
  have F14 := fun_mk (st := sCell) l14 c14 k14
  have b14 := F14.binds (ps := ["_law_script", "_law_k"]) fun _ _ _ _ _ _ us hl => match us, hl with | [_, _], _ => rfl
  have F15 := fun_mk (st := sDraws) l15 c15 k15
  have b15 := F15.binds (ps := ["_law_script", "_law_turn", "_law_many"]) fun _ _ _ _ _ _ us hl => match us, hl with | [_, _, _], _ => rfl
  have F16 := fun_mk (st := sWhole) l16 c16 k16
  have b16 := F16.binds (ps := ["_law_found"]) fun _ _ _ _ _ _ us hl => match us, hl with | [_], _ => rfl
  have F17 := fun_mk (st := sAlike) l17 c17 k17
  have b17 := F17.binds (ps := ["_law_found", "_law_due"]) fun _ _ _ _ _ _ us hl => match us, hl with | [_, _], _ => rfl
  have F18 := fun_mk (st := sCars) l18 c18 k18
  have b18 := F18.binds (ps := ["_law_script", "_law_size", "_law_turn"]) fun _ _ _ _ _ _ us hl => match us, hl with | [_, _, _], _ => rfl
  have F19 := fun_mk (st := sFigs) l19 c19 k19
  have b19 := F19.binds (ps := ["_law_script", "_law_size", "_law_turn"]) fun _ _ _ _ _ _ us hl => match us, hl with | [_, _, _], _ => rfl
  have F20 := fun_mk (st := sPark) l20 c20 k20
  have b20 := F20.binds (ps := ["_law_wishes"]) fun _ _ _ _ _ _ us hl => match us, hl with | [_], _ => rfl
  have F21 := fun_mk (st := sSteps) l21 c21 k21
  have b21 := F21.binds (ps := ["_law_wishes"]) fun _ _ _ _ _ _ us hl => match us, hl with | [_], _ => rfl
  have F22 := fun_mk (st := sByCode) l22 c22 k22
  have b22 := F22.binds (ps := ["_law_found", "_law_code"]) fun _ _ _ _ _ _ us hl => match us, hl with | [_, _], _ => rfl
  have F23 := fun_mk (st := sLaw) l23 c23 k23
  have b23 := F23.binds (ps := ["_law_script"]) fun _ _ _ _ _ _ us hl => match us, hl with | [_], _ => rfl
  have kCC : Kin K CC := ⟨⟨pgCC, hdCC, poCC, saCC⟩, nWCC, nLCC⟩
  have kCA : Kin K CA := ⟨⟨pgCA, hdCA, poCA, saCA⟩, nWCA, nLCA⟩
  have BF : Base K mg "Family" CF f1 _ ["self", "word", "least"] := ⟨PySem.W.mg_of X G aCF, ⟨rdCF, gaCF⟩, a1, k1, b1⟩
  have BR : Base K mg "RingFamily" CR f2 _ ["self", "word"] := ⟨PySem.W.mg_of X G aCR, ⟨rdCR, gaCR⟩, a2, k2, b2⟩
  refine ⟨PySem.W.fnOf "law" "law" (defArgs sLaw) (defBody sLaw) (defScope sLaw) .none kV23 dc23 pm23 an23 cd23 ct23, fun s v => .of_eq rfl, fun base _ _ => ?_⟩
  have OF := ok_fam (P := l.prog) (w := w) (base := base) (mg := mg) F1
  have OR := ok_ring F2 BF OF
  have OCI := ok_codes_init F3 BR OR
  have OAI := ok_cars_init F5 BR OR
  have OCO := ok_codes_one (P := l.prog) (w := w) (base := base) F4 B
  have OAO := ok_cars_one (P := l.prog) (w := w) (base := base) F6 B
  have SA : Glo l.prog w K mg base 2 "sure" f9 _ ["kin", "thing"] (spSureA K CA) := ⟨ok_sureA F9 kCA ⟨a6, i6, k6⟩ OAO b6, PySem.W.mg_of X G a9, k9, b9⟩
  have SC : Glo l.prog w K mg base 2 "sure" f9 _ ["kin", "thing"] (spSureC K CC) := ⟨ok_sureC F9 kCC ⟨a4, i4, k4⟩ OCO b4, PySem.W.mg_of X G a9, k9, b9⟩
  have MC : Made l.prog w K mg base "Codes" CC f3 _ := ⟨PySem.W.mg_of X G aCC, ⟨mkCC, a3, i3, kcCC⟩, kCC, OCI, b3⟩
  have MA : Made l.prog w K mg base "Cars" CA f5 _ := ⟨PySem.W.mg_of X G aCA, ⟨mkCA, a5, i5, kcCA⟩, kCA, OAI, b5⟩
  have C2C : Glo l.prog w K mg base 5 "cars_to_code" f10 _ ["thing"] (spC2C K) := ⟨ok_c2c F10 B MA SA, PySem.W.mg_of X G a10, k10, b10⟩
  have RR : Glo l.prog w K mg base 1 "round_ring" f11 _ ["code", "start"] (spRound K) := ⟨ok_round F11 B, PySem.W.mg_of X G a11, k11, b11⟩
  have LF : Glo l.prog w K mg base 1 "left_free" f12 _ ["wishes"] (spFree K) := ⟨ok_free F12 B, PySem.W.mg_of X G a12, k12, b12⟩
  have D2C : Glo l.prog w K mg base 5 "code_to_cars" f13 _ ["thing"] (spD2C K) := ⟨ok_d2c F13 B MC SC RR LF, PySem.W.mg_of X G a13, k13, b13⟩
  have CE : Glo l.prog w K mg base 1 "_law_cell_at" f14 _ ["_law_script", "_law_k"] (spCell K) := ⟨ok_cell F14 B, PySem.W.mg_of X G a14, k14, b14⟩
  have DR : Glo l.prog w K mg base 1 "_law_draws" f15 _ ["_law_script", "_law_turn", "_law_many"] (spDraws K) := ⟨ok_draws F15 B, PySem.W.mg_of X G a15, k15, b15⟩
  have WH : Glo l.prog w K mg base 1 "_law_whole" f16 _ ["_law_found"] spWhole := ⟨ok_whole F16 B, PySem.W.mg_of X G a16, k16, b16⟩
  have AL0 : Glo l.prog w K mg base 1 "_law_alike" f17 _ ["_law_found", "_law_due"] (spAlike K 0) := ⟨ok_alike0 F17 B, PySem.W.mg_of X G a17, k17, b17⟩
  have AL1 : Glo l.prog w K mg base 2 "_law_alike" f17 _ ["_law_found", "_law_due"] (spAlike K 1) := ⟨ok_alikeS F17 B AL0, PySem.W.mg_of X G a17, k17, b17⟩
  have AL2 : Glo l.prog w K mg base 3 "_law_alike" f17 _ ["_law_found", "_law_due"] (spAlike K 2) := ⟨ok_alikeS F17 B AL1, PySem.W.mg_of X G a17, k17, b17⟩
  have CS : Glo l.prog w K mg base 2 "_law_cars" f18 _ ["_law_script", "_law_size", "_law_turn"] (spCars K) := ⟨ok_cars F18 B DR, PySem.W.mg_of X G a18, k18, b18⟩
  have FG : Glo l.prog w K mg base 2 "_law_figures" f19 _ ["_law_script", "_law_size", "_law_turn"] (spFigs K) := ⟨ok_figs F19 B DR, PySem.W.mg_of X G a19, k19, b19⟩
  have PK_ : Glo l.prog w K mg base 1 "_law_all_park" f20 _ ["_law_wishes"] (spPark K) := ⟨ok_park F20 B, PySem.W.mg_of X G a20, k20, b20⟩
  have ST : Glo l.prog w K mg base 1 "_law_steps" f21 _ ["_law_wishes"] (spSteps K) := ⟨ok_steps F21 B, PySem.W.mg_of X G a21, k21, b21⟩
  have BY : Glo l.prog w K mg base 2 "_law_by_code" f22 _ ["_law_found", "_law_code"] (spByCode K) := ⟨ok_by_code F22 B WH PK_ ST, PySem.W.mg_of X G a22, k22, b22⟩
  exact ok_law F23 B MA C2C D2C ⟨a7, i7, k7⟩ (ok_code_of F7 C2C) b7 ⟨a8, i8, k8⟩ (ok_of_code F8 D2C) b8 AL2 BY CE ST CS FG
theorem walk {l : PySem.W.OpenLaw} {q : Program} {loose : List Str} {XP : (Str → Option Value) → Heap → Prop} {YP : World → Heap → Prop} {d : DefRec} {K : Params → PySem.W.Frag} (hn : l.most = some 63) (hdf : d.params.defaults = [])
    (hY : ∀ (w : World) (h : Heap), YP w h → (K w.params).In h)
    (F : ∀ (w : World) (mg : Str → Option Value) (fa : Addr) (h : Heap), (K w.params).In h → h.Ns mainGlobals mg → mg d.name = some (.ref fa) →
      ∃ fd : FuncData, (∀ (s : Shared) (u : Value), BindsTo s fd ⟨[u], []⟩ [("_law_script", u)]) ∧ ∀ base : Heap, (K w.params).In base → base.Ns mainGlobals mg → FnOk l.prog w (K w.params) mg base CX0 7 fa fd ["_law_script"] (spLaw (K w.params))) :
    PySem.W.WalkO q loose XP YP l.row.toRowW d [] (fun f vs => PySem.call f vs) :=
  L2.walk_of (n := 63) (k := 7) (x := "_law_script") (CX := fun _ => CX0) (sp := fun w => spLaw (K w.params)) hn (by decide) hdf ⟨rfl, by decide, by decide⟩ hY F (fun _ _ a ns hl _ hS => ⟨a, ns, rfl, hS, hl, fun _ => rfl⟩) fun _ _ _ _ _ z => z
end K36

open PySem PySem.W PyProof.Rows in
set_option maxRecDepth 100000 in
set_option maxHeartbeats 0 in
theorem PySem.Challenge.cw_countkin_k36_cars_and_codes_holds : PySem.Challenge.rw_countkin_k36_cars_and_codes.Holds := by
  w_on; o_law; k_head; (case hw => w_witness2)
  k_fill
  refine K36.walk (l := PySem.Challenge.rw_countkin_k36_cars_and_codes) rfl rfl (fun w h Y => PySem.W.kIn_of Y) ?F
  case F =>
    intro w mg fa h KX G hmg
    refine' K36.all_mk KX G hmg ?aCF ?aCR ?aCC ?aCA ?a1 ?l1 ?c1 ?k1 ?a2 ?l2 ?c2 ?k2 ?a3 ?i3 ?l3 ?c3 ?k3 ?a4 ?i4 ?l4 ?c4 ?k4 ?a5 ?i5 ?l5 ?c5 ?k5 ?a6 ?i6 ?l6 ?c6 ?k6 ?a7 ?i7 ?l7 ?c7 ?k7 ?a8 ?i8 ?l8 ?c8 ?k8 ?a9 ?l9 ?c9 ?k9 ?a10 ?l10 ?c10 ?k10 ?a11 ?l11 ?c11 ?k11 ?a12 ?l12 ?c12 ?k12 ?a13 ?l13 ?c13 ?k13 ?a14 ?l14 ?c14 ?k14 ?a15 ?l15 ?c15 ?k15 ?a16 ?l16 ?c16 ?k16 ?a17 ?l17 ?c17 ?k17 ?a18 ?l18 ?c18 ?k18 ?a19 ?l19 ?c19 ?k19 ?a20 ?l20 ?c20 ?k20 ?a21 ?l21 ?c21 ?k21 ?a22 ?l22 ?c22 ?k22 ?a23 ?l23 ?c23 ?k23 ?rdCF ?gaCF ?rdCR ?gaCR ?pgCC ?hdCC ?poCC ?saCC ?mkCC ?kcCC ?nWCC ?nLCC ?pgCA ?hdCA ?poCA ?saCA ?mkCA ?kcCA ?nWCA ?nLCA ?zlen ?zrange ?zlist ?zsorted ?zenumerate ?zisinstance ?zint ?zbool ?ztuple ?zmin
    (case aCF => k_is)
    (case aCR => k_is)
    (case aCC => k_is)
    (case aCA => k_is)
    (case a1 => k_is)
    (case l1 => k_is)
    (case c1 => k_is)
    (case k1 => k_is)
    (case a2 => k_is)
    (case l2 => k_is)
    (case c2 => k_is)
    (case k2 => k_is)
    (case a3 => k_is)
    (case i3 => k_is)
    (case l3 => k_is)
    (case c3 => k_is)
    (case k3 => k_is)
    (case a4 => k_is)
    (case i4 => k_is)
    (case l4 => k_is)
    (case c4 => k_is)
    (case k4 => k_is)
    (case a5 => k_is)
    (case i5 => k_is)
    (case l5 => k_is)
    (case c5 => k_is)
    (case k5 => k_is)
    (case a6 => k_is)
    (case i6 => k_is)
    (case l6 => k_is)
    (case c6 => k_is)
    (case k6 => k_is)
    (case a7 => k_is)
    (case i7 => k_is)
    (case l7 => k_is)
    (case c7 => k_is)
    (case k7 => k_is)
    (case a8 => k_is)
    (case i8 => k_is)
    (case l8 => k_is)
    (case c8 => k_is)
    (case k8 => k_is)
    (case a9 => k_is)
    (case l9 => k_is)
    (case c9 => k_is)
    (case k9 => k_is)
    (case a10 => k_is)
    (case l10 => k_is)
    (case c10 => k_is)
    (case k10 => k_is)
    (case a11 => k_is)
    (case l11 => k_is)
    (case c11 => k_is)
    (case k11 => k_is)
    (case a12 => k_is)
    (case l12 => k_is)
    (case c12 => k_is)
    (case k12 => k_is)
    (case a13 => k_is)
    (case l13 => k_is)
    (case c13 => k_is)
    (case k13 => k_is)
    (case a14 => k_is)
    (case l14 => k_is)
    (case c14 => k_is)
    (case k14 => k_is)
    (case a15 => k_is)
    (case l15 => k_is)
    (case c15 => k_is)
    (case k15 => k_is)
    (case a16 => k_is)
    (case l16 => k_is)
    (case c16 => k_is)
    (case k16 => k_is)
    (case a17 => k_is)
    (case l17 => k_is)
    (case c17 => k_is)
    (case k17 => k_is)
    (case a18 => k_is)
    (case l18 => k_is)
    (case c18 => k_is)
    (case k18 => k_is)
    (case a19 => k_is)
    (case l19 => k_is)
    (case c19 => k_is)
    (case k19 => k_is)
    (case a20 => k_is)
    (case l20 => k_is)
    (case c20 => k_is)
    (case k20 => k_is)
    (case a21 => k_is)
    (case l21 => k_is)
    (case c21 => k_is)
    (case k21 => k_is)
    (case a22 => k_is)
    (case l22 => k_is)
    (case c22 => k_is)
    (case k22 => k_is)
    (case a23 => k_is)
    (case l23 => k_is)
    (case c23 => k_is)
    (case k23 => k_is)
    (case rdCF => k_is)
    (case gaCF => k_is)
    (case rdCR => k_is)
    (case gaCR => k_is)
    (case pgCC => k_is)
    (case hdCC => k_is)
    (case poCC => k_is)
    (case saCC => k_is)
    (case mkCC => k_is)
    (case kcCC => k_is)
    (case nWCC => k_is)
    (case nLCC => k_is)
    (case pgCA => k_is)
    (case hdCA => k_is)
    (case poCA => k_is)
    (case saCA => k_is)
    (case mkCA => k_is)
    (case kcCA => k_is)
    (case nWCA => k_is)
    (case nLCA => k_is)
    (case zlen => k_is)
    (case zrange => k_is)
    (case zlist => k_is)
    (case zsorted => k_is)
    (case zenumerate => k_is)
    (case zisinstance => k_is)
    (case zint => k_is)
    (case zbool => k_is)
    (case ztuple => k_is)
    (case zmin => k_is)
