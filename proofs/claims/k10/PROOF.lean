import PyProof.Rows.All
import Wide.All
import OpenK.AllK
import Wide.FinOn
import HandS.ForMost
import HandS.ForExc
import HandS.Evl
import HandS.SortKw
import KE.DataMinMax
import HandS.IsInst
import HandS.HotCalls
import HandS.ExcIs
import HandS.Codes
import KE.SortData
import HandS.Sort
import PySem.Challenge.RW_selfruns_k10_what_is_refused
set_option Elab.async false
set_option linter.all false
set_option maxRecDepth 100000
set_option maxHeartbeats 4000000
/-! Rules of our own over the layer: three comparisons in a chain, max and min with default, and what further readings evaluate to. -/
namespace SR
open PySem PySem.Spec PyProof.Rows L2 Evl

/-! ### three comparisons in a row -/
def tChain3 (r1 r2 r3 : R2) (ta tb tc td : TE) : TT := fun σ H Q =>
  ta σ H fun x H1 => tb σ H1 fun y H2 => r1 x y H2 fun z1 H3 => ∃ k1, z1 = .bl k1 ∧ if k1 = true
    then tc σ H3 fun u H4 => r2 y u H4 fun z2 H5 => ∃ k2, z2 = .bl k2 ∧ if k2 = true
      then td σ H5 fun v H6 => r3 u v H6 fun z3 H7 => ∃ k3, z3 = .bl k3 ∧ Q k3 H7
      else Q false H5
    else Q false H3
section
variable {X : Cx} {a b c d : Expr} {ta tb tc td : TE} {pos : Pos}
theorem pt_chain3 {o1 o2 o3 : CmpOp} {r1 r2 r3 : R2} (h1 : OpR X (compareOp o1) r1) (h2 : OpR X (compareOp o2) r2) (h3 : OpR X (compareOp o3) r3) (ha : PE X a ta) (hb : PE X b tb) (hc : PE X c tc) (hd : PE X d td)
    (hm : lastMarks [o1, o2, o3] [b, c, d] = false := by with_unfolding_all rfl) : PT X (.Compare a [o1, o2, o3] [b, c, d] pos) (tChain3 r1 r2 r3 ta tb tc td) := by
  refine ⟨fun pins s σ H Q I hw => ?_⟩
  refine isTrue_chain (thn (ha.run pins s σ H _ I hw) fun va sa ⟨x, Ha, Ia, ra, qa⟩ => ?_) hm
  refine test_link (thn (hb.run pins sa σ Ha _ Ia qa) fun vb sb ⟨y, Hb, Ib, rb, qb⟩ => ?_)
  refine thn (h1 pins sb σ Hb x y va vb _ Ib ra rb qb) fun v1 s1 ⟨z1, H1, I1, r1', k1, e1, q1⟩ => ?_
  subst e1
  cases r1'
  refine wpAny_truthy_bool ?_
  cases k1 with
  | false => exact ite_ff ⟨H1, I1, q1⟩
  | true =>
    refine ite_tt (test_link (thn (hc.run pins s1 σ H1 _ I1 q1) fun vc sc ⟨u, Hc, Ic, rc, qc⟩ => ?_))
    refine thn (h2 pins sc σ Hc y u vb vc _ Ic rb rc qc) fun v2 s2 ⟨z2, H2, I2, r2', k2, e2, q2⟩ => ?_
    subst e2
    cases r2'
    refine wpAny_truthy_bool ?_
    cases k2 with
    | false => exact ite_ff ⟨H2, I2, q2⟩
    | true =>
      refine ite_tt (test_last (thn (hd.run pins s2 σ H2 _ I2 q2) fun vd sd ⟨w, Hd, Id, rd, qd⟩ => ?_))
      refine thn (h3 pins sd σ Hd u w vc vd _ Id rc rd qd) fun v3 s3 ⟨z3, H3, I3, r3', k3, e3, q3⟩ => ?_
      subst e3
      cases r3'
      exact wpAny_truthy_bool ⟨H3, I3, q3⟩
end

/-! ### max, min with default -/
/-- the greatest, the least, or d -/
def top (d : Int) : List Int → Int
  | [] => d
  | x :: r => r.foldl max x
def low (d : Int) : List Int → Int
  | [] => d
  | x :: r => r.foldl min x
theorem foldl_max_le (m : Int) : ∀ (r : List Int) (x : Int), r.foldl max x ≤ m ↔ x ≤ m ∧ ∀ v ∈ r, v ≤ m
  | [], x => by simp
  | y :: r, x => by
    rw [List.foldl_cons, foldl_max_le m r (max x y), Int.max_le]
    simp [and_assoc]
theorem foldl_min_ge (m : Int) : ∀ (r : List Int) (x : Int), m ≤ r.foldl min x ↔ m ≤ x ∧ ∀ v ∈ r, m ≤ v
  | [], x => by simp
  | y :: r, x => by
    rw [List.foldl_cons, foldl_min_ge m r (min x y), Int.le_min]
    simp [and_assoc]
theorem top_le {d m : Int} (hd : d ≤ m) (l : List Int) : top d l ≤ m ↔ ∀ v ∈ l, v ≤ m := by
  cases l with
  | nil => simp [top, hd]
  | cons x r =>
    show r.foldl max x ≤ m ↔ _
    rw [foldl_max_le]
    simp
theorem low_ge {d m : Int} (hd : m ≤ d) (l : List Int) : m ≤ low d l ↔ ∀ v ∈ l, m ≤ v := by
  cases l with
  | nil => simp [low, hd]
  | cons x r =>
    show m ≤ r.foldl min x ↔ _
    rw [foldl_min_ge]
    simp
def rTopD (K : PySem.W.Frag) : List V → List V → Hp → VK → Prop := fun vs zs H Q => ∃ (a : Addr) (ns : List Int) (d : Int), vs = [V.ref a] ∧ zs = [V.int d] ∧ SqL K H a (ns.map V.int) ∧ Q (.int (top d ns)) H
def rLowD (K : PySem.W.Frag) : List V → List V → Hp → VK → Prop := fun vs zs H Q => ∃ (a : Addr) (ns : List Int) (d : Int), vs = [V.ref a] ∧ zs = [V.int d] ∧ SqL K H a (ns.map V.int) ∧ Q (.int (low d ns)) H
theorem dp_ints {K : PySem.W.Frag} {H : Hp} : ∀ ns : List Int, DpAll K H (ns.map V.int) (ns.map PyData.int)
  | [] => .nil
  | n :: r => .cons (.int n) (dp_ints r)
theorem alike_ints (ns : List Int) : PySem.W.AlikeAll (ns.map PyData.int) := by
  refine ⟨fun x hx y hy => ?_, fun x hx => ?_⟩
  · obtain ⟨i, _, rfl⟩ := List.mem_map.mp hx
    obtain ⟨j, _, rfl⟩ := List.mem_map.mp hy
    rfl
  · obtain ⟨i, _, rfl⟩ := List.mem_map.mp hx
    exact fun z => nomatch z
theorem flat_ints : ∀ ns : List Int, PyData.depthAll (ns.map PyData.int) = 0
  | [] => rfl
  | n :: r => by
    show max (PyData.depth (.int n)) (PyData.depthAll (r.map PyData.int)) = 0
    rw [flat_ints r]
    rfl
theorem cr_topD {X : Cx} (hc : X.calm = true) (hu : X.A.units + 1 < cLine) : CallRK X (.builtin "max") [Str.ofString "default"] (rTopD X.K) := by
  intro pins s σ H xs zs us ws Q I r1 r2 h
  obtain ⟨a, ns, d, rfl, rfl, hs, q⟩ := h
  obtain ⟨its, rv, hl, _⟩ := I.list hs
  rw [Vals.ref1 r1]
  cases r2 with
  | cons rd rn =>
    cases rn
    obtain ⟨t, rfl⟩ := rd
    obtain ⟨as, hr⟩ := Dp.readsAll I (ns.map PyData.int) _ its (dp_ints ns) rv
    refine PySem.W.max_list_default (I.ok.hd hc) hl.isList hr (alike_ints ns) (by rw [flat_ints]; exact hu) (fun e h' tk hk => ?_) (fun y ys i v h' tk bs e hi hrd hk => ?_)
    · have e0 : ns = [] := List.map_eq_nil_iff.mp e
      subst e0
      exact ⟨.int d, H, I.kept hk, ⟨_, rfl⟩, q⟩
    · cases ns with
      | nil => cases e
      | cons n r =>
        have e1 : PyData.int n = y := (List.cons.inj e).1
        have e2 : r.map PyData.int = ys := (List.cons.inj e).2
        subst e1 e2
        rw [PySem.W.maxD_ints] at hrd
        cases hrd with
        | int i t => exact ⟨.int _, H, I.kept hk, ⟨_, rfl⟩, q⟩
theorem cr_lowD {X : Cx} (hc : X.calm = true) (hu : X.A.units + 1 < cLine) : CallRK X (.builtin "min") [Str.ofString "default"] (rLowD X.K) := by
  intro pins s σ H xs zs us ws Q I r1 r2 h
  obtain ⟨a, ns, d, rfl, rfl, hs, q⟩ := h
  obtain ⟨its, rv, hl, _⟩ := I.list hs
  rw [Vals.ref1 r1]
  cases r2 with
  | cons rd rn =>
    cases rn
    obtain ⟨t, rfl⟩ := rd
    obtain ⟨as, hr⟩ := Dp.readsAll I (ns.map PyData.int) _ its (dp_ints ns) rv
    refine PySem.W.min_list_default (I.ok.hd hc) hl.isList hr (alike_ints ns) (by rw [flat_ints]; exact hu) (fun e h' tk hk => ?_) (fun y ys i v h' tk bs e hi hrd hk => ?_)
    · have e0 : ns = [] := List.map_eq_nil_iff.mp e
      subst e0
      exact ⟨.int d, H, I.kept hk, ⟨_, rfl⟩, q⟩
    · cases ns with
      | nil => cases e
      | cons n r =>
        have e1 : PyData.int n = y := (List.cons.inj e).1
        have e2 : r.map PyData.int = ys := (List.cons.inj e).2
        subst e1 e2
        rw [PySem.W.minD_ints] at hrd
        cases hrd with
        | int i t => exact ⟨.int _, H, I.kept hk, ⟨_, rfl⟩, q⟩

/-! ### what further readings evaluate to -/
section
variable {K : PySem.W.Frag} {σ : L2.St} {H H' : Hp} {ta tb tc td te tx : TE} {t u : TT} {x y z v : V} {r : R2} {D : Ends} {tu tw tz : TS}
theorem ev_chain {f g : Int → Int → Bool} {i j k : Int} (ha : Ev ta σ H (.int i)) (hb : Ev tb σ H (.int j)) (hc : Ev tc σ H (.int k)) :
    Ev (tChain (rI0 fun i j => .bl (f i j)) (rI0 fun i j => .bl (g i j)) ta tb tc) σ H (.bl (f i j && g j k)) := fun H1 e Q q =>
  ha H1 e _ fun H2 e2 => hb H2 (e.trans e2) _ fun H3 e3 => ⟨i, j, rfl, rfl, f i j, rfl, by
    cases hf : f i j with
    | true =>
      rw [hf] at q
      exact hc H3 ((e.trans e2).trans e3) _ fun H4 e4 => ⟨j, k, rfl, rfl, q H4 ((e2.trans e3).trans e4)⟩
    | false =>
      rw [hf] at q
      exact q H3 (e2.trans e3)⟩
theorem et_chain3 {f g h : Int → Int → Bool} {i j k l : Int} (ha : Ev ta σ H (.int i)) (hb : Ev tb σ H (.int j)) (hc : Ev tc σ H (.int k)) (hd : Ev td σ H (.int l)) :
    EvT (tChain3 (rI0 fun i j => .bl (f i j)) (rI0 fun i j => .bl (g i j)) (rI0 fun i j => .bl (h i j)) ta tb tc td) σ H (f i j && (g j k && h k l)) := fun H1 e Q q =>
  ha H1 e _ fun H2 e2 => hb H2 (e.trans e2) _ fun H3 e3 => ⟨i, j, rfl, rfl, f i j, rfl, by
    cases hf : f i j with
    | true =>
      rw [hf] at q
      exact hc H3 ((e.trans e2).trans e3) _ fun H4 e4 => ⟨j, k, rfl, rfl, g j k, rfl, by
        cases hg : g j k with
        | true =>
          rw [hg] at q
          exact hd H4 (((e.trans e2).trans e3).trans e4) _ fun H5 e5 => ⟨k, l, rfl, rfl, h k l, rfl, q H5 (((e2.trans e3).trans e4).trans e5)⟩
        | false =>
          rw [hg] at q
          exact q H4 ((e2.trans e3).trans e4)⟩
    | false =>
      rw [hf] at q
      exact q H3 (e2.trans e3)⟩
theorem ev_topD {p : Addr} {ns : List Int} {d : Int} (ha : Ev ta σ H (.ref p)) (h : SqL K H p (ns.map V.int)) : Ev (tCKw (rTopD K) (tCons ta tNil) (tCons (tC (.int d)) tNil)) σ H (.int (top d ns)) := fun H1 e _ q =>
  ha H1 e _ fun H2 e2 => ⟨p, ns, d, rfl, rfl, ex_l (e.trans e2) h, q H2 e2⟩
theorem ev_lowD {p : Addr} {ns : List Int} {d : Int} (ha : Ev ta σ H (.ref p)) (h : SqL K H p (ns.map V.int)) : Ev (tCKw (rLowD K) (tCons ta tNil) (tCons (tC (.int d)) tNil)) σ H (.int (low d ns)) := fun H1 e _ q =>
  ha H1 e _ fun H2 e2 => ⟨p, ns, d, rfl, rfl, ex_l (e.trans e2) h, q H2 e2⟩
/-- == of data, != of data -/
theorem rv_eqD {d e : PyData} (hx : ∀ H1, Ex H H1 → Dp K H1 x d) (hy : ∀ H1, Ex H H1 → Dp K H1 y e) (sd : SeqAt.shaped d = true) (se : SeqAt.shaped e = true) : RV (rEqD K) x y H (.bl (PyData.eqv d e)) := fun H1 ex _ q =>
  ⟨d, e, hx H1 ex, hy H1 ex, sd, se, q H1 (Ex.refl H1)⟩
theorem rv_neD {d e : PyData} (hx : ∀ H1, Ex H H1 → Dp K H1 x d) (hy : ∀ H1, Ex H H1 → Dp K H1 y e) (sd : SeqAt.shaped d = true) (se : SeqAt.shaped e = true) : RV (rNeD K) x y H (.bl (!PyData.eqv d e)) := fun H1 ex _ q =>
  ⟨d, e, hx H1 ex, hy H1 ex, sd, se, q H1 (Ex.refl H1)⟩
theorem lay_ints : ∀ ns : List Int, PyData.canLayAll0 (ns.map PyData.int) = true
  | [] => rfl
  | n :: r => by
    show (PyData.canLay0 (.int n) && PyData.canLayAll0 (r.map PyData.int)) = true
    rw [lay_ints r]
    rfl
theorem shp_ints (ns : List Int) : SeqAt.shaped (.list (ns.map PyData.int)) = true := by
  have h1 : PyData.canLay0 (.list (ns.map PyData.int)) = true := lay_ints ns
  have h2 : PyData.depth (.list (ns.map PyData.int)) = 1 := by
    show PyData.depthAll (ns.map PyData.int) + 1 = 1
    rw [flat_ints ns]
  unfold SeqAt.shaped
  rw [h1, h2]
  rfl
theorem eqv_ints : ∀ ns ms : List Int, PyData.eqvAll (ns.map PyData.int) (ms.map PyData.int) = decide (ns = ms)
  | [], [] => by simp [PyData.eqvAll]
  | [], m :: r => by simp [PyData.eqvAll]
  | n :: r, [] => by simp [PyData.eqvAll]
  | n :: r, m :: q => by
    show (PyData.eqv (.int n) (.int m) && PyData.eqvAll (r.map PyData.int) (q.map PyData.int)) = _
    rw [eqv_ints r q]
    show ((n == m) && decide (r = q)) = _
    by_cases c : n = m
    · by_cases d : r = q
      · simp [c, d]
      · simp [c, d]
    · simp [c]
theorem dp_lst {p : Addr} {ns : List Int} (h : SqL K H p (ns.map V.int)) : Dp K H (.ref p) (.list (ns.map PyData.int)) := .lst h (dp_ints ns)
/-- two lists of ints: ==, != -/
theorem rv_eqL {p q : Addr} {ns ms : List Int} (h1 : SqL K H p (ns.map V.int)) (h2 : SqL K H q (ms.map V.int)) : RV (rEqD K) (.ref p) (.ref q) H (.bl (decide (ns = ms))) := by
  rw [← eqv_ints ns ms]
  exact rv_eqD (fun _ e => dp_lst (ex_l e h1)) (fun _ e => dp_lst (ex_l e h2)) (shp_ints ns) (shp_ints ms)
theorem rv_neL {p q : Addr} {ns ms : List Int} (h1 : SqL K H p (ns.map V.int)) (h2 : SqL K H q (ms.map V.int)) : RV (rNeD K) (.ref p) (.ref q) H (.bl (!decide (ns = ms))) := by
  rw [← eqv_ints ns ms]
  exact rv_neD (fun _ e => dp_lst (ex_l e h1)) (fun _ e => dp_lst (ex_l e h2)) (shp_ints ns) (shp_ints ms)
/-- xs != [] -/
theorem ev_ne0 {p : Addr} {ns : List Int} (ha : Ev ta σ H (.ref p)) (h : SqL K H p (ns.map V.int)) : Ev (tOp (rNeD K) ta (tLst tNil)) σ H (.bl (!decide (ns = []))) :=
  ev_opL ha (el_lst ea_nil (Nat.zero_le _)) fun q H1 hq e => rv_neL (ms := []) (ex_l e h) (sq_of hq)
/-- len of a list, a tuple -/
theorem ev_lenT {p : Addr} {xs : List V} (ha : Ev ta σ H (.ref p)) (h : SqT K H p xs) : Ev (tCB (rLenS K) (tCons ta tNil)) σ H (.int (xs.length : Int)) := fun H1 e Q q =>
  ha H1 e _ fun H2 e2 => ⟨p, xs, rfl, Or.inr (ex_t (e.trans e2) h), q H2 e2⟩
theorem ev_lenI {p : Addr} {ns : List Int} (ha : Ev ta σ H (.ref p)) (h : SqL K H p (ns.map V.int)) : Ev (tCB (rLenS K) (tCons ta tNil)) σ H (.int (ns.length : Int)) :=
  ev_is (ev_len ha h) (by rw [List.length_map])
/-- items of a list of ints -/
theorem at_int {ns : List Int} {j : Nat} {n : Int} (h : ns[j]? = some n) : atI (ns.map V.int) (j : Int) = some (.int n) := atI_nat (by rw [List.getElem?_map, h]; rfl)
theorem at_neg1 {ns : List Int} {n : Int} (h : ns.getLast? = some n) : atI (ns.map V.int) (-1) = some (.int n) := by
  obtain ⟨r, rfl⟩ : ∃ r, ns = r ++ [n] := List.getLast?_eq_some_iff.mp h
  rw [List.map_append]
  exact atI_last _ _
theorem ev_ixI {p : Addr} {ns : List Int} {i n : Int} (ha : Ev ta σ H (.ref p)) (hb : Ev tb σ H (.int i)) (h : SqL K H p (ns.map V.int)) (hi : atI (ns.map V.int) i = some (.int n)) : Ev (tOp (rIxL K) ta tb) σ H (.int n) := ev_op ha hb (rv_ixL h hi)
/-- [x] * k -/
theorem el_rep {k : Int} {xs : List V} (ha : EvL ta σ H xs) (hb : Ev tb σ H (.int k)) (hk : 0 ≤ k ∧ k ≤ 1000) (hx : xs.length ≤ 1000) : EvL (tOp rRep ta tb) σ H (List.replicate k.toNat xs).flatten := fun H1 e Q q =>
  ha H1 e _ fun p H2 hp e2 h2 => hb H2 (e.trans e2) _ fun H3 e3 => ⟨p, k, xs, rfl, rfl, e3 p _ h2, by omega, by omega, by
    have h3 : xs.length * k.toNat ≤ 1000 * 1000 := Nat.mul_le_mul hx (by omega)
    exact Nat.le_trans h3 (by decide), fun o ho => q o _ (fresh_back (e2.trans e3) ho) ((e2.trans e3).trans (Ex.new ho)) upd_same⟩
/-- xs + ys, new lists -/
theorem el_cat {p q : Addr} {xs ys : List V} (ha : Ev ta σ H (.ref p)) (hb : Ev tb σ H (.ref q)) (h1 : H p = some (.lst xs)) (h2 : H q = some (.lst ys)) (hz : xs.length + ys.length ≤ 100000) : EvL (tOp rCat ta tb) σ H (xs ++ ys) := fun H1 e Q k =>
  ha H1 e _ fun H2 e2 => hb H2 (e.trans e2) _ fun H3 e3 => ⟨p, q, xs, ys, rfl, rfl, ((e.trans e2).trans e3) p _ h1, ((e.trans e2).trans e3) q _ h2, sz_of hz, fun o ho => k o _ (fresh_back (e2.trans e3) ho) ((e2.trans e3).trans (Ex.new ho)) upd_same⟩
theorem el_catN {p : Addr} {xs ys : List V} (ha : Ev ta σ H (.ref p)) (hb : EvL tb σ H ys) (h1 : H p = some (.lst xs)) (hz : xs.length + ys.length ≤ 100000) : EvL (tOp rCat ta tb) σ H (xs ++ ys) := fun H1 e Q k =>
  ha H1 e _ fun H2 e2 => hb H2 (e.trans e2) _ fun q H3 hq e3 h3 => ⟨p, q, xs, ys, rfl, rfl, ((e.trans e2).trans e3) p _ h1, h3, sz_of hz, fun o ho => k o _ (fresh_back (e2.trans e3) ho) ((e2.trans e3).trans (Ex.new ho)) upd_same⟩
theorem el_catNN {xs ys : List V} (ha : EvL ta σ H xs) (hb : EvL tb σ H ys) (hz : xs.length + ys.length ≤ 100000) : EvL (tOp rCat ta tb) σ H (xs ++ ys) := fun H1 e Q k =>
  ha H1 e _ fun p H2 hp e2 h2 => hb H2 (e.trans e2) _ fun q H3 hq e3 h3 => ⟨p, q, xs, ys, rfl, rfl, e3 p _ h2, h3, sz_of hz, fun o ho => k o _ (fresh_back (e2.trans e3) ho) ((e2.trans e3).trans (Ex.new ho)) upd_same⟩
/-- xs.extend(a new list) -/
theorem s_ext {l : Addr} {xs ys : List V} (hl : H l = some (.lst xs)) (ha : Ev ta σ H (.ref l)) (h : EvL te σ H ys) (hz : xs.length + ys.length ≤ 100000) (k : ∀ H1, Ex H H1 → D.nx σ (upd H1 l (.lst (xs ++ ys)))) :
    tDrop (tBM K "list" rExtend ta (tCons te tNil)) D σ H := ha H (Ex.refl H) _ fun H1 e1 =>
  ⟨Or.inl ⟨rfl, xs, sq_of (e1 l _ hl)⟩, h H1 e1 _ fun p H2 hp e2 h2 => ⟨l, p, xs, ys, rfl, rfl, e2 l _ (e1 l _ hl), h2, sz_of hz, k H2 (e1.trans e2)⟩⟩
theorem q_ext {l : Addr} {xs ys : List V} (hl : H l = some (.lst xs)) (ha : Ev ta σ H (.ref l)) (h : EvL te σ H ys) (hz : xs.length + ys.length ≤ 100000) (k : ∀ H1, Ex H H1 → tz D σ (upd H1 l (.lst (xs ++ ys)))) :
    tSeq (tDrop (tBM K "list" rExtend ta (tCons te tNil))) tz D σ H := s_ext (D := { D with nx := tz D }) hl ha h hz k
/-- xs[-1] = e -/
theorem ixN_neg1 {n : Nat} (hn : 0 < n) : ixN n (-1) = some (n - 1) := by
  unfold ixN
  rw [if_neg (by omega), if_pos (by omega)]
  congr 1
  omega
theorem s_set1 {l : Addr} {xs : List V} (hl : H l = some (.lst xs)) (h : Ev te σ H v) (ho : Ev ta σ H (.ref l)) (hi : Ev tb σ H (.int (-1))) (hj : 0 < xs.length) (k : ∀ H1, Ex H H1 → D.nx σ (upd H1 l (.lst (xs.set (xs.length - 1) v)))) :
    tAsg te (gSub ta tb rSetL) D σ H := h H (Ex.refl H) _ fun H1 e1 => ho H1 e1 _ fun H2 e2 => hi H2 (e1.trans e2) _ fun H3 e3 =>
  ⟨l, xs, -1, xs.length - 1, rfl, rfl, ((e1.trans e2).trans e3) l _ hl, ixN_neg1 hj, k H3 ((e1.trans e2).trans e3)⟩
/-- x in a tuple of two numbers -/
theorem in_two {a b n : Int} : inV (.int n) [.int a, .int b] = decide (n = a ∨ n = b) := by
  show ((a == n) || ((b == n) || false)) = _
  by_cases c : n = a
  · subst c
    simp
  · have c' : ¬ a = n := fun e => c e.symm
    by_cases d : n = b
    · subst d
      simp
    · have d' : ¬ b = n := fun e => d e.symm
      simp [c, d, c', d']
end

/-! ### a def of the text, and what it promises -/
/-- the def x stands at its place of the text -/
def DefAt (K : PySem.W.Frag) (mg : Str → Option Value) (x : Str) (st : Stmt) : Prop := ∃ f fd, Fun K x x st f fd ∧ mg x = some (.ref f)
/-- what callers need of it -/
def Has (P : Program) (w : World) (K : PySem.W.Frag) (mg : Str → Option Value) (base : Heap) (CX : CXT) (k : Nat) (x : Str) (ps : List Str) (sp : Sp) : Prop :=
  ∃ f fd, FnOk P w K mg base CX k f fd ps sp ∧ mg x = some (.ref f) ∧ PySem.W.keepIn K (.ref f) = true ∧ Binds K fd ps []
theorem Has.mono {P : Program} {w : World} {K : PySem.W.Frag} {mg : Str → Option Value} {base : Heap} {CX : CXT} {j k : Nat} {x : Str} {ps : List Str} {sp : Sp} (h : Has P w K mg base CX j x ps sp) (hk : j ≤ k) : Has P w K mg base CX k x ps sp := by
  obtain ⟨f, fd, h1, h2⟩ := h
  exact ⟨f, fd, h1.mono hk, h2⟩
theorem def_mk {K : PySem.W.Frag} {mg : Str → Option Value} {h : Heap} (X : K.In h) (G : h.Ns mainGlobals mg) {x : Str} {st : Stmt} {f : Addr} {oc : Value} {od an : Option Addr} {osl : Array (Option Value)} {kV doc pm cdv ct : Value}
    (a : PySem.W.nsIn K mainGlobals x = some (some (.ref f))) (l : K.lookup f = some ⟨oc, od, .func (PySem.W.fnOf x x (defArgs st) (defBody st) (defScope st) .none kV doc pm an cdv ct), osl⟩)
    (c : PySem.W.codeIn K cdv x = true) (k : PySem.W.keepIn K (.ref f) = true) : DefAt K mg x st := ⟨f, _, fun_mk l c k, PySem.W.mg_of X G a⟩
section
variable {X : Cx} {CX : CXT} {k : Nat} {x : Str} {ps : List Str} {sp : Sp} {e : Expr} {es : List Expr} {t : TA} {p pos : Pos} {E : XK}
theorem pe_has (h : Has X.prog X.w X.K X.mg X.base CX k x ps sp) (hr : Room k X.A) (hg : Gl X x) (hx : Passes CX X E) (ha : PA X (e :: es) t) (hdb : (x == ("__debug__" : Str)) = false := by decide)
    (he : starEach (e :: es) X.env = (false, eval e X.env) :: starEach es X.env := by rfl) (hpl : (backTo pos (starEach es X.env)).any (·.1) = false := by rfl) : PE X (.Call (.Name x p) (e :: es) [] pos) (tCall sp [] E t) := by
  obtain ⟨f, fd, F, hm, hk, hb⟩ := h
  exact pe_call F hr hg hm hk hb .nil hx ha hdb he hpl
end
/-- built-ins that the module has no names of its own for -/
structure Bl (mg : Str → Option Value) : Prop where
  len : mg "len" = none
  range : mg "range" = none
  max : mg "max" = none
  min : mg "min" = none
  list : mg "list" = none
  str : mg "str" = none
  int : mg "int" = none
  bool : mg "bool" = none
  tuple : mg "tuple" = none
  isinstance : mg "isinstance" = none
  sorted : mg "sorted" = none
  enumerate : mg "enumerate" = none
  reversed : mg "reversed" = none
  all : mg "all" = none
  ValueError : mg "ValueError" = none
end SR
/-! Runs, inner lengths, heights: plain lists of integers, no program. -/
namespace SR

/-- the last one raised by one -/
def bump : List Int → List Int
  | [] => []
  | [x] => [x + 1]
  | x :: y :: r => x :: bump (y :: r)
/-- the first one raised by one -/
def bumpH : List Int → List Int
  | [] => []
  | x :: r => (x + 1) :: r
/-- lengths of runs, led on sign by sign from the left -/
def step (st : List Int × Option Int) (x : Int) : List Int × Option Int :=
  (if st.2 = some x then bump st.1 else st.1 ++ [1], some x)
def runs : List Int → List Int
  | [] => []
  | x :: r => if r.head? = some x then bumpH (runs r) else 1 :: runs r

theorem bump_snoc : ∀ (l : List Int) (x : Int), bump (l ++ [x]) = l ++ [x + 1]
  | [], _ => rfl
  | [_], _ => rfl
  | a :: b :: r, x => by
    show a :: bump (b :: r ++ [x]) = a :: (b :: r ++ [x + 1])
    rw [bump_snoc (b :: r) x]
theorem bump_len : ∀ l : List Int, (bump l).length = l.length
  | [] => rfl
  | [_] => rfl
  | a :: b :: r => by
    show (bump (b :: r)).length + 1 = (b :: r).length + 1
    rw [bump_len (b :: r)]
theorem bump_dropLast : ∀ l : List Int, (bump l).dropLast = l.dropLast
  | [] => rfl
  | [_] => rfl
  | a :: b :: r => by
    have ih := bump_dropLast (b :: r)
    have h1 : bump (b :: r) ≠ [] := by
      intro e
      have := bump_len (b :: r)
      rw [e] at this
      simp at this
    show (a :: bump (b :: r)).dropLast = (a :: b :: r).dropLast
    rw [List.dropLast_cons_of_ne_nil h1, ih]
    rfl
theorem bump_cons {x : Int} {l : List Int} (h : l ≠ []) : bump (x :: l) = x :: bump l := by
  cases l with
  | nil => exact absurd rfl h
  | cons y r => rfl
theorem runs_nil : runs [] = [] := rfl
theorem runs_one (x : Int) : runs [x] = [1] := rfl
theorem runs_ne {l : List Int} (h : l ≠ []) : runs l ≠ [] := by
  induction l with
  | nil => exact absurd rfl h
  | cons x r ih =>
    unfold runs
    by_cases c : r.head? = some x
    · rw [if_pos c]
      have hr : r ≠ [] := by
        intro e
        rw [e] at c
        simp at c
      have := ih hr
      cases e : runs r with
      | nil => exact absurd e this
      | cons a b => simp [bumpH]
    · rw [if_neg c]
      simp
theorem runs_same {x : Int} {r : List Int} (c : r.head? = some x) : runs (x :: r) = bumpH (runs r) := by
  rw [runs, if_pos c]
theorem runs_diff {x : Int} {r : List Int} (c : r.head? ≠ some x) : runs (x :: r) = 1 :: runs r := by
  rw [runs, if_neg c]
theorem bumpH_snoc_bump : ∀ (l : List Int), bumpH (bump l) = bump (bumpH l)
  | [] => rfl
  | [_] => rfl
  | a :: b :: r => rfl
/-- one sign more at the end -/
theorem runs_snoc : ∀ (l : List Int) (x : Int), runs (l ++ [x]) = if l.getLast? = some x then bump (runs l) else runs l ++ [1]
  | [], x => by simp [runs]
  | [y], x => by
    show runs [y, x] = _
    by_cases c : y = x
    · subst c
      simp [runs, bumpH, bump]
    · have c' : ¬ x = y := fun e => c e.symm
      simp [runs, c, c']
  | y :: z :: r, x => by
    have ih := runs_snoc (z :: r) x
    have hl : (y :: z :: r).getLast? = (z :: r).getLast? := List.getLast?_cons_cons
    rw [hl]
    show runs (y :: (z :: r ++ [x])) = _
    have hh : (z :: r ++ [x]).head? = (z :: r).head? := rfl
    have hne : runs (z :: r) ≠ [] := runs_ne (by simp)
    by_cases c : (z :: r).head? = some y
    · rw [runs_same (hh.trans c), ih, runs_same c]
      by_cases d : (z :: r).getLast? = some x
      · rw [if_pos d, if_pos d, bumpH_snoc_bump]
      · rw [if_neg d, if_neg d]
        cases e : runs (z :: r) with
        | nil => exact absurd e hne
        | cons a b => rfl
    · rw [runs_diff (by rw [hh]; exact c), ih, runs_diff c]
      by_cases d : (z :: r).getLast? = some x
      · rw [if_pos d, if_pos d, bump_cons hne]
      · rw [if_neg d, if_neg d]
        rfl
theorem bumpH_len (l : List Int) : (bumpH l).length = l.length := by
  cases l <;> rfl
theorem runs_len : ∀ l : List Int, (runs l).length ≤ l.length
  | [] => Nat.le_refl _
  | x :: r => by
    have ih := runs_len r
    by_cases c : r.head? = some x
    · rw [runs_same c, bumpH_len]
      simp
      omega
    · rw [runs_diff c]
      simp
      exact ih
theorem runs_pos : ∀ (l : List Int), ∀ v ∈ runs l, 1 ≤ v
  | [], v, h => by simp [runs] at h
  | x :: r, v, h => by
    have ih := runs_pos r
    by_cases c : r.head? = some x
    · rw [runs_same c] at h
      cases e : runs r with
      | nil => rw [e] at h; simp [bumpH] at h
      | cons a b =>
        rw [e] at h ih
        simp [bumpH] at h
        have h1 := ih a (by simp)
        rcases h with h | h
        · omega
        · exact ih v (by simp [h])
    · rw [runs_diff c] at h
      simp at h
      rcases h with h | h
      · omega
      · exact ih v h
theorem runs_le : ∀ (l : List Int), ∀ v ∈ runs l, v ≤ (l.length : Int)
  | [], v, h => by simp [runs] at h
  | x :: r, v, h => by
    have ih := runs_le r
    have el : ((x :: r).length : Int) = (r.length : Int) + 1 := by simp
    rw [el]
    by_cases c : r.head? = some x
    · rw [runs_same c] at h
      cases e : runs r with
      | nil => rw [e] at h; simp [bumpH] at h
      | cons a b =>
        rw [e] at h ih
        simp [bumpH] at h
        have h1 := ih a (by simp)
        rcases h with h | h
        · omega
        · have := ih v (by simp [h])
          omega
    · rw [runs_diff c] at h
      simp at h
      rcases h with h | h
      · omega
      · have := ih v h
        omega

/-! ### from the end -/
theorem bump_reverse (l : List Int) : (bump l).reverse = bumpH l.reverse := by
  rcases List.eq_nil_or_concat l with e | ⟨r, x, e⟩
  · subst e; rfl
  · subst e
    rw [List.concat_eq_append, bump_snoc]
    simp [bumpH]
theorem runs_reverse : ∀ l : List Int, runs l.reverse = (runs l).reverse
  | [] => rfl
  | x :: r => by
    rw [List.reverse_cons, runs_snoc, runs_reverse r, List.getLast?_reverse]
    by_cases c : r.head? = some x
    · rw [if_pos c, runs_same c]
      have := bump_reverse (runs r).reverse
      rw [List.reverse_reverse] at this
      rw [← this, List.reverse_reverse]
    · rw [if_neg c, runs_diff c, List.reverse_cons]

/-! ### signs exchanged -/
theorem runs_map {f : Int → Int} (hf : ∀ x y, f x = f y → x = y) : ∀ l : List Int, runs (l.map f) = runs l
  | [] => rfl
  | x :: r => by
    have ih := runs_map hf r
    rw [List.map_cons]
    have hh : (r.map f).head? = some (f x) ↔ r.head? = some x := by
      cases r with
      | nil => simp
      | cons y t =>
        simp
        constructor
        · intro e; exact hf _ _ e
        · intro e; rw [e]
    by_cases c : r.head? = some x
    · rw [runs_same c, runs_same (hh.mpr c), ih]
    · rw [runs_diff c, runs_diff (fun z => c (hh.mp z)), ih]

/-! ### inner lengths -/
/-- without the first where it is not b -/
def dF (b : Int) : List Int → List Int
  | [] => []
  | x :: r => if x = b then x :: r else r
/-- without the last where it is not b -/
def dL (b : Int) (l : List Int) : List Int := (dF b l.reverse).reverse
def inn (b : Int) (l : List Int) : List Int := dF b (dL b l)
def fits (a b : Int) (l : List Int) : Prop := (∀ v ∈ l, v ≤ b) ∧ ∀ v ∈ l.tail.dropLast, v = a ∨ v = b
instance (a b : Int) (l : List Int) : Decidable (fits a b l) := by
  unfold fits
  exact inferInstance
def inner (a b : Int) (row : List Int) : Option (List Int) := if fits a b (runs row) then some (inn b (runs row)) else none

theorem dF_pos {b : Int} {r : List Int} : dF b (b :: r) = b :: r := by simp [dF]
theorem dF_neg {b x : Int} {r : List Int} (h : x ≠ b) : dF b (x :: r) = r := by simp [dF, h]
theorem dF_len (b : Int) (l : List Int) : (dF b l).length ≤ l.length := by
  cases l with
  | nil => exact Nat.le_refl _
  | cons x r =>
    by_cases c : x = b
    · rw [c, dF_pos]; exact Nat.le_refl _
    · rw [dF_neg c]; simp
theorem dL_len (b : Int) (l : List Int) : (dL b l).length ≤ l.length := by
  unfold dL
  rw [List.length_reverse]
  have := dF_len b l.reverse
  rw [List.length_reverse] at this
  exact this
theorem inn_len (b : Int) (l : List Int) : (inn b l).length ≤ l.length := Nat.le_trans (dF_len b _) (dL_len b l)
theorem dL_snoc_pos {b : Int} {r : List Int} : dL b (r ++ [b]) = r ++ [b] := by
  unfold dL
  rw [List.reverse_append]
  show (dF b (b :: r.reverse)).reverse = _
  rw [dF_pos]
  simp
theorem dL_snoc_neg {b x : Int} {r : List Int} (h : x ≠ b) : dL b (r ++ [x]) = r := by
  unfold dL
  rw [List.reverse_append]
  show (dF b (x :: r.reverse)).reverse = _
  rw [dF_neg h]
  simp
theorem dL_cons {b x : Int} {r : List Int} (h : r ≠ []) : dL b (x :: r) = x :: dL b r := by
  rcases List.eq_nil_or_concat r with e | ⟨t, y, e⟩
  · exact absurd e h
  · subst e
    rw [List.concat_eq_append]
    show dL b ((x :: t) ++ [y]) = _
    by_cases c : y = b
    · subst c
      rw [dL_snoc_pos, dL_snoc_pos]
      rfl
    · rw [dL_snoc_neg c, dL_snoc_neg c]
theorem dF_dL (b : Int) (l : List Int) : dF b (dL b l) = dL b (dF b l) := by
  cases l with
  | nil => rfl
  | cons x r =>
    cases r with
    | nil =>
      by_cases c : x = b
      · subst c
        have e : dL x [x] = [x] := dL_snoc_pos (r := [])
        rw [e, dF_pos, e]
      · have e : dL b [x] = [] := dL_snoc_neg (r := []) c
        rw [e, dF_neg c]
        rfl
    | cons y t =>
      rw [dL_cons (by simp)]
      by_cases c : x = b
      · subst c
        rw [dF_pos, dF_pos]
        exact (dL_cons (by simp)).symm
      · rw [dF_neg c, dF_neg c]
theorem inn_reverse (b : Int) (l : List Int) : inn b l.reverse = (inn b l).reverse := by
  have e1 : inn b l = dL b (dF b l) := dF_dL b l
  rw [e1]
  unfold inn dL
  rw [List.reverse_reverse, List.reverse_reverse]
theorem mid_reverse (l : List Int) : l.reverse.tail.dropLast = l.tail.dropLast.reverse := by
  rw [List.tail_reverse, List.dropLast_reverse, List.tail_dropLast]
theorem fits_reverse {a b : Int} {l : List Int} (h : fits a b l) : fits a b l.reverse := by
  refine ⟨fun v hv => h.1 v (List.mem_reverse.mp hv), fun v hv => ?_⟩
  rw [mid_reverse] at hv
  exact h.2 v (List.mem_reverse.mp hv)
theorem inner_reverse {a b : Int} {row i : List Int} (h : inner a b row = some i) : inner a b row.reverse = some i.reverse := by
  unfold inner at h ⊢
  by_cases c : fits a b (runs row)
  · rw [if_pos c] at h
    cases h
    rw [runs_reverse, if_pos (fits_reverse c), inn_reverse]
  · rw [if_neg c] at h
    cases h

theorem inner_some {a b : Int} {row i : List Int} (h : inner a b row = some i) : fits a b (runs row) ∧ i = inn b (runs row) := by
  unfold inner at h
  by_cases c : fits a b (runs row)
  · rw [if_pos c] at h
    cases h
    exact ⟨c, rfl⟩
  · rw [if_neg c] at h
    cases h
theorem inner_of_fits {a b : Int} {row : List Int} (h : fits a b (runs row)) : inner a b row = some (inn b (runs row)) := if_pos h
theorem inner_none {a b : Int} {row : List Int} (h : ¬ fits a b (runs row)) : inner a b row = none := if_neg h

/-- a part: some of the signs one behind the other -/
inductive Piece : List Int → List Int → Prop where
  | refl (l : List Int) : Piece l l
  | tail {p l : List Int} : Piece p l → Piece p.tail l
  | back {p l : List Int} : Piece p l → Piece p.dropLast l
theorem Piece.trans {p q l : List Int} (a : Piece p q) (b : Piece q l) : Piece p l := by
  induction a with
  | refl => exact b
  | tail _ ih => exact .tail (ih b)
  | back _ ih => exact .back (ih b)
theorem Piece.drop {l : List Int} : ∀ (n : Nat), Piece (l.drop n) l
  | 0 => by rw [List.drop_zero]; exact .refl l
  | n + 1 => by
    rw [← List.tail_drop]
    exact .tail (Piece.drop n)
theorem Piece.cut {p l : List Int} (h : Piece p l) : ∀ (n : Nat), n ≤ p.length → Piece (p.take (p.length - n)) l
  | 0, _ => by
    rw [Nat.sub_zero, List.take_length]
    exact h
  | n + 1, hn => by
    have ih := Piece.cut h n (by omega)
    have e : p.take (p.length - (n + 1)) = (p.take (p.length - n)).dropLast := by
      rw [List.dropLast_eq_take, List.take_take, List.length_take]
      congr 1
      omega
    rw [e]
    exact .back ih
theorem Piece.take {p l : List Int} (h : Piece p l) (n : Nat) : Piece (p.take n) l := by
  by_cases c : n ≤ p.length
  · have := h.cut (p.length - n) (by omega)
    rw [show p.length - (p.length - n) = n by omega] at this
    exact this
  · rw [List.take_of_length_le (by omega)]
    exact h
theorem Piece.mem {p l : List Int} (h : Piece p l) : ∀ v ∈ p, v ∈ l := by
  induction h with
  | refl => exact fun _ h => h
  | tail _ ih => exact fun v h => ih v (List.mem_of_mem_tail h)
  | back _ ih => exact fun v h => ih v (List.dropLast_subset _ h)
theorem Piece.len {p l : List Int} (h : Piece p l) : p.length ≤ l.length := by
  induction h with
  | refl => exact Nat.le_refl _
  | tail _ ih =>
    rw [List.length_tail]
    omega
  | back _ ih =>
    rw [List.length_dropLast]
    omega
theorem Piece.reverse {p l : List Int} (h : Piece p l) : Piece p.reverse l.reverse := by
  induction h with
  | refl => exact .refl _
  | tail _ ih =>
    rw [← List.dropLast_reverse]
    exact .back ih
  | back _ ih =>
    rw [← List.tail_reverse]
    exact .tail ih
theorem piece_dF (b : Int) (l : List Int) : Piece (dF b l) l := by
  cases l with
  | nil => exact .refl _
  | cons x r =>
    by_cases c : x = b
    · subst c
      rw [dF_pos]
      exact .refl _
    · rw [dF_neg c]
      exact .tail (.refl (x :: r))
theorem piece_dL (b : Int) (l : List Int) : Piece (dL b l) l := by
  have := (piece_dF b l.reverse).reverse
  rw [List.reverse_reverse] at this
  exact this
theorem piece_inn (b : Int) (l : List Int) : Piece (inn b l) l := (piece_dF b _).trans (piece_dL b l)

/-- the first sign away: the inner lengths are the same, or without their first -/
theorem inner_tail {a b : Int} (hb : 2 ≤ b) {row i : List Int} (h : inner a b row = some i) : ∃ j, inner a b row.tail = some j ∧ (j = i ∨ j = i.tail) := by
  cases row with
  | nil => exact ⟨i, h, .inl rfl⟩
  | cons x r =>
    show ∃ j, inner a b r = some j ∧ _
    obtain ⟨hf, hi⟩ := inner_some h
    cases hr : r with
    | nil =>
      subst hr
      refine ⟨[], ?_, ?_⟩
      · unfold inner fits
        simp [runs]
        rfl
      · left
        rw [hi]
        show [] = inn b [1]
        unfold inn
        have e : dL b [1] = [] := dL_snoc_neg (r := []) (by omega)
        rw [e]
        rfl
    | cons y q =>
      have hne : runs r ≠ [] := runs_ne (by rw [hr]; simp)
      rw [← hr]
      clear hr
      cases hR : runs r with
      | nil => exact absurd hR hne
      | cons m t =>
        by_cases c : r.head? = some x
        · rw [runs_same c, hR] at hf hi
          have hf' : fits a b ((m + 1) :: t) := hf
          have hi' : i = inn b ((m + 1) :: t) := hi
          have hm : m + 1 ≤ b := hf'.1 _ (by simp)
          have hfr : fits a b (m :: t) := ⟨fun v hv => by
            rcases List.mem_cons.mp hv with e | e
            · omega
            · exact hf'.1 v (by simp [e]), hf'.2⟩
          refine ⟨inn b (m :: t), ?_, ?_⟩
          · rw [inner_of_fits (by rw [hR]; exact hfr), hR]
          · have e1 : inn b (m :: t) = dL b t := by
              unfold inn
              rw [dF_dL, dF_neg (by omega)]
            rw [e1, hi']
            by_cases d : m + 1 = b
            · right
              unfold inn
              rw [dF_dL, d, dF_pos]
              by_cases z : t = []
              · subst z
                have e : dL b [b] = [b] := dL_snoc_pos (r := [])
                rw [e]
                rfl
              · rw [dL_cons z]
                rfl
            · left
              unfold inn
              rw [dF_dL, dF_neg d]
        · rw [runs_diff c, hR] at hf hi
          have hfr : fits a b (m :: t) := ⟨fun v hv => hf.1 v (by simp [List.mem_cons.mp hv]), fun v hv => hf.2 v (by
            have hv' : v ∈ t.dropLast := hv
            show v ∈ (m :: t).dropLast
            cases t with
            | nil => simp at hv'
            | cons z w =>
              rw [List.dropLast_cons_of_ne_nil (by simp)]
              exact List.mem_cons_of_mem _ hv')⟩
          refine ⟨inn b (m :: t), ?_, ?_⟩
          · rw [inner_of_fits (by rw [hR]; exact hfr), hR]
          · have e2 : i = dL b (m :: t) := by
              rw [hi]
              unfold inn
              rw [dF_dL, dF_neg (by omega)]
            rw [e2]
            unfold inn
            cases e3 : dL b (m :: t) with
            | nil => left; rfl
            | cons z w =>
              by_cases d : z = b
              · subst d
                left
                rw [dF_pos]
              · right
                rw [dF_neg d]
                rfl
theorem inner_back {a b : Int} (hb : 2 ≤ b) {row i : List Int} (h : inner a b row = some i) : ∃ j, inner a b row.dropLast = some j ∧ (j = i ∨ j = i.dropLast) := by
  obtain ⟨j, hj, e⟩ := inner_tail hb (inner_reverse h)
  refine ⟨j.reverse, ?_, ?_⟩
  · have := inner_reverse hj
    rw [List.tail_reverse, List.reverse_reverse] at this
    exact this
  · rcases e with e | e
    · left
      rw [e, List.reverse_reverse]
    · right
      rw [e, List.tail_reverse, List.reverse_reverse]
theorem inner_piece {a b : Int} (hb : 2 ≤ b) {p row i : List Int} (hp : Piece p row) (h : inner a b row = some i) : ∃ j, inner a b p = some j ∧ Piece j i := by
  induction hp with
  | refl => exact ⟨i, h, .refl i⟩
  | tail _ ih =>
    obtain ⟨j, hj, pj⟩ := ih h
    obtain ⟨k, hk, e⟩ := inner_tail hb hj
    refine ⟨k, hk, ?_⟩
    rcases e with e | e
    · rw [e]; exact pj
    · rw [e]; exact .tail pj
  | back _ ih =>
    obtain ⟨j, hj, pj⟩ := ih h
    obtain ⟨k, hk, e⟩ := inner_back hb hj
    refine ⟨k, hk, ?_⟩
    rcases e with e | e
    · rw [e]; exact pj
    · rw [e]; exact .back pj

/-- inner lengths are fewer -/
theorem sum_runs_len : ∀ l : List Int, (runs l).sum = (l.length : Int)
  | [] => rfl
  | x :: r => by
    have ih := sum_runs_len r
    by_cases c : r.head? = some x
    · rw [runs_same c]
      cases e : runs r with
      | nil =>
        have hr : r ≠ [] := by
          intro z
          rw [z] at c
          simp at c
        exact absurd e (runs_ne hr)
      | cons m t =>
        rw [e] at ih
        show ((m + 1) :: t).sum = _
        rw [List.sum_cons] at ih ⊢
        simp
        omega
    · rw [runs_diff c, List.sum_cons, ih]
      simp
      omega
theorem len_le_sum : ∀ (l : List Int), (∀ v ∈ l, 1 ≤ v) → (l.length : Int) ≤ l.sum
  | [], _ => by simp
  | x :: r, h => by
    have ih := len_le_sum r fun v hv => h v (by simp [hv])
    have := h x (by simp)
    rw [List.sum_cons]
    simp
    omega
theorem inner_lt {a b : Int} (hb : 2 ≤ b) {row i : List Int} (hr : row ≠ []) (h : inner a b row = some i) : i.length < row.length := by
  obtain ⟨_, hi⟩ := inner_some h
  have hs := sum_runs_len row
  have hp := runs_pos row
  have hn := runs_ne hr
  rw [hi]
  cases e : runs row with
  | nil => exact absurd e hn
  | cons m t =>
    rw [e] at hs hp
    rw [List.sum_cons] at hs
    have ht := len_le_sum t fun v hv => hp v (by simp [hv])
    have hm := hp m (by simp)
    by_cases c : m = b
    · have := inn_len b (m :: t)
      simp only [List.length_cons] at this
      omega
    · have e2 : inn b (m :: t) = dL b t := by
        unfold inn
        rw [dF_dL, dF_neg c]
      rw [e2]
      have := dL_len b t
      omega

/-! ### heights -/
def hgt (a b : Int) : Nat → List Int → Option Nat
  | 0, row => if row = [] then some 0 else none
  | n + 1, row => if row = [] then some 0 else match inner a b row with
    | none => none
    | some i => (hgt a b n i).map (· + 1)
def height (a b : Int) (row : List Int) : Option Nat := hgt a b row.length row
theorem hgt_nil (a b : Int) (n : Nat) : hgt a b n [] = some 0 := by
  cases n <;> rfl
theorem height_nil (a b : Int) : height a b [] = some 0 := rfl
theorem hgt_more {a b : Int} (hb : 2 ≤ b) : ∀ (n m : Nat) (row : List Int), row.length ≤ n → row.length ≤ m → hgt a b n row = hgt a b m row
  | 0, m, row, h1, _ => by
    have e : row = [] := List.eq_nil_of_length_eq_zero (by omega)
    subst e
    rw [hgt_nil, hgt_nil]
  | n + 1, 0, row, _, h2 => by
    have e : row = [] := List.eq_nil_of_length_eq_zero (by omega)
    subst e
    rw [hgt_nil, hgt_nil]
  | n + 1, m + 1, row, h1, h2 => by
    unfold hgt
    by_cases c : row = []
    · rw [if_pos c, if_pos c]
    · rw [if_neg c, if_neg c]
      cases e : inner a b row with
      | none => rfl
      | some i =>
        have := inner_lt hb c e
        show (hgt a b n i).map (· + 1) = (hgt a b m i).map (· + 1)
        rw [hgt_more hb n m i (by omega) (by omega)]
theorem height_none {a b : Int} {row : List Int} (hr : row ≠ []) (h : inner a b row = none) : height a b row = none := by
  unfold height
  cases row with
  | nil => exact absurd rfl hr
  | cons x r =>
    show hgt a b (r.length + 1) (x :: r) = none
    unfold hgt
    rw [if_neg hr, h]
theorem height_some {a b : Int} (hb : 2 ≤ b) {row i : List Int} (hr : row ≠ []) (h : inner a b row = some i) : height a b row = (height a b i).map (· + 1) := by
  have hl := inner_lt hb hr h
  unfold height
  cases row with
  | nil => exact absurd rfl hr
  | cons x r =>
    show hgt a b (r.length + 1) (x :: r) = _
    rw [hgt, if_neg hr, h]
    show (hgt a b r.length i).map (· + 1) = _
    simp only [List.length_cons] at hl
    rw [hgt_more hb r.length i.length i (by omega) (by omega)]
/-- a told height means inner lengths all the way -/
theorem height_is {a b : Int} (hb : 2 ≤ b) {row : List Int} {n : Nat} (hr : row ≠ []) (h : height a b row = some n) : ∃ i m, inner a b row = some i ∧ height a b i = some m ∧ n = m + 1 := by
  cases e : inner a b row with
  | none =>
    rw [height_none hr e] at h
    cases h
  | some i =>
    rw [height_some hb hr e] at h
    cases e2 : height a b i with
    | none =>
      rw [e2] at h
      cases h
    | some m =>
      rw [e2] at h
      exact ⟨i, m, rfl, e2, (Option.some.inj h).symm⟩
/-- each piece of a smooth row is smooth, and no higher -/
theorem height_piece {a b : Int} (hb : 2 ≤ b) : ∀ (n : Nat) {p row : List Int}, Piece p row → height a b row = some n → ∃ m, height a b p = some m ∧ m ≤ n := by
  intro n
  induction n with
  | zero =>
    intro p row hp h
    by_cases c : row = []
    · have e : p = [] := List.eq_nil_of_length_eq_zero (by have := hp.len; rw [c] at this; simpa using this)
      subst e
      exact ⟨0, rfl, Nat.le_refl _⟩
    · obtain ⟨i, m, _, _, e⟩ := height_is hb c h
      omega
  | succ n ih =>
    intro p row hp h
    by_cases z : p = []
    · subst z
      exact ⟨0, rfl, Nat.zero_le _⟩
    · have c : row ≠ [] := by
        intro c
        have := hp.len
        rw [c] at this
        exact z (List.eq_nil_of_length_eq_zero (by simpa using this))
      obtain ⟨i, m, hi, hm, e⟩ := height_is hb c h
      have em : m = n := by omega
      subst em
      obtain ⟨j, hj, pj⟩ := inner_piece hb hp hi
      obtain ⟨k, hk, le⟩ := ih pj hm
      refine ⟨k + 1, ?_, by omega⟩
      rw [height_some hb z hj, hk]
      rfl
theorem height_reverse {a b : Int} (hb : 2 ≤ b) : ∀ (n : Nat) {row : List Int}, height a b row = some n → height a b row.reverse = some n := by
  intro n
  induction n with
  | zero =>
    intro row h
    by_cases c : row = []
    · subst c
      exact h
    · obtain ⟨i, m, _, _, e⟩ := height_is hb c h
      omega
  | succ n ih =>
    intro row h
    have c : row ≠ [] := by
      intro c
      rw [c, height_nil] at h
      cases h
    obtain ⟨i, m, hi, hm, e⟩ := height_is hb c h
    have em : m = n := by omega
    subst em
    have c2 : row.reverse ≠ [] := fun z => c (List.reverse_eq_nil_iff.mp z)
    rw [height_some hb c2 (inner_reverse hi), ih hm]
    rfl
theorem inner_map {a b : Int} {f : Int → Int} (hf : ∀ x y, f x = f y → x = y) (row : List Int) : inner a b (row.map f) = inner a b row := by
  unfold inner
  rw [runs_map hf]
theorem height_map {a b : Int} (hb : 2 ≤ b) {f : Int → Int} (hf : ∀ x y, f x = f y → x = y) (row : List Int) : height a b (row.map f) = height a b row := by
  by_cases c : row = []
  · subst c
    rfl
  · have c2 : row.map f ≠ [] := by simpa using c
    cases e : inner a b row with
    | none => rw [height_none c e, height_none c2 ((inner_map hf row).trans e)]
    | some i => rw [height_some hb c e, height_some hb c2 ((inner_map hf row).trans e)]
end SR
/-! What the promises say, and lists of ints by slices and places. -/
namespace SR
open PySem PySem.Spec PyProof.Rows L2 Evl

/-- letters -/
structure Let (a b : Int) : Prop where
  lo : 1 ≤ a
  lt : a < b
  hi : b ≤ 9
theorem Let.two {a b : Int} (h : Let a b) : 2 ≤ b := by
  have := h.lo
  have := h.lt
  omega
abbrev IsT (H : Hp) (l : Addr) (a b : Int) : Prop := H l = some (.tup [.int a, .int b])
abbrev IsL (H : Hp) (p : Addr) (xs : List Int) : Prop := H p = some (.lst (xs.map V.int))
theorem IsT.at {K : PySem.W.Frag} {H : Hp} {l : Addr} {a b : Int} (h : IsT H l a b) : SqT K H l [.int a, .int b] := st_of h
theorem IsL.at {K : PySem.W.Frag} {H : Hp} {p : Addr} {xs : List Int} (h : IsL H p xs) : SqL K H p (xs.map V.int) := sq_of h
/-- each sign one of the two -/
def Over (a b : Int) (row : List Int) : Prop := ∀ v ∈ row, v = a ∨ v = b
def RetO (o : Option (List Int)) (H : Hp) (Q : VK) : Prop := (o = none → RetV .non H Q) ∧ ∀ i, o = some i → RetL (i.map V.int) H Q
def RetN (o : Option Nat) (H : Hp) (Q : VK) : Prop := RetV (match o with | none => .non | some n => .int n) H Q

/-! ### slices -/
theorem cut_tail (R : List Int) : cutV (R.map V.int) (some 1) none = R.tail.map V.int := by
  unfold cutV
  rw [HT.sIx_none, show HT.sIx (R.map V.int).length 0 (some 1) = min 1 (R.map V.int).length from HT.sIx_nat _ 0 1]
  cases R with
  | nil => rfl
  | cons x r =>
    rw [show min 1 ((x :: r).map V.int).length = 1 by simp]
    show List.take (((x :: r).map V.int).length - 1) (r.map V.int) = r.map V.int
    apply List.take_of_length_le
    simp
theorem sIx_m1 (n d : Nat) : HT.sIx n d (some (-1)) = n - 1 := by
  show (if (-1 : Int) < 0 then ((-1 : Int) + (n : Int)).toNat else min (-1 : Int).toNat n) = n - 1
  rw [if_pos (by omega)]
  omega
theorem cut_init (R : List Int) : cutV (R.map V.int) none (some (-1)) = R.dropLast.map V.int := by
  unfold cutV
  rw [HT.sIx_none, sIx_m1, List.drop_zero, Nat.sub_zero, List.length_map, ← List.map_take, List.dropLast_eq_take]
theorem cut_mid (R : List Int) : cutV (R.map V.int) (some 1) (some (-1)) = R.tail.dropLast.map V.int := by
  unfold cutV
  rw [sIx_m1, show HT.sIx (R.map V.int).length 0 (some 1) = min 1 (R.map V.int).length from HT.sIx_nat _ 0 1]
  cases R with
  | nil => rfl
  | cons x r =>
    rw [show min 1 ((x :: r).map V.int).length = 1 by simp]
    show List.take (((x :: r).map V.int).length - 1 - 1) (r.map V.int) = r.dropLast.map V.int
    rw [← List.map_take, List.dropLast_eq_take, List.length_map, List.length_cons]
    rfl
theorem cut_from (R : List Int) (n : Nat) : cutV (R.map V.int) (some (n : Int)) none = (R.drop n).map V.int := by
  unfold cutV
  rw [HT.sIx_none, HT.sIx_nat, List.length_map]
  by_cases h : n ≤ R.length
  · rw [Nat.min_eq_left h, ← List.map_drop, ← List.map_take]
    congr 1
    apply List.take_of_length_le
    simp
  · rw [Nat.min_eq_right (by omega), ← List.map_drop, ← List.map_take, List.drop_of_length_le (Nat.le_refl _), List.drop_of_length_le (by omega)]
    simp
theorem cut_to (R : List Int) (n : Nat) : cutV (R.map V.int) none (some (n : Int)) = (R.take n).map V.int := by
  unfold cutV
  rw [HT.sIx_none, HT.sIx_nat, List.length_map, List.drop_zero, Nat.sub_zero, ← List.map_take]
  by_cases h : n ≤ R.length
  · rw [Nat.min_eq_left h]
  · rw [Nat.min_eq_right (by omega), List.take_of_length_le (Nat.le_refl _), List.take_of_length_le (by omega)]
theorem cut_fromI (R : List Int) {i : Int} (h : 0 ≤ i) : cutV (R.map V.int) (some i) none = (R.drop i.toNat).map V.int := by
  have e := cut_from R i.toNat
  rw [Int.toNat_of_nonneg h] at e
  exact e
theorem cut_toI (R : List Int) {i : Int} (h : 0 ≤ i) : cutV (R.map V.int) none (some i) = (R.take i.toNat).map V.int := by
  have e := cut_to R i.toNat
  rw [Int.toNat_of_nonneg h] at e
  exact e

/-! ### one turn of the runs' loop -/
theorem set_bump {l : List Int} {m : Int} (h : l.getLast? = some m) : (l.map V.int).set ((l.map V.int).length - 1) (.int (m + 1)) = (bump l).map V.int := by
  obtain ⟨r, rfl⟩ : ∃ r, l = r ++ [m] := List.getLast?_eq_some_iff.mp h
  rw [bump_snoc, List.map_append, List.map_append]
  have e : (r.map V.int ++ [m].map V.int).length - 1 = (r.map V.int).length := by simp
  rw [e, List.set_append_right _ _ (Nat.le_refl _), Nat.sub_self]
  rfl
theorem take_next {α : Type} {l : List α} {i : Nat} {x : α} (h : l[i]? = some x) : l.take (i + 1) = l.take i ++ [x] := by
  rw [List.take_add_one, h]
  rfl
theorem last_take {l : List Int} {i : Nat} {y : Int} (h : l[i]? = some y) : (l.take (i + 1)).getLast? = some y := by
  rw [take_next h]
  simp
theorem get_map {xs : List Int} {i : Nat} {x : V} (h : (xs.map V.int)[i]? = some x) : ∃ z, xs[i]? = some z ∧ x = V.int z := by
  rw [List.getElem?_map] at h
  cases e : xs[i]? with
  | none =>
    rw [e] at h
    cases h
  | some z =>
    rw [e] at h
    exact ⟨z, rfl, (Option.some.inj h).symm⟩
theorem get_at {xs : List Int} {i : Nat} (h : i < xs.length) : ∃ z, xs[i]? = some z := ⟨xs[i], List.getElem?_eq_getElem h⟩

/-! ### isinstance of flat values and lists -/
section
variable {K : PySem.W.Frag} {σ : L2.St} {H : Hp} {ta tb : TE} {x : V} {n : String} {b : Bool}
theorem ev_isi {t : Value} (ha : Ev ta σ H x) (hx : ∀ H1, Ex H H1 → TyX K H1 x t) (hk : PySem.W.kitOne K t (.type n) = some b) : Ev (tCB (rIsi K) (tCons ta (tCons (tC (.ty n)) tNil))) σ H (.bl b) := fun H1 e Q q =>
  ha H1 e _ fun H2 e2 => ⟨x, .ty n, t, .type n, b, rfl, .ty n, hx H2 (e.trans e2), hk, q H2 e2⟩
end
theorem yes_of_not {p : Prop} [Decidable p] (h : (!decide p) = false) : p := by
  by_cases c : p
  · exact c
  · rw [decide_eq_false c] at h
    cases h
theorem no_of_not {p : Prop} [Decidable p] (h : (!decide p) = true) : ¬ p := by
  by_cases c : p
  · rw [decide_eq_true c] at h
    cases h
  · exact c
/-- x is None, is not None -/
theorem rv_isN {x : V} {H : Hp} : RV (fun x y H Q => y = V.non ∧ Q (.bl (decide (x = .non))) H) x .non H (.bl (decide (x = .non))) := fun H1 _ _ q => ⟨rfl, q H1 (Ex.refl H1)⟩
theorem rv_notN {x : V} {H : Hp} : RV (fun x y H Q => y = V.non ∧ Q (.bl (!decide (x = .non))) H) x .non H (.bl (!decide (x = .non))) := fun H1 _ _ q => ⟨rfl, q H1 (Ex.refl H1)⟩
theorem is_non : decide (V.non = V.non) = true := decide_eq_true rfl
theorem ref_non {p : Addr} : decide (V.ref p = V.non) = false := decide_eq_false fun z => nomatch z
theorem int_non {n : Int} : decide (V.int n = V.non) = false := decide_eq_false fun z => nomatch z
theorem len_of_map (xs : List Int) : (xs.map V.int).length = xs.length := List.length_map _
theorem two_ok (a b : Int) : ([V.int a, V.int b].all flatV) = true := rfl
theorem s_seq {t u : TS} {D : Ends} {σ : L2.St} {H : Hp} (h : t { D with nx := u D } σ H) : tSeq t u D σ H := h
/-- a call for its own sake, a def that hands back None -/
theorem q_do {te : TE} {tz : TS} {D : Ends} {σ : L2.St} {H : Hp} {v : V} (h : Ev te σ H v) (k : ∀ H1, Ex H H1 → tz D σ H1) : tSeq (tDrop te) tz D σ H := q_drop h k
end SR
/-! Built rows; what the law's loops make. -/
namespace SR
/-- by turns s and the other one -/
def sg (a b s : Int) : Nat → Int
  | 0 => s
  | n + 1 => a + b - sg a b s n
def built (a b : Int) : Int → List Int → List Int
  | _, [] => []
  | s, n :: r => List.replicate n.toNat s ++ built a b (a + b - s) r
theorem sg_shift (a b s : Int) : ∀ n, sg a b (a + b - s) n = sg a b s (n + 1)
  | 0 => rfl
  | n + 1 => by
    show a + b - sg a b (a + b - s) n = a + b - sg a b s (n + 1)
    rw [sg_shift a b s n]
theorem sg_mem {a b s : Int} (h : s = a ∨ s = b) : ∀ n, sg a b s n = a ∨ sg a b s n = b
  | 0 => h
  | n + 1 => by
    have ih := sg_mem h n
    show a + b - sg a b s n = a ∨ a + b - sg a b s n = b
    omega
theorem built_snoc (a b : Int) : ∀ (l : List Int) (s n : Int), built a b s (l ++ [n]) = built a b s l ++ List.replicate n.toNat (sg a b s l.length)
  | [], s, n => by
    show List.replicate n.toNat s ++ [] = [] ++ List.replicate n.toNat s
    simp
  | m :: r, s, n => by
    show List.replicate m.toNat s ++ built a b (a + b - s) (r ++ [n]) = (List.replicate m.toNat s ++ built a b (a + b - s) r) ++ _
    rw [built_snoc a b r, List.append_assoc, sg_shift]
    rfl
theorem built_over {a b : Int} : ∀ (l : List Int) (s : Int), (s = a ∨ s = b) → ∀ v ∈ built a b s l, v = a ∨ v = b
  | [], _, _, v, hv => by cases hv
  | n :: r, s, hs, v, hv => by
    rcases List.mem_append.mp (show v ∈ List.replicate n.toNat s ++ built a b (a + b - s) r from hv) with h | h
    · rw [List.eq_of_mem_replicate h]
      exact hs
    · exact built_over r (a + b - s) (by omega) v h
theorem built_len {a b m : Int} : ∀ (l : List Int) (s : Int), (∀ v ∈ l, v ≤ m) → 0 ≤ m → ((built a b s l).length : Int) ≤ m * l.length
  | [], _, _, _ => by simp [built]
  | n :: r, s, h, hm => by
    have ih := built_len (a := a) (b := b) r (a + b - s) (fun v hv => h v (List.mem_cons_of_mem _ hv)) hm
    have h1 := h n List.mem_cons_self
    show ((List.replicate n.toNat s ++ built a b (a + b - s) r).length : Int) ≤ _
    rw [List.length_append, List.length_replicate, List.length_cons]
    have e : m * ((r.length + 1 : Nat) : Int) = m * (r.length : Int) + m := by
      rw [Int.natCast_add, Int.mul_add]
      simp
    rw [e]
    have : (n.toNat : Int) ≤ m := by omega
    rw [Int.natCast_add]
    omega
/-- the runs of a built row are the lengths it is built on -/
theorem runs_rep (s : Int) : ∀ (n : Nat) (t : List Int), t.head? ≠ some s → runs (List.replicate (n + 1) s ++ t) = ((n : Int) + 1) :: runs t
  | 0, t, h => by
    show runs (s :: t) = _
    rw [runs_diff h]
    rfl
  | n + 1, t, h => by
    have ih := runs_rep s n t h
    show runs (s :: (List.replicate (n + 1) s ++ t)) = _
    rw [runs_same rfl, ih]
    show (((n : Int) + 1 + 1) :: runs t) = _
    simp
theorem built_head {a b : Int} : ∀ (l : List Int) (s : Int), (∀ v ∈ l, 1 ≤ v) → l ≠ [] → (built a b s l).head? = some s
  | [], _, _, h => absurd rfl h
  | n :: r, s, h, _ => by
    have := h n List.mem_cons_self
    obtain ⟨k, hk⟩ : ∃ k : Nat, n.toNat = k + 1 := ⟨n.toNat - 1, by omega⟩
    show (List.replicate n.toNat s ++ built a b (a + b - s) r).head? = some s
    rw [hk]
    rfl
theorem runs_built {a b : Int} (hab : a < b) : ∀ (l : List Int) (s : Int), (s = a ∨ s = b) → (∀ v ∈ l, 1 ≤ v) → runs (built a b s l) = l
  | [], _, _, _ => rfl
  | n :: r, s, hs, h => by
    have hn := h n List.mem_cons_self
    have hr : ∀ v ∈ r, 1 ≤ v := fun v hv => h v (List.mem_cons_of_mem _ hv)
    have ih := runs_built hab r (a + b - s) (by omega) hr
    obtain ⟨k, hk⟩ : ∃ k : Nat, n.toNat = k + 1 := ⟨n.toNat - 1, by omega⟩
    show runs (List.replicate n.toNat s ++ built a b (a + b - s) r) = n :: r
    rw [hk, runs_rep, ih]
    · congr 1
      omega
    · cases hc : r with
      | nil => simp [built]
      | cons y t =>
        rw [← hc, built_head r (a + b - s) hr (by rw [hc]; simp)]
        intro e
        have := Option.some.inj e
        omega
/-- a row built on a smooth row -/
theorem height_built {a b : Int} (ha : 1 ≤ a) (hab : a < b) {row : List Int} {n : Nat} (ho : ∀ v ∈ row, v = a ∨ v = b) (h : height a b row = some n) {s : Int} (hs : s = a ∨ s = b) : ∃ m, height a b (built a b s row) = some m ∧ m ≤ n + 1 := by
  have hb : 2 ≤ b := by omega
  by_cases c : row = []
  · subst c
    exact ⟨0, rfl, Nat.zero_le _⟩
  · have hr := runs_built hab row s hs (fun v hv => by have := ho v hv; omega)
    have hf : fits a b (runs (built a b s row)) := by
      rw [hr]
      refine ⟨fun v hv => by have := ho v hv; omega, fun v hv => ho v (List.mem_of_mem_tail (List.dropLast_subset _ hv))⟩
    have hi := inner_of_fits hf
    rw [hr] at hi
    obtain ⟨m, hm, le⟩ := height_piece hb n (piece_inn b row) h
    have hne : built a b s row ≠ [] := by
      intro z
      rw [z] at hr
      exact c hr.symm
    refine ⟨m + 1, ?_, by omega⟩
    rw [height_some hb hne hi, hm]
    rfl

/-! ### the law's own inner lengths -/
theorem dF_snoc {b x : Int} {l : List Int} (h : l ≠ []) : dF b (l ++ [x]) = dF b l ++ [x] := by
  cases l with
  | nil => exact absurd rfl h
  | cons y r =>
    by_cases c : y = b
    · subst c
      rw [List.cons_append, dF_pos, dF_pos]
      rfl
    · rw [List.cons_append, dF_neg c, dF_neg c]
/-- what is kept of the first i lengths: the law's loop -/
def Kept (b : Int) (R : List Int) (i : Nat) (l : List Int) : Prop := (i < R.length → l = dF b (R.take i)) ∧ (i = R.length → l = inn b R)
theorem kept_0 (b : Int) (R : List Int) : Kept b R 0 [] := by
  refine ⟨fun _ => rfl, fun h => ?_⟩
  have : R = [] := List.eq_nil_of_length_eq_zero h.symm
  subst this
  rfl
theorem kept_turn {b : Int} {R : List Int} {i : Nat} {l : List Int} {x : Int} (hk : Kept b R i l) (hx : R[i]? = some x) :
    Kept b R (i + 1) (if (0 < i ∧ i + 1 < R.length) ∨ x = b then l ++ [x] else l) := by
  have hi : i < R.length := (List.getElem?_eq_some_iff.mp hx).1
  have hl := hk.1 hi
  have ht : R.take (i + 1) = R.take i ++ [x] := by
    rw [List.take_add_one, hx]
    rfl
  refine ⟨fun h => ?_, fun h => ?_⟩
  · rw [ht]
    cases i with
    | zero =>
      rw [List.take_zero] at hl ⊢
      by_cases c : x = b
      · subst c
        rw [if_pos (.inr rfl), hl]
        show [] ++ [x] = dF x [x]
        rw [dF_pos]
        rfl
      · rw [if_neg (by omega), hl]
        show [] = dF b [x]
        rw [dF_neg c]
    | succ j =>
      rw [if_pos (.inl ⟨by omega, by omega⟩), hl, dF_snoc]
      intro z
      have := congrArg List.length z
      rw [List.length_take, List.length_nil] at this
      omega
  · have hR : R = R.take i ++ [x] := by
      rw [← ht, h, List.take_length]
    have hR2 : inn b R = dF b (dL b (R.take i ++ [x])) := by
      rw [← hR]
      rfl
    rw [hR2]
    by_cases c : x = b
    · subst c
      rw [if_pos (.inr rfl), dL_snoc_pos, hl]
      by_cases z : R.take i = []
      · rw [z]
        show [] ++ [x] = dF x [x]
        rw [dF_pos]
        rfl
      · rw [dF_snoc z]
    · rw [if_neg (by omega), dL_snoc_neg c, hl]
/-- inner lengths are signs again -/
theorem mem_dF {b v : Int} {l : List Int} (h : v ∈ dF b l) : v = b ∨ v ∈ l.tail := by
  cases l with
  | nil => cases h
  | cons x r =>
    by_cases c : x = b
    · subst c
      rw [dF_pos] at h
      exact List.mem_cons.mp h
    · rw [dF_neg c] at h
      exact .inr h
theorem mem_dL {b v : Int} {l : List Int} (h : v ∈ dL b l) : v = b ∨ v ∈ l.dropLast := by
  unfold dL at h
  rcases mem_dF (List.mem_reverse.mp h) with h | h
  · exact .inl h
  · rw [List.tail_reverse] at h
    exact .inr (List.mem_reverse.mp h)
theorem inner_over {a b : Int} {row i : List Int} (h : inner a b row = some i) : ∀ v ∈ i, v = a ∨ v = b := by
  obtain ⟨hf, hi⟩ := inner_some h
  intro v hv
  rw [hi] at hv
  rcases mem_dF (show v ∈ dF b (dL b (runs row)) from hv) with h1 | h1
  · exact .inr h1
  · cases hR : runs row with
    | nil =>
      rw [hR] at h1
      cases h1
    | cons x t =>
      rw [hR] at h1 hf
      by_cases c : t = []
      · subst c
        have h2 := dL_len b [x]
        cases hd : dL b [x] with
        | nil =>
          rw [hd] at h1
          cases h1
        | cons y r =>
          rw [hd] at h1 h2
          have : r = [] := List.eq_nil_of_length_eq_zero (by simpa using h2)
          subst this
          cases h1
      · rw [dL_cons c] at h1
        rcases mem_dL (show v ∈ dL b t from h1) with h2 | h2
        · exact .inr h2
        · exact hf.2 v h2
theorem inner_short {a b : Int} {row i : List Int} (h : inner a b row = some i) : i.length ≤ row.length := by
  obtain ⟨_, hi⟩ := inner_some h
  rw [hi]
  exact Nat.le_trans (inn_len b _) (runs_len row)
end SR
namespace SR
open PySem PySem.Spec PyProof.Rows L2 Evl
/-- the script's k-th number, or nought -/
def cell (ns : List Int) (k : Int) : Int := ns.getD k.toNat 0
/-- some letters, some row over them -/
def RetSome (a b : Int) (n : Nat) (H : Hp) (Q : VK) : Prop := ∀ row : List Int, row.length ≤ n → Over a b row → RetL (row.map V.int) H Q
def RetLet (H : Hp) (Q : VK) : Prop := ∀ a b, Let a b → ∀ p H2, H p = none → Ex H H2 → IsT H2 p a b → Q (.ref p) H2
section
variable {K : PySem.W.Frag} {σ : L2.St} {H H' : Hp} {ta tb te tx : TE} {t u : TT} {x y z v : V} {D : Ends} {tu tw tz : TS}
/-- a call by its promise, its value put into a slot, handed back, dropped -/
theorem q_asgC {sp : Sp} {E : XK} {ta : TA} {vs : List V} {i : Nat} (h : EvA ta σ H vs) (k : ∀ H1, Ex H H1 → sp (vs ++ []) H1 (fun v H2 => tz D (σ.set i (some v)) H2) E) : tSeq (tAsg (tCall sp [] E ta) (gName i)) tz D σ H := h H (Ex.refl H) _ fun H1 e => k H1 e
theorem s_asgC {sp : Sp} {E : XK} {ta : TA} {vs : List V} {i : Nat} (h : EvA ta σ H vs) (k : ∀ H1, Ex H H1 → sp (vs ++ []) H1 (fun v H2 => D.nx (σ.set i (some v)) H2) E) : tAsg (tCall sp [] E ta) (gName i) D σ H := h H (Ex.refl H) _ fun H1 e => k H1 e
theorem s_retC {sp : Sp} {E : XK} {ta : TA} {vs : List V} (h : EvA ta σ H vs) (k : ∀ H1, Ex H H1 → sp (vs ++ []) H1 D.rt E) : tRet (tCall sp [] E ta) D σ H := h H (Ex.refl H) _ fun H1 e => k H1 e
theorem q_dropC {sp : Sp} {E : XK} {ta : TA} {vs : List V} (h : EvA ta σ H vs) (k : ∀ H1, Ex H H1 → sp (vs ++ []) H1 (fun _ H2 => tz D σ H2) E) : tSeq (tDrop (tCall sp [] E ta)) tz D σ H := h H (Ex.refl H) _ fun H1 e => k H1 e
/-- j / n, j % n (n above nought) -/
theorem rv_div {i j : Int} (h : 0 < j ∧ j < 1073741824) : RV (rI CDiv fun i j => .int (i / j)) (.int i) (.int j) H (.int (i / j)) := rv_I h
theorem rv_mod {i j : Int} (h : 0 < j) : RV (rI (fun _ j => 0 < j) fun i j => .int (i % j)) (.int i) (.int j) H (.int (i % j)) := rv_I h
theorem at_two {a b m : Int} (h : 0 ≤ m ∧ m < 2) : atI [V.int a, V.int b] m = some (.int (if m = 0 then a else b)) := by
  have : m = 0 ∨ m = 1 := by omega
  rcases this with rfl | rfl
  · rfl
  · rfl
theorem at_three {a b c : Int} {m : Nat} (h : m < 3) : ∃ n, atI [V.int a, V.int b, V.int c] (m : Int) = some (.int n) ∧ (n = a ∨ n = b ∨ n = c) := by
  have : m = 0 ∨ m = 1 ∨ m = 2 := by omega
  rcases this with rfl | rfl | rfl
  · exact ⟨a, rfl, .inl rfl⟩
  · exact ⟨b, rfl, .inr (.inl rfl)⟩
  · exact ⟨c, rfl, .inr (.inr rfl)⟩
/-- an item of a list that is written out -/
theorem ev_ixN {xs : List V} {i : Int} {n : V} (ha : EvL ta σ H xs) (hb : Ev tb σ H (.int i)) (hi : atI xs i = some n) : Ev (tOp (rIxL K) ta tb) σ H n := ev_opL1 ha (fun _ e => hb.mono e) fun _ _ hp e => rv_ixL (sq_of hp) hi
/-- a slice of a list that was just made -/
theorem el_slN {tl th : TO} {xs : List V} {lo hi : Option Int} (h : EvL te σ H xs) (h1 : EvO tl σ H lo) (h2 : EvO th σ H hi) : EvL (tSl (rSlL K) te tl th) σ H (cutV xs lo hi) := fun H1 e Q q =>
  h H1 e _ fun p H2 hp e2 hx => h1 H2 (e.trans e2) _ fun H3 e3 => h2 H3 ((e.trans e2).trans e3) _ fun H4 e4 =>
    ⟨p, xs, rfl, ex_l (e3.trans e4) (sq_of hx), fun o ho => q o _ (fresh_back ((e2.trans e3).trans e4) ho) (((e2.trans e3).trans e4).trans (Ex.new ho)) upd_same⟩
/-- a def called on a list that is just made, and a further value -/
theorem ev_callL {sp : Sp} {E : XK} {xs : List V} (h : EvL te σ H xs) (hb : Ev tb σ H y) (hs : ∀ p H1, H1 p = some (.lst xs) → Ex H H1 → SpV sp [.ref p, y] H1 z) : Ev (tCall sp [] E (tCons te (tCons tb tNil))) σ H z := fun H1 e Q q =>
  h H1 e _ fun p H2 hp e2 h2 => hb H2 (e.trans e2) _ fun H3 e3 => hs p H3 (e3 p _ h2) ((e.trans e2).trans e3) H3 (Ex.refl H3) Q (fun H4 e4 => q H4 ((e2.trans e3).trans e4)) E
theorem ev_callR {sp : Sp} {E : XK} {xs : List V} (ha : Ev ta σ H x) (h : EvL te σ H xs) (hs : ∀ p H1, H1 p = some (.lst xs) → Ex H H1 → SpV sp [x, .ref p] H1 z) : Ev (tCall sp [] E (tCons ta (tCons te tNil))) σ H z := fun H1 e Q q =>
  ha H1 e _ fun H2 e2 => h H2 (e.trans e2) _ fun p H3 hp e3 h3 => hs p H3 h3 ((e.trans e2).trans e3) H3 (Ex.refl H3) Q (fun H4 e4 => q H4 ((e2.trans e3).trans e4)) E
theorem el_callR {sp : Sp} {E : XK} {xs ys : List V} (ha : Ev ta σ H x) (h : EvL te σ H xs) (hs : ∀ p H1, H1 p = some (.lst xs) → Ex H H1 → SpL sp [x, .ref p] H1 ys) : EvL (tCall sp [] E (tCons ta (tCons te tNil))) σ H ys := fun H1 e Q q =>
  ha H1 e _ fun H2 e2 => h H2 (e.trans e2) _ fun p H3 hp e3 h3 => hs p H3 h3 ((e.trans e2).trans e3) H3 (Ex.refl H3) Q (fun o H4 no e4 h4 => q o H4 (fresh_back (e2.trans e3) no) ((e2.trans e3).trans e4) h4) E
theorem el_call3R {sp : Sp} {E : XK} {xs ys : List V} (ha : Ev ta σ H x) (hb : Ev tb σ H y) (h : EvL te σ H xs) (hs : ∀ p H1, H1 p = some (.lst xs) → Ex H H1 → SpL sp [x, y, .ref p] H1 ys) : EvL (tCall sp [] E (tCons ta (tCons tb (tCons te tNil)))) σ H ys := fun H1 e Q q =>
  ha H1 e _ fun H2 e2 => hb H2 (e.trans e2) _ fun H3 e3 => h H3 ((e.trans e2).trans e3) _ fun p H4 hp e4 h4 => hs p H4 h4 (((e.trans e2).trans e3).trans e4) H4 (Ex.refl H4) Q (fun o H5 no e5 h5 => q o H5 (fresh_back ((e2.trans e3).trans e4) no) (((e2.trans e3).trans e4).trans e5) h5) E
theorem ea_is {ta : TA} {vs ws : List V} (h : EvA ta σ H vs) (e : vs = ws) : EvA ta σ H ws := by
  rw [← e]
  exact h
end
theorem et_yes {σ : L2.St} {H : Hp} : EvT tYes σ H true := fun H1 _ _ q => q H1 (Ex.refl H1)
/-- a comprehension that keeps all -/
theorem given_all {g : Int → Int} (xs : List Int) : given (xs.map V.int).length (fun _ => true) (fun i => V.int (g (xs.getD i 0))) = (xs.map g).map V.int := by
  rw [List.length_map]
  unfold given
  rw [List.filter_eq_self.mpr (fun _ _ => rfl)]
  apply List.ext_getElem?
  intro i
  rw [List.getElem?_map, List.getElem?_map, List.getElem?_map]
  by_cases h : i < xs.length
  · rw [List.getElem?_range h, List.getElem?_eq_getElem h]
    show some (V.int (g (xs.getD i 0))) = some (V.int (g xs[i]))
    rw [List.getD_eq_getElem?_getD, List.getElem?_eq_getElem h]
    rfl
  · rw [List.getElem?_eq_none (by simpa using h), List.getElem?_eq_none (by omega)]
    rfl
theorem rep_one (s : Int) (n : Nat) : (List.replicate n [V.int s]).flatten = (List.replicate n s).map V.int := by
  induction n with
  | zero => rfl
  | succ k ih =>
    rw [List.replicate_succ, List.replicate_succ, List.flatten_cons, ih]
    rfl
theorem Over.take {a b : Int} {l : List Int} (h : Over a b l) (n : Nat) : Over a b (l.take n) := fun v hv => h v (List.mem_of_mem_take hv)
theorem Over.drop {a b : Int} {l : List Int} (h : Over a b l) (n : Nat) : Over a b (l.drop n) := fun v hv => h v (List.mem_of_mem_drop hv)
theorem over_nil (a b : Int) : Over a b [] := fun v hv => by cases hv
theorem over_snoc {a b x : Int} {l : List Int} (h : Over a b l) (hx : x = a ∨ x = b) : Over a b (l ++ [x]) := fun v hv => by
  rcases List.mem_append.mp hv with hv | hv
  · exact h v hv
  · rw [List.mem_singleton.mp hv]
    exact hx
end SR
/-! Rows that tell their own runs. -/
namespace SR
/-- the own row behind n runs -/
def ownR (a b s : Int) : Nat → List Int
  | 0 => []
  | n + 1 => ownR a b s n ++ List.replicate ((ownR a b s n).getD n (sg a b s n)).toNat (sg a b s n)
/-- its first m signs -/
def own (a b s : Int) (m : Nat) : List Int := (ownR a b s m).take m
section
variable {a b s : Int}
theorem ownR_over (hs : s = a ∨ s = b) : ∀ n, ∀ v ∈ ownR a b s n, v = a ∨ v = b
  | 0, v, h => by cases h
  | n + 1, v, h => by
    rcases List.mem_append.mp (show v ∈ ownR a b s n ++ List.replicate ((ownR a b s n).getD n (sg a b s n)).toNat (sg a b s n) from h) with h | h
    · exact ownR_over hs n v h
    · rw [List.eq_of_mem_replicate h]
      exact sg_mem hs n
theorem next_over (hs : s = a ∨ s = b) (n : Nat) : (ownR a b s n).getD n (sg a b s n) = a ∨ (ownR a b s n).getD n (sg a b s n) = b := by
  rw [List.getD_eq_getElem?_getD]
  cases e : (ownR a b s n)[n]? with
  | none => exact sg_mem hs n
  | some v => exact ownR_over hs n v (List.mem_of_getElem? e)
theorem ownR_len (ha : 1 ≤ a) (hab : a < b) (hs : s = a ∨ s = b) : ∀ n, n ≤ (ownR a b s n).length
  | 0 => Nat.le_refl _
  | n + 1 => by
    have ih := ownR_len ha hab hs n
    have h1 := next_over (a := a) (b := b) (s := s) hs n
    show n + 1 ≤ (ownR a b s n ++ List.replicate ((ownR a b s n).getD n (sg a b s n)).toNat (sg a b s n)).length
    rw [List.length_append, List.length_replicate]
    omega
theorem ownR_next (n : Nat) : ownR a b s n <+: ownR a b s (n + 1) := List.prefix_append _ _
theorem ownR_pre {n : Nat} : ∀ k, ownR a b s n <+: ownR a b s (n + k)
  | 0 => List.prefix_refl _
  | k + 1 => (ownR_pre k).trans (ownR_next (n + k))
theorem ownR_le {n m : Nat} (h : n ≤ m) : ownR a b s n <+: ownR a b s m := by
  have := ownR_pre (a := a) (b := b) (s := s) (n := n) (m - n)
  rw [show n + (m - n) = m by omega] at this
  exact this
theorem take_of_prefix {l r : List Int} (h : l <+: r) {m : Nat} (hm : m ≤ l.length) : r.take m = l.take m := by
  obtain ⟨t, rfl⟩ := h
  exact List.take_append_of_le_length hm
/-- whatever was made of the row, its first m signs are the same -/
theorem own_of (ha : 1 ≤ a) (hab : a < b) (hs : s = a ∨ s = b) {n m : Nat} (h : m ≤ (ownR a b s n).length) : (ownR a b s n).take m = own a b s m := by
  have hl := ownR_len ha hab hs m
  unfold own
  rcases Nat.le_total n m with c | c
  · exact (take_of_prefix (ownR_le c) h).symm
  · exact take_of_prefix (ownR_le c) hl
theorem own_len (ha : 1 ≤ a) (hab : a < b) (hs : s = a ∨ s = b) (m : Nat) : (own a b s m).length = m := by
  unfold own
  rw [List.length_take]
  have := ownR_len ha hab hs m
  omega
theorem own_take (ha : 1 ≤ a) (hab : a < b) (hs : s = a ∨ s = b) {k m : Nat} (h : k ≤ m) : (own a b s m).take k = own a b s k := by
  have hl := ownR_len ha hab hs m
  unfold own
  rw [List.take_take, Nat.min_eq_left h]
  exact own_of ha hab hs (by omega)
theorem own_over (hs : s = a ∨ s = b) (m : Nat) : ∀ v ∈ own a b s m, v = a ∨ v = b := fun v h => ownR_over hs m v (List.mem_of_mem_take h)
/-- the sign at a place, whatever was made -/
theorem ownR_at (ha : 1 ≤ a) (hab : a < b) (hs : s = a ∨ s = b) {n m k : Nat} (h : k < (ownR a b s n).length) (h2 : k < m) : (ownR a b s n)[k]? = (own a b s m)[k]? := by
  have e1 := own_of ha hab hs (n := n) (m := k + 1) (by omega)
  have e2 := own_take ha hab hs (k := k + 1) (m := m) (by omega)
  have f1 : ((ownR a b s n).take (k + 1))[k]? = (ownR a b s n)[k]? := List.getElem?_take_of_lt (by omega)
  have f2 : ((own a b s m).take (k + 1))[k]? = (own a b s m)[k]? := List.getElem?_take_of_lt (by omega)
  rw [← f1, ← f2, e1, e2]
/-- the length of the n-th run is the n-th sign -/
theorem next_at (ha : 1 ≤ a) (hab : a < b) (hs : s = a ∨ s = b) (n : Nat) : (ownR a b s (n + 1))[n]? = some ((ownR a b s n).getD n (sg a b s n)) := by
  have hl := ownR_len ha hab hs n
  have h1 := next_over (a := a) (b := b) (s := s) hs n
  show (ownR a b s n ++ List.replicate ((ownR a b s n).getD n (sg a b s n)).toNat (sg a b s n))[n]? = _
  rw [List.getD_eq_getElem?_getD] at h1 ⊢
  by_cases c : n < (ownR a b s n).length
  · rw [List.getElem?_append_left c, List.getElem?_eq_getElem c]
    rfl
  · have e0 : (ownR a b s n)[n]? = none := List.getElem?_eq_none (by omega)
    rw [e0] at h1 ⊢
    rw [List.getElem?_append_right (by omega), show n - (ownR a b s n).length = 0 by omega]
    show (List.replicate (sg a b s n).toNat (sg a b s n))[0]? = some (sg a b s n)
    have h2 : (Option.getD none (sg a b s n) : Int) = sg a b s n := rfl
    rw [h2] at h1
    rw [List.getElem?_replicate, if_pos (by omega)]
theorem ownR_built (ha : 1 ≤ a) (hab : a < b) (hs : s = a ∨ s = b) : ∀ n, ownR a b s n = built a b s ((ownR a b s n).take n)
  | 0 => rfl
  | n + 1 => by
    have ih := ownR_built ha hab hs n
    have hl := ownR_len ha hab hs n
    have ht : (ownR a b s (n + 1)).take (n + 1) = (ownR a b s n).take n ++ [(ownR a b s n).getD n (sg a b s n)] := by
      rw [List.take_add_one, next_at ha hab hs n, take_of_prefix (ownR_next n) hl]
      rfl
    have hn : ((ownR a b s n).take n).length = n := by
      rw [List.length_take]
      omega
    rw [ht, built_snoc, ← ih, hn]
    rfl
theorem runs_own (ha : 1 ≤ a) (hab : a < b) (hs : s = a ∨ s = b) (n : Nat) : runs (ownR a b s n) = (ownR a b s n).take n := by
  have h := runs_built hab ((ownR a b s n).take n) s hs (fun v hv => by
    have := ownR_over hs n v (List.mem_of_mem_take hv)
    omega)
  rw [← ownR_built ha hab hs n] at h
  exact h
/-- all but the last length of what begins alike -/
theorem runs_pre_snoc (l : List Int) (x : Int) : (runs l).dropLast <+: (runs (l ++ [x])).dropLast := by
  rw [runs_snoc]
  by_cases c : l.getLast? = some x
  · rw [if_pos c, bump_dropLast]
    exact List.prefix_refl _
  · rw [if_neg c, List.dropLast_concat]
    exact List.dropLast_prefix _
theorem runs_pre : ∀ (t p : List Int), (runs p).dropLast <+: (runs (p ++ t)).dropLast
  | [], p => by
    rw [List.append_nil]
    exact List.prefix_refl _
  | x :: t, p => by
    have h := (runs_pre_snoc p x).trans (runs_pre t (p ++ [x]))
    rw [List.append_assoc] at h
    exact h
theorem runs_of_own (ha : 1 ≤ a) (hab : a < b) (hs : s = a ∨ s = b) (m : Nat) : (runs (own a b s m)).dropLast = (own a b s m).take (runs (own a b s m)).dropLast.length := by
  have hl := ownR_len ha hab hs m
  have hp : own a b s m <+: ownR a b s m := List.take_prefix _ _
  obtain ⟨t, ht⟩ := id hp
  have h1 := runs_pre t (own a b s m)
  rw [ht, runs_own ha hab hs] at h1
  have h2 : (runs (own a b s m)).dropLast <+: ownR a b s m := h1.trans ((List.dropLast_prefix _).trans (List.take_prefix _ _))
  have h3 : (runs (own a b s m)).dropLast.length ≤ (own a b s m).length := by
    have := runs_len (own a b s m)
    rw [List.length_dropLast]
    omega
  have h4 := List.prefix_of_prefix_length_le h2 hp h3
  exact List.prefix_iff_eq_take.mp h4
/-- each piece of an own row is smooth -/
theorem own_smooth (ha : 1 ≤ a) (hab : a < b) (hs : s = a ∨ s = b) (n : Nat) : ∀ (N : Nat) {p : List Int}, p.length ≤ N → Piece p (ownR a b s n) → ∃ k, height a b p = some k := by
  have hb : 2 ≤ b := by omega
  have hr := runs_own ha hab hs n
  have hf : fits a b (runs (ownR a b s n)) := by
    rw [hr]
    refine ⟨fun v hv => ?_, fun v hv => ?_⟩
    · have := ownR_over hs n v (List.mem_of_mem_take hv)
      omega
    · exact ownR_over hs n v (List.mem_of_mem_take (List.mem_of_mem_tail (List.dropLast_subset _ hv)))
  have hi := inner_of_fits hf
  have hpi : Piece (inn b (runs (ownR a b s n))) (ownR a b s n) := by
    refine (piece_inn b _).trans ?_
    rw [hr]
    exact (Piece.refl _).take n
  intro N
  induction N with
  | zero =>
    intro p hp _
    have : p = [] := List.eq_nil_of_length_eq_zero (by omega)
    subst this
    exact ⟨0, rfl⟩
  | succ N ih =>
    intro p hp pp
    by_cases c : p = []
    · subst c
      exact ⟨0, rfl⟩
    · obtain ⟨j, hj, pj⟩ := inner_piece hb pp hi
      have hlt := inner_lt hb c hj
      obtain ⟨k, hk⟩ := ih (by omega) (pj.trans hpi)
      exact ⟨k + 1, by
        rw [height_some hb c hj, hk]
        rfl⟩
theorem piece_own (m : Nat) : Piece (own a b s m) (ownR a b s m) := (Piece.refl _).take m
/-- where a run begins -/
theorem ownR_place (ha : 1 ≤ a) (hab : a < b) (hs : s = a ∨ s = b) : ∀ n, ((ownR a b s n).length : Int) = ((ownR a b s n).take n).sum
  | 0 => rfl
  | n + 1 => by
    have ih := ownR_place ha hab hs n
    have hl := ownR_len ha hab hs n
    have h1 := next_over (a := a) (b := b) (s := s) hs n
    have ht : (ownR a b s (n + 1)).take (n + 1) = (ownR a b s n).take n ++ [(ownR a b s n).getD n (sg a b s n)] := by
      rw [List.take_add_one, next_at ha hab hs n, take_of_prefix (ownR_next n) hl]
      rfl
    rw [ht, List.sum_append]
    show ((ownR a b s n ++ List.replicate ((ownR a b s n).getD n (sg a b s n)).toNat (sg a b s n)).length : Int) = _
    rw [List.length_append, List.length_replicate, List.sum_cons]
    simp only [List.sum_nil]
    omega
end
end SR
namespace SR
open PySem PySem.Spec PyProof.Rows L2 Evl
/-- an own row as it was made: any number of runs that has the signs -/
def RetOwn (a b s m : Int) (H : Hp) (Q : VK) : Prop := ∀ n : Nat, m ≤ ((ownR a b s n).length : Int) → ((ownR a b s n).length : Int) ≤ m + 9 → RetL ((ownR a b s n).map V.int) H Q
/-- the told runs: tuples of sign, place, length -/
def RunsAt (a b s : Int) (H : Hp) (ps : List Addr) (n : Nat) : Prop := ps.length = n ∧ ∀ i p, ps[i]? = some p → ∃ z, (own a b s n)[i]? = some z ∧ H p = some (.tup [.int (sg a b s i), .int ((own a b s n).take i).sum, .int z])
def RetRuns (a b s : Int) (n : Nat) (H : Hp) (Q : VK) : Prop := ∀ (o : Addr) (H2 : Hp) (ps : List Addr), H o = none → Ex H H2 → H2 o = some (.lst (ps.map V.ref)) → RunsAt a b s H2 ps n → Q (.ref o) H2
theorem RunsAt.mono {a b s : Int} {H H' : Hp} {ps : List Addr} {n : Nat} (h : RunsAt a b s H ps n) (e : Ex H H') : RunsAt a b s H' ps n := ⟨h.1, fun i p hp => by
  obtain ⟨z, h1, h2⟩ := h.2 i p hp
  exact ⟨z, h1, e p _ h2⟩⟩
theorem get_ref {ps : List Addr} {i : Nat} {x : V} (h : (ps.map V.ref)[i]? = some x) : ∃ p, ps[i]? = some p ∧ x = V.ref p := by
  rw [List.getElem?_map] at h
  cases e : ps[i]? with
  | none =>
    rw [e] at h
    cases h
  | some z =>
    rw [e] at h
    exact ⟨z, rfl, (Option.some.inj h).symm⟩
theorem cut_any (R : List Int) (lo hi : Option Int) : ∃ s k, cutV (R.map V.int) lo hi = ((R.drop s).take k).map V.int := by
  refine ⟨HT.sIx R.length 0 lo, HT.sIx R.length R.length hi - HT.sIx R.length 0 lo, ?_⟩
  unfold cutV
  rw [List.length_map, ← List.map_drop, ← List.map_take]
theorem isl_snoc {H : Hp} {p : Addr} {xs : List Int} {z : Int} (h : H p = some (.lst (xs.map V.int ++ [.int z]))) : IsL H p (xs ++ [z]) := by
  show H p = some (.lst ((xs ++ [z]).map V.int))
  rw [List.map_append]
  exact h
theorem el_is {te : TE} {σ : L2.St} {H : Hp} {xs ys : List V} (h : EvL te σ H xs) (e : xs = ys) : EvL te σ H ys := by
  rw [← e]
  exact h
/-- the signs with which a row goes on -/
def nextOf (a b : Int) (row : List Int) : List Int := [a, b].filter fun s => (height a b (row ++ [s])).isSome
def goesOn (a b : Int) (row : List Int) : List Int := if (height a b row).isSome then nextOf a b row else []
theorem given_two (f : Int → Bool) (a b : Int) : given 2 (fun i => f (if i = 0 then a else b)) (fun i => V.int (if i = 0 then a else b)) = ([a, b].filter f).map V.int := by
  unfold given
  have : List.range 2 = [0, 1] := rfl
  rw [this]
  cases ha : f a <;> cases hb : f b <;> simp [ha, hb]
theorem nextOf_len (a b : Int) (row : List Int) : (nextOf a b row).length ≤ 2 := List.length_filter_le _ _
theorem goesOn_len (a b : Int) (row : List Int) : (goesOn a b row).length ≤ 2 := by
  unfold goesOn
  by_cases c : (height a b row).isSome
  · rw [if_pos c]
    exact nextOf_len a b row
  · rw [if_neg c]
    exact Nat.zero_le _
theorem get_two {a b : Int} {i : Nat} {x : V} (h : [V.int a, V.int b][i]? = some x) : x = V.int (if i = 0 then a else b) ∧ i < 2 := by
  match i, h with
  | 0, h => exact ⟨(Option.some.inj h).symm, by decide⟩
  | 1, h => exact ⟨(Option.some.inj h).symm, by decide⟩
section
variable {K : PySem.W.Frag} {σ : L2.St} {H H' : Hp} {ta tb te : TE} {x y z v : V} {D : Ends} {tu tz : TS}
/-- for i, x in enumerate(xs) -/
theorem for_enum {a : Addr} {xs : List V} {g : TG} {tb : TS} (hx : SqL K H a xs) (Pv : Nat → L2.St → Hp → Prop) (h0 : Pv 0 σ H) (hl : ∀ i σ' H', Pv i σ' H' → SqL K H' a xs)
    (hs : ∀ i x σ' H' T, xs[i]? = some x → Pv i σ' H' → H' T = none → g (.ref T) σ' (upd H' T (.tup [.int (i : Nat), x])) fun σ2 H2 => tb { D with nx := Pv (i + 1), ct := Pv (i + 1), bk := D.nx } σ2 H2) (hd : ∀ σ' H', Pv xs.length σ' H' → D.nx σ' H') :
    ∃ W : Nat → Nat → L2.St → Hp → Prop, (∃ m, W 0 m σ H) ∧ ∀ i m σ H, W i m σ H → ((Ite K a).stop i H ∧ D.nx σ H) ∨ ((Ite K a).go i H ∧ ∃ N : L2.St → Hp → Prop, (∀ σ' H', N σ' H' → ∃ m', m' < m ∧ W (i + 1) m' σ' H') ∧
      ∀ x H', (Ite K a).yld i H x H' → g x σ H' fun σ2 H2 => tb { D with nx := N, ct := N, bk := D.nx } σ2 H2) := by
  refine ⟨fun i m σ' H' => m = xs.length - i ∧ i ≤ xs.length ∧ Pv i σ' H', ⟨xs.length, rfl, Nat.zero_le _, h0⟩, fun i m σ' H' hw => ?_⟩
  obtain ⟨rfl, hi, p⟩ := hw
  by_cases c : i < xs.length
  · have hg : xs[i]? = some xs[i] := List.getElem?_eq_getElem c
    refine .inr ⟨⟨xs, xs[i], hl i σ' H' p, hg⟩, Pv (i + 1), fun σ2 H2 p2 => ⟨xs.length - (i + 1), by omega, rfl, by omega, p2⟩, fun u H2 hy => ?_⟩
    obtain ⟨T, u', rfl, nT, rfl, ht⟩ := hy
    have := ht xs (hl i σ' H' p)
    exact hs i u' σ' H' T this p nT
  · have e : i = xs.length := by omega
    refine .inl ⟨⟨xs, hl i σ' H' p, by omega⟩, ?_⟩
    rw [e] at p
    exact hd σ' H' p
/-- [.. for x in (a tuple) if ..] -/
theorem el_lcT {t : TT} {a : Addr} {xs : List V} {tl : TE} {j : Nat} {vs : List Nat} (f : Nat → Bool) (v : Nat → V) (h : Ev tl σ H (.ref a)) (hx : SqT K H a xs) (hz : xs.length ≤ 40000) (hw : ∀ x, wipe ((wipe σ vs).set j (some x)) vs = wipe σ vs)
    (ht : ∀ (i : Nat) (x : V) H1, Ex H H1 → xs[i]? = some x → EvT t ((wipe σ vs).set j (some x)) H1 (f i)) (he : ∀ (i : Nat) (x : V) H1, Ex H H1 → xs[i]? = some x → f i = true → Ev te ((wipe σ vs).set j (some x)) H1 (v i)) :
    EvL (tLc (iTup K tl) (gName j) t te vs) σ H (given xs.length f v) := fun H0 e Q q => h H0 e _ fun H1 e1 => ⟨a, rfl, ⟨xs, ex_t (e.trans e1) hx⟩, fun Dl hD => by
  refine lc_tup (xs := xs) (Cw H1 f v Dl) ⟨hD, Ex.new hD, upd_same⟩ (fun i H' _ p => ex_t ((e.trans e1).trans p.2.1) hx) (fun i x H' hi p => ⟨hw x, ?_⟩) (fun H' p => q Dl H' (fresh_back e1 p.1) (e1.trans p.2.1) p.2.2)
  have := (List.getElem?_eq_some_iff.mp hi).1
  exact cw_turn p (by omega) (ht i x H1 (e.trans e1) hi) (fun hf => he i x H1 (e.trans e1) hi hf)⟩
/-- for i, x in enumerate(a def's call) -/
theorem q_forEnumC {sp : Sp} {E : XK} {ta : TA} {vs : List V} {g : TG} (h : EvA ta σ H vs) (k : ∀ H1, Ex H H1 → sp (vs ++ []) H1 (fun u H2 => ∃ a xs, [u] = [V.ref a] ∧ SqL K H2 a xs ∧
    ∃ W : Nat → Nat → L2.St → Hp → Prop, (∃ m, W 0 m σ H2) ∧ ∀ i m σ H, W i m σ H → ((Ite K a).stop i H ∧ tz D σ H) ∨ ((Ite K a).go i H ∧ ∃ N : L2.St → Hp → Prop, (∀ σ' H', N σ' H' → ∃ m', m' < m ∧ W (i + 1) m' σ' H') ∧
      ∀ x H', (Ite K a).yld i H x H' → g x σ H' fun σ2 H2 => tu { { D with nx := tz D } with nx := N, ct := N, bk := tz D } σ2 H2)) E) : tSeq (tFor (iEnum K (tCons (tCall sp [] E ta) tNil)) g tu) tz D σ H := h H (Ex.refl H) _ fun H1 e => k H1 e
theorem s_cut {tu tz : TS} (M : L2.St → Hp → Prop) (h : tu { D with nx := M } σ H) (k : ∀ σ' H', M σ' H' → tz D σ' H') : tCut tu tz D σ H := ⟨M, h, k⟩
end
end SR
/-! Own errors: raised, let out, caught, and told by their kinds in a def of their own (called while the error is handled). -/
namespace SR
open PySem PySem.Spec PyProof.Rows L2 Evl
/-- the module's name x is an own class of errors, over ValueError, without __init__ -/
structure Own (K : PySem.W.Frag) (mg : Str → Option Value) (x : Str) (C : Addr) : Prop where
  g : mg x = some (.ref C)
  ex : PySem.W.excIn K C [.type "ValueError", .type "Exception", .type "BaseException", .type "object"] "ValueError.__new__" = true
  kp : PySem.W.keepIn K (.ref C) = true
  bs : PySem.W.subIn K (.ref C) (.type "BaseException") = some true
  ty : PySem.W.typeIn K (.ref C) = some (.type "type")
/-- nothing that such a def raises leaves -/
theorem passN {X : Cx} : Passes (L2N.CX X.prog X.w) X E0 := fun _ _ _ _ _ _ _ h => by
  obtain ⟨_, _, _, _, _, _, _, _, _, _, _, _, no⟩ := h
  exact no.elim
/-- the wish of a def's own frame -/
abbrev wDef (E : XK) : WX := fun cls d _ H => E cls d H
section
variable {P : Program} {w : World} {K : PySem.W.Frag} {mg : Str → Option Value} {base : Heap}
/-- a def that may raise -/
theorem okN {x qual : Str} {st : Stmt} {f : Addr} {fd : FuncData} {N ps : List Str} {k : Nat} {sp : Sp} (F : Fun K x qual st f fd) (S : FnScope N ps (defScope st)) (len : ∀ vs H Q E, sp vs H Q E → vs.length = ps.length)
    (body : ∀ (cdv : Value) (A : Around) (outer : List Env) (s : Shared) (H : Hp) (vs : List V) (Q : VK) (E : XK), Room k (A.deeper (envOfC qual (defScope st) s.heap.objs.size f cdv)) → sp vs H Q E →
      ∃ t, PSs (cxOf (L2N.CX P w) P w K mg base N qual (defScope st) f cdv A outer s H E) (defBody st) t ∧ t { nx := fun _ H' => Q .non H', rt := Q } (start N vs) H) : FnOk P w K mg base (L2N.CX P w) (k + 1) f fd ps sp := by
  obtain ⟨_, _, _, _, _, _, _, _, _, e, at_, code⟩ := F.ex
  subst e
  exact fn_of at_ code S len fun A outer s H vs Q E hr hsp => body _ A outer s H vs Q E hr hsp
end
section
variable {X : Cx} {CX : CXT} {k : Nat} {x : Str} {ps : List Str} {sp : Sp} {e : Expr} {es : List Expr} {t : TA} {p pos p2 : Pos} {W : WX}
/-- a call of a def that may raise -/
theorem pe_hasX (h : Has X.prog X.w X.K X.mg X.base (L2N.CX X.prog X.w) k x ps sp) (hr : Room k X.A) (hg : Gl X x) (tk : L2N.Takes X W) (ha : PA X (e :: es) t) (hdb : (x == ("__debug__" : Str)) = false := by decide)
    (he : starEach (e :: es) X.env = (false, eval e X.env) :: starEach es X.env := by rfl) (hpl : (backTo pos (starEach es X.env)).any (·.1) = false := by rfl) : PE X (.Call (.Name x p) (e :: es) [] pos) (tCallS sp (WE W) t) := by
  obtain ⟨f, fd, F, hm, hk, hb⟩ := h
  exact pe_callS F hr hg hm hk hb (fun σ => L2N.passAt tk σ) ha hdb he hpl
/-- raise X('..') -/
theorem ps_own {C : Addr} {m : Str} {j : Nat} {pc : Pos} (calm : X.calm = true) (O : Own X.K X.mg x C) (tk : L2N.Takes X W) (hg : Gl X x) (hdb : (x == ("__debug__" : Str)) = false := by decide) :
    PS X (.Raise (some (.Call (.Name x p) [.Constant (.str m) j p2] [] pc)) none pos) (fun _ σ H => W (.ref C) none σ H) :=
  L2N.ps_raise calm tk (L2N.pmk_own PySem.F.excBase_ValueError O.ex O.g O.kp (raises_own O.bs O.ty) hg hdb)
end
/-! ### outcomes: no error (then R), or the error of the class at C -/
def Outs (c : Option Addr) (R : Prop) (H : Hp) (E : XK) : Prop := (c = none → R) ∧ ∀ C, c = some C → ∀ H', Ex H H' → E (.ref C) none H'
theorem Outs.ok {R : Prop} {H : Hp} {E : XK} (r : R) : Outs none R H E := ⟨fun _ => r, fun _ h => nomatch h⟩
theorem Outs.bad {C : Addr} {R : Prop} {H : Hp} {E : XK} (r : ∀ H', Ex H H' → E (.ref C) none H') : Outs (some C) R H E := ⟨fun h => (nomatch h : False).elim, fun _ h H' e => by
  cases h
  exact r H' e⟩
section
variable {K : PySem.W.Frag} {σ : L2.St} {H H' : Hp} {ta tb te : TE} {x y z v : V} {D : Ends} {tu tz : TS} {W : WX}
theorem q_dropX {sp : Sp} {ta : TA} {vs : List V} (h : EvA ta σ H vs) (k : ∀ H1, Ex H H1 → sp vs H1 (fun _ H2 => tz D σ H2) (WE W σ)) : tSeq (tDrop (tCallS sp (WE W) ta)) tz D σ H := h H (Ex.refl H) _ fun H1 e => k H1 e
theorem s_dropX {sp : Sp} {ta : TA} {vs : List V} (h : EvA ta σ H vs) (k : ∀ H1, Ex H H1 → sp vs H1 (fun _ H2 => D.nx σ H2) (WE W σ)) : tDrop (tCallS sp (WE W) ta) D σ H := h H (Ex.refl H) _ fun H1 e => k H1 e
theorem q_asgX {sp : Sp} {ta : TA} {vs : List V} {i : Nat} (h : EvA ta σ H vs) (k : ∀ H1, Ex H H1 → sp vs H1 (fun v H2 => tz D (σ.set i (some v)) H2) (WE W σ)) : tSeq (tAsg (tCallS sp (WE W) ta) (gName i)) tz D σ H := h H (Ex.refl H) _ fun H1 e => k H1 e
theorem s_asgX {sp : Sp} {ta : TA} {vs : List V} {i : Nat} (h : EvA ta σ H vs) (k : ∀ H1, Ex H H1 → sp vs H1 (fun v H2 => D.nx (σ.set i (some v)) H2) (WE W σ)) : tAsg (tCallS sp (WE W) ta) (gName i) D σ H := h H (Ex.refl H) _ fun H1 e => k H1 e
end
/-! ### a def that is called while an error is handled -/
/-- p's object is an error of the class at D, without a dict of its own -/
def ErrOf (D : Addr) (p : Addr × Obj) : Prop := (p.2.cls = .ref D ∧ p.2.dict = none) ∧ ∃ vs, p.2.data = .fields vs
/-- what such a def promises: the error stands at the address a -/
structure FnE (P : Program) (w : World) (K : PySem.W.Frag) (mg : Str → Option Value) (base : Heap) (k : Nat) (f : Addr) (fd : FuncData) (ps : List Str) (D : Addr) (sp : Addr → Sp) : Prop where
  len : ∀ a vs H Q E, sp a vs H Q E → vs.length = ps.length
  run : ∀ (A : Around) (outer : List Env) (s : Shared) (H : Hp) (args : Args) (us : List Value) (vs : List V) (Q : VK) (p : Addr × Obj), L2H.RoomH k A → L2H.Hot1 A p → ErrOf D p → L2H.PinOk outer H s p → Env0 P w K mg base A outer s H → BindsTo s fd args (ps.zip us) →
    Vals vs us → sp p.1 vs H Q E0 → codeAny (model P w) A (.call (.ref f) args) (CR CX0 outer P w H s Q E0) s
theorem fnE_of {P : Program} {w : World} {K : PySem.W.Frag} {mg : Str → Option Value} {base : Heap} {x qual : Str} {st : Stmt} {f : Addr} {fd : FuncData} {N ps : List Str} {k : Nat} {D : Addr} {sp : Addr → Sp} (F : Fun K x qual st f fd)
    (S : FnScope N ps (defScope st)) (len : ∀ a vs H Q E, sp a vs H Q E → vs.length = ps.length)
    (body : ∀ (cdv : Value) (A : Around) (outer : List Env) (s : Shared) (H : Hp) (vs : List V) (Q : VK) (p : Addr × Obj), L2H.Hot1 A p → ErrOf D p → L2H.RoomH k (A.deeper (envOfC qual (defScope st) s.heap.objs.size f cdv)) → sp p.1 vs H Q E0 →
      ∃ t, PSs (L2H.cxH CX0 P w K mg base N qual (defScope st) f cdv A outer s H E0 p) (defBody st) t ∧ t { nx := fun _ H' => Q .non H', rt := Q } (start N vs) H) : FnE P w K mg base (k + 1) f fd ps D sp := by
  obtain ⟨oc, od, kV, doc, pm, an, cdv, ct, osl, e, at_, code⟩ := F.ex
  subst e
  refine ⟨len, fun A outer s H args us vs Q p hr hot her hpin e0 hb rv hsp => ?_⟩
  have hl := len _ _ _ _ _ hsp
  have old : K.In s.heap := e0.mod.kin.keeps fun b o q => (e0.bs b o q).1
  have free : s.heap.NoLimit := e0.mod.nolimit.keeps fun b o q => (e0.bs b o q).1
  have kinds : ∀ y ∈ ps.zip us, (defScope st).names.lookup y.1 = some .local ∨ ((defScope st).names.lookup y.1 = some .cell ∧ ((cellsFrom (s.heap.objs.size + 1) (defScope st).names []).lookup y.1).isSome = true) := by
    intro y hy
    rcases S.par y.1 (List.of_mem_zip (show (y.1, y.2) ∈ ps.zip us from hy)).1 with q | q
    · exact .inl q
    · exact .inr ⟨q, PySem.W.cellsFrom_some _ _ _ (.inl q)⟩
  refine codeAny_call_function hr.depth (old _ _ at_) rfl S.co S.gen rfl (PySem.W.codeRec_of old code) (hb _ _ _ _ ?_)
  refine wpAny_newFunctionEnv_cells S.kind kinds fun env henv s1 ic => ?_
  subst henv
  refine ⟨free.keeps ic.toInCall.keep, codeAny_func ?_⟩
  obtain ⟨t, ht, hq⟩ := body cdv A outer s H vs Q p hot her (hr.deeper _) hsp
  have J := L2H.inv_startH (CX := CX0) (P := P) (w := w) (K := K) (mg := mg) (base := base) (E := E0) (f := f) (cd := cdv) (qual := qual) S hpin e0 hl rv ic
  refine wpAny_mono (ht.run [] s1 (start N vs) H _ J hq) (fun fl s' got => ?_) fun _ _ z => z
  cases fl with
  | ret u =>
    obtain ⟨v, σ', H', I, r, q⟩ := got
    exact ⟨v, H', I.os, I.bare, I.base, I.hok, r, q⟩
  | next =>
    obtain ⟨σ', H', I, q⟩ := got
    exact ⟨.non, H', I.os, I.bare, I.base, I.hok, rfl, q⟩
  | brk =>
    obtain ⟨_, _, _, q⟩ := got
    exact q.elim
  | cont =>
    obtain ⟨_, _, _, q⟩ := got
    exact q.elim
/-- the def x, for errors of any class that is said by Ok -/
def HasE (P : Program) (w : World) (K : PySem.W.Frag) (mg : Str → Option Value) (base : Heap) (k : Nat) (x : Str) (ps : List Str) (Ok : Addr → Prop) (sp : Addr → Addr → Sp) : Prop :=
  ∃ f fd, (∀ D, Ok D → FnE P w K mg base k f fd ps D (sp D)) ∧ mg x = some (.ref f) ∧ PySem.W.keepIn K (.ref f) = true ∧ Binds K fd ps []
/-- x(e) in the except suite: cls, d the error's, a its address -/
def tKind (Ok : Addr → Prop) (sp : Addr → Addr → Sp) (a : Addr) (cls : Value) (d : Option Addr) (t : TA) : TE := fun σ H Q => ∃ D, cls = .ref D ∧ d = none ∧ Ok D ∧ t σ H fun vs H1 => sp D a vs H1 Q E0
theorem pe_kind {Y : Cx} {k : Nat} {x : Str} {ps : List Str} {Ok : Addr → Prop} {sp : Addr → Addr → Sp} {a : Addr} {oe : Obj} {cls : Value} {d : Option Addr} {pn : List (Addr × Obj)} {e : Expr} {es : List Expr} {t : TA} {p pos : Pos}
    (h : HasE Y.prog Y.w Y.K Y.mg Y.base k x ps Ok sp) (hz : L2N.Zn cls d oe) (hf : ∃ vs, oe.data = .fields vs) (hr : L2H.RoomH k (Y.suite a ((a, oe) :: pn)).A) (hg : Gl (Y.suite a ((a, oe) :: pn)) x) (ha : PA (Y.suite a ((a, oe) :: pn)) (e :: es) t)
    (hdb : (x == ("__debug__" : Str)) = false := by decide) (he : starEach (e :: es) Y.env = (false, eval e Y.env) :: starEach es Y.env := by rfl) (hpl : (backTo pos (starEach es Y.env)).any (·.1) = false := by rfl) :
    PE (Y.suite a ((a, oe) :: pn)) (.Call (.Name x p) (e :: es) [] pos) (tKind Ok sp a cls d t) := by
  obtain ⟨f, fd, hF, hm, hk, hb⟩ := h
  refine ⟨fun pins s σ H Q I want => ?_⟩
  obtain ⟨D, ec, ed, ok, want⟩ := want
  subst ec ed
  obtain ⟨vs0, hd0⟩ := hf
  have hot : L2H.Hot1 (Y.suite a ((a, oe) :: pn)).A (a, oe) := ⟨rfl, vs0, hd0, hz.2.2 vs0 hd0⟩
  have F := hF D ok
  refine wpAny_Call_Name_kw (ld_glob (X := Y.suite a ((a, oe) :: pn)) I hg hm ?_ hdb)
  refine PySem.W.callWith_K (h₀ := Y.base) I.ok.mod.kin hk (thn (ha.run pos pins s σ H _ I want) fun us s1 got => ?_) he hpl
  obtain ⟨vs, H1, I1, rv, q⟩ := got
  refine ⟨I1.kIn, ?_⟩
  have hl : us.length = ps.length := by
    rw [← rv.length]
    exact F.len _ _ _ _ _ q
  have bt := hb s1 us I1.kIn (by
    rw [List.append_nil]
    exact hl)
  rw [List.append_nil] at bt
  have pin := I1.pin (a, oe) (List.mem_append_left _ List.mem_cons_self)
  have ok1 : L2H.PinOk (Y.suite a ((a, oe) :: pn)).stack H1 s1 (a, oe) := by
    refine ⟨pin.1, pin.2.1, fun hm => ?_, pin.2.2.2.2⟩
    rcases List.mem_cons.mp (I1.stkSub a hm) with z | z
    · exact pin.2.2.1 z
    · exact pin.2.2.2.1 z
  refine wpAny_call (codeAny_mono (F.run (Y.suite a ((a, oe) :: pn)).A (Y.suite a ((a, oe) :: pn)).stack s1 H1 ⟨us, []⟩ us vs Q (a, oe) hr hot ⟨⟨hz.1, hz.2.1⟩, vs0, hd0⟩ ok1 I1.env0 bt rv q) fun r s' res => ?_)
  cases r with
  | error e => exact False.elim res
  | ok fl =>
    cases fl with
    | ret u => exact I1.after res
    | next => exact False.elim res
    | brk => exact False.elim res
    | cont => exact False.elim res
/-- isinstance(e, c) in such a def -/
theorem call_isP {X : Cx} {D : Addr} {p : Addr × Obj} (C : ExcC X.K D) (her : ErrOf D p) (hp : p ∈ X.pn) : CallR X (.builtin "isinstance") (rIsE X.K D p.1) := by
  intro pins s σ H xs us Q I r h
  obtain ⟨c, cv, b, e0, hcv, e, q⟩ := h
  subst e0
  obtain ⟨a, oc, od, dat, sl⟩ := p
  obtain ⟨⟨h1, h2⟩, vs, hv⟩ := her
  dsimp only at h1 h2 hv
  subst h1 h2 hv
  have got := (I.pin _ (List.mem_append_left pins hp)).1
  cases r with
  | cons r1 rr =>
    cases rr with
    | cons r2 rn =>
      cases rn
      cases r1
      have ec := hcv _ r2
      subst ec
      have J : PySem.W.InstAt s.heap a ⟨.ref D, none, .fields vs, sl⟩ D none := ⟨got, rfl, rfl, trivial⟩
      refine PySem.W.kia_one (PySem.W.handS_kitx_exc C.hg C.hk C.hs C.hd C.ha C.hn C.ht C.hm) I.kIn J e (fun z => nomatch z) fun tk => ?_
      exact ⟨.bl b, H, I.kept (t' := tk) fun _ _ z => z, rfl, q⟩
theorem ev_isE {K : PySem.W.Frag} {σ : L2.St} {H : Hp} {ta tb : TE} {D C a : Addr} {b : Bool} (ha : Ev ta σ H (.ref a)) (hb : Ev tb σ H (.ref C)) (hk : PySem.W.kitOne K (.ref D) (.ref C) = some b) : Ev (tCB (rIsE K D a) (tCons ta (tCons tb tNil))) σ H (.bl b) := fun H1 e Q q =>
  ha H1 e _ fun H2 e2 => hb H2 (e.trans e2) _ fun H3 e3 => ⟨.ref C, .ref C, b, rfl, fun u r => r, hk, q H3 (e2.trans e3)⟩
theorem ev_isV {K : PySem.W.Frag} {σ : L2.St} {H : Hp} {ta tb : TE} {D a : Addr} {n : String} {b : Bool} (ha : Ev ta σ H (.ref a)) (hb : Ev tb σ H (.ty n)) (hk : PySem.W.kitOne K (.ref D) (.type n) = some b) : Ev (tCB (rIsE K D a) (tCons ta (tCons tb tNil))) σ H (.bl b) := fun H1 e Q q =>
  ha H1 e _ fun H2 e2 => hb H2 (e.trans e2) _ fun H3 e3 => ⟨.ty n, .type n, b, rfl, fun u r => r, hk, q H3 (e2.trans e3)⟩
end SR
/-! Which error, told by number: 0 NoLetters, 1 NoRow, 2 NoLengths, 3 NoSign, 4 TooMany, 5 BadText. -/
namespace SR
open PySem PySem.Spec PyProof.Rows L2 Evl
theorem roomH_mark {k : Nat} {A : Around} {h : Option Value} (r : Room k A) : L2H.RoomH k (A.mark h) := ⟨(L2H.roomH_of r).dp, (L2H.roomH_of r).un⟩
theorem takesN0 {X : Cx} : L2N.Takes X (fun _ _ _ _ => False) := fun _ _ x => by
  obtain ⟨_, _, _, _, _, _, _, _, _, _, _, _, _, _, _, _, no⟩ := x
  exact no.elim
/-- the six answers of the kinds, and that it is a ValueError -/
def kindsOf (i : Nat) : List Bool := [decide (i = 0), decide (i = 1), decide (i = 2), decide (i = 3), decide (i = 4), decide (i = 5), true]
/-- what is due: nothing, or the kinds -/
def dueOf : Option Nat → List Bool
  | none => []
  | some i => kindsOf i
/-- the i-th class of errors, as it is asked and caught -/
structure KD (K : PySem.W.Frag) (cls : Nat → Addr) (cE : Addr) (i : Nat) : Prop where
  exc : ExcC K (cls i)
  is : ∀ j, j < 6 → PySem.W.kitOne K (.ref (cls i)) (.ref (cls j)) = some (decide (i = j))
  v : PySem.W.kitOne K (.ref (cls i)) (.type "ValueError") = some true
  c : PySem.W.exmOne K (.ref (cls i)) (.ref cE) = some true
def spKind (K : PySem.W.Frag) (cls : Nat → Addr) (cE : Addr) : Addr → Addr → Sp := fun D a vs H Q _ => vs = [.ref a] ∧ ∃ i, D = cls i ∧ KD K cls cE i ∧ RetL ((kindsOf i).map V.bl) H Q
/-- lists of truth values as data -/
theorem dp_bls {K : PySem.W.Frag} {H : Hp} : ∀ bs : List Bool, DpAll K H (bs.map V.bl) (bs.map PyData.bool)
  | [] => .nil
  | b :: r => .cons (.bl b) (dp_bls r)
theorem lay_bls : ∀ bs : List Bool, PyData.canLayAll0 (bs.map PyData.bool) = true
  | [] => rfl
  | b :: r => by
    show (PyData.canLay0 (.bool b) && PyData.canLayAll0 (r.map PyData.bool)) = true
    rw [lay_bls r]
    rfl
theorem flat_bls : ∀ bs : List Bool, PyData.depthAll (bs.map PyData.bool) = 0
  | [] => rfl
  | b :: r => by
    show max (PyData.depth (.bool b)) (PyData.depthAll (r.map PyData.bool)) = 0
    rw [flat_bls r]
    rfl
theorem shp_bls (bs : List Bool) : SeqAt.shaped (.list (bs.map PyData.bool)) = true := by
  have h1 : PyData.canLay0 (.list (bs.map PyData.bool)) = true := lay_bls bs
  have h2 : PyData.depth (.list (bs.map PyData.bool)) = 1 := by
    show PyData.depthAll (bs.map PyData.bool) + 1 = 1
    rw [flat_bls bs]
  unfold SeqAt.shaped
  rw [h1, h2]
  rfl
theorem shp_pair (bs : List Bool) : SeqAt.shaped (.tuple [.none, .list (bs.map PyData.bool)]) = true := by
  have h1 : PyData.canLay0 (.tuple [.none, .list (bs.map PyData.bool)]) = true := by
    show (PyData.canLay0 .none && (PyData.canLayAll0 (bs.map PyData.bool) && true)) = true
    rw [lay_bls bs]
    rfl
  have h2 : PyData.depth (.tuple [.none, .list (bs.map PyData.bool)]) = 2 := by
    show max (PyData.depth .none) (max (PyData.depthAll (bs.map PyData.bool) + 1) 0) + 1 = 2
    rw [flat_bls bs]
    rfl
  unfold SeqAt.shaped
  rw [h1, h2]
  rfl
theorem eqv_bls : ∀ bs : List Bool, PyData.eqvAll (bs.map PyData.bool) (bs.map PyData.bool) = true
  | [] => rfl
  | b :: r => by
    show (PyData.eqv (.bool b) (.bool b) && PyData.eqvAll (r.map PyData.bool) (r.map PyData.bool)) = true
    rw [eqv_bls r]
    show ((b == b) && true) = true
    simp
section
variable {K : PySem.W.Frag} {σ : L2.St} {H H' : Hp} {ta tb te : TE} {x y z v : V} {D : Ends} {tu tz : TS}
/-- bs != [] -/
theorem ev_neB {p : Addr} {bs : List Bool} (ha : Ev ta σ H (.ref p)) (h : SqL K H p (bs.map V.bl)) : Ev (tOp (rNeD K) ta (tLst tNil)) σ H (.bl (!bs.isEmpty)) :=
  ev_opL ha (el_lst ea_nil (Nat.zero_le _)) fun q H1 hq e => by
    have : (!bs.isEmpty) = !PyData.eqv (.list (bs.map PyData.bool)) (.list (([] : List Bool).map PyData.bool)) := by
      cases bs <;> rfl
    rw [this]
    exact rv_neD (fun _ e2 => .lst (ex_l (e.trans e2) h) (dp_bls bs)) (fun _ e2 => .lst (ex_l e2 (sq_of hq)) (dp_bls [])) (shp_bls bs) (shp_bls [])
/-- (None, bs) beside (None, bs) -/
theorem dp_pair {p q : Addr} {bs : List Bool} (hp : SqT K H p [.non, .ref q]) (hq : SqL K H q (bs.map V.bl)) : Dp K H (.ref p) (.tuple [.none, .list (bs.map PyData.bool)]) := .tup hp (.cons .non (.cons (.lst hq (dp_bls bs)) .nil))
theorem rv_nePair {p q r u : Addr} {bs : List Bool} (hp : SqT K H p [.non, .ref q]) (hq : SqL K H q (bs.map V.bl)) (hr : SqT K H r [.non, .ref u]) (hu : SqL K H u (bs.map V.bl)) : RV (rNeD K) (.ref p) (.ref r) H (.bl false) := by
  have : false = !PyData.eqv (.tuple [.none, .list (bs.map PyData.bool)]) (.tuple [.none, .list (bs.map PyData.bool)]) := by
    show false = !(true && (PyData.eqvAll (bs.map PyData.bool) (bs.map PyData.bool) && true))
    rw [eqv_bls bs]
    rfl
  rw [this]
  exact rv_neD (fun _ e => dp_pair (ex_t e hp) (ex_l e hq)) (fun _ e => dp_pair (ex_t e hr) (ex_l e hu)) (shp_pair bs) (shp_pair bs)
theorem rv_eqPair {p q r u : Addr} {bs : List Bool} (hp : SqT K H p [.non, .ref q]) (hq : SqL K H q (bs.map V.bl)) (hr : SqT K H r [.non, .ref u]) (hu : SqL K H u (bs.map V.bl)) : RV (rEqD K) (.ref p) (.ref r) H (.bl true) := by
  have : true = PyData.eqv (.tuple [.none, .list (bs.map PyData.bool)]) (.tuple [.none, .list (bs.map PyData.bool)]) := by
    show true = (true && (PyData.eqvAll (bs.map PyData.bool) (bs.map PyData.bool) && true))
    rw [eqv_bls bs]
    rfl
  rw [this]
  exact rv_eqD (fun _ e => dp_pair (ex_t e hp) (ex_l e hq)) (fun _ e => dp_pair (ex_t e hr) (ex_l e hu)) (shp_pair bs) (shp_pair bs)
end
/-! ### what is refused -/
def Lets (a b : Int) : Prop := 1 ≤ a ∧ a < b ∧ b ≤ 9
instance (a b : Int) : Decidable (Lets a b) := by
  unfold Lets
  exact inferInstance
theorem lets_chain (a b : Int) : (!(decide (1 ≤ a) && (decide (a < b) && decide (b ≤ 9)))) = !decide (Lets a b) := by
  congr 1
  by_cases h : Lets a b
  · rw [decide_eq_true h, decide_eq_true h.1, decide_eq_true h.2.1, decide_eq_true h.2.2]
    rfl
  · rw [decide_eq_false h]
    by_cases h1 : 1 ≤ a
    · by_cases h2 : a < b
      · have h3 : ¬ b ≤ 9 := fun h3 => h ⟨h1, h2, h3⟩
        rw [decide_eq_false h3]
        simp
      · rw [decide_eq_false h2]
        simp
    · rw [decide_eq_false h1]
      rfl
theorem Lets.let {a b : Int} (h : Lets a b) : Let a b := ⟨h.1, h.2.1, h.2.2⟩
theorem Let.lets {a b : Int} (h : Let a b) : Lets a b := ⟨h.lo, h.lt, h.hi⟩
instance (a b : Int) (row : List Int) : Decidable (Over a b row) := by
  unfold Over
  exact inferInstance
def outLet (a b : Int) : Option Nat := if Lets a b then none else some 0
def outRow (a b : Int) (row : List Int) : Option Nat := if Lets a b then (if row.length ≤ 400 ∧ Over a b row then none else some 1) else some 0
def outSign (a b s : Int) : Option Nat := if Lets a b then (if s = a ∨ s = b then none else some 3) else some 0
theorem outRow_none {a b : Int} {row : List Int} (h : outRow a b row = none) : Let a b ∧ row.length ≤ 400 ∧ Over a b row := by
  unfold outRow at h
  by_cases c : Lets a b
  · rw [if_pos c] at h
    by_cases d : row.length ≤ 400 ∧ Over a b row
    · exact ⟨c.let, d⟩
    · rw [if_neg d] at h
      cases h
  · rw [if_neg c] at h
    cases h
theorem outSign_none {a b s : Int} (h : outSign a b s = none) : Let a b ∧ (s = a ∨ s = b) := by
  unfold outSign at h
  by_cases c : Lets a b
  · rw [if_pos c] at h
    by_cases d : s = a ∨ s = b
    · exact ⟨c.let, d⟩
    · rw [if_neg d] at h
      cases h
  · rw [if_neg c] at h
    cases h
/-- the outcome by number -/
abbrev OutsN (cls : Nat → Addr) (o : Option Nat) (R : Prop) (H : Hp) (E : XK) : Prop := Outs (o.map cls) R H E
theorem OutsN.mk {cls : Nat → Addr} {o : Option Nat} {R : Prop} {H : Hp} {E : XK} (h1 : o = none → R) (h2 : ∀ i, o = some i → ∀ H', Ex H H' → E (.ref (cls i)) none H') : OutsN cls o R H E := by
  cases o with
  | none => exact Outs.ok (h1 rfl)
  | some i => exact Outs.bad (h2 i rfl)
theorem OutsN.yes {cls : Nat → Addr} {o : Option Nat} {R : Prop} {H : Hp} {E : XK} (h : OutsN cls o R H E) (e : o = none) : R := h.1 (by rw [e]; rfl)
theorem OutsN.no {cls : Nat → Addr} {o : Option Nat} {R : Prop} {H : Hp} {E : XK} (h : OutsN cls o R H E) {i : Nat} (e : o = some i) : ∀ H', Ex H H' → E (.ref (cls i)) none H' := h.2 (cls i) (by rw [e]; rfl)
/-- what a try of the law hands back: (a list, []), or (None, the kinds) -/
def RetTried (o : Option Nat) (ys : List V) (H : Hp) (Q : VK) : Prop :=
  (o = none → ∀ (t fo ko : Addr) (H2 : Hp), H fo = none → Ex H H2 → H2 t = some (.tup [.ref fo, .ref ko]) → H2 fo = some (.lst ys) → H2 ko = some (.lst []) → fo ≠ ko → Q (.ref t) H2) ∧
  ∀ i, o = some i → ∀ (t ko : Addr) (H2 : Hp), Ex H H2 → H2 t = some (.tup [.non, .ref ko]) → H2 ko = some (.lst ((kindsOf i).map V.bl)) → Q (.ref t) H2
/-- between the try and what follows: slots f, k hold what was found, the kinds -/
def Tried (o : Option Nat) (ys : List V) (f k : Nat) (H : Hp) (σ : L2.St) (H' : Hp) : Prop := Ex H H' ∧
  ((o = none ∧ ∃ fo ko, σ[f]? = some (some (.ref fo)) ∧ σ[k]? = some (some (.ref ko)) ∧ H fo = none ∧ H' fo = some (.lst ys) ∧ H' ko = some (.lst []) ∧ fo ≠ ko) ∨
    ∃ i, o = some i ∧ ∃ ko, σ[f]? = some (some .non) ∧ σ[k]? = some (some (.ref ko)) ∧ H' ko = some (.lst ((kindsOf i).map V.bl)))
theorem tried_ret {o : Option Nat} {ys : List V} {f k : Nat} {H : Hp} {σ : L2.St} {H' : Hp} {D : Ends} (h : Tried o ys f k H σ H') (q : RetTried o ys H D.rt) : tRet (tTup (tCons (tVar f) (tCons (tVar k) tNil))) D σ H' := by
  obtain ⟨e, ⟨ho, fo, ko, h1, h2, h3, h4, h5, h6⟩ | ⟨i, ho, ko, h1, h2, h3⟩⟩ := h
  · exact s_retU (eu_tup (ea_cons (ev_var h1) (ea_cons (ev_var h2) ea_nil)) (show 2 ≤ 100000 by decide)) fun t H2 nt e2 ht => q.1 ho t fo ko H2 h3 (e.trans e2) ht (e2 fo _ h4) (e2 ko _ h5) h6
  · exact s_retU (eu_tup (ea_cons (ev_var h1) (ea_cons (ev_var h2) ea_nil)) (show 2 ≤ 100000 by decide)) fun t H2 nt e2 ht => q.2 i ho t ko H2 (e.trans e2) ht (e2 ko _ h3)
theorem given_pos {n : Nat} {f : Nat → Bool} {v : Nat → V} : 0 < (given n f v).length ↔ ∃ i, i < n ∧ f i = true := by
  unfold given
  rw [List.length_map, List.length_pos_iff]
  constructor
  · intro h
    cases hl : (List.range n).filter f with
    | nil => exact absurd hl h
    | cons x r =>
      have : x ∈ (List.range n).filter f := by
        rw [hl]
        exact List.mem_cons_self
      obtain ⟨h1, h2⟩ := List.mem_filter.mp this
      exact ⟨x, List.mem_range.mp h1, h2⟩
  · rintro ⟨i, hi, hf⟩ h
    have : i ∈ (List.range n).filter f := List.mem_filter.mpr ⟨List.mem_range.mpr hi, hf⟩
    rw [h] at this
    cases this
section
variable {K : PySem.W.Frag} {σ : L2.St} {H H' : Hp} {ta tb te : TE} {x y z v : V} {D : Ends} {tu tz : TS}
/-- one of two lists that are made -/
theorem el_pick2 {t1 t2 ti : TE} {xs ys : List V} {i : Int} (h1 : EvL t1 σ H xs) (h2 : EvL t2 σ H ys) (hi : Ev ti σ H (.int i)) (h01 : i = 0 ∨ i = 1) : EvL (tOp (rIxL K) (tLst (tCons t1 (tCons t2 tNil))) ti) σ H (if i = 0 then xs else ys) := fun H1 e Q q =>
  h1 H1 e _ fun p H2 np e2 hp => h2 H2 (e.trans e2) _ fun r H3 nr e3 hr => ⟨(show 2 ≤ sizeLine by decide), fun d nd => by
    have e3d : Ex H3 (upd H3 d (.lst [.ref p, .ref r])) := Ex.new nd
    refine hi _ ((e.trans e2).trans (e3.trans e3d)) _ fun H4 e4 => ?_
    rcases h01 with z | z
    · subst z
      exact ⟨d, [.ref p, .ref r], 0, .ref p, rfl, rfl, ex_l e4 (sq_of upd_same), rfl, q p H4 np (((e2.trans e3).trans e3d).trans e4) (e4 p _ (e3d p _ (e3 p _ hp)))⟩
    · subst z
      exact ⟨d, [.ref p, .ref r], 1, .ref r, rfl, rfl, ex_l e4 (sq_of upd_same), rfl, q r H4 (fresh_back e2 nr) (((e2.trans e3).trans e3d).trans e4) (e4 r _ (e3d r _ hr))⟩⟩
/-- the first of what a call hands back -/
theorem el_item0 {sp : Sp} {E : XK} {ta : TA} {vs ys : List V} (h : EvA ta σ H vs) (hs : ∀ H1, Ex H H1 → ∀ Q : VK, (∀ (t fo ko : Addr) (H2 : Hp), H1 fo = none → Ex H1 H2 → H2 t = some (.tup [.ref fo, .ref ko]) → H2 fo = some (.lst ys) → Q (.ref t) H2) → sp (vs ++ []) H1 Q E) :
    EvL (tOp (rIxT K) (tCall sp [] E ta) (tC (.int 0))) σ H ys := fun H1 e Q q => h H1 e _ fun H2 e2 => hs H2 (e.trans e2) _ fun t fo ko H3 nfo e3 ht hfo =>
  ⟨t, [.ref fo, .ref ko], 0, .ref fo, rfl, rfl, st_of ht, rfl, q fo H3 (fresh_back e2 nfo) (e2.trans e3) hfo⟩
end
theorem dueOf_empty (o : Option Nat) : (dueOf o).isEmpty = o.isNone := by
  cases o <;> rfl
/-- how many signs are neither a nor b: some, just where the row isn't over them -/
theorem odd_signs (a b : Int) (row : List Int) : decide ((0 : Int) < ((given row.length (fun i => !decide (row.getD i 0 = a ∨ row.getD i 0 = b)) (fun i => V.int (row.getD i 0))).length : Int)) = !decide (Over a b row) := by
  have key : 0 < (given row.length (fun i => !decide (row.getD i 0 = a ∨ row.getD i 0 = b)) (fun i => V.int (row.getD i 0))).length ↔ ¬ Over a b row := by
    rw [given_pos]
    constructor
    · rintro ⟨i, hi, hf⟩ c
      refine no_of_not hf ?_
      rw [List.getD_eq_getElem?_getD, List.getElem?_eq_getElem hi]
      exact c _ (List.getElem_mem hi)
    · intro c
      refine Decidable.byContradiction fun hn => c fun v hv => ?_
      obtain ⟨i, hi, hiv⟩ := List.mem_iff_getElem.mp hv
      refine Decidable.byContradiction fun hv2 => hn ⟨i, hi, ?_⟩
      have hg : row.getD i 0 = v := by
        rw [List.getD_eq_getElem?_getD, List.getElem?_eq_getElem hi]
        exact hiv
      rw [hg, decide_eq_false hv2]
      rfl
  by_cases c : Over a b row
  · rw [decide_eq_true c]
    refine decide_eq_false fun z => ?_
    exact (key.mp (by omega)) c
  · rw [decide_eq_false c]
    refine decide_eq_true ?_
    have := key.mpr c
    omega
end SR
/-! min(xs, default=d), max(xs, default=d), xs a list of ints. -/
namespace SR
open PySem PySem.Spec PyProof.Rows L2 Evl
def minOr (d : Int) : List Int → Int
  | [] => d
  | n :: r => r.foldl min n
def maxOr (d : Int) : List Int → Int
  | [] => d
  | n :: r => r.foldl max n
theorem foldl_min_lt : ∀ (r : List Int) (n c : Int), r.foldl min n < c ↔ n < c ∨ ∃ v ∈ r, v < c
  | [], n, c => by simp
  | x :: r, n, c => by
    show r.foldl min (min n x) < c ↔ _
    rw [foldl_min_lt r]
    constructor
    · rintro (h | ⟨v, hv, h⟩)
      · by_cases c1 : n < c
        · exact .inl c1
        · exact .inr ⟨x, List.mem_cons_self, by omega⟩
      · exact .inr ⟨v, List.mem_cons_of_mem _ hv, h⟩
    · rintro (h | ⟨v, hv, h⟩)
      · exact .inl (by omega)
      · rcases List.mem_cons.mp hv with z | z
        · subst z
          exact .inl (by omega)
        · exact .inr ⟨v, z, h⟩
theorem foldl_max_gt : ∀ (r : List Int) (n c : Int), c < r.foldl max n ↔ c < n ∨ ∃ v ∈ r, c < v
  | [], n, c => by simp
  | x :: r, n, c => by
    show c < r.foldl max (max n x) ↔ _
    rw [foldl_max_gt r]
    constructor
    · rintro (h | ⟨v, hv, h⟩)
      · by_cases c1 : c < n
        · exact .inl c1
        · exact .inr ⟨x, List.mem_cons_self, by omega⟩
      · exact .inr ⟨v, List.mem_cons_of_mem _ hv, h⟩
    · rintro (h | ⟨v, hv, h⟩)
      · exact .inl (by omega)
      · rcases List.mem_cons.mp hv with z | z
        · subst z
          exact .inl (by omega)
        · exact .inr ⟨v, z, h⟩
theorem minOr_lt {d c : Int} (hd : ¬ d < c) (l : List Int) : minOr d l < c ↔ ∃ v ∈ l, v < c := by
  cases l with
  | nil => simp [minOr, hd]
  | cons n r =>
    show r.foldl min n < c ↔ _
    rw [foldl_min_lt]
    simp
theorem maxOr_gt {d c : Int} (hd : ¬ c < d) (l : List Int) : c < maxOr d l ↔ ∃ v ∈ l, c < v := by
  cases l with
  | nil => simp [maxOr, hd]
  | cons n r =>
    show c < r.foldl max n ↔ _
    rw [foldl_max_gt]
    simp
theorem reads_ints {h : Heap} : ∀ {ns : List Int} {us : List Value}, Vals (ns.map V.int) us → ReadsAll h us (ns.map PyData.int) []
  | [], _, r => by
    cases r
    exact .nil
  | n :: ns, _, r => by
    cases r with
    | cons r1 r2 =>
      obtain ⟨t, rfl⟩ := r1
      exact (ReadsAll.cons (.int _ _) (reads_ints r2) : ReadsAll h _ _ ([] ++ []))
theorem alikes_ints (ns : List Int) : PySem.W.AlikeAll (ns.map PyData.int) := by
  constructor
  · intro x hx y hy
    obtain ⟨a, _, rfl⟩ := List.mem_map.mp hx
    obtain ⟨b, _, rfl⟩ := List.mem_map.mp hy
    rfl
  · intro x hx
    obtain ⟨a, _, rfl⟩ := List.mem_map.mp hx
    exact fun z => nomatch z
theorem depth_ints : ∀ ns : List Int, PyData.depthAll (ns.map PyData.int) = 0
  | [] => rfl
  | n :: r => by
    show max (PyData.depth (.int n)) (PyData.depthAll (r.map PyData.int)) = 0
    rw [depth_ints r]
    rfl
theorem reads_int_inv {h : Heap} {v : Value} {i : Int} {bs : List Addr} (r : Reads h v (.int i) bs) : RelV (.int i) v := by
  cases r
  exact ⟨_, rfl⟩
def tDflt (K : PySem.W.Frag) (g : Int → List Int → Int) (t tk : TA) : TE := fun σ H Q => t σ H fun vs H1 => tk σ H1 fun zs H2 => ∃ p ns d0, vs = [.ref p] ∧ zs = [.int d0] ∧ SqL K H2 p (ns.map V.int) ∧ Q (.int (g d0 ns)) H2
section
variable {X : Cx} {k : Nat} {e ed : Expr} {t tk : TA} {p pos kpos : Pos}
theorem pe_minDflt (hc : X.calm = true) (hr : Room k X.A) (hg : Gl X "min") (hm : X.mg "min" = none) (ha : PA X [e] t) (hk : PK X [⟨some "default", ed, kpos⟩] tk)
    (he : starEach [e] X.env = (false, eval e X.env) :: starEach [] X.env := by rfl) (hpl : (backTo pos (starEach [e] X.env)).any (·.1) = false := by rfl) :
    PE X (.Call (.Name "min" p) [e] [⟨some "default", ed, kpos⟩] pos) (tDflt X.K minOr t tk) := by
  refine ⟨fun pins s σ H Q I h => ?_⟩
  refine wpAny_Call_Name_kw (ld_blt I hg hm (show bootBuiltins "min" = some (.builtin "min") from rfl) ?_ (by decide) (by decide))
  refine PyProof.Rows.callWith_builtin_kwB hpl rfl (PyProof.Rows.evalArgs_kw2 rfl (thn (ha.run pos pins s σ H _ I h) fun us s1 ⟨vs, H1, I1, r1, q1⟩ => thn (hk.run pos pins s1 σ H1 _ I1 q1) fun ws s2 ⟨zs, H2, I2, r2, q2⟩ => ?_) he)
  obtain ⟨a, ns, d0, rfl, rfl, hs, q⟩ := q2
  obtain ⟨its, rv, hl, _⟩ := I2.list hs
  rw [Vals.ref1 r1]
  cases r2 with
  | cons r3 r4 =>
    cases r4
    refine PySem.W.min_list_default (I2.ok.hd hc) hl.isList (reads_ints rv) (alikes_ints ns) (by
      rw [depth_ints]
      have := hr.un
      omega) (fun h0 h' tk kp => ?_) (fun y ys i v h' tk bs hx hv hr' kp => ?_)
    · have : ns = [] := List.map_eq_nil_iff.mp h0
      subst this
      exact ⟨_, H2, I2.kept kp, r3, q⟩
    · cases ns with
      | nil => cases hx
      | cons n r =>
        injection hx with h1 h2
        subst h1 h2
        rw [PySem.W.minD_ints] at hr'
        exact ⟨_, H2, I2.kept kp, reads_int_inv hr', q⟩
theorem pe_maxDflt (hc : X.calm = true) (hr : Room k X.A) (hg : Gl X "max") (hm : X.mg "max" = none) (ha : PA X [e] t) (hk : PK X [⟨some "default", ed, kpos⟩] tk)
    (he : starEach [e] X.env = (false, eval e X.env) :: starEach [] X.env := by rfl) (hpl : (backTo pos (starEach [e] X.env)).any (·.1) = false := by rfl) :
    PE X (.Call (.Name "max" p) [e] [⟨some "default", ed, kpos⟩] pos) (tDflt X.K maxOr t tk) := by
  refine ⟨fun pins s σ H Q I h => ?_⟩
  refine wpAny_Call_Name_kw (ld_blt I hg hm (show bootBuiltins "max" = some (.builtin "max") from rfl) ?_ (by decide) (by decide))
  refine PyProof.Rows.callWith_builtin_kwB hpl rfl (PyProof.Rows.evalArgs_kw2 rfl (thn (ha.run pos pins s σ H _ I h) fun us s1 ⟨vs, H1, I1, r1, q1⟩ => thn (hk.run pos pins s1 σ H1 _ I1 q1) fun ws s2 ⟨zs, H2, I2, r2, q2⟩ => ?_) he)
  obtain ⟨a, ns, d0, rfl, rfl, hs, q⟩ := q2
  obtain ⟨its, rv, hl, _⟩ := I2.list hs
  rw [Vals.ref1 r1]
  cases r2 with
  | cons r3 r4 =>
    cases r4
    refine PySem.W.max_list_default (I2.ok.hd hc) hl.isList (reads_ints rv) (alikes_ints ns) (by
      rw [depth_ints]
      have := hr.un
      omega) (fun h0 h' tk kp => ?_) (fun y ys i v h' tk bs hx hv hr' kp => ?_)
    · have : ns = [] := List.map_eq_nil_iff.mp h0
      subst this
      exact ⟨_, H2, I2.kept kp, r3, q⟩
    · cases ns with
      | nil => cases hx
      | cons n r =>
        injection hx with h1 h2
        subst h1 h2
        rw [PySem.W.maxD_ints] at hr'
        exact ⟨_, H2, I2.kept kp, reads_int_inv hr', q⟩
end
section
variable {K : PySem.W.Frag} {σ : L2.St} {H : Hp} {t tk : TA} {a : Addr} {ns : List Int} {d : Int} {g : Int → List Int → Int}
theorem ev_dflt (ha : EvA t σ H [.ref a]) (hs : SqL K H a (ns.map V.int)) (hd : EvA tk σ H [.int d]) : Ev (tDflt K g t tk) σ H (.int (g d ns)) := fun H1 e Q q =>
  ha H1 e _ fun H2 e2 => hd H2 (e.trans e2) _ fun H3 e3 => ⟨a, ns, d, rfl, rfl, ex_l ((e.trans e2).trans e3) hs, q H3 (e2.trans e3)⟩
end
end SR
/-! Lists of ints and of triples of ints, as they are told; own rows and their runs. -/
namespace SR
open PySem PySem.Spec PyProof.Rows L2 Evl
/-- a list's items: ints, or tuples of three ints -/
inductive Its (H : Hp) : List V → List PyData → Prop
  | nil : Its H [] []
  | int (n : Int) {vs : List V} {ds : List PyData} : Its H vs ds → Its H (.int n :: vs) (.int n :: ds)
  | tup (q : Addr) (x y z : Int) {vs : List V} {ds : List PyData} : H q = some (.tup [.int x, .int y, .int z]) → Its H vs ds → Its H (.ref q :: vs) (.tuple [.int x, .int y, .int z] :: ds)
theorem Its.mono {H H' : Hp} {vs : List V} {ds : List PyData} (h : Its H vs ds) (e : Ex H H') : Its H' vs ds := by
  induction h with
  | nil => exact .nil
  | int n _ ih => exact .int n ih
  | tup q x y z hq _ ih => exact .tup q x y z (e q _ hq) ih
theorem Its.upd {H : Hp} {vs : List V} {ds : List PyData} {f : Addr} {xs : List V} {o : HO} (hf : H f = some (.lst xs)) (h : Its H vs ds) : Its (L2.upd H f o) vs ds := by
  induction h with
  | nil => exact .nil
  | int n _ ih => exact .int n ih
  | tup q x y z hq _ ih =>
    refine .tup q x y z ?_ ih
    rw [upd_ne]
    · exact hq
    · intro c
      rw [c, hf] at hq
      cases hq
theorem its_ints {H : Hp} : ∀ ns : List Int, Its H (ns.map V.int) (ns.map PyData.int)
  | [] => .nil
  | n :: r => .int n (its_ints r)
def tripD (f : Nat → Int × Int × Int) (j : Nat) : PyData := .tuple [.int (f j).1, .int (f j).2.1, .int (f j).2.2]
theorem its_tups {H : Hp} : ∀ (ps : List Addr) (f : Nat → Int × Int × Int), (∀ i p, ps[i]? = some p → H p = some (.tup [.int (f i).1, .int (f i).2.1, .int (f i).2.2])) → Its H (ps.map V.ref) ((List.range ps.length).map (tripD f))
  | [], _, _ => .nil
  | p :: r, f, h => by
    have := its_tups r (fun i => f (i + 1)) (fun i q hq => h (i + 1) q (by simpa using hq))
    rw [List.length_cons, List.range_succ_eq_map, List.map_cons, List.map_cons, List.map_map]
    exact .tup p _ _ _ (h 0 p rfl) this
theorem Its.dp {K : PySem.W.Frag} {H : Hp} {vs : List V} {ds : List PyData} (h : Its H vs ds) : DpAll K H vs ds := by
  induction h with
  | nil => exact .nil
  | int n _ ih => exact .cons (.int n) ih
  | tup q x y z hq _ ih => exact .cons (.tup (st_of hq) (.cons (.int x) (.cons (.int y) (.cons (.int z) .nil)))) ih
theorem Its.len {H : Hp} {vs : List V} {ds : List PyData} (h : Its H vs ds) : vs.length = ds.length := by
  induction h with
  | nil => rfl
  | int n _ ih => simp [ih]
  | tup q x y z hq _ ih => simp [ih]
theorem Its.eqv {H : Hp} {vs : List V} {ds : List PyData} (h : Its H vs ds) : PyData.eqvAll ds ds = true := by
  induction h with
  | nil => rfl
  | int n _ ih =>
    show (PyData.eqv (.int n) (.int n) && PyData.eqvAll _ _) = true
    rw [ih]
    show ((n == n) && true) = true
    simp
  | tup q x y z hq _ ih =>
    show (((x == x) && ((y == y) && ((z == z) && true))) && PyData.eqvAll _ _) = true
    rw [ih]
    simp
theorem Its.lay {H : Hp} {vs : List V} {ds : List PyData} (h : Its H vs ds) : PyData.canLayAll0 ds = true := by
  induction h with
  | nil => rfl
  | int n _ ih =>
    show (PyData.canLay0 (.int n) && PyData.canLayAll0 _) = true
    rw [ih]
    rfl
  | tup q x y z hq _ ih =>
    show (PyData.canLay0 (.tuple [.int x, .int y, .int z]) && PyData.canLayAll0 _) = true
    rw [ih]
    rfl
theorem Its.flat {H : Hp} {vs : List V} {ds : List PyData} (h : Its H vs ds) : PyData.depthAll ds ≤ 1 := by
  induction h with
  | nil => exact Nat.zero_le _
  | int n _ ih =>
    show max 0 (PyData.depthAll _) ≤ 1
    omega
  | tup q x y z hq _ ih =>
    show max (PyData.depth (.tuple [.int x, .int y, .int z])) (PyData.depthAll _) ≤ 1
    have : PyData.depth (.tuple [.int x, .int y, .int z]) = 1 := rfl
    omega
theorem Its.shp {H : Hp} {vs : List V} {ds : List PyData} (h : Its H vs ds) : SeqAt.shaped (.list ds) = true := by
  have h1 : PyData.canLay0 (.list ds) = true := h.lay
  have h2 : PyData.depth (.list ds) = PyData.depthAll ds + 1 := rfl
  have := h.flat
  unfold SeqAt.shaped
  rw [h1, h2]
  simp
  omega
section
variable {K : PySem.W.Frag} {σ : L2.St} {H H' : Hp} {ta tb te : TE} {x y z v : V} {D : Ends} {tu tz : TS}
/-- the same told twice: !=, == -/
theorem rv_neI {p q : Addr} {vs us : List V} {ds : List PyData} (hp : H p = some (.lst vs)) (hv : Its H vs ds) (hq : H q = some (.lst us)) (hu : Its H us ds) : RV (rNeD K) (.ref p) (.ref q) H (.bl false) := by
  have : false = !PyData.eqv (.list ds) (.list ds) := by
    show false = !PyData.eqvAll ds ds
    rw [hv.eqv]
    rfl
  rw [this]
  exact rv_neD (fun _ e => .lst (sq_of (e p _ hp)) (hv.mono e).dp) (fun _ e => .lst (sq_of (e q _ hq)) (hu.mono e).dp) hv.shp hu.shp
theorem q_ifE {t : TT} {tv : TS} {b : Bool} (h : EvT t σ H b) (h1 : b = true → ∀ H1, Ex H H1 → tu { D with nx := tz D } σ H1) (h2 : b = false → ∀ H1, Ex H H1 → tv { D with nx := tz D } σ H1) : tSeq (tIfS t tu tv) tz D σ H := s_if (D := { D with nx := tz D }) h h1 h2
theorem all_id (n : Nat) : (List.replicate n true).all id = true := by
  induction n with
  | zero => rfl
  | succ n ih =>
    rw [List.replicate_succ, List.all_cons, ih]
    rfl
/-- all([True, ..]) -/
theorem ev_all {n : Nat} (h : EvL te σ H (List.replicate n (.bl true))) : Ev (tCB (rAll K) (tCons te tNil)) σ H (.bl true) := fun H1 e Q q =>
  h H1 e _ fun p H2 np e2 hp => ⟨p, List.replicate n true, rfl, sq_of (by rw [List.map_replicate]; exact hp), by
    rw [all_id]
    exact q H2 e2⟩
theorem given_yeses (n : Nat) : given n (fun _ => true) (fun _ => V.bl true) = List.replicate n (.bl true) := by
  unfold given
  rw [List.filter_eq_self.mpr (fun _ _ => rfl), List.map_const', List.length_range]
theorem rv_pow {i j : Int} (h : CPow i j) : RV (rI CPow fun i j => .int (i ^ j.toNat)) (.int i) (.int j) H (.int (i ^ j.toNat)) := rv_I h
/-- a new list with such items -/
def RetI (ds : List PyData) (H : Hp) (Q : VK) : Prop := ∀ (o : Addr) (vs : List V) (H2 : Hp), H o = none → Ex H H2 → H2 o = some (.lst vs) → Its H2 vs ds → Q (.ref o) H2
/-- what a try of the law hands back -/
def RetTriedI (o : Option Nat) (ds : List PyData) (H : Hp) (Q : VK) : Prop :=
  (o = none → ∀ (t fo ko : Addr) (vs : List V) (H2 : Hp), H fo = none → Ex H H2 → H2 t = some (.tup [.ref fo, .ref ko]) → H2 fo = some (.lst vs) → Its H2 vs ds → H2 ko = some (.lst []) → fo ≠ ko → Q (.ref t) H2) ∧
  ∀ i, o = some i → ∀ (t ko : Addr) (H2 : Hp), Ex H H2 → H2 t = some (.tup [.non, .ref ko]) → H2 ko = some (.lst ((kindsOf i).map V.bl)) → Q (.ref t) H2
def TriedI (o : Option Nat) (ds : List PyData) (f k : Nat) (H : Hp) (σ : L2.St) (H' : Hp) : Prop := Ex H H' ∧
  ((o = none ∧ ∃ fo ko vs, σ[f]? = some (some (.ref fo)) ∧ σ[k]? = some (some (.ref ko)) ∧ H fo = none ∧ H' fo = some (.lst vs) ∧ Its H' vs ds ∧ H' ko = some (.lst []) ∧ fo ≠ ko) ∨
    ∃ i, o = some i ∧ ∃ ko, σ[f]? = some (some .non) ∧ σ[k]? = some (some (.ref ko)) ∧ H' ko = some (.lst ((kindsOf i).map V.bl)))
theorem triedI_ret {o : Option Nat} {ds : List PyData} {f k : Nat} (h : TriedI o ds f k H σ H') (q : RetTriedI o ds H D.rt) : tRet (tTup (tCons (tVar f) (tCons (tVar k) tNil))) D σ H' := by
  obtain ⟨e, ⟨ho, fo, ko, vs, h1, h2, h3, h4, hi, h5, h6⟩ | ⟨i, ho, ko, h1, h2, h3⟩⟩ := h
  · exact s_retU (eu_tup (ea_cons (ev_var h1) (ea_cons (ev_var h2) ea_nil)) (show 2 ≤ 100000 by decide)) fun t H2 nt e2 ht => q.1 ho t fo ko vs H2 h3 (e.trans e2) ht (e2 fo _ h4) (hi.mono e2) (e2 ko _ h5) h6
  · exact s_retU (eu_tup (ea_cons (ev_var h1) (ea_cons (ev_var h2) ea_nil)) (show 2 ≤ 100000 by decide)) fun t H2 nt e2 ht => q.2 i ho t ko H2 (e.trans e2) ht (e2 ko _ h3)
/-- what was handed back, where it stands -/
def ToldI (o : Option Nat) (ds : List PyData) (H H2 : Hp) (t : Addr) : Prop :=
  (o = none ∧ ∃ (fo ko : Addr) (vs : List V), H fo = none ∧ H2 t = some (.tup [.ref fo, .ref ko]) ∧ H2 fo = some (.lst vs) ∧ Its H2 vs ds ∧ H2 ko = some (.lst []) ∧ fo ≠ ko) ∨
    ∃ i, o = some i ∧ ∃ ko : Addr, H2 t = some (.tup [.non, .ref ko]) ∧ H2 ko = some (.lst ((kindsOf i).map V.bl))
theorem ToldI.mono {o : Option Nat} {ds : List PyData} {H H2 H3 : Hp} {t : Addr} (h : ToldI o ds H H2 t) (e : Ex H2 H3) : ToldI o ds H H3 t := by
  rcases h with ⟨ho, fo, ko, vs, h1, h2, h3, h4, h5, h6⟩ | ⟨i, ho, ko, h1, h2⟩
  · exact .inl ⟨ho, fo, ko, vs, h1, e t _ h2, e fo _ h3, h4.mono e, e ko _ h5, h6⟩
  · exact .inr ⟨i, ho, ko, e t _ h1, e ko _ h2⟩
theorem toldI_all {o : Option Nat} {ds : List PyData} {Q : VK} (h : ∀ t H2, Ex H H2 → ToldI o ds H H2 t → Q (.ref t) H2) : RetTriedI o ds H Q :=
  ⟨fun ho t fo ko vs H2 nf e h2 h3 h4 h5 h6 => h t H2 e (.inl ⟨ho, fo, ko, vs, nf, h2, h3, h4, h5, h6⟩), fun i ho t ko H2 e h1 h2 => h t H2 e (.inr ⟨i, ho, ko, h1, h2⟩)⟩
theorem its_int_at {H : Hp} {i : Nat} {x : V} : ∀ {ns : List Int} {vs : List V}, Its H vs (ns.map PyData.int) → vs[i]? = some x → ∃ n, x = .int n
  | [], _, h, hx => by
    cases h
    cases hx
  | n :: ns, _, h, hx => by
    cases h with
    | int _ h2 =>
      cases i with
      | zero => exact ⟨n, (Option.some.inj hx).symm⟩
      | succ i => exact its_int_at h2 hx
theorem its_trip_at {H : Hp} {x : V} : ∀ {m i : Nat} {f : Nat → Int × Int × Int} {vs : List V}, Its H vs ((List.range m).map (tripD f)) → vs[i]? = some x → ∃ p a b c, x = .ref p ∧ H p = some (.tup [.int a, .int b, .int c])
  | 0, _, _, _, h, hx => by
    cases h
    cases hx
  | m + 1, i, f, _, h, hx => by
    rw [List.range_succ_eq_map, List.map_cons, List.map_map] at h
    cases h with
    | tup q a b c hq h2 =>
      cases i with
      | zero => exact ⟨q, _, _, _, (Option.some.inj hx).symm, hq⟩
      | succ i => exact its_trip_at (f := fun j => f (j + 1)) h2 hx
/-- f(..)[0], what a try hands back -/
theorem ev_tried0 {sp : Sp} {E : XK} {ta : TA} {vs : List V} {ds : List PyData} {r : R2} (ha : EvA ta σ H vs) (hb : Ev tb σ H y)
    (hs : ∀ H1, Ex H H1 → ∀ Q : VK, (∀ (t fo ko : Addr) (us : List V) (H2 : Hp), H1 fo = none → Ex H1 H2 → H2 t = some (.tup [.ref fo, .ref ko]) → H2 fo = some (.lst us) → Its H2 us ds → Q (.ref t) H2) → sp (vs ++ []) H1 Q E)
    (hr : ∀ fo us H1, Ex H H1 → H1 fo = some (.lst us) → Its H1 us ds → RV r (.ref fo) y H1 z) : Ev (tOp r (tOp (rIxT K) (tCall sp [] E ta) (tC (.int 0))) tb) σ H z := fun H1 e Q q =>
  ha H1 e _ fun H2 e2 => hs H2 (e.trans e2) _ fun t fo ko us H3 nfo e3 ht hfo hi => ⟨t, [.ref fo, .ref ko], 0, .ref fo, rfl, rfl, st_of ht, rfl, hb H3 ((e.trans e2).trans e3) _ fun H4 e4 =>
    hr fo us H4 (((e.trans e2).trans e3).trans e4) (e4 fo _ hfo) (hi.mono e4) H4 (Ex.refl H4) Q fun H5 e5 => q H5 (((e2.trans e3).trans e4).trans e5)⟩
end
/-! ### own rows as they are told -/
def outMany (a b s m c : Int) : Option Nat := match outSign a b s with
  | some i => some i
  | none => if 0 ≤ m ∧ m ≤ c then none else some 4
theorem outMany_none {a b s m c : Int} (h : outMany a b s m c = none) : Let a b ∧ (s = a ∨ s = b) ∧ 0 ≤ m ∧ m ≤ c := by
  unfold outMany at h
  cases hs : outSign a b s with
  | some i =>
    rw [hs] at h
    cases h
  | none =>
    rw [hs] at h
    by_cases d : 0 ≤ m ∧ m ≤ c
    · exact ⟨(outSign_none hs).1, (outSign_none hs).2, d⟩
    · change (if _ then none else some 4) = none at h
      rw [if_neg d] at h
      cases h
/-- the i-th told run: its sign, its place, its length -/
def runT (a b s : Int) (j : Nat) : Int × Int × Int := (sg a b s j, ((ownR a b s j).length : Int), (ownR a b s j).getD j (sg a b s j))
def runsD (a b s : Int) (n : Nat) : List PyData := (List.range n).map (tripD (runT a b s))
section
variable {a b s : Int}
theorem ownR_le9 (ha : 1 ≤ a) (hab : a < b) (hb : b ≤ 9) (hs : s = a ∨ s = b) (n : Nat) : ((ownR a b s n).length : Int) ≤ 9 * n := by
  rw [ownR_built ha hab hs n]
  have hl := ownR_len ha hab hs n
  have := built_len (a := a) (b := b) (m := 9) ((ownR a b s n).take n) s (fun v hv => by
    have := ownR_over hs n v (List.mem_of_mem_take hv)
    omega) (by decide)
  rw [List.length_take, Nat.min_eq_left hl] at this
  exact this
theorem own_item (ha : 1 ≤ a) (hab : a < b) (hs : s = a ∨ s = b) {j n : Nat} (h : j < n) : (own a b s n)[j]? = some ((ownR a b s j).getD j (sg a b s j)) := by
  have hl := ownR_len ha hab hs (j + 1)
  rw [← ownR_at ha hab hs (n := j + 1) (by omega) h]
  exact next_at ha hab hs j
theorem own_sum (ha : 1 ≤ a) (hab : a < b) (hs : s = a ∨ s = b) {j n : Nat} (h : j ≤ n) : ((own a b s n).take j).sum = ((ownR a b s j).length : Int) := by
  rw [own_take ha hab hs h, ownR_place ha hab hs]
  rfl
theorem own_place (ha : 1 ≤ a) (hab : a < b) (hs : s = a ∨ s = b) {j n : Nat} (h : (ownR a b s j).length < n) : (own a b s n)[(ownR a b s j).length]? = some (sg a b s j) := by
  have hx := next_over (a := a) (b := b) (s := s) hs j
  have hl : (ownR a b s (j + 1)).length = (ownR a b s j).length + ((ownR a b s j).getD j (sg a b s j)).toNat := by
    show (ownR a b s j ++ List.replicate _ _).length = _
    rw [List.length_append, List.length_replicate]
  rw [← ownR_at ha hab hs (n := j + 1) (by omega) h]
  show (ownR a b s j ++ List.replicate _ _)[_]? = _
  rw [List.getElem?_append_right (Nat.le_refl _), Nat.sub_self, List.getElem?_replicate, if_pos (by omega)]
theorem ownR_more (j : Nat) (ha : 1 ≤ a) (hab : a < b) (hs : s = a ∨ s = b) : ((ownR a b s (j + 1)).length : Int) = ((ownR a b s j).length : Int) + (ownR a b s j).getD j (sg a b s j) := by
  have hx := next_over (a := a) (b := b) (s := s) hs j
  show (((ownR a b s j ++ List.replicate _ _).length : Nat) : Int) = _
  rw [List.length_append, List.length_replicate]
  omega
theorem runsAt_its {H : Hp} {ps : List Addr} {n : Nat} (ha : 1 ≤ a) (hab : a < b) (hs : s = a ∨ s = b) (h : RunsAt a b s H ps n) : Its H (ps.map V.ref) (runsD a b s n) := by
  have := its_tups ps (runT a b s) (fun i p hp => by
    obtain ⟨z, h1, h2⟩ := h.2 i p hp
    have hi : i < n := by
      have := (List.getElem?_eq_some_iff.mp hp).1
      rw [h.1] at this
      exact this
    rw [own_item ha hab hs hi] at h1
    rw [own_sum ha hab hs (Nat.le_of_lt hi)] at h2
    rw [← Option.some.inj h1] at h2
    exact h2)
  rw [h.1] at this
  exact this
end
end SR
/-! Texts: digits, joins, slices, loops over a text's signs. -/
namespace SR
open PySem PySem.Spec PyProof.Rows L2 Evl
/-- a text of these code points -/
abbrev ST (l : List Nat) : Str := ⟨l.toArray⟩
def digitOf (v : Int) : Nat := 48 + v.toNat
def valOf (c : Nat) : Int := (c : Int) - 48
theorem ten {i : Int} (h : 0 ≤ i ∧ i ≤ 9) : i = 0 ∨ i = 1 ∨ i = 2 ∨ i = 3 ∨ i = 4 ∨ i = 5 ∨ i = 6 ∨ i = 7 ∨ i = 8 ∨ i = 9 := by omega
theorem str_dig {i : Int} (h : 0 ≤ i ∧ i ≤ 9) : (Str.ofString (toString i)) = ST [digitOf i] := by
  rcases ten h with z | z | z | z | z | z | z | z | z | z <;> subst z <;> decide +kernel
theorem int_dig {c : Nat} (h : 48 ≤ c ∧ c ≤ 57) : PySem.intText? (ST [c]) = some (valOf c) := by
  have : c = 48 ∨ c = 49 ∨ c = 50 ∨ c = 51 ∨ c = 52 ∨ c = 53 ∨ c = 54 ∨ c = 55 ∨ c = 56 ∨ c = 57 := by omega
  rcases this with z | z | z | z | z | z | z | z | z | z <;> subst z <;> decide +kernel
theorem digits_cps : (Str.ofString "0123456789").cps.toList = [48, 49, 50, 51, 52, 53, 54, 55, 56, 57] := by decide +kernel
theorem digits_len : (Str.ofString "0123456789").length = 10 := by decide +kernel
theorem digit_at {i : Int} (h : 0 ≤ i ∧ i ≤ 9) : atI (Str.ofString "0123456789").cps.toList i = some (digitOf i) := by
  rw [digits_cps]
  rcases ten h with z | z | z | z | z | z | z | z | z | z <;> subst z <;> rfl
theorem in_digits (c : Nat) : decide (c ∈ (Str.ofString "0123456789").cps.toList) = decide (48 ≤ c ∧ c ≤ 57) := by
  rw [digits_cps]
  congr 1
  simp only [List.mem_cons, List.not_mem_nil, or_false, eq_iff_iff]
  omega
theorem at_nat {α : Type} {xs : List α} {j : Nat} {x : α} (h : xs[j]? = some x) : atI xs (j : Int) = some x := by
  unfold atI
  rw [ixN_nat (List.getElem?_eq_some_iff.mp h).1]
  exact h
theorem at_some {α : Type} {xs : List α} {i : Int} (h : 0 ≤ i ∧ i < xs.length) : ∃ x, atI xs i = some x := by
  obtain ⟨j, rfl⟩ : ∃ j : Nat, i = (j : Int) := ⟨i.toNat, by omega⟩
  exact ⟨xs[j]'(by omega), at_nat (List.getElem?_eq_getElem (by omega))⟩
theorem st_len (l : List Nat) : (ST l).length = l.length := by simp [ST, Str.length]
theorem st_cat (a b : List Nat) : ST a ++ ST b = ST (a ++ b) := SX.S_cat a b
theorem str_len (z : Str) : z.length = z.cps.toList.length := by simp [Str.length]
theorem cat_len (x y : Str) : (x ++ y).length = x.length + y.length := by
  rw [← SX.S_tl x, ← SX.S_tl y, SX.S_cat, SX.S_len, SX.S_len, SX.S_len, List.length_append]
theorem cutS_len (z : Str) (lo hi : Option Int) : (cutS z lo hi).length ≤ z.length := by
  unfold cutS
  rw [st_len, List.length_take, List.length_drop, str_len]
  omega
theorem join_one : ∀ l : List Nat, Str.join Str.empty (l.map fun c => ST [c]) = ST l
  | [] => rfl
  | [c] => rfl
  | c :: d :: r => by
    have ih := join_one (d :: r)
    show ST [c] ++ Str.empty ++ Str.join Str.empty ((d :: r).map fun c => ST [c]) = _
    rw [ih]
    have : Str.empty = ST [] := rfl
    rw [this, st_cat, st_cat]
    rfl
theorem sum_one : ∀ l : List Nat, ((l.map fun c => ST [c]).map (·.length)).sum = l.length
  | [] => rfl
  | c :: r => by
    rw [List.map_cons, List.map_cons, List.sum_cons, sum_one r]
    show (ST [c]).length + r.length = r.length + 1
    rw [st_len]
    simp
    omega
section
variable {K : PySem.W.Frag} {σ : L2.St} {H H' : Hp} {ta tb te : TE} {x y z v : V} {D : Ends} {tu tz : TS} {g : TG}
theorem rv_addS {a b : Str} (h : a.length + b.length ≤ 100000) : RV (fun x y H Q => ∃ i j, x = .str i ∧ y = .str j ∧ i.length + j.length ≤ sizeLine ∧ Q (.str (i ++ j)) H) (.str a) (.str b) H (.str (a ++ b)) := fun H1 _ _ q => ⟨a, b, rfl, rfl, sz_of h, q H1 (Ex.refl H1)⟩
theorem ev_lenS {a : Str} (ha : Ev ta σ H (.str a)) (h : a.length ≤ 100000) : Ev (tCB (fun xs H Q => ∃ z, xs = [.str z] ∧ z.length ≤ sizeLine ∧ Q (.int z.length) H) (tCons ta tNil)) σ H (.int a.length) :=
  ev_cb (ea_cons ha ea_nil) fun H1 _ _ q => ⟨a, rfl, sz_of h, q H1 (Ex.refl H1)⟩
theorem ev_strI {i : Int} (ha : Ev ta σ H (.int i)) (h : 0 ≤ i ∧ i ≤ 9) : Ev (tCB (fun xs H Q => ∃ i : Int, xs = [.int i] ∧ i.natAbs.log2 < 1920 ∧ Q (.str (toString i)) H) (tCons ta tNil)) σ H (.str (ST [digitOf i])) :=
  ev_cb (ea_cons ha ea_nil) fun H1 _ Q q => ⟨i, rfl, by
    rcases ten h with z | z | z | z | z | z | z | z | z | z <;> subst z <;> decide, by
    have := q H1 (Ex.refl H1)
    rw [← str_dig h] at this
    exact this⟩
theorem ev_intS {c : Nat} (ha : Ev ta σ H (.str (ST [c]))) (h : 48 ≤ c ∧ c ≤ 57) : Ev (tCB (fun xs H Q => ∃ a n, xs = [.str a] ∧ PySem.intText? a = some n ∧ a.length ≤ 640 ∧ Q (.int n) H) (tCons ta tNil)) σ H (.int (valOf c)) :=
  ev_cb (ea_cons ha ea_nil) fun H1 _ Q q => ⟨ST [c], valOf c, rfl, int_dig h, by rw [st_len]; exact (by decide : 1 ≤ 640), q H1 (Ex.refl H1)⟩
theorem rv_inD (c : Nat) : RV (fun x y H Q => ∃ (c : Nat) (z : Str), x = .str ⟨#[c]⟩ ∧ y = .str z ∧ Q (.bl (decide (c ∈ z.cps.toList))) H) (.str (ST [c])) (.str (Str.ofString "0123456789")) H (.bl (decide (48 ≤ c ∧ c ≤ 57))) := fun H1 _ Q q =>
  ⟨c, _, rfl, rfl, by
    rw [in_digits]
    exact q H1 (Ex.refl H1)⟩
theorem ev_slS {tl th : TO} {a : Str} {lo hi : Option Int} (h : Ev te σ H (.str a)) (h1 : EvO tl σ H lo) (h2 : EvO th σ H hi) (hz : a.length ≤ 100000) : Ev (tSl rSlS te tl th) σ H (.str (cutS a lo hi)) := fun H1 e _ q =>
  h H1 e _ fun H2 e2 => h1 H2 (e.trans e2) _ fun H3 e3 => h2 H3 ((e.trans e2).trans e3) _ fun H4 e4 => ⟨a, rfl, sz_of hz, q H4 ((e2.trans e3).trans e4)⟩
/-- ''.join(a list of texts) -/
def rJoin (K : PySem.W.Frag) : V → List V → Hp → VK → Prop := fun x xs H Q => ∃ a p, ∃ ys : List Str, x = .str a ∧ xs = [.ref p] ∧ (SqL K H p (ys.map V.str) ∨ SqT K H p (ys.map V.str)) ∧
    (ys.map (·.length)).sum + ys.length * a.length ≤ 16777216 ∧ Q (.str (Txt.join a ys)) H
theorem ev_join1 {l : List Nat} (ha : Ev ta σ H (.str (Str.ofString ""))) (h : EvL te σ H (l.map fun c => .str (ST [c]))) (hl : l.length ≤ 100000) : Ev (tM1 (rJoin K) ta te) σ H (.str (ST l)) := fun H1 e Q q =>
  ha H1 e _ fun H2 e2 => ⟨⟨_, rfl⟩, h H2 (e.trans e2) _ fun p H3 np e3 hp => ⟨Str.ofString "", p, l.map fun c => ST [c], rfl, rfl, .inl (sq_of (by rw [List.map_map]; exact hp)), by
    rw [sum_one]
    have : (Str.ofString "").length = 0 := by decide +kernel
    rw [this, Nat.mul_zero]
    omega, by
    have h1 : Str.ofString "" = Str.empty := by decide +kernel
    have : Txt.join (Str.ofString "") (l.map fun c => ST [c]) = ST l := by
      rw [h1]
      exact (TL.join_eq _ _).trans (join_one l)
    rw [this]
    exact q H3 (e2.trans e3)⟩⟩
/-- for c in a text -/
theorem for_str {w : Str} {xs : List Nat} (hx : w.cps.toList = xs) (Pv : Nat → L2.St → Hp → Prop) (h0 : Pv 0 σ H)
    (hs : ∀ i c σ' H', xs[i]? = some c → Pv i σ' H' → g (.str (ST [c])) σ' H' fun σ2 H2 => tu { D with nx := Pv (i + 1), ct := Pv (i + 1), bk := D.nx } σ2 H2) (hd : ∀ σ' H', Pv xs.length σ' H' → D.nx σ' H') :
    ∃ W : Nat → Nat → L2.St → Hp → Prop, (∃ m, W 0 m σ H) ∧ ∀ i m σ H, W i m σ H →
      ((L2.Its w).stop i H ∧ D.nx σ H) ∨ ((L2.Its w).go i H ∧ ∃ N : L2.St → Hp → Prop, (∀ σ' H', N σ' H' → ∃ m', m' < m ∧ W (i + 1) m' σ' H') ∧ ∀ x H', (L2.Its w).yld i H x H' → g x σ H' fun σ2 H2 => tu { D with nx := N, ct := N, bk := D.nx } σ2 H2) := by
  have hn : w.cps.size = xs.length := by
    rw [← hx]
    simp
  refine ⟨fun i m σ H => m = xs.length - i ∧ i ≤ xs.length ∧ Pv i σ H, ⟨xs.length, by simp, Nat.zero_le _, h0⟩, ?_⟩
  rintro i m σ H ⟨rfl, hi, p⟩
  by_cases hlt : i < xs.length
  · refine .inr ⟨show i < w.cps.size by omega, Pv (i + 1), fun σ' H' p' => ⟨xs.length - (i + 1), by omega, rfl, hlt, p'⟩, fun x H' y => ?_⟩
    obtain ⟨e, c, hc, ev⟩ := y
    subst e ev
    refine hs i c σ _ ?_ p
    rw [← hx, Array.getElem?_toList]
    exact hc
  · have e : i = xs.length := by omega
    subst e
    exact .inl ⟨show w.cps.size ≤ xs.length by omega, hd σ H p⟩
theorem q_forS {w : Str} {xs : List Nat} {tl : TE} {j : Nat} (h : Ev tl σ H (.str w)) (hx : w.cps.toList = xs) (Pv : Nat → L2.St → Hp → Prop) (h0 : ∀ H1, Ex H H1 → Pv 0 σ H1)
    (hs : ∀ i c σ' H', xs[i]? = some c → Pv i σ' H' → tu { D with nx := Pv (i + 1), ct := Pv (i + 1), bk := tz D } (σ'.set j (some (.str (ST [c])))) H') (hd : ∀ σ' H', Pv xs.length σ' H' → tz D σ' H') : tSeq (tFor (iStr tl) (gName j) tu) tz D σ H :=
  h H (Ex.refl H) _ fun H1 e => ⟨w, rfl, for_str (D := { D with nx := tz D }) hx Pv (h0 H1 e) hs hd⟩
/-- a value beside (None, a new list) -/
theorem ev_opNL {r : R2} {tn : TE} {xs : List V} (ha : Ev ta σ H x) (hn : Ev tn σ H .non) (h : EvL te σ H xs) (hr : ∀ t o H1, Ex H H1 → H1 t = some (.tup [.non, .ref o]) → H1 o = some (.lst xs) → RV r x (.ref t) H1 z) :
    Ev (tOp r ta (tTup (tCons tn (tCons te tNil)))) σ H z := fun H1 e Q q =>
  ha H1 e _ fun H2 e2 => hn H2 (e.trans e2) _ fun H3 e3 => h H3 ((e.trans e2).trans e3) _ fun o H4 no e4 ho => ⟨show 2 ≤ sizeLine by decide, fun t nt => by
    have e5 : Ex H4 (upd H4 t (.tup [.non, .ref o])) := Ex.new nt
    have e6 := (((e.trans e2).trans e3).trans e4).trans e5
    exact hr t o _ e6 upd_same (e5 o _ ho) _ (Ex.refl _) Q fun H5 e7 => q H5 ((((e2.trans e3).trans e4).trans e5).trans e7)⟩
end
end SR
/-! Lists of rows: made, compared, sorted; the smooth rows of a length, in order. -/
namespace SR
open PySem PySem.Spec PyProof.Rows L2 Evl
inductive RowsAt (H : Hp) : List Addr → List (List Int) → Prop
  | nil : RowsAt H [] []
  | cons {q : Addr} {r : List Int} {qs : List Addr} {rs : List (List Int)} : H q = some (.lst (r.map V.int)) → RowsAt H qs rs → RowsAt H (q :: qs) (r :: rs)
section
variable {H H' : Hp} {qs us : List Addr} {rs ss : List (List Int)}
theorem RowsAt.mono (h : RowsAt H qs rs) (e : Ex H H') : RowsAt H' qs rs := by
  induction h with
  | nil => exact .nil
  | cons hq _ ih => exact .cons (e _ _ hq) ih
theorem RowsAt.len (h : RowsAt H qs rs) : qs.length = rs.length := by
  induction h with
  | nil => rfl
  | cons hq _ ih => simp [ih]
theorem RowsAt.append (h : RowsAt H qs rs) (k : RowsAt H us ss) : RowsAt H (qs ++ us) (rs ++ ss) := by
  induction h with
  | nil => exact k
  | cons hq _ ih => exact .cons hq ih
theorem RowsAt.one {q : Addr} {r : List Int} (h : H q = some (.lst (r.map V.int))) : RowsAt H [q] [r] := .cons h .nil
theorem RowsAt.upd {p : Addr} {o : HO} (h : RowsAt H qs rs) (hp : ∀ q ∈ qs, q ≠ p) : RowsAt (L2.upd H p o) qs rs := by
  induction h with
  | nil => exact .nil
  | cons hq _ ih =>
    refine .cons ?_ (ih fun q hq => hp q (List.mem_cons_of_mem _ hq))
    rw [upd_ne (hp _ List.mem_cons_self)]
    exact hq
theorem RowsAt.at (h : RowsAt H qs rs) : ∀ {i : Nat} {q : Addr}, qs[i]? = some q → ∃ r, rs[i]? = some r ∧ H q = some (.lst (r.map V.int)) := by
  induction h with
  | nil =>
    intro i q hq
    cases hq
  | cons hq _ ih =>
    intro i q h
    cases i with
    | zero =>
      have := Option.some.inj h
      subst this
      exact ⟨_, rfl, hq⟩
    | succ i => exact ih h
theorem RowsAt.mem (h : RowsAt H qs rs) {q : Addr} (hq : q ∈ qs) : ∃ r ∈ rs, H q = some (.lst (r.map V.int)) := by
  obtain ⟨i, hi⟩ := List.getElem?_of_mem hq
  obtain ⟨r, h1, h2⟩ := h.at hi
  exact ⟨r, List.mem_of_getElem? h1, h2⟩
/-- the list of rows is no row -/
theorem RowsAt.ne (h : RowsAt H qs rs) {o : Addr} (ho : H o = some (.lst (qs.map V.ref))) : ∀ q ∈ qs, q ≠ o := fun q hq z => by
  subst z
  obtain ⟨r, _, h2⟩ := h.mem hq
  rw [ho] at h2
  cases qs with
  | nil => cases hq
  | cons u us =>
    cases r with
    | nil =>
      injection h2 with h2
      injection h2 with h2
      cases h2
    | cons n r =>
      injection h2 with h2
      injection h2 with h2
      cases h2
def rowsD (rs : List (List Int)) : List PyData := rs.map fun r => .list (r.map PyData.int)
theorem RowsAt.dp {K : PySem.W.Frag} (h : RowsAt H qs rs) : DpAll K H (qs.map V.ref) (rowsD rs) := by
  induction h with
  | nil => exact .nil
  | cons hq _ ih => exact .cons (.lst (sq_of hq) (dp_ints _)) ih
end
theorem eqv_rows : ∀ rs : List (List Int), PyData.eqvAll (rowsD rs) (rowsD rs) = true
  | [] => rfl
  | r :: rs => by
    show (PyData.eqvAll (r.map PyData.int) (r.map PyData.int) && PyData.eqvAll (rowsD rs) (rowsD rs)) = true
    rw [eqv_rows rs, eqv_ints]
    simp
theorem lay_rows : ∀ rs : List (List Int), PyData.canLayAll0 (rowsD rs) = true
  | [] => rfl
  | r :: rs => by
    show (PyData.canLayAll0 (r.map PyData.int) && PyData.canLayAll0 (rowsD rs)) = true
    rw [lay_rows rs, lay_ints]
    rfl
theorem flat_rows : ∀ rs : List (List Int), PyData.depthAll (rowsD rs) ≤ 1
  | [] => Nat.zero_le _
  | r :: rs => by
    show max (PyData.depthAll (r.map PyData.int) + 1) (PyData.depthAll (rowsD rs)) ≤ 1
    have := flat_rows rs
    rw [flat_ints r]
    omega
theorem shp_rows (rs : List (List Int)) : SeqAt.shaped (.list (rowsD rs)) = true := by
  have h1 : PyData.canLay0 (.list (rowsD rs)) = true := lay_rows rs
  have h2 : PyData.depth (.list (rowsD rs)) = PyData.depthAll (rowsD rs) + 1 := rfl
  have := flat_rows rs
  unfold SeqAt.shaped
  rw [h1, h2]
  simp
  omega
/-- a new list of new rows -/
def RetRows (rs : List (List Int)) (H : Hp) (Q : VK) : Prop := ∀ (o : Addr) (qs : List Addr) (H2 : Hp), H o = none → Ex H H2 → H2 o = some (.lst (qs.map V.ref)) → RowsAt H2 qs rs → (∀ q ∈ qs, H q = none) → Q (.ref o) H2
def EvR (te : TE) (σ : L2.St) (H : Hp) (rs : List (List Int)) : Prop := ∀ H1, Ex H H1 → ∀ Q : VK, RetRows rs H1 Q → te σ H1 Q
section
variable {K : PySem.W.Frag} {σ : L2.St} {H H' : Hp} {t : TT} {ta tb te : TE} {x y z v : V} {D : Ends} {tu tz : TS}
theorem rv_eqRows {p q : Addr} {qs us : List Addr} {rs : List (List Int)} (hp : H p = some (.lst (qs.map V.ref))) (h1 : RowsAt H qs rs) (hq : H q = some (.lst (us.map V.ref))) (h2 : RowsAt H us rs) : RV (rEqD K) (.ref p) (.ref q) H (.bl true) := by
  have : true = PyData.eqv (.list (rowsD rs)) (.list (rowsD rs)) := (eqv_rows rs).symm
  rw [this]
  exact rv_eqD (fun _ e => .lst (sq_of (e p _ hp)) (h1.mono e).dp) (fun _ e => .lst (sq_of (e q _ hq)) (h2.mono e).dp) (shp_rows rs) (shp_rows rs)
theorem rv_eqBl {p q : Addr} {bs : List Bool} (hp : H p = some (.lst (bs.map V.bl))) (hq : H q = some (.lst (bs.map V.bl))) : RV (rEqD K) (.ref p) (.ref q) H (.bl true) := by
  have : true = PyData.eqv (.list (bs.map PyData.bool)) (.list (bs.map PyData.bool)) := (eqv_bls bs).symm
  rw [this]
  exact rv_eqD (fun _ e => .lst (sq_of (e p _ hp)) (dp_bls bs)) (fun _ e => .lst (sq_of (e q _ hq)) (dp_bls bs)) (shp_bls bs) (shp_bls bs)
/-- x = a new list of new rows -/
theorem s_asgR {i : Nat} {rs : List (List Int)} (h : EvR te σ H rs) (k : ∀ o qs H1, H o = none → Ex H H1 → H1 o = some (.lst (qs.map V.ref)) → RowsAt H1 qs rs → (∀ q ∈ qs, H q = none) → D.nx (σ.set i (some (.ref o))) H1) : tAsg te (gName i) D σ H :=
  h H (Ex.refl H) _ fun o qs H1 no e ho hr hn => k o qs H1 no e ho hr hn
theorem q_asgR {i : Nat} {rs : List (List Int)} (h : EvR te σ H rs) (k : ∀ o qs H1, H o = none → Ex H H1 → H1 o = some (.lst (qs.map V.ref)) → RowsAt H1 qs rs → (∀ q ∈ qs, H q = none) → tz D (σ.set i (some (.ref o))) H1) : tSeq (tAsg te (gName i)) tz D σ H :=
  s_asgR (D := { D with nx := tz D }) h k
theorem er_call {sp : Sp} {dvs vs : List V} {E : XK} {ta : TA} {rs : List (List Int)} (h : EvA ta σ H vs) (hs : ∀ H1, Ex H H1 → ∀ Q : VK, RetRows rs H1 Q → ∀ E : XK, sp (vs ++ dvs) H1 Q E) : EvR (tCall sp dvs E ta) σ H rs := fun H1 e Q q =>
  h H1 e _ fun H2 e2 => hs H2 (e.trans e2) Q (fun o qs H3 no e3 ho hr hn => q o qs H3 (fresh_back e2 no) (e2.trans e3) ho hr fun u hu => fresh_back e2 (hn u hu)) E
/-- a new list of new rows, beside a value -/
theorem ev_opR {r : R2} {rs : List (List Int)} (h : EvR ta σ H rs) (hb : Ev tb σ H y) (hr : ∀ o qs H1, Ex H H1 → H1 o = some (.lst (qs.map V.ref)) → RowsAt H1 qs rs → RV r (.ref o) y H1 z) : Ev (tOp r ta tb) σ H z := fun H1 e Q q =>
  h H1 e _ fun o qs H2 no e2 ho hrr _ => hb H2 (e.trans e2) _ fun H3 e3 => hr o qs H3 ((e.trans e2).trans e3) (e3 o _ ho) (hrr.mono e3) H3 (Ex.refl H3) Q fun H4 e4 => q H4 ((e2.trans e3).trans e4)
/-- [[]] -/
theorem er_nil1 {te : TE} (h : EvL te σ H []) : EvR (tLst (tCons te tNil)) σ H [[]] := fun H1 e Q q =>
  h H1 e _ fun p H2 np e2 hp => ⟨show 1 ≤ sizeLine by decide, fun d nd => by
    have e3 : Ex H2 (upd H2 d (.lst [.ref p])) := Ex.new nd
    exact q d [p] _ (fresh_back e2 nd) (e2.trans e3) upd_same (RowsAt.one (e3 p _ hp)) fun u hu => by
      cases List.mem_singleton.mp hu
      exact np⟩
/-- [row1, row2] -/
theorem er_two {t1 t2 : TE} {r1 r2 : List Int} (h1 : EvL t1 σ H (r1.map V.int)) (h2 : EvL t2 σ H (r2.map V.int)) : EvR (tLst (tCons t1 (tCons t2 tNil))) σ H [r1, r2] := fun H1 e Q q =>
  h1 H1 e _ fun p H2 np e2 hp => h2 H2 (e.trans e2) _ fun u H3 nu e3 hu => ⟨show 2 ≤ sizeLine by decide, fun d nd => by
    have e4 : Ex H3 (upd H3 d (.lst [.ref p, .ref u])) := Ex.new nd
    have e24 := (e2.trans e3).trans e4
    exact q d [p, u] _ (fresh_back (e2.trans e3) nd) e24 upd_same (.cons ((e3.trans e4) p _ hp) (.cons (e4 u _ hu) .nil)) fun w hw => by
      rcases List.mem_cons.mp hw with z | hw
      · subst z
        exact np
      · cases List.mem_singleton.mp hw
        exact fresh_back e2 nu⟩
/-- xs.extend(a new list of new rows) -/
theorem s_extR {l : Addr} {xs : List V} {rs : List (List Int)} (hl : H l = some (.lst xs)) (ha : Ev ta σ H (.ref l)) (h : EvR te σ H rs) (hz : xs.length + rs.length ≤ 100000)
    (k : ∀ qs H1, Ex H H1 → RowsAt H1 qs rs → (∀ q ∈ qs, H q = none) → D.nx σ (upd H1 l (.lst (xs ++ qs.map V.ref)))) : tDrop (tBM K "list" rExtend ta (tCons te tNil)) D σ H := ha H (Ex.refl H) _ fun H1 e1 =>
  ⟨Or.inl ⟨rfl, xs, sq_of (e1 l _ hl)⟩, h H1 e1 _ fun p qs H2 hp e2 h2 hr hn => ⟨l, p, xs, qs.map V.ref, rfl, rfl, e2 l _ (e1 l _ hl), h2, sz_of (by rw [List.length_map, hr.len]; exact hz), k qs H2 (e1.trans e2) hr fun q hq => fresh_back e1 (hn q hq)⟩⟩
/-- a comprehension that gives rows out of a tuple -/
theorem er_lcT {a : Addr} {xs : List V} {tl : TE} {j : Nat} {vs : List Nat} (f : Nat → Bool) (g : Nat → List Int) (h : Ev tl σ H (.ref a)) (hx : SqT K H a xs) (hz : xs.length ≤ 40000) (hw : ∀ x, wipe ((wipe σ vs).set j (some x)) vs = wipe σ vs)
    (ht : ∀ (i : Nat) (x : V) H1, Ex H H1 → xs[i]? = some x → EvT t ((wipe σ vs).set j (some x)) H1 (f i)) (he : ∀ (i : Nat) (x : V) H1, Ex H H1 → xs[i]? = some x → f i = true → EvL te ((wipe σ vs).set j (some x)) H1 ((g i).map V.int)) :
    EvR (tLc (iTup K tl) (gName j) t te vs) σ H (((List.range xs.length).filter f).map g) := fun H0 e Q q => h H0 e _ fun H1 e1 => ⟨a, rfl, ⟨xs, ex_t (e.trans e1) hx⟩, fun Dl hD => by
  refine lc_tup (xs := xs) (fun i H' => Ex H1 H' ∧ ∃ qs, H' Dl = some (.lst (qs.map V.ref)) ∧ RowsAt H' qs (((List.range i).filter f).map g) ∧ ∀ q ∈ qs, H1 q = none) ⟨Ex.new hD, [], upd_same, .nil, fun _ h => nomatch h⟩ (fun i H' _ p => ex_t ((e.trans e1).trans p.1) hx) (fun i x H' hi p => ⟨hw x, ?_⟩) (fun H' ⟨p1, qs, p2, p3, p4⟩ => q Dl qs H' (fresh_back e1 hD) (e1.trans p1) p2 p3 fun u hu => fresh_back e1 (p4 u hu))
  obtain ⟨p1, qs, p2, p3, p4⟩ := p
  have hi2 := (List.getElem?_eq_some_iff.mp hi).1
  have e01 := (e.trans e1).trans p1
  refine ht i x H1 (e.trans e1) hi H' p1 _ fun H3 e3 => ?_
  cases hf : f i with
  | true =>
    show te _ H3 fun y H4 => ∃ acc, H4 Dl = some (.lst acc) ∧ acc.length < sizeLine ∧ _
    refine he i x H1 (e.trans e1) hi hf H3 (p1.trans e3) _ fun u H4 nu e4 hu => ⟨qs.map V.ref, e4 Dl _ (e3 Dl _ p2), sz_lt ?_, Ex.mut ((p1.trans e3).trans e4) hD, qs ++ [u], ?_, ?_, fun w hw => ?_⟩
    · rw [List.length_map, p3.len, List.length_map]
      have := List.length_filter_le f (List.range i)
      rw [List.length_range] at this
      omega
    · rw [upd_same, List.map_append]
      rfl
    · rw [List.range_succ, List.filter_append, List.map_append, List.filter_cons, if_pos hf]
      have hne := p3.ne p2
      have huD : u ≠ Dl := fun z => by
        rw [z, e3 Dl _ p2] at nu
        cases nu
      refine RowsAt.append ((p3.mono (e3.trans e4)).upd hne) (RowsAt.one ?_)
      rw [upd_ne huD]
      exact hu
    · rcases List.mem_append.mp hw with c | c
      · exact p4 w c
      · cases List.mem_singleton.mp c
        exact fresh_back (p1.trans e3) nu
  | false =>
    refine ⟨p1.trans e3, qs, e3 Dl _ p2, ?_, p4⟩
    rw [List.range_succ, List.filter_append, List.map_append, List.filter_cons, if_neg (by rw [hf]; decide)]
    simp only [List.filter_nil, List.map_nil, List.append_nil]
    exact p3.mono e3⟩
end
/-! ### sorted -/
theorem each_rel {K : PySem.W.Frag} {h : Heap} {R : Value → Addr × List Int → Prop} (hR : ∀ q r, R (.ref q) (q, r)) : ∀ (bs : List (Addr × List Int)) (us : List Value), Vals (bs.map fun b => V.ref b.1) us → PySem.W.EachIs R us bs
  | [], _, r => by
    cases r
    exact .nil
  | b :: bs, _, r => by
    cases r with
    | cons r1 r2 =>
      cases r1
      exact .cons (hR _ _) (each_rel (K := K) (h := h) hR bs _ r2)
theorem rel_each : ∀ (bs : List (Addr × List Int)) (us : List Value), PySem.W.EachIs (fun v b => v = Value.ref b.1) us bs → Vals (bs.map fun b => V.ref b.1) us
  | [], _, r => by
    cases r
    exact .nil
  | b :: bs, _, r => by
    cases r with
    | cons r1 r2 =>
      subst r1
      exact .cons rfl (rel_each bs _ r2)
end SR
/-! sorted over rows; the smooth rows of a length. -/
namespace SR
open PySem PySem.Spec PyProof.Rows L2 Evl
def rSortedR (K : PySem.W.Frag) : List V → Hp → VK → Prop := fun vs H Q => ∃ (a : Addr) (bs : List (Addr × List Int)), vs = [V.ref a] ∧ SqL K H a (bs.map fun b => V.ref b.1) ∧ (∀ b ∈ bs, H b.1 = some (.lst (b.2.map V.int))) ∧ bs.Pairwise (fun p q => p.2 ≤ q.2) ∧
  ∀ p, H p = none → Q (.ref p) (upd H p (.lst (bs.map fun b => V.ref b.1)))
theorem reads_each {X : Cx} {pins : List (Addr × Obj)} {σ : L2.St} {H : Hp} {s : Shared} (I : Inv X pins σ H s) : ∀ (bs : List (Addr × List Int)) (us : List Value), (∀ b ∈ bs, H b.1 = some (.lst (b.2.map V.int))) → Vals (bs.map fun b => V.ref b.1) us →
    PySem.W.EachIs (fun v b => ∃ as, Reads s.heap v (.list (b.2.map PyData.int)) as) us bs
  | [], _, _, r => by
    cases r
    exact .nil
  | b :: bs, _, hb, r => by
    cases r with
    | cons r1 r2 => exact .cons (Dp.reads I _ _ _ (.lst (sq_of (hb b List.mem_cons_self)) (dp_ints _)) r1) (reads_each I bs _ (fun c hc => hb c (List.mem_cons_of_mem _ hc)) r2)
theorem cr_sortedR {X : Cx} {k : Nat} (hr : Room k X.A) : CallR X (.builtin "sorted") (rSortedR X.K) := by
  intro pins s σ H vs us Q I r h
  obtain ⟨a, bs, rfl, hs, hb, hp, q⟩ := h
  obtain ⟨its, rv, hl, hz⟩ := I.list hs
  rw [Vals.ref1 r]
  refine PySem.W.sorted_data (β := Addr × List Int) (enc := fun b => .list (b.2.map PyData.int)) (R := fun v b => v = Value.ref b.1) hl.isList (each_rel (K := X.K) (h := s.heap) (fun _ _ => rfl) bs its rv) (reads_each I bs its hb rv)
    (PySem.W.AllAlike.of fun b b' => ?_) (PySem.W.Sortable.others fun b => ⟨(fun z => nomatch z), (fun _ z => nomatch z)⟩) (by rw [List.length_map] at hz; exact hz) (fun b _ => ?_) (fun out ho eo => ?_)
  · show PySem.W.alikeAll (b.2.map PyData.int) (b'.2.map PyData.int) = true
    exact PySem.W.alike_ints _ _
  · have h2 : PyData.depth (.list (b.2.map PyData.int)) = PyData.depthAll (b.2.map PyData.int) + 1 := rfl
    rw [h2, flat_ints]
    have := hr.un
    omega
  · rw [List.mergeSort_of_pairwise] at eo
    · have hv := rel_each bs out eo
      obtain ⟨n, hn⟩ := PyProof.Rows.sortedAll_at s.heap its out.toArray
      refine ⟨.ref (s.heap.objs.size + 1), upd H (s.heap.objs.size + 1) (.lst (bs.map fun b => V.ref b.1)), I.laid (t' := s.toks) (fun b o e => PyProof.Rows.sortedAll_old e) (Nat.le_succ _) ⟨?_, out, n, hv, hn⟩, rfl, q _ (I.hok.fresh (Nat.le_succ _))⟩
      exact hz
    · rw [PySem.W.dataLe_rows (fun b : Addr × List Int => b.2)]
      exact hp.imp fun h => decide_eq_true h
section
variable {K : PySem.W.Frag} {σ : L2.St} {H : Hp} {ta : TE}
theorem rows_zip {qs : List Addr} {rs : List (List Int)} (h : RowsAt H qs rs) : ((qs.zip rs).map fun b => V.ref b.1) = qs.map V.ref ∧ (∀ b ∈ qs.zip rs, H b.1 = some (.lst (b.2.map V.int))) := by
  induction h with
  | nil => exact ⟨rfl, fun _ h => nomatch h⟩
  | cons hq _ ih =>
    refine ⟨?_, fun b hb => ?_⟩
    · rw [List.zip_cons_cons, List.map_cons, List.map_cons, ih.1]
    · rw [List.zip_cons_cons] at hb
      rcases List.mem_cons.mp hb with rfl | hb
      · exact hq
      · exact ih.2 b hb
theorem zip_pairwise : ∀ (qs : List Addr) (rs : List (List Int)), rs.Pairwise (· ≤ ·) → (qs.zip rs).Pairwise (fun p q => p.2 ≤ q.2)
  | [], _, _ => by simp
  | _ :: _, [], _ => by simp
  | q :: qs, r :: rs, h => by
    rw [List.zip_cons_cons, List.pairwise_cons]
    rw [List.pairwise_cons] at h
    exact ⟨fun b hb => h.1 b.2 (List.of_mem_zip hb).2, zip_pairwise qs rs h.2⟩
/-- sorted(rows), rows in order -/
theorem el_sortedR {o : Addr} {qs : List Addr} {rs : List (List Int)} (ha : Ev ta σ H (.ref o)) (ho : H o = some (.lst (qs.map V.ref))) (hr : RowsAt H qs rs) (hp : rs.Pairwise (· ≤ ·)) : EvL (tCB (rSortedR K) (tCons ta tNil)) σ H (qs.map V.ref) := fun H1 e Q q =>
  ha H1 e _ fun H2 e2 => by
    have hz := rows_zip (hr.mono (e.trans e2))
    refine ⟨o, qs.zip rs, rfl, ?_, hz.2, zip_pairwise qs rs hp, fun p np => ?_⟩
    · rw [hz.1]
      exact sq_of ((e.trans e2) o _ ho)
    · rw [hz.1]
      exact q p _ (fresh_back e2 np) (e2.trans (Ex.new np)) upd_same
end
section
variable {K : PySem.W.Frag} {σ : L2.St} {H : Hp} {D : Ends} {tu tz : TS}
theorem s_forTn {a : Addr} {xs : List V} {tl : TE} {j : Nat} (h : Ev tl σ H (.ref a)) (hx : SqT K H a xs) (Pv : Nat → L2.St → Hp → Prop) (h0 : ∀ H1, Ex H H1 → Pv 0 σ H1) (hl : ∀ i σ' H', i ≤ xs.length → Pv i σ' H' → SqT K H' a xs)
    (hs : ∀ i x σ' H', xs[i]? = some x → Pv i σ' H' → tu { D with nx := Pv (i + 1), ct := Pv (i + 1), bk := D.nx } (σ'.set j (some x)) H') (hd : ∀ σ' H', Pv xs.length σ' H' → D.nx σ' H') : tFor (iTup K tl) (gName j) tu D σ H := s_forT h hx Pv h0 hl hs hd
theorem ev_lenV {ta : TE} {p : Addr} {xs : List V} (ha : Ev ta σ H (.ref p)) (h : SqL K H p xs) : Ev (tCB (rLenS K) (tCons ta tNil)) σ H (.int (xs.length : Int)) := fun H1 e Q q =>
  ha H1 e _ fun H2 e2 => ⟨p, xs, rfl, .inl (ex_l (e.trans e2) h), q H2 e2⟩
theorem q_clear {ta : TE} {l : Addr} {xs : List V} (hl : H l = some (.lst xs)) (ha : Ev ta σ H (.ref l)) (k : ∀ H1, Ex H H1 → tz D σ (L2.upd H1 l (.lst []))) : tSeq (tDrop (tBM0 K "list" rClear ta)) tz D σ H :=
  ha H (Ex.refl H) _ fun H1 e1 => ⟨Or.inl ⟨rfl, xs, sq_of (e1 l _ hl)⟩, l, xs, rfl, rfl, e1 l _ hl, k H1 e1⟩
end
/-! ### the smooth rows -/
section
variable {a b : Int}
def nextS (a b : Int) (r : List Int) : List (List Int) := (([a, b].filter fun s => (height a b (r ++ [s])).isSome).map fun s => r ++ [s])
def smoothR (a b : Int) : Nat → List (List Int)
  | 0 => [[]]
  | n + 1 => (smoothR a b n).flatMap (nextS a b)
def allR (a b : Int) : Nat → List (List Int)
  | 0 => [[]]
  | n + 1 => (allR a b n).flatMap fun r => [r ++ [a], r ++ [b]]
def okR (a b : Int) (r : List Int) : Bool := (height a b r).isSome
theorem two_of (p : Int → Bool) (g : Int → List Int) : ((List.range 2).filter fun i => p (if i = 0 then a else b)).map (fun i => g (if i = 0 then a else b)) = ([a, b].filter p).map g := by
  have h2 : List.range 2 = [0, 1] := rfl
  rw [h2]
  cases h1 : p a <;> cases h3 : p b <;> simp [List.filter_cons, h1, h3]
theorem two_next (r : List Int) : ((List.range 2).filter fun i => okR a b (r ++ [if i = 0 then a else b])).map (fun i => r ++ [if i = 0 then a else b]) = nextS a b r := two_of (fun s => okR a b (r ++ [s])) (fun s => r ++ [s])
theorem ok_front (hb : 2 ≤ b) {r : List Int} {s : Int} (h : okR a b (r ++ [s]) = true) : okR a b r = true := by
  unfold okR at h ⊢
  cases hh : height a b (r ++ [s]) with
  | none =>
    rw [hh] at h
    cases h
  | some n =>
    have hp : Piece r (r ++ [s]) := by
      have := Piece.take (Piece.refl (r ++ [s])) r.length
      rw [List.take_left] at this
      exact this
    obtain ⟨m, hm, _⟩ := height_piece hb n hp hh
    rw [hm]
    rfl
theorem flat_ok {α β : Type} {p : α → Bool} {h : α → List β} : ∀ l : List α, (∀ x ∈ l, p x = false → h x = []) → l.flatMap h = (l.filter p).flatMap h
  | [], _ => rfl
  | x :: l, k => by
    have ih := flat_ok l fun y hy => k y (List.mem_cons_of_mem _ hy)
    rw [List.flatMap_cons, ih]
    cases c : p x with
    | true => rw [List.filter_cons, if_pos c, List.flatMap_cons]
    | false =>
      rw [List.filter_cons, if_neg (by rw [c]; decide), k x List.mem_cons_self c]
      rfl
theorem filter_two (r : List Int) : [r ++ [a], r ++ [b]].filter (okR a b) = nextS a b r := by
  unfold nextS
  have : [r ++ [a], r ++ [b]] = [a, b].map fun s => r ++ [s] := rfl
  rw [this, List.filter_map]
  rfl
theorem all_smooth (hb : 2 ≤ b) : ∀ n, (allR a b n).filter (okR a b) = smoothR a b n
  | 0 => by
    show [[]].filter (okR a b) = [[]]
    rw [List.filter_cons, if_pos (by unfold okR; rw [height_nil]; rfl)]
    rfl
  | n + 1 => by
    have ih := all_smooth hb n
    show ((allR a b n).flatMap fun r => [r ++ [a], r ++ [b]]).filter (okR a b) = (smoothR a b n).flatMap (nextS a b)
    rw [List.filter_flatMap, ← ih]
    have : (fun r => [r ++ [a], r ++ [b]].filter (okR a b)) = nextS a b := funext fun r => filter_two r
    rw [this]
    refine flat_ok _ fun r _ hr => ?_
    rw [← filter_two, List.filter_eq_nil_iff]
    intro x hx hx2
    have : okR a b r = true := by
      rcases List.mem_cons.mp hx with z | hx
      · subst z
        exact ok_front hb hx2
      · cases List.mem_singleton.mp hx
        exact ok_front hb hx2
    rw [this] at hr
    cases hr
theorem flat2_len : ∀ l : List (List Int), (l.flatMap fun r => [r ++ [a], r ++ [b]]).length = l.length * 2
  | [] => rfl
  | r :: l => by
    rw [List.flatMap_cons, List.length_append, flat2_len l]
    simp only [List.length_cons, List.length_nil]
    omega
theorem allR_len : ∀ n, (allR a b n).length = 2 ^ n
  | 0 => rfl
  | n + 1 => by
    show ((allR a b n).flatMap fun r => [r ++ [a], r ++ [b]]).length = _
    rw [flat2_len, allR_len n, Nat.pow_succ]
theorem smoothR_len (hb : 2 ≤ b) (n : Nat) : (smoothR a b n).length ≤ 2 ^ n := by
  rw [← all_smooth hb n, ← allR_len (a := a) (b := b) n]
  exact List.length_filter_le _ _
theorem mem_next {r x : List Int} (h : x ∈ nextS a b r) : ∃ s, (s = a ∨ s = b) ∧ x = r ++ [s] := by
  unfold nextS at h
  obtain ⟨s, hs, rfl⟩ := List.mem_map.mp h
  have := (List.mem_filter.mp hs).1
  refine ⟨s, ?_, rfl⟩
  rcases List.mem_cons.mp this with z | this
  · exact .inl z
  · exact .inr (List.mem_singleton.mp this)
theorem smoothR_row : ∀ (n : Nat) (r : List Int), r ∈ smoothR a b n → r.length = n ∧ Over a b r
  | 0, r, h => by
    cases List.mem_singleton.mp h
    exact ⟨rfl, fun v hv => nomatch hv⟩
  | n + 1, r, h => by
    obtain ⟨x, hx, h2⟩ := List.mem_flatMap.mp h
    obtain ⟨h3, h4⟩ := smoothR_row n x hx
    obtain ⟨s, hs, rfl⟩ := mem_next h2
    refine ⟨by rw [List.length_append, h3]; rfl, fun v hv => ?_⟩
    rcases List.mem_append.mp hv with c | c
    · exact h4 v c
    · cases List.mem_singleton.mp c
      exact hs
theorem allR_row : ∀ (n : Nat) (r : List Int), r ∈ allR a b n → r.length = n ∧ Over a b r
  | 0, r, h => by
    cases List.mem_singleton.mp h
    exact ⟨rfl, fun v hv => nomatch hv⟩
  | n + 1, r, h => by
    obtain ⟨x, hx, h2⟩ := List.mem_flatMap.mp h
    obtain ⟨h3, h4⟩ := allR_row n x hx
    have : ∃ s, (s = a ∨ s = b) ∧ r = x ++ [s] := by
      rcases List.mem_cons.mp h2 with z | h2
      · exact ⟨a, .inl rfl, z⟩
      · exact ⟨b, .inr rfl, List.mem_singleton.mp h2⟩
    obtain ⟨s, hs, rfl⟩ := this
    refine ⟨by rw [List.length_append, h3]; rfl, fun v hv => ?_⟩
    rcases List.mem_append.mp hv with c | c
    · exact h4 v c
    · cases List.mem_singleton.mp c
      exact hs
theorem lt_app : ∀ {r q : List Int} (x y : List Int), r.length = q.length → r < q → r ++ x < q ++ y
  | [], [], _, _, _, h => absurd h (List.lt_irrefl _)
  | [], _ :: _, _, _, hl, _ => by simp at hl
  | _ :: _, [], _, _, hl, _ => by simp at hl
  | c :: r, d :: q, x, y, hl, h => by
    rw [List.cons_append, List.cons_append, List.cons_lt_cons_iff]
    rw [List.cons_lt_cons_iff] at h
    rcases h with h | ⟨h1, h2⟩
    · exact .inl h
    · exact .inr ⟨h1, lt_app x y (by simpa using hl) h2⟩
theorem app_lt : ∀ (r : List Int) {x y : List Int}, x < y → r ++ x < r ++ y
  | [], _, _, h => h
  | c :: r, _, _, h => by
    rw [List.cons_append, List.cons_append, List.cons_lt_cons_iff]
    exact .inr ⟨rfl, app_lt r h⟩
theorem next_sorted (hab : a < b) (r : List Int) : (nextS a b r).Pairwise (· < ·) := by
  unfold nextS
  have h2 : [a, b].Pairwise (· < ·) := by simp [hab]
  exact ((h2.filter _).map _ fun x y hxy => app_lt r (by rw [List.cons_lt_cons_iff]; exact .inl hxy))
theorem smooth_sorted (hab : a < b) : ∀ n, (smoothR a b n).Pairwise (· < ·)
  | 0 => by simp [smoothR]
  | n + 1 => by
    have ih := smooth_sorted hab n
    show ((smoothR a b n).flatMap (nextS a b)).Pairwise (· < ·)
    rw [List.pairwise_flatMap]
    refine ⟨fun r _ => next_sorted hab r, ih.imp_of_mem fun {r q} hr hq h x hx y hy => ?_⟩
    obtain ⟨s, _, rfl⟩ := mem_next hx
    obtain ⟨t, _, rfl⟩ := mem_next hy
    exact lt_app [s] [t] (by rw [(smoothR_row n r hr).1, (smoothR_row n q hq).1]) h
theorem smooth_le (hab : a < b) (n : Nat) : (smoothR a b n).Pairwise (· ≤ ·) := (smooth_sorted hab n).imp fun h => List.le_of_lt h
end
/-! ### a comprehension that picks rows -/
theorem given_rows {H : Hp} {f : List Int → Bool} : ∀ {qs : List Addr} {rs : List (List Int)}, RowsAt H qs rs → ∃ us, given qs.length (fun i => f (rs.getD i [])) (fun i => .ref (qs.getD i 0)) = us.map V.ref ∧ RowsAt H us (rs.filter f) ∧ ∀ u ∈ us, u ∈ qs := by
  intro qs rs h
  induction h with
  | nil => exact ⟨[], rfl, .nil, fun _ h => nomatch h⟩
  | @cons q r qs rs hq _ ih =>
    obtain ⟨us, h1, h2, h3⟩ := ih
    unfold given at h1 ⊢
    rw [List.length_cons, List.range_succ_eq_map, List.filter_cons]
    have tail : (List.filter (fun i => f ((r :: rs).getD i [])) (List.map Nat.succ (List.range qs.length))).map (fun i => V.ref ((q :: qs).getD i 0)) = us.map V.ref := by
      rw [List.filter_map, List.map_map, ← h1]
      rfl
    cases c : f r with
    | true =>
      have c2 : f ((r :: rs).getD 0 []) = true := c
      refine ⟨q :: us, ?_, ?_, fun u hu => ?_⟩
      · rw [if_pos c2, List.map_cons, tail]
        rfl
      · rw [List.filter_cons, if_pos c]
        exact .cons hq h2
      · rcases List.mem_cons.mp hu with z | z
        · subst z
          exact List.mem_cons_self
        · exact List.mem_cons_of_mem _ (h3 u z)
    | false =>
      have c2 : ¬ f ((r :: rs).getD 0 []) = true := by
        show ¬ f r = true
        rw [c]
        decide
      refine ⟨us, ?_, ?_, fun u hu => List.mem_cons_of_mem _ (h3 u hu)⟩
      · rw [if_neg c2, tail]
      · rw [List.filter_cons, if_neg (by rw [c]; decide)]
        exact h2
section
variable {K : PySem.W.Frag} {σ : L2.St} {H : Hp} {D : Ends} {W : WX} {t0 t1 te : TE} {v0 v1 : V}
/-- a call that may raise, its third argument a new list -/
theorem s_dropX3L {sp : Sp} {xs : List V} (h0 : Ev t0 σ H v0) (h1 : Ev t1 σ H v1) (h : EvL te σ H xs) (k : ∀ p H1, Ex H H1 → H1 p = some (.lst xs) → sp [v0, v1, .ref p] H1 (fun _ H2 => D.nx σ H2) (WE W σ)) : tDrop (tCallS sp (WE W) (tCons t0 (tCons t1 (tCons te tNil)))) D σ H :=
  h0 H (Ex.refl H) _ fun H1 e1 => h1 H1 e1 _ fun H2 e2 => h H2 (e1.trans e2) _ fun p H3 np e3 hp => k p H3 ((e1.trans e2).trans e3) hp
theorem at_two_any {x y : V} {m : Int} (h : 0 ≤ m ∧ m < 2) : atI [x, y] m = some (if m = 0 then x else y) := by
  have : m = 0 ∨ m = 1 := by omega
  rcases this with rfl | rfl
  · rfl
  · rfl
end
end SR
namespace SR
open PySem PySem.Spec PyProof.Rows L2 Evl
def topS (i : Nat) : Stmt := PySem.Challenge.pw_selfruns_k10_what_is_refused.main.body.getD i (.Pass ⟨0, 0, 0, 0⟩)
section
variable {P : Program} {w : World} {K : PySem.W.Frag} {mg : Str → Option Value} {base : Heap}
/-! ### what is seen ahead, with what is refused -/
abbrev s_see_letters : Stmt := topS 9
theorem sc_see_letters : FnScope ["letters"] ["letters"] (defScope s_see_letters) := ⟨rfl, rfl, rfl, by decide +kernel, rfl, by decide +kernel, by decide +kernel⟩
def spSeeLetters (cls : Nat → Addr) : Sp := fun vs H Q E => ∃ (l : Addr) (a b : Int), vs = [.ref l] ∧ IsT H l a b ∧ OutsN cls (outLet a b) (RetV .non H Q) H E
theorem has_see_letters {cls : Nat → Addr} (D : DefAt K mg "see_letters" s_see_letters) (O_NoLetters : Own K mg "NoLetters" (cls 0)) : Has P w K mg base (L2N.CX P w) 1 "see_letters" ["letters"] (spSeeLetters cls) := by
  obtain ⟨f, fd, F, gf⟩ := D
  refine ⟨f, fd, okN F sc_see_letters (fun vs H Q E h => ?_) (fun cdv A outer s H vs Q E hr h => ?_), gf, F.kp, F.binds (ps := ["letters"]) fun _ _ _ _ _ _ us hl => match us, hl with | [_], _ => rfl⟩
  · obtain ⟨l, a, b, rfl, _⟩ := h
    rfl
  · obtain ⟨l, a, b, rfl, hT, q⟩ := h
    refine ⟨_, (pss_one (ps_if (pt_not (pt_chain3 op_le op_lt op_le pe_int (pe_ix ix_tup (pv 0) pe_int (fun _ _ => rfl)) (pe_ix ix_tup (pv 0) pe_int (fun _ _ => rfl)) pe_int)) (pss_one (ps_own rfl O_NoLetters (L2N.takes_of rfl rfl rfl rfl) (by rfl))) pss_nil)), ?_⟩
    refine s_when (b := !decide (Lets a b)) (et_is (et_not (et_chain3 ev_c (ev_op (ev_var rfl) ev_c (rv_ixT hT.at rfl)) (ev_op (ev_var rfl) ev_c (rv_ixT hT.at rfl)) ev_c)) ?_) (fun hb H1 e1 => q.no (i := 0) ?_ H1 e1) (fun hb H1 e1 => (q.yes ?_) H1 e1)
    · exact lets_chain a b
    · unfold outLet
      rw [if_neg (no_of_not hb)]
    · unfold outLet
      rw [if_pos (yes_of_not hb)]
abbrev s_see_row : Stmt := topS 10
theorem sc_see_row : FnScope ["letters", "row", "sign"] ["letters", "row"] (defScope s_see_row) := ⟨rfl, rfl, rfl, by decide +kernel, rfl, by decide +kernel, by decide +kernel⟩
def spSeeRow (cls : Nat → Addr) : Sp := fun vs H Q E => ∃ (l : Addr) (a b : Int) (p : Addr) (row : List Int), vs = [.ref l, .ref p] ∧ IsT H l a b ∧ IsL H p row ∧ OutsN cls (outRow a b row) (RetV .non H Q) H E
theorem has_see_row {cls : Nat → Addr} (D : DefAt K mg "see_row" s_see_row) (B : Bl mg) (O_NoRow : Own K mg "NoRow" (cls 1)) (G_see_letters : Has P w K mg base (L2N.CX P w) 1 "see_letters" ["letters"] (spSeeLetters cls)) :
    Has P w K mg base (L2N.CX P w) 2 "see_row" ["letters", "row"] (spSeeRow cls) := by
  obtain ⟨f, fd, F, gf⟩ := D
  refine ⟨f, fd, okN F sc_see_row (fun vs H Q E h => ?_) (fun cdv A outer s H vs Q E hr h => ?_), gf, F.kp, F.binds (ps := ["letters", "row"]) fun _ _ _ _ _ _ us hl => match us, hl with | [_, _], _ => rfl⟩
  · obtain ⟨l, a, b, p, row, rfl, _⟩ := h
    rfl
  · obtain ⟨l, a, b, p, row, rfl, hT, hp, q⟩ := h
    refine ⟨_, (pss_cons (ps_expr (pe_hasX G_see_letters (hr.mono (by decide)) (by rfl) (L2N.takes_of rfl rfl rfl rfl) (pa_cons (pv 0) pa_nil)))
      (pss_cons (ps_if (pt_cmpR op_gt (pe_callB call_len_seq (by rfl) B.len PySem.boot_len (pa_cons (pv 1) pa_nil)) pe_int (nomark _)) (pss_one (ps_own rfl O_NoRow (L2N.takes_of rfl rfl rfl rfl) (by rfl))) pss_nil)
      (pss_one (ps_for (passes_of rfl) rfl (pi_list (pv 1)) (pg_name (i := 2) sc_see_row.nd rfl (.inl rfl)) (pss_one (ps_if (pt_cmpR op_notIn_seq (pv 2) (pv 0) (by rfl)) (pss_one (ps_own rfl O_NoRow (L2N.takes_of rfl rfl rfl rfl) (by rfl))) pss_nil)))))), ?_⟩
    refine q_dropX (ea_cons (ev_var rfl) ea_nil) fun H1 e1 => ⟨l, a, b, rfl, e1 l _ hT, OutsN.mk (fun hl H2 e2 => ?_) (fun i hi H2 e2 => q.no (i := i) ?_ H2 (e1.trans e2))⟩
    · have hL : Lets a b := by
        unfold outLet at hl
        by_cases c : Lets a b
        · exact c
        · rw [if_neg c] at hl
          cases hl
      have e12 := e1.trans e2
      have bad : ∀ {H' : Hp}, ¬ (row.length ≤ 400 ∧ Over a b row) → Ex H H' → E (.ref (cls 1)) none H' := fun hn e => q.no (i := 1) (by
        unfold outRow
        rw [if_pos hL, if_neg hn]) _ e
      refine q_when (b := decide ((400 : Int) < (row.length : Int))) (et_test (ev_op (ev_lenI (ev_var rfl) (ex_l e12 hp.at)) ev_c rv_I0)) (fun hb H3 e3 => bad (fun z => ?_) (e12.trans e3)) (fun hb H3 e3 => ?_)
      · have := of_decide_eq_true hb
        omega
      · have hlen : row.length ≤ 400 := by
          have := of_decide_eq_false hb
          omega
        have e13 := e12.trans e3
        refine s_forLn (ev_var rfl) (ex_l e13 hp.at) (fun i σ' H' => (∃ y, σ' = [some (.ref l), some (.ref p), y]) ∧ Ex H H' ∧ Over a b (row.take i)) (fun H4 e4 => ⟨⟨none, rfl⟩, e13.trans e4, over_nil a b⟩) (fun i σ' H' _ ⟨_, e, _⟩ => ex_l e hp.at) (fun i x σ' H' hx ⟨⟨y, es⟩, e, hov⟩ => ?_) (fun σ' H' ⟨⟨y, es⟩, e, hov⟩ => ?_)
        · subst es
          obtain ⟨z, hz, rfl⟩ := get_map hx
          refine s_when (b := !decide (z = a ∨ z = b)) (et_is (et_test (ev_op (ev_var rfl) (ev_var rfl) (rv_niT (ex_t e hT.at) rfl rfl))) (by rw [in_two])) (fun hb4 H4 e4 => bad (fun c => ?_) (e.trans e4)) (fun hb4 H4 e4 => ⟨⟨_, rfl⟩, e.trans e4, ?_⟩)
          · exact no_of_not hb4 (c.2 z (List.mem_of_getElem? hz))
          · rw [take_next hz]
            exact over_snoc hov (yes_of_not hb4)
        · rw [List.length_map, List.take_length] at hov
          exact (q.yes (by
            unfold outRow
            rw [if_pos hL, if_pos ⟨hlen, hov⟩])) H' e
    · unfold outLet at hi
      unfold outRow
      by_cases c : Lets a b
      · rw [if_pos c] at hi
        cases hi
      · rw [if_neg c] at hi ⊢
        exact hi
abbrev s_see_sign : Stmt := topS 11
theorem sc_see_sign : FnScope ["letters", "sign"] ["letters", "sign"] (defScope s_see_sign) := ⟨rfl, rfl, rfl, by decide +kernel, rfl, by decide +kernel, by decide +kernel⟩
def spSeeSign (cls : Nat → Addr) : Sp := fun vs H Q E => ∃ (l : Addr) (a b s : Int), vs = [.ref l, .int s] ∧ IsT H l a b ∧ OutsN cls (outSign a b s) (RetV .non H Q) H E
theorem has_see_sign {cls : Nat → Addr} (D : DefAt K mg "see_sign" s_see_sign) (O_NoSign : Own K mg "NoSign" (cls 3)) (G_see_letters : Has P w K mg base (L2N.CX P w) 1 "see_letters" ["letters"] (spSeeLetters cls)) :
    Has P w K mg base (L2N.CX P w) 2 "see_sign" ["letters", "sign"] (spSeeSign cls) := by
  obtain ⟨f, fd, F, gf⟩ := D
  refine ⟨f, fd, okN F sc_see_sign (fun vs H Q E h => ?_) (fun cdv A outer s H vs Q E hr h => ?_), gf, F.kp, F.binds (ps := ["letters", "sign"]) fun _ _ _ _ _ _ us hl => match us, hl with | [_, _], _ => rfl⟩
  · obtain ⟨l, a, b, s, rfl, _⟩ := h
    rfl
  · obtain ⟨l, a, b, sn, rfl, hT, q⟩ := h
    refine ⟨_, (pss_cons (ps_expr (pe_hasX G_see_letters (hr.mono (by decide)) (by rfl) (L2N.takes_of rfl rfl rfl rfl) (pa_cons (pv 0) pa_nil)))
      (pss_one (ps_if (pt_cmpR op_notIn_seq (pv 1) (pv 0) (by rfl)) (pss_one (ps_own rfl O_NoSign (L2N.takes_of rfl rfl rfl rfl) (by rfl))) pss_nil))), ?_⟩
    refine q_dropX (ea_cons (ev_var rfl) ea_nil) fun H1 e1 => ⟨l, a, b, rfl, e1 l _ hT, OutsN.mk (fun hl H2 e2 => ?_) (fun i hi H2 e2 => q.no (i := i) ?_ H2 (e1.trans e2))⟩
    · have hL : Lets a b := by
        unfold outLet at hl
        by_cases c : Lets a b
        · exact c
        · rw [if_neg c] at hl
          cases hl
      have e12 := e1.trans e2
      refine s_when (b := !decide (sn = a ∨ sn = b)) (et_is (et_test (ev_op (ev_var rfl) (ev_var rfl) (rv_niT (ex_t e12 hT.at) rfl rfl))) (by rw [in_two])) (fun hb H3 e3 => q.no (i := 3) ?_ H3 (e12.trans e3)) (fun hb H3 e3 => (q.yes ?_) H3 (e12.trans e3))
      · unfold outSign
        rw [if_pos hL, if_neg (no_of_not hb)]
      · unfold outSign
        rw [if_pos hL, if_pos (yes_of_not hb)]
    · unfold outLet at hi
      unfold outSign
      by_cases c : Lets a b
      · rw [if_pos c] at hi
        cases hi
      · rw [if_neg c] at hi ⊢
        exact hi
/-! ### runs -/
abbrev s_runs_of : Stmt := topS 12
theorem sc_runs_of : FnScope ["row", "found", "k"] ["row"] (defScope s_runs_of) := ⟨rfl, rfl, rfl, by decide +kernel, rfl, by decide +kernel, by decide +kernel⟩
def sp_runs_of : Sp := fun vs H Q _ => ∃ (p : Addr) (row : List Int), vs = [.ref p] ∧ IsL H p row ∧ row.length ≤ 1000 ∧ RetL ((runs row).map V.int) H Q
theorem has_runs_of (D : DefAt K mg "runs_of" s_runs_of) (B : Bl mg) : Has P w K mg base CX0 1 "runs_of" ["row"] sp_runs_of := by
  obtain ⟨f, fd, F, gf⟩ := D
  refine ⟨f, fd, F.ok sc_runs_of (fun vs H Q E h => ?_) (fun cdv A outer s H vs Q E hr h => ?_), gf, F.kp, F.binds (ps := ["row"]) fun _ _ _ _ _ _ us hl => match us, hl with | [_], _ => rfl⟩
  · obtain ⟨p, row, rfl, _⟩ := h
    rfl
  · obtain ⟨p, row, rfl, hp, hn, q⟩ := h
    refine ⟨_, (pss_cons (ps_set (i := 1) sc_runs_of.nd rfl (.inl rfl) (pe_lst pa_nil))
      (pss_cons (ps_for PassesOwn.never rfl (pi_range1 rfl B.range (pa_cons (pe_callB call_len_seq (by rfl) B.len PySem.boot_len (pa_cons (pv 0) pa_nil)) pa_nil)) (pg_name (i := 2) sc_runs_of.nd rfl (.inl rfl)) (pss_one (ps_if (PW.pt (pw_and (pt_cmpR op_gt (pv 2) pe_int (nomark _)) (pw_and1 (pt_cmpR op_eq (pe_ix ix_list (pv 0) (pv 2) (fun _ _ => rfl)) (pe_ix ix_list (pv 0) (pe_op op_sub (pv 2) pe_int) (fun _ _ => rfl)) (nomark _))))) (pss_one (ps_asg (pe_op op_add (pe_ix ix_list (pv 1) (pe_un un_neg pe_int) (fun _ _ => rfl)) pe_int) (pg_sub (pv 1) (pe_un un_neg pe_int) set_list))) (pss_one (ps_expr (pe_bm PySem.F.plainAttrs_list PySem.F.slot_list_append PySem.F.type_list_append mt_append (pv 1) (pa_cons pe_int pa_nil)))))))
      (pss_one (ps_ret (pv 1))))), ?_⟩
    refine q_asgL (el_lst ea_nil (Nat.zero_le _)) fun o H1 no e1 h1 => ?_
    refine q_forR1 (ea_cons (ev_lenI (ev_var rfl) (ex_l e1 hp.at)) ea_nil) (by omega) (fun i σ' H' => ∃ y, σ' = [some (.ref p), some (.ref o), y] ∧ Ex H H' ∧ IsL H' o (runs (row.take i)))
      (fun H2 e2 => ⟨none, rfl, e1.trans e2, e2 o _ h1⟩) (fun i σ' H' hi ⟨y, es, e, ho⟩ => ?_) (fun σ' H' ⟨y, es, e, ho⟩ => ?_)
    · subst es
      have hi' : i < row.length := by omega
      obtain ⟨x, hx⟩ := get_at hi'
      have hp' : SqL K H' p (row.map V.int) := ex_l e hp.at
      have hrun := runs_snoc (row.take i) x
      rw [← take_next hx] at hrun
      refine s_if (b := decide ((row.take i).getLast? = some x)) (et_is (et_and (a := decide (0 < (i : Int))) (b := decide ((row.take i).getLast? = some x)) (et_test (ev_op (ev_var rfl) ev_c rv_I0)) (fun h0 => ?_)) ?_) (fun hb H2 e2 => ?_) (fun hb H2 e2 => ?_)
      · have h0' : 0 < i := by have := of_decide_eq_true h0; omega
        obtain ⟨y', hy⟩ := get_at (show i - 1 < row.length by omega)
        have hl : (row.take i).getLast? = some y' := by
          have := last_take hy
          rw [Nat.sub_add_cancel h0'] at this
          exact this
        refine et_is (et_test (ev_op (ev_ixI (ev_var rfl) (ev_var rfl) hp' (at_int hx)) (ev_ixI (i := ((i - 1 : Nat) : Int)) (ev_var rfl) (ev_is (ev_op (ev_var rfl) ev_c rv_I0) ?_) hp' (at_int hy)) (rv_eq rfl))) ?_
        · congr 1
          omega
        · rw [hl]
          by_cases c : x = y'
          · subst c
            simp
          · have c' : ¬ y' = x := fun z => c z.symm
            simp [c, c']
      · cases i with
        | zero => simp
        | succ j => simp
      · have hl := of_decide_eq_true hb
        have hne : row.take i ≠ [] := by
          intro z
          rw [z] at hl
          simp at hl
        obtain ⟨m, hm⟩ : ∃ m, (runs (row.take i)).getLast? = some m := ⟨_, List.getLast?_eq_getLast (runs_ne hne)⟩
        refine s_set1 (e2 o _ ho) (ev_op (ev_ixI (ev_var rfl) (ev_un ev_c ru_neg) (ex_l e2 ho.at) (at_neg1 hm)) ev_c rv_I0) (ev_var rfl) (ev_un ev_c ru_neg) ?_ fun H3 e3 => ⟨_, rfl, (e.trans e2).trans e3 |>.mut no, ?_⟩
        · have := runs_ne hne
          rw [List.length_map]
          exact List.length_pos_iff.mpr this
        · show upd H3 o _ o = _
          rw [upd_same, set_bump hm, hrun, if_pos hl]
      · have hl := of_decide_eq_false hb
        refine s_app (e2 o _ ho) (ev_var rfl) ev_c ?_ fun H3 e3 => ⟨_, rfl, (e.trans e2).trans e3 |>.mut no, ?_⟩
        · rw [List.length_map]
          have h1 := runs_len (row.take i)
          have h2 : (row.take i).length ≤ row.length := by rw [List.length_take]; omega
          omega
        · show upd H3 o _ o = _
          rw [upd_same, hrun, if_neg hl, List.map_append]
          rfl
    · subst es
      rw [show row.take ((row.length : Int)).toNat = row from by rw [Int.toNat_natCast, List.take_length]] at ho
      refine s_ret (ev_var rfl) fun H2 e2 => q o H2 no (e.trans e2) (e2 o _ ho)
theorem sl_runs_of {H : Hp} {p : Addr} {row : List Int} (hp : IsL H p row) (hn : row.length ≤ 1000) : SpL sp_runs_of [.ref p] H ((runs row).map V.int) := fun H1 e Q q E => ⟨p, row, rfl, e p _ hp, hn, q⟩
abbrev s_other : Stmt := topS 13
theorem sc_other : FnScope ["letters", "sign"] ["letters", "sign"] (defScope s_other) := ⟨rfl, rfl, rfl, by decide +kernel, rfl, by decide +kernel, by decide +kernel⟩
def spOther : Sp := fun vs H Q _ => ∃ (l : Addr) (a b s : Int), vs = [.ref l, .int s] ∧ IsT H l a b ∧ RetV (.int (a + b - s)) H Q
theorem has_other (D : DefAt K mg "other" s_other) : Has P w K mg base CX0 1 "other" ["letters", "sign"] spOther := by
  obtain ⟨f, fd, F, gf⟩ := D
  refine ⟨f, fd, F.ok sc_other (fun vs H Q E h => ?_) (fun cdv A outer s H vs Q E hr h => ?_), gf, F.kp, F.binds (ps := ["letters", "sign"]) fun _ _ _ _ _ _ us hl => match us, hl with | [_, _], _ => rfl⟩
  · obtain ⟨l, a, b, s, rfl, _⟩ := h
    rfl
  · obtain ⟨l, a, b, sn, rfl, hT, q⟩ := h
    refine ⟨_, (pss_one (ps_ret (pe_op op_sub (pe_op op_add (pe_ix ix_tup (pv 0) pe_int (fun _ _ => rfl)) (pe_ix ix_tup (pv 0) pe_int (fun _ _ => rfl))) (pv 1)))), ?_⟩
    exact s_ret (ev_op (ev_op (ev_op (ev_var rfl) ev_c (rv_ixT hT.at rfl)) (ev_op (ev_var rfl) ev_c (rv_ixT hT.at rfl)) rv_I0) (ev_var rfl) rv_I0) q
theorem sv_other {H : Hp} {l : Addr} {a b s : Int} (hT : IsT H l a b) : SpV spOther [.ref l, .int s] H (.int (a + b - s)) := fun H1 e Q q E => ⟨l, a, b, s, rfl, e l _ hT, q⟩
abbrev s_built : Stmt := topS 14
theorem sc_built : FnScope ["letters", "sign", "some", "length", "row"] ["letters", "sign", "some"] (defScope s_built) := ⟨rfl, rfl, rfl, by decide +kernel, rfl, by decide +kernel, by decide +kernel⟩
def outBuilt (a b s : Int) (xs : List Int) : Option Nat := match outSign a b s with
  | some i => some i
  | none => if xs.length ≤ 60 ∧ (∀ v ∈ xs, 1 ≤ v ∧ v ≤ 9) then none else some 2
def spBuilt (cls : Nat → Addr) : Sp := fun vs H Q E => ∃ (l : Addr) (a b s : Int) (p : Addr) (xs : List Int), vs = [.ref l, .int s, .ref p] ∧ IsT H l a b ∧ IsL H p xs ∧ OutsN cls (outBuilt a b s xs) (RetL ((built a b s xs).map V.int) H Q) H E
theorem has_built {cls : Nat → Addr} (D : DefAt K mg "built" s_built) (B : Bl mg) (O_NoLengths : Own K mg "NoLengths" (cls 2)) (G_see_sign : Has P w K mg base (L2N.CX P w) 2 "see_sign" ["letters", "sign"] (spSeeSign cls)) (G_other : Has P w K mg base CX0 1 "other" ["letters", "sign"] spOther) :
    Has P w K mg base (L2N.CX P w) 3 "built" ["letters", "sign", "some"] (spBuilt cls) := by
  obtain ⟨f, fd, F, gf⟩ := D
  refine ⟨f, fd, okN F sc_built (fun vs H Q E h => ?_) (fun cdv A outer s H vs Q E hr h => ?_), gf, F.kp, F.binds (ps := ["letters", "sign", "some"]) fun _ _ _ _ _ _ us hl => match us, hl with | [_, _, _], _ => rfl⟩
  · obtain ⟨l, a, b, s, p, xs, rfl, _⟩ := h
    rfl
  · obtain ⟨l, a, b, sn, p, xs, rfl, hT, hp, q⟩ := h
    refine ⟨_, (pss_cons (ps_expr (pe_hasX G_see_sign (hr.mono (by decide)) (by rfl) (L2N.takes_of rfl rfl rfl rfl) (pa_cons (pv 0) (pa_cons (pv 1) pa_nil))))
      (pss_cons (ps_if (pt_cmpR op_gt (pe_callB call_len_seq (by rfl) B.len PySem.boot_len (pa_cons (pv 2) pa_nil)) pe_int (nomark _)) (pss_one (ps_own rfl O_NoLengths (L2N.takes_of rfl rfl rfl rfl) (by rfl))) pss_nil)
      (pss_cons (ps_for (passes_of rfl) rfl (pi_list (pv 2)) (pg_name (i := 3) sc_built.nd rfl (.inl rfl)) (pss_one (ps_if (pt_not (pt_chain op_le op_le pe_int (pv 3) pe_int)) (pss_one (ps_own rfl O_NoLengths (L2N.takes_of rfl rfl rfl rfl) (by rfl))) pss_nil)))
      (pss_cons (ps_set (i := 4) sc_built.nd rfl (.inl rfl) (pe_lst pa_nil))
      (pss_cons (ps_for (passes_of rfl) rfl (pi_list (pv 2)) (pg_name (i := 3) sc_built.nd rfl (.inl rfl)) (pss_cons (ps_expr (pe_bm PySem.F.plainAttrs_list PySem.F.slot_list_extend PySem.F.type_list_extend mt_extend (pv 4) (pa_cons (pe_op op_rep (pe_lst (pa_cons (pv 1) pa_nil)) (pv 3)) pa_nil)))
      (pss_one (ps_set (i := 1) sc_built.nd rfl (.inl rfl) (pe_has G_other (hr.mono (by decide)) (by rfl) pass0 (pa_cons (pv 0) (pa_cons (pv 1) pa_nil)))))))
      (pss_one (ps_ret (pv 4)))))))), ?_⟩
    refine q_dropX (ea_cons (ev_var rfl) (ea_cons (ev_var rfl) ea_nil)) fun H1 e1 => ⟨l, a, b, sn, rfl, e1 l _ hT, OutsN.mk (fun hl H2 e2 => ?_) (fun i hi H2 e2 => q.no (i := i) ?_ H2 (e1.trans e2))⟩
    · obtain ⟨hL, hs⟩ := outSign_none hl
      have e12 := e1.trans e2
      have bad : ∀ {H' : Hp}, ¬ (xs.length ≤ 60 ∧ ∀ v ∈ xs, 1 ≤ v ∧ v ≤ 9) → Ex H H' → E (.ref (cls 2)) none H' := fun hn e => q.no (i := 2) (by
        unfold outBuilt
        rw [hl]
        show (if _ then none else some 2) = some 2
        rw [if_neg hn]) _ e
      refine q_when (b := decide ((60 : Int) < (xs.length : Int))) (et_test (ev_op (ev_lenI (ev_var rfl) (ex_l e12 hp.at)) ev_c rv_I0)) (fun hb H3 e3 => bad (fun z => ?_) (e12.trans e3)) (fun hb H3 e3 => ?_)
      · have := of_decide_eq_true hb
        omega
      · have hlen : xs.length ≤ 60 := by
          have := of_decide_eq_false hb
          omega
        have e13 := e12.trans e3
        refine q_forLn (ev_var rfl) (ex_l e13 hp.at) (fun i σ' H' => (∃ y, σ' = [some (.ref l), some (.int sn), some (.ref p), y, none]) ∧ Ex H H' ∧ ∀ v ∈ xs.take i, 1 ≤ v ∧ v ≤ 9) (fun H4 e4 => ⟨⟨_, rfl⟩, e13.trans e4, fun v hv => by simp at hv⟩) (fun i σ' H' _ ⟨_, e, _⟩ => ex_l e hp.at) (fun i x σ' H' hx ⟨⟨y, es⟩, e, hov⟩ => ?_) (fun σ' H' ⟨⟨y, es⟩, e, hov⟩ => ?_)
        · subst es
          obtain ⟨z, hz, rfl⟩ := get_map hx
          refine s_when (b := !decide (1 ≤ z ∧ z ≤ 9)) (et_is (et_not (et_test (ev_chain ev_c (ev_var rfl) ev_c))) (by by_cases c1 : 1 ≤ z <;> by_cases c2 : z ≤ 9 <;> simp [c1, c2])) (fun hb4 H4 e4 => bad (fun c => ?_) (e.trans e4)) (fun hb4 H4 e4 => ⟨⟨_, rfl⟩, e.trans e4, ?_⟩)
          · exact no_of_not hb4 (c.2 z (List.mem_of_getElem? hz))
          · rw [take_next hz]
            intro v hv
            rcases List.mem_append.mp hv with c | c
            · exact hov v c
            · cases List.mem_singleton.mp c
              exact yes_of_not hb4
        · subst es
          rw [List.length_map, List.take_length] at hov
          have hv := hov
          have qq := q.yes (by
            unfold outBuilt
            rw [hl]
            exact if_pos ⟨hlen, hov⟩)
          refine q_asgL (el_lst ea_nil (Nat.zero_le _)) fun o H4 no e4 h4 => ?_
          have no' : H o = none := fresh_back e no
          refine q_forLn (ev_var rfl) (ex_l (e.trans e4) hp.at) (fun i σ' H' => (∃ y, σ' = [some (.ref l), some (.int (sg a b sn i)), some (.ref p), y, some (.ref o)]) ∧ Ex H H' ∧ IsL H' o (built a b sn (xs.take i)))
            (fun H5 e5 => ⟨⟨_, rfl⟩, (e.trans e4).trans e5, e5 o _ h4⟩) (fun i σ' H' _ ⟨_, e, _⟩ => ex_l e hp.at) (fun i x σ' H' hx ⟨⟨y, es⟩, e5, ho⟩ => ?_) (fun σ' H' ⟨⟨y, es⟩, e5, ho⟩ => ?_)
          · subst es
            obtain ⟨z, hz, rfl⟩ := get_map hx
            have hz2 := hv z (List.mem_of_getElem? hz)
            have hi := (List.getElem?_eq_some_iff.mp hz).1
            have hln : (xs.take i).length = i := by
              rw [List.length_take]
              omega
            have hbl := built_len (a := a) (b := b) (xs.take i) sn (m := 9) (fun v hv' => (hv v (List.mem_of_mem_take hv')).2) (by decide)
            rw [hln] at hbl
            refine q_ext ho (ev_var rfl) (el_rep (el_lst (ea_cons (ev_var rfl) ea_nil) (show 1 ≤ 100000 by decide)) (ev_var rfl) ⟨by omega, by omega⟩ (show 1 ≤ 1000 by decide)) (by
              rw [rep_one, List.length_map, List.length_map, List.length_replicate]
              omega) fun H6 e6 => ?_
            refine s_asg (ev_call (ea_cons (ev_var rfl) (ea_cons (ev_var rfl) ea_nil)) (sv_other ((Ex.mut (e5.trans e6) no') l _ hT))) fun H7 e7 => ?_
            refine ⟨⟨_, rfl⟩, (Ex.mut (e5.trans e6) no').trans e7, e7 o _ ?_⟩
            rw [upd_same, rep_one, ← List.map_append, take_next hz, built_snoc, hln]
          · subst es
            rw [List.length_map, List.take_length] at ho
            exact s_ret (ev_var rfl) fun H6 e6 => qq o H6 no' (e5.trans e6) (e6 o _ ho)
    · unfold outBuilt
      rw [hi]
theorem outBuilt_none {a b s : Int} {xs : List Int} (h : outBuilt a b s xs = none) : Let a b ∧ (s = a ∨ s = b) ∧ xs.length ≤ 60 ∧ ∀ v ∈ xs, 1 ≤ v ∧ v ≤ 9 := by
  unfold outBuilt at h
  cases hs : outSign a b s with
  | some i =>
    rw [hs] at h
    cases h
  | none =>
    rw [hs] at h
    by_cases c : xs.length ≤ 60 ∧ (∀ v ∈ xs, 1 ≤ v ∧ v ≤ 9)
    · exact ⟨(outSign_none hs).1, (outSign_none hs).2, c⟩
    · change (if _ then none else some 2) = none at h
      rw [if_neg c] at h
      cases h
/-! ### inner lengths, heights -/
abbrev s_inner_of : Stmt := topS 16
theorem sc_inner_of : FnScope ["letters", "row", "found", "length"] ["letters", "row"] (defScope s_inner_of) := ⟨rfl, rfl, rfl, by decide +kernel, rfl, by decide +kernel, by decide +kernel⟩
def spInnerOf : Sp := fun vs H Q _ => ∃ (l : Addr) (a b : Int) (p : Addr) (row : List Int), vs = [.ref l, .ref p] ∧ IsT H l a b ∧ Let a b ∧ IsL H p row ∧ row.length ≤ 1000 ∧ RetO (inner a b row) H Q
theorem has_inner_of (D : DefAt K mg "inner_of" s_inner_of) (B : Bl mg) (G_runs_of : Has P w K mg base CX0 1 "runs_of" ["row"] sp_runs_of) : Has P w K mg base CX0 2 "inner_of" ["letters", "row"] spInnerOf := by
  obtain ⟨f, fd, F, gf⟩ := D
  refine ⟨f, fd, F.ok sc_inner_of (fun vs H Q E h => ?_) (fun cdv A outer s H vs Q E hr h => ?_), gf, F.kp, F.binds (ps := ["letters", "row"]) fun _ _ _ _ _ _ us hl => match us, hl with | [_, _], _ => rfl⟩
  · obtain ⟨l, a, b, p, row, rfl, _⟩ := h
    rfl
  · obtain ⟨l, a, b, p, row, rfl, hT, hL, hp, hn, q⟩ := h
    have hb2 := hL.two
    refine ⟨_, (pss_cons (ps_set (i := 2) sc_inner_of.nd rfl (.inl rfl) (pe_has G_runs_of (hr.mono (by decide)) (by rfl) pass0 (pa_cons (pv 1) pa_nil)))
      (pss_cons (ps_if (pt_cmpR op_gt (pe_callBK (cr_topD rfl (hu_of hr)) (by rfl) B.max (by decide +kernel) (pa_cons (pv 2) pa_nil) (pk_cons pe_int pk_nil)) (pe_ix ix_tup (pv 0) pe_int (fun _ _ => rfl)) (nomark _)) (pss_one (ps_ret pe_non)) pss_nil)
      (pss_cons (ps_for PassesOwn.never rfl (pi_list (pe_slice sl_list (pv 2) (po_some pe_int) (po_some (pe_un un_neg pe_int)))) (pg_name (i := 3) sc_inner_of.nd rfl (.inl rfl)) (pss_one (ps_if (pt_cmpR op_notIn_seq (pv 3) (pv 0) (by rfl)) (pss_one (ps_ret pe_non)) pss_nil)))
      (pss_cons (ps_if (PW.pt (pw_and (pt_cmpR (op_neD hr.units) (pv 2) (pe_lst pa_nil) (nomark _)) (pw_and1 (pt_cmpR op_ne (pe_ix ix_list (pv 2) (pe_un un_neg pe_int) (fun _ _ => rfl)) (pe_ix ix_tup (pv 0) pe_int (fun _ _ => rfl)) (nomark _))))) (pss_one (ps_set (i := 2) sc_inner_of.nd rfl (.inl rfl) (pe_slice sl_list (pv 2) po_none (po_some (pe_un un_neg pe_int))))) pss_nil)
      (pss_cons (ps_if (PW.pt (pw_and (pt_cmpR (op_neD hr.units) (pv 2) (pe_lst pa_nil) (nomark _)) (pw_and (pt_cmpR op_ne (pe_ix ix_list (pv 2) pe_int (fun _ _ => rfl)) (pe_ix ix_tup (pv 0) pe_int (fun _ _ => rfl)) (nomark _)) (pw_and1 (pt_cmpR op_gt (pe_callB call_len_seq (by rfl) B.len PySem.boot_len (pa_cons (pe_has G_runs_of (hr.mono (by decide)) (by rfl) pass0 (pa_cons (pv 1) pa_nil)) pa_nil)) pe_int (nomark _)))))) (pss_one (ps_set (i := 2) sc_inner_of.nd rfl (.inl rfl) (pe_slice sl_list (pv 2) (po_some pe_int) po_none))) pss_nil)
      (pss_one (ps_ret (pv 2)))))))), ?_⟩
    refine q_asgL (el_call (ea_cons (ev_var rfl) ea_nil) (sl_runs_of hp hn)) fun o H1 no e1 ho => ?_
    refine q_when (b := decide (b < top 0 (runs row))) (et_test (ev_op (ev_topD (ev_var rfl) (sq_of ho)) (ev_op (ev_var rfl) ev_c (rv_ixT (ex_t e1 hT.at) rfl)) rv_I0)) (fun hb H2 e2 => ?_) (fun hb H2 e2 => ?_)
    · -- a run longer than b
      refine s_ret ev_c fun H3 e3 => (q.1 (inner_none fun z => ?_)) H3 ((e1.trans e2).trans e3)
      have h1 := of_decide_eq_true hb
      have h2 := (top_le (show (0 : Int) ≤ b by omega) (runs row)).mpr z.1
      omega
    · have hle : ∀ v ∈ runs row, v ≤ b := (top_le (show (0 : Int) ≤ b by omega) (runs row)).mp (by have := of_decide_eq_false hb; omega)
      have ho2 : IsL H2 o (runs row) := e2 o _ ho
      have hT2 : IsT H2 l a b := e2 l _ (e1 l _ hT)
      have e12 := e1.trans e2
      refine q_forNLn (el_sl (ev_var rfl) (eo_some ev_c) (eo_some (ev_un ev_c ru_neg)) ho2.at) (fun _ i σ' H' => (∃ y, σ' = [some (.ref l), some (.ref p), some (.ref o), y]) ∧ Ex H2 H' ∧ SqL K H' _ (cutV ((runs row).map V.int) (some 1) (some (-1))) ∧ ∀ v ∈ (runs row).tail.dropLast.take i, v = a ∨ v = b)
        (fun s1 H3 _ e3 h3 => ⟨⟨_, rfl⟩, e3, sq_of h3, by simp⟩) (fun s1 i σ' H' _ ⟨_, _, h, _⟩ => h) (fun s1 i x σ' H' hx ⟨⟨y, es⟩, e, h3, hall⟩ => ?_) (fun s1 σ' H' ⟨⟨y, es⟩, e, _, hall⟩ => ?_)
      · subst es
        rw [cut_mid] at hx
        obtain ⟨z, hz, rfl⟩ := get_map hx
        refine s_when (b := !decide (z = a ∨ z = b)) (et_is (et_test (ev_op (ev_var rfl) (ev_var rfl) (rv_niT (ex_t e hT2.at) rfl rfl))) (by rw [in_two])) (fun hb H4 e4 => ?_) (fun hb H4 e4 => ⟨⟨_, rfl⟩, e.trans e4, ex_l e4 h3, ?_⟩)
        · refine s_ret ev_c fun H5 e5 => (q.1 (inner_none fun zz => ?_)) H5 ((e12.trans e).trans (e4.trans e5))
          have := zz.2 z (List.mem_of_getElem? hz)
          simp [this] at hb
        · have hz2 : z = a ∨ z = b := yes_of_not hb
          rw [take_next hz]
          intro v hv
          rcases List.mem_append.mp hv with hv | hv
          · exact hall v hv
          · rw [List.mem_singleton.mp hv]
            exact hz2
      · subst es
        have hfit : fits a b (runs row) := ⟨hle, by
          intro v hv
          refine hall v ?_
          rw [cut_mid, List.length_map, List.take_length]
          exact hv⟩
        have hin : inner a b row = some (inn b (runs row)) := inner_of_fits hfit
        have ho3 : IsL H' o (runs row) := e o _ ho2
        have hT3 : IsT H' l a b := e l _ hT2
        -- the last one away
        have key : ∀ (H3 : Hp) (o2 : Addr) (y : Option V), Ex H H3 → H o2 = none → IsL H3 o2 (dL b (runs row)) →
            (tSeq (tIfS (tAnd (tTest (tOp (rNeD K) (tVar 2) (tLst tNil))) (tAnd (tTest (tOp rNe (tOp (rIxL K) (tVar 2) (tC (.int 0))) (tOp (rIxT K) (tVar 0) (tC (.int 1))))) (tTest (tOp (rI0 fun i j => .bl (decide (j < i))) (tCB (rLenS K) (tCons (tCall sp_runs_of [] E0 (tCons (tVar 1) tNil)) tNil)) (tC (.int 1)))))) (tAsg (tSl (rSlL K) (tVar 2) (tPart (tC (.int 1))) tNoPart) (gName 2)) tNext) (tRet (tVar 2)))
              { nx := fun _ H' => Q .non H', rt := Q } [some (.ref l), some (.ref p), some (.ref o2), y] H3 := by
          intro H3 o2 y e3 no2 h2
          have hT4 : IsT H3 l a b := e3 l _ hT
          have hp4 : IsL H3 p row := e3 p _ hp
          have hil : inn b (runs row) = dF b (dL b (runs row)) := rfl
          cases hd : dL b (runs row) with
          | nil =>
            rw [hd] at h2 hil
            refine q_when (b := false) (et_is (et_and (b := false) (et_test (ev_ne0 (ev_var rfl) h2.at)) (fun z => absurd z (by simp))) rfl) (fun z => nomatch z) (fun _ H4 e4 => ?_)
            exact s_ret (ev_var rfl) fun H5 e5 => q.2 _ hin o2 H5 no2 ((e3.trans e4).trans e5) (by rw [hil]; exact (e4.trans e5) o2 _ h2)
          | cons m t =>
            rw [hd] at h2 hil
            by_cases c : m = b
            · subst c
              rw [dF_pos] at hil
              refine q_when (b := false) (et_is (et_and (a := true) (et_is (et_test (ev_ne0 (ev_var rfl) h2.at)) (by simp)) (fun _ => et_and (a := false) (b := false) (et_is (et_test (ev_op (ev_ixI (n := m) (i := 0) (ev_var rfl) ev_c h2.at (at_int (j := 0) rfl)) (ev_op (ev_var rfl) ev_c (rv_ixT hT4.at rfl)) (rv_ne rfl))) (by simp)) (fun z => nomatch z))) rfl) (fun z => nomatch z) (fun _ H4 e4 => ?_)
              exact s_ret (ev_var rfl) fun H5 e5 => q.2 _ hin o2 H5 no2 ((e3.trans e4).trans e5) (by rw [hil]; exact (e4.trans e5) o2 _ h2)
            · rw [dF_neg c] at hil
              have hlen : 1 < (runs row).length := by
                have h5 : (dL b (runs row)).length ≤ (runs row).length := dL_len b _
                rw [hd] at h5
                simp only [List.length_cons] at h5
                cases hR : runs row with
                | nil =>
                  rw [hR] at hd
                  cases hd
                | cons m2 t2 =>
                  cases t2 with
                  | nil =>
                    rw [hR] at hd
                    have : dL b [m2] = if m2 = b then [m2] else [] := by
                      by_cases c2 : m2 = b
                      · subst c2
                        rw [if_pos rfl]
                        exact dL_snoc_pos (r := [])
                      · rw [if_neg c2]
                        exact dL_snoc_neg (r := []) c2
                    rw [this] at hd
                    by_cases c2 : m2 = b
                    · rw [if_pos c2] at hd
                      injection hd with h6 _
                      exact absurd (h6.symm.trans c2) c
                    · rw [if_neg c2] at hd
                      cases hd
                  | cons _ _ => simp
              refine q_when (b := true) (et_is (et_and (a := true) (et_is (et_test (ev_ne0 (ev_var rfl) h2.at)) (by simp)) (fun _ => et_and (a := true) (b := true) (et_is (et_test (ev_op (ev_ixI (n := m) (i := 0) (ev_var rfl) ev_c h2.at (at_int (j := 0) rfl)) (ev_op (ev_var rfl) ev_c (rv_ixT hT4.at rfl)) (rv_ne rfl))) (by simp [c]))
                (fun _ => et_is (et_test (ev_op (ev_is (ev_lenN (el_call (ea_cons (ev_var rfl) ea_nil) (sl_runs_of hp4 hn))) (by rw [List.length_map])) ev_c rv_I0)) (decide_eq_true (by omega))))) rfl) (fun _ H4 e4 => ?_) (fun z => nomatch z)
              refine s_asgL (el_sl (ev_var rfl) (eo_some ev_c) eo_none (ex_l e4 h2.at)) fun o5 H5 no5 e5 h5 => ?_
              rw [cut_tail] at h5
              exact s_ret (ev_var rfl) fun H6 e6 => q.2 _ hin o5 H6 (fresh_back (e3.trans e4) no5) (((e3.trans e4).trans e5).trans e6) (by rw [hil]; exact e6 o5 _ h5)
        cases hR : runs row with
        | nil =>
          rw [hR] at ho3
          refine q_when (b := false) (et_is (et_and (b := false) (et_test (ev_ne0 (ev_var rfl) ho3.at)) (fun z => absurd z (by simp))) rfl) (fun z => nomatch z) (fun _ H4 e4 => ?_)
          exact key H4 o _ ((e12.trans e).trans e4) no (by rw [hR]; exact e4 o _ ho3)
        | cons m0 t0 =>
          obtain ⟨r, m, hrm⟩ : ∃ r m, runs row = r ++ [m] := by
            rcases List.eq_nil_or_concat (runs row) with z | ⟨r, m, z⟩
            · rw [z] at hR
              cases hR
            · exact ⟨r, m, by rw [z, List.concat_eq_append]⟩
          have hne : runs row ≠ [] := by
            rw [hR]
            simp
          have hlast : (runs row).getLast? = some m := by
            rw [hrm]
            simp
          by_cases c : m = b
          · subst c
            refine q_when (b := false) (et_is (et_and (a := true) (b := false) (et_is (et_test (ev_ne0 (ev_var rfl) ho3.at)) (by simp [hne])) (fun _ => et_is (et_test (ev_op (ev_ixI (ev_var rfl) (ev_un ev_c ru_neg) ho3.at (at_neg1 hlast)) (ev_op (ev_var rfl) ev_c (rv_ixT hT3.at rfl)) (rv_ne rfl))) (by simp))) rfl) (fun z => nomatch z) (fun _ H4 e4 => ?_)
            exact key H4 o _ ((e12.trans e).trans e4) no (by rw [hrm, dL_snoc_pos, ← hrm]; exact e4 o _ ho3)
          · refine q_when (b := true) (et_is (et_and (a := true) (b := true) (et_is (et_test (ev_ne0 (ev_var rfl) ho3.at)) (by simp [hne])) (fun _ => et_is (et_test (ev_op (ev_ixI (ev_var rfl) (ev_un ev_c ru_neg) ho3.at (at_neg1 hlast)) (ev_op (ev_var rfl) ev_c (rv_ixT hT3.at rfl)) (rv_ne rfl))) (by simp [c]))) rfl) (fun _ H4 e4 => ?_) (fun z => nomatch z)
            refine s_asgL (el_sl (ev_var rfl) eo_none (eo_some (ev_un ev_c ru_neg)) (ex_l e4 ho3.at)) fun o5 H5 no5 e5 h5 => ?_
            rw [cut_init] at h5
            exact key H5 o5 _ (((e12.trans e).trans e4).trans e5) (fresh_back ((e12.trans e).trans e4) no5) (by rw [hrm, dL_snoc_neg c]; rw [hrm, List.dropLast_concat] at h5; exact h5)
abbrev s_height_of : Stmt := topS 18
theorem sc_height_of : FnScope ["letters", "row", "count"] ["letters", "row"] (defScope s_height_of) := ⟨rfl, rfl, rfl, by decide +kernel, rfl, by decide +kernel, by decide +kernel⟩
def sp_height_of : Sp := fun vs H Q _ => ∃ (l : Addr) (a b : Int) (p : Addr) (row : List Int), vs = [.ref l, .ref p] ∧ IsT H l a b ∧ Let a b ∧ IsL H p row ∧ row.length ≤ 1000 ∧ RetN (height a b row) H Q
theorem has_height_of (D : DefAt K mg "height_of" s_height_of) (G_inner_of : Has P w K mg base CX0 2 "inner_of" ["letters", "row"] spInnerOf) : Has P w K mg base CX0 3 "height_of" ["letters", "row"] sp_height_of := by
  obtain ⟨f, fd, F, gf⟩ := D
  refine ⟨f, fd, F.ok sc_height_of (fun vs H Q E h => ?_) (fun cdv A outer s H vs Q E hr h => ?_), gf, F.kp, F.binds (ps := ["letters", "row"]) fun _ _ _ _ _ _ us hl => match us, hl with | [_, _], _ => rfl⟩
  · obtain ⟨l, a, b, p, row, rfl, _⟩ := h
    rfl
  · obtain ⟨l, a, b, p, row, rfl, hT, hL, hp, hn, q⟩ := h
    have hb2 := hL.two
    refine ⟨_, (pss_cons (ps_set (i := 2) sc_height_of.nd rfl (.inl rfl) pe_int)
      (pss_cons (ps_while PassesOwn.never (pt_cmpR (op_neD hr.units) (pv 1) (pe_lst pa_nil) (nomark _)) (pss_cons (ps_set (i := 1) sc_height_of.nd rfl (.inl rfl) (pe_has G_inner_of (hr.mono (by decide)) (by rfl) pass0 (pa_cons (pv 0) (pa_cons (pv 1) pa_nil))))
      (pss_cons (ps_if (pt_cmpR op_isN (pv 1) pe_non (nomark _)) (pss_one (ps_ret pe_non)) pss_nil)
      (pss_one (ps_set (i := 2) sc_height_of.nd rfl (.inl rfl) (pe_op op_add (pv 2) pe_int))))))
      (pss_one (ps_ret (pv 2))))), ?_⟩
    refine q_asg ev_c fun H1 e1 => ?_
    refine q_while (fun m σ' H' => ∃ (p' : Addr) (row' : List Int) (c : Nat), σ' = [some (.ref l), some (.ref p'), some (.int (c : Int))] ∧ Ex H H' ∧ IsL H' p' row' ∧ row'.length ≤ 1000 ∧ m = row'.length ∧ height a b row = (height a b row').map (· + c)) row.length
      ⟨p, row, 0, rfl, e1, e1 p _ hp, hn, rfl, by cases height a b row <;> rfl⟩ (fun m σ' H' ⟨p', row', c, es, e, hp', hn', hm, hh⟩ => ?_)
    subst es
    refine ⟨!decide (row' = []), et_test (ev_ne0 (ev_var rfl) hp'.at), fun hb H2 e2 => ?_, fun hb H2 e2 => ?_⟩
    · have hne : row' ≠ [] := by
        intro z
        simp [z] at hb
      refine ⟨fun σ2 H3 => ∃ (p2 : Addr) (row2 : List Int), σ2 = [some (.ref l), some (.ref p2), some (.int ((c + 1 : Nat) : Int))] ∧ Ex H H3 ∧ IsL H3 p2 row2 ∧ row2.length < row'.length ∧ height a b row = (height a b row2).map (· + (c + 1)), fun σ2 H3 ⟨p2, row2, es, e3, h3, hl, hh2⟩ => ?_, ?_⟩
      · exact ⟨row2.length, by omega, p2, row2, c + 1, es, e3, h3, by omega, rfl, hh2⟩
      · refine ⟨_, rfl, _, rfl, l, a, b, p', row', rfl, e2 l _ (e l _ hT), hL, e2 p' _ hp', hn', fun z H3 e3 => ?_, fun i hi o H3 no e3 h3 => ?_⟩
        · refine q_when (b := true) (et_is (et_test (ev_op (ev_var rfl) ev_c rv_isN)) is_non) (fun _ H4 e4 => ?_) (fun z => nomatch z)
          refine s_ret ev_c fun H5 e5 => ?_
          have : height a b row = none := by
            rw [hh, height_none hne z]
            rfl
          have q' := q
          unfold RetN at q'
          rw [this] at q'
          exact q' H5 (((e.trans e2).trans e3).trans (e4.trans e5))
        · refine q_when (b := false) (et_is (et_test (ev_op (ev_var rfl) ev_c rv_isN)) ref_non) (fun z => nomatch z) (fun _ H4 e4 => ?_)
          refine s_asg (ev_op (ev_var rfl) ev_c rv_I0) fun H5 e5 => ?_
          refine ⟨o, i, rfl, ((e.trans e2).trans e3).trans (e4.trans e5), (e4.trans e5) o _ h3, inner_lt hb2 hne hi, ?_⟩
          rw [hh, height_some hb2 hne hi]
          cases height a b i with
          | none => rfl
          | some n =>
            show some (n + 1 + c) = some (n + (c + 1))
            congr 1
            omega
    · have hne : row' = [] := by
        by_cases z : row' = []
        · exact z
        · simp [z] at hb
      refine s_ret (ev_var rfl) fun H3 e3 => ?_
      have : height a b row = some c := by
        rw [hh, hne, height_nil]
        simp
      have q' := q
      unfold RetN at q'
      rw [this] at q'
      exact q' H3 ((e.trans e2).trans e3)
theorem sv_height_of {H : Hp} {l p : Addr} {a b : Int} {row : List Int} (hT : IsT H l a b) (hL : Let a b) (hp : IsL H p row) (hn : row.length ≤ 1000) : SpV sp_height_of [.ref l, .ref p] H (match height a b row with | none => .non | some n => .int n) := fun H1 e Q q E => ⟨l, a, b, p, row, rfl, e l _ hT, hL, e p _ hp, hn, q⟩
/-! ### what is only refused or not -/
def RetAny (H : Hp) (Q : VK) : Prop := ∀ v H', Ex H H' → Q v H'
abbrev s_inner : Stmt := topS 17
theorem sc_inner : FnScope ["letters", "row"] ["letters", "row"] (defScope s_inner) := ⟨rfl, rfl, rfl, by decide +kernel, rfl, by decide +kernel, by decide +kernel⟩
def spInner (cls : Nat → Addr) : Sp := fun vs H Q E => ∃ (l : Addr) (a b : Int) (p : Addr) (row : List Int), vs = [.ref l, .ref p] ∧ IsT H l a b ∧ IsL H p row ∧ OutsN cls (outRow a b row) (RetAny H Q) H E
theorem has_inner {cls : Nat → Addr} (D : DefAt K mg "inner" s_inner) (G_see_row : Has P w K mg base (L2N.CX P w) 2 "see_row" ["letters", "row"] (spSeeRow cls)) (G_inner_of : Has P w K mg base CX0 2 "inner_of" ["letters", "row"] spInnerOf) : Has P w K mg base (L2N.CX P w) 3 "inner" ["letters", "row"] (spInner cls) := by
  obtain ⟨f, fd, F, gf⟩ := D
  refine ⟨f, fd, okN F sc_inner (fun vs H Q E h => ?_) (fun cdv A outer s H vs Q E hr h => ?_), gf, F.kp, F.binds (ps := ["letters", "row"]) fun _ _ _ _ _ _ us hl => match us, hl with | [_, _], _ => rfl⟩
  · obtain ⟨l, a, b, p, row, rfl, _⟩ := h
    rfl
  · obtain ⟨l, a, b, p, row, rfl, hT, hp, q⟩ := h
    refine ⟨_, (pss_cons (ps_expr (pe_hasX G_see_row (hr.mono (by decide)) (by rfl) (L2N.takes_of rfl rfl rfl rfl) (pa_cons (pv 0) (pa_cons (pv 1) pa_nil))))
      (pss_one (ps_ret (pe_has G_inner_of (hr.mono (by decide)) (by rfl) pass0 (pa_cons (pv 0) (pa_cons (pv 1) pa_nil)))))), ?_⟩
    refine q_dropX (ea_cons (ev_var rfl) (ea_cons (ev_var rfl) ea_nil)) fun H1 e1 => ⟨l, a, b, p, row, rfl, e1 l _ hT, e1 p _ hp, OutsN.mk (fun hl H2 e2 => ?_) (fun i hi H2 e2 => q.no hi H2 (e1.trans e2))⟩
    obtain ⟨hL, hn, hov⟩ := outRow_none hl
    have e12 := e1.trans e2
    exact ⟨_, rfl, _, rfl, l, a, b, p, row, rfl, e12 l _ hT, hL, e12 p _ hp, by omega, fun z H3 e3 => (q.yes hl) _ H3 (e12.trans e3), fun i hi o H3 no e3 h3 => (q.yes hl) _ H3 (e12.trans e3)⟩
abbrev s_height : Stmt := topS 19
theorem sc_height : FnScope ["letters", "row"] ["letters", "row"] (defScope s_height) := ⟨rfl, rfl, rfl, by decide +kernel, rfl, by decide +kernel, by decide +kernel⟩
def spHeight (cls : Nat → Addr) : Sp := fun vs H Q E => ∃ (l : Addr) (a b : Int) (p : Addr) (row : List Int), vs = [.ref l, .ref p] ∧ IsT H l a b ∧ IsL H p row ∧ OutsN cls (outRow a b row) (RetAny H Q) H E
theorem has_height {cls : Nat → Addr} (D : DefAt K mg "height" s_height) (B : Bl mg) (G_see_row : Has P w K mg base (L2N.CX P w) 2 "see_row" ["letters", "row"] (spSeeRow cls)) (G_height_of : Has P w K mg base CX0 3 "height_of" ["letters", "row"] sp_height_of) : Has P w K mg base (L2N.CX P w) 4 "height" ["letters", "row"] (spHeight cls) := by
  obtain ⟨f, fd, F, gf⟩ := D
  refine ⟨f, fd, okN F sc_height (fun vs H Q E h => ?_) (fun cdv A outer s H vs Q E hr h => ?_), gf, F.kp, F.binds (ps := ["letters", "row"]) fun _ _ _ _ _ _ us hl => match us, hl with | [_, _], _ => rfl⟩
  · obtain ⟨l, a, b, p, row, rfl, _⟩ := h
    rfl
  · obtain ⟨l, a, b, p, row, rfl, hT, hp, q⟩ := h
    refine ⟨_, (pss_cons (ps_expr (pe_hasX G_see_row (hr.mono (by decide)) (by rfl) (L2N.takes_of rfl rfl rfl rfl) (pa_cons (pv 0) (pa_cons (pv 1) pa_nil))))
      (pss_one (ps_ret (pe_has G_height_of (hr.mono (by decide)) (by rfl) pass0 (pa_cons (pv 0) (pa_cons (pe_callTy call_list_of (by rfl) B.list (by decide +kernel) (pa_cons (pv 1) pa_nil)) pa_nil)))))), ?_⟩
    refine q_dropX (ea_cons (ev_var rfl) (ea_cons (ev_var rfl) ea_nil)) fun H1 e1 => ⟨l, a, b, p, row, rfl, e1 l _ hT, e1 p _ hp, OutsN.mk (fun hl H2 e2 => ?_) (fun i hi H2 e2 => q.no hi H2 (e1.trans e2))⟩
    obtain ⟨hL, hn, hov⟩ := outRow_none hl
    have e12 := e1.trans e2
    refine ⟨_, rfl, _, rfl, p, row.map V.int, rfl, .inl (IsL.at (e12 p _ hp)), fun o no => ?_⟩
    exact ⟨l, a, b, o, row, rfl, Ex.new no l _ (e12 l _ hT), hL, upd_same, by omega, fun H3 e3 => (q.yes hl) _ H3 ((e12.trans (Ex.new no)).trans e3)⟩
abbrev s_goes_on : Stmt := topS 20
theorem sc_goes_on : FnScope ["letters", "row", "here", "sign"] ["letters", "row"] (defScope s_goes_on) := ⟨rfl, rfl, rfl, by decide +kernel, rfl, by decide +kernel, by decide +kernel⟩
def spGoes (cls : Nat → Addr) : Sp := fun vs H Q E => ∃ (l : Addr) (a b : Int) (p : Addr) (row : List Int), vs = [.ref l, .ref p] ∧ IsT H l a b ∧ IsL H p row ∧ OutsN cls (outRow a b row) (RetAny H Q) H E
theorem has_goes_on {cls : Nat → Addr} (D : DefAt K mg "goes_on" s_goes_on) (B : Bl mg) (G_see_row : Has P w K mg base (L2N.CX P w) 2 "see_row" ["letters", "row"] (spSeeRow cls)) (G_height_of : Has P w K mg base CX0 3 "height_of" ["letters", "row"] sp_height_of) : Has P w K mg base (L2N.CX P w) 4 "goes_on" ["letters", "row"] (spGoes cls) := by
  obtain ⟨f, fd, F, gf⟩ := D
  refine ⟨f, fd, okN F sc_goes_on (fun vs H Q E h => ?_) (fun cdv A outer s H vs Q E hr h => ?_), gf, F.kp, F.binds (ps := ["letters", "row"]) fun _ _ _ _ _ _ us hl => match us, hl with | [_, _], _ => rfl⟩
  · obtain ⟨l, a, b, p, row, rfl, _⟩ := h
    rfl
  · obtain ⟨l, a, b, p, row, rfl, hT, hp, q⟩ := h
    refine ⟨_, (pss_cons (ps_expr (pe_hasX G_see_row (hr.mono (by decide)) (by rfl) (L2N.takes_of rfl rfl rfl rfl) (pa_cons (pv 0) (pa_cons (pv 1) pa_nil))))
      (pss_cons (ps_set (i := 2) sc_goes_on.nd rfl (.inr rfl) (pe_callTy call_list_of (by rfl) B.list (by decide +kernel) (pa_cons (pv 1) pa_nil)))
      (pss_cons (ps_if (pt_cmpR op_isN (pe_has G_height_of (hr.mono (by decide)) (by rfl) pass0 (pa_cons (pv 0) (pa_cons (pv 2) pa_nil))) pe_non (nomark _)) (pss_one (ps_ret (pe_lst pa_nil))) pss_nil)
      (pss_one (ps_ret (pe_lc (own := [("sign", 3)]) (g := gName 3) rfl sc_goes_on.nd (pi_tup (pv 0)) (blkOk_by (own := [("sign", 3)]) (N := ["letters", "row", "here", "sign"]) (sc := defScope s_goes_on) (by decide +kernel)) (fun _ _ _ _ _ => pg_name (i := 3) sc_goes_on.nd rfl (Or.inl rfl)) (fun _ _ _ _ _ => (pts_one (pt_cmpR op_notN (pe_has G_height_of (hr.mono (by decide)) (by rfl) pass0 (pa_cons (pv 0) (pa_cons (pe_op op_cat (pv 2) (pe_lst (pa_cons (pv 3) pa_nil))) pa_nil))) pe_non (nomark _)))) (fun _ _ _ _ _ => (pv 3)))))))), ?_⟩
    refine q_dropX (ea_cons (ev_var rfl) (ea_cons (ev_var rfl) ea_nil)) fun H1 e1 => ⟨l, a, b, p, row, rfl, e1 l _ hT, e1 p _ hp, OutsN.mk (fun hl H1b e1b => ?_) (fun i hi H2 e2 => q.no hi H2 (e1.trans e2))⟩
    obtain ⟨hL, hn, hov⟩ := outRow_none hl
    have qq := q.yes hl
    have e1 := e1.trans e1b
    refine q_asgL (el_list (ev_var rfl) (ex_l e1 hp.at)) fun h H2 nh e2 hh => ?_
    have e12 := e1.trans e2
    have hh2 : IsL H2 h row := hh
    refine q_when (b := !(height a b row).isSome) (et_is (et_test (ev_op (ev_call (ea_cons (ev_var rfl) (ea_cons (ev_var rfl) ea_nil)) (sv_height_of (e12 l _ hT) hL hh2 (by omega))) ev_c rv_isN)) ?_) (fun hb H3 e3 => ?_) (fun hb H3 e3 => ?_)
    · cases height a b row with
      | none => exact is_non
      | some n => exact int_non
    · exact s_retL (el_lst ea_nil (Nat.zero_le _)) fun o H4 no e4 h4 => qq _ H4 ((e12.trans e3).trans e4)
    · have e13 := e12.trans e3
      have hh3 : IsL H3 h row := e3 h _ hh2
      refine s_retL (el_lcT (fun i => (height a b (row ++ [if i = 0 then a else b])).isSome) (fun i => .int (if i = 0 then a else b)) (ev_var rfl) (ex_t e13 hT.at) (show 2 ≤ 40000 by decide) (fun x => rfl) (fun i x H4 e4 hx => ?_) (fun i x H4 e4 hx _ => ?_)) fun o H4 no e4 h4 => ?_
      · obtain ⟨rfl, hi⟩ := get_two hx
        refine et_is (et_test (ev_op (ev_callR (ev_var rfl) (el_catN (ev_var rfl) (el_lst (ea_cons (ev_var rfl) ea_nil) (show 1 ≤ 100000 by decide)) (e4 h _ hh3) (by rw [List.length_map]; show row.length + 1 ≤ 100000; omega))
          fun p5 H5 h5 e5 => sv_height_of (row := row ++ [if i = 0 then a else b]) ((e13.trans (e4.trans e5)) l _ hT) hL (isl_snoc h5) (by rw [List.length_append]; show row.length + 1 ≤ 1000; omega)) ev_c rv_notN)) ?_
        cases height a b (row ++ [if i = 0 then a else b]) with
        | none =>
          rw [is_non]
          rfl
        | some n =>
          rw [int_non]
          rfl
      · obtain ⟨rfl, hi⟩ := get_two hx
        exact ev_var rfl
      · exact qq _ H4 (e13.trans e4)
abbrev s_all_smooth : Stmt := topS 21
theorem sc_all_smooth : FnScope ["letters", "many", "rows", "k", "longer", "row", "sign"] ["letters", "many"] (defScope s_all_smooth) := ⟨rfl, rfl, rfl, by decide +kernel, rfl, by decide +kernel, by decide +kernel⟩
def outAll (a b m : Int) : Option Nat := if Lets a b then (if 0 ≤ m ∧ m ≤ 10 then none else some 4) else some 0
def spAll (cls : Nat → Addr) : Sp := fun vs H Q E => ∃ (l : Addr) (a b m : Int), vs = [.ref l, .int m] ∧ IsT H l a b ∧ OutsN cls (outAll a b m) (RetRows (smoothR a b m.toNat) H Q) H E
theorem has_all_smooth {cls : Nat → Addr} (D : DefAt K mg "all_smooth" s_all_smooth) (B : Bl mg) (O_TooMany : Own K mg "TooMany" (cls 4)) (G_see_letters : Has P w K mg base (L2N.CX P w) 1 "see_letters" ["letters"] (spSeeLetters cls))
    (G_height_of : Has P w K mg base CX0 3 "height_of" ["letters", "row"] sp_height_of) : Has P w K mg base (L2N.CX P w) 4 "all_smooth" ["letters", "many"] (spAll cls) := by
  obtain ⟨f, fd, F, gf⟩ := D
  refine ⟨f, fd, okN F sc_all_smooth (fun vs H Q E h => ?_) (fun cdv A outer s H vs Q E hr h => ?_), gf, F.kp, F.binds (ps := ["letters", "many"]) fun _ _ _ _ _ _ us hl => match us, hl with | [_, _], _ => rfl⟩
  · obtain ⟨l, a, b, m, rfl, _⟩ := h
    rfl
  · obtain ⟨l, a, b, m, rfl, hT, q⟩ := h
    refine ⟨_, (pss_cons (ps_expr (pe_hasX G_see_letters (hr.mono (by decide)) (by rfl) (L2N.takes_of rfl rfl rfl rfl) (pa_cons (pv 0) pa_nil)))
      (pss_cons (ps_if (pt_not (pt_chain op_le op_le pe_int (pv 1) pe_int)) (pss_one (ps_own rfl O_TooMany (L2N.takes_of rfl rfl rfl rfl) (by rfl))) pss_nil)
      (pss_cons (ps_set (i := 2) sc_all_smooth.nd rfl (.inl rfl) (pe_lst (pa_cons (pe_lst pa_nil) pa_nil)))
      (pss_cons (ps_for (passes_of rfl) rfl (pi_range1 rfl B.range (pa_cons (pv 1) pa_nil)) (pg_name (i := 3) sc_all_smooth.nd rfl (.inl rfl)) (pss_cons (ps_set (i := 4) sc_all_smooth.nd rfl (.inl rfl) (pe_lst pa_nil))
      (pss_cons (ps_for (passes_of rfl) rfl (pi_list (pv 2)) (pg_name (i := 5) sc_all_smooth.nd rfl (.inl rfl)) (pss_one (ps_for (passes_of rfl) rfl (pi_tup (pv 0)) (pg_name (i := 6) sc_all_smooth.nd rfl (.inl rfl)) (pss_one (ps_if (pt_cmpR op_notN (pe_has G_height_of (hr.mono (by decide)) (by rfl) pass0 (pa_cons (pv 0) (pa_cons (pe_op op_cat (pv 5) (pe_lst (pa_cons (pv 6) pa_nil))) pa_nil))) pe_non (nomark _)) (pss_one (ps_expr (pe_bm PySem.F.plainAttrs_list PySem.F.slot_list_append PySem.F.type_list_append mt_append (pv 4) (pa_cons (pe_op op_cat (pv 5) (pe_lst (pa_cons (pv 6) pa_nil))) pa_nil)))) pss_nil)))))
      (pss_one (ps_set (i := 2) sc_all_smooth.nd rfl (.inl rfl) (pv 4))))))
      (pss_one (ps_ret (pv 2))))))), ?_⟩
    refine q_dropX (ea_cons (ev_var rfl) ea_nil) fun H1 e1 => ⟨l, a, b, rfl, e1 l _ hT, OutsN.mk (fun hl H2 e2 => ?_) (fun i hi H2 e2 => q.no (i := i) ?_ H2 (e1.trans e2))⟩
    · have hLs : Lets a b := by
        unfold outLet at hl
        by_cases c : Lets a b
        · exact c
        · rw [if_neg c] at hl
          cases hl
      have hL := hLs.let
      have hb2 := hL.two
      have e12 := e1.trans e2
      have hout : outAll a b m = if 0 ≤ m ∧ m ≤ 10 then none else some 4 := by
        unfold outAll
        rw [if_pos hLs]
      refine q_when (b := !decide (0 ≤ m ∧ m ≤ 10)) (et_is (et_not (et_test (ev_chain ev_c (ev_var rfl) ev_c))) (by by_cases c1 : 0 ≤ m <;> by_cases c2 : m ≤ 10 <;> simp [c1, c2])) (fun hb H3 e3 => q.no (i := 4) (by rw [hout, if_neg (no_of_not hb)]) H3 (e12.trans e3)) (fun hb H3 e3 => ?_)
      obtain ⟨h0, hm⟩ := yes_of_not hb
      have qq := q.yes (by rw [hout, if_pos ⟨h0, hm⟩])
      have e13 := e12.trans e3
      clear q hout hb
      obtain ⟨mn, rfl⟩ : ∃ mn : Nat, m = (mn : Int) := ⟨m.toNat, by omega⟩
      have small : ∀ n, n ≤ 10 → (smoothR a b n).length ≤ 1024 := fun n hn => by
        have h1 := smoothR_len (a := a) hb2 n
        have h2 : 2 ^ n ≤ 2 ^ 10 := Nat.pow_le_pow_right (by decide) hn
        omega
      refine q_asgR (er_nil1 (el_lst ea_nil (Nat.zero_le _))) fun o0 qs0 H4 no0 e4 ho0 hr0 hn0 => ?_
      have e14 := e13.trans e4
      refine q_forR1 (ea_cons (ev_var rfl) ea_nil) (by omega) (fun k σ' H' => ∃ (o : Addr) (qs : List Addr) (y3 y4 y5 y6 : Option V), σ' = [some (.ref l), some (.int (mn : Int)), some (.ref o), y3, y4, y5, y6] ∧ Ex H H' ∧ H o = none ∧ H' o = some (.lst (qs.map V.ref)) ∧ RowsAt H' qs (smoothR a b k) ∧ ∀ u ∈ qs, H u = none)
        (fun H5 e5 => ⟨o0, qs0, _, _, _, _, rfl, e14.trans e5, fresh_back e13 no0, e5 o0 _ ho0, hr0.mono e5, fun u hu => fresh_back e13 (hn0 u hu)⟩) (fun k σ' H' hk ⟨o, qs, y3, y4, y5, y6, es, e, no, ho, hr, hn⟩ => ?_) (fun σ' H' ⟨o, qs, y3, y4, y5, y6, es, e, no, ho, hr, hn⟩ => ?_)
      · subst es
        have hk10 : k < 10 := by omega
        have hql := hr.len
        have hsm := small k (by omega)
        refine q_asgL (el_lst ea_nil (Nat.zero_le _)) fun g H5 ng e5 hg => ?_
        have ng0 : H g = none := fresh_back e ng
        refine q_forLn (ev_var rfl) (ex_l e5 (sq_of ho)) (fun i σ' H6 => ∃ (us : List Addr) (y5 y6 : Option V), σ' = [some (.ref l), some (.int (mn : Int)), some (.ref o), some (.int (k : Int)), some (.ref g), y5, y6] ∧ Ex H' H6 ∧ H6 g = some (.lst (us.map V.ref)) ∧ RowsAt H6 us (((smoothR a b k).take i).flatMap (nextS a b)) ∧ ∀ u ∈ us, H' u = none)
          (fun H6 e6 => ⟨[], _, _, rfl, e5.trans e6, e6 g _ hg, .nil, fun _ h => nomatch h⟩) (fun i σ' H6 _ ⟨_, _, _, _, e, _⟩ => ex_l e (sq_of ho)) (fun i x σ' H6 hx ⟨us, y5, y6, es, e6, hg6, hr6, hn6⟩ => ?_) (fun σ' H6 ⟨us, y5, y6, es, e6, hg6, hr6, hn6⟩ => ?_)
        · subst es
          obtain ⟨u, hu, rfl⟩ := get_ref hx
          obtain ⟨r, hri, hur⟩ := hr.at hu
          have hrow := smoothR_row k r (List.mem_of_getElem? hri)
          have hil : i < (smoothR a b k).length := (List.getElem?_eq_some_iff.mp hri).1
          have e06 := e.trans e6
          have flen : ∀ (rs : List (List Int)), (rs.flatMap (nextS a b)).length ≤ rs.length * 2 := fun rs => by
            induction rs with
            | nil => exact Nat.zero_le _
            | cons r rs ih =>
              rw [List.flatMap_cons, List.length_append, List.length_cons]
              have : (nextS a b r).length ≤ 2 := by
                unfold nextS
                rw [List.length_map]
                exact List.length_filter_le _ [a, b]
              omega
          have hul := hr6.len
          have hfl := flen ((smoothR a b k).take i)
          rw [List.length_take] at hfl
          refine s_forTn (ev_var rfl) (ex_t e06 hT.at) (fun j σ' H7 => ∃ (vs : List Addr) (y6 : Option V), σ' = [some (.ref l), some (.int (mn : Int)), some (.ref o), some (.int (k : Int)), some (.ref g), some (.ref u), y6] ∧ Ex H' H7 ∧ H7 g = some (.lst (vs.map V.ref)) ∧ RowsAt H7 vs (((smoothR a b k).take i).flatMap (nextS a b) ++ ((([a, b].take j).filter fun s => (height a b (r ++ [s])).isSome).map fun s => r ++ [s])) ∧ (∀ u ∈ vs, H' u = none))
            (fun H7 e7 => ⟨us, y6, rfl, e6.trans e7, e7 g _ hg6, by
              show RowsAt H7 us (_ ++ [])
              rw [List.append_nil]
              exact hr6.mono e7, hn6⟩) (fun j σ' H7 _ ⟨_, _, _, e7, _⟩ => ex_t (e.trans e7) hT.at) (fun j x σ' H7 hx ⟨vs, y6, es, e7, hg7, hr7, hn7⟩ => ?_) (fun σ' H7 ⟨vs, y6, es, e7, hg7, hr7, hn7⟩ => ?_)
          · subst es
            obtain ⟨s, hs, rfl⟩ : ∃ s, [a, b][j]? = some s ∧ x = .int s := by
              match j, hx with
              | 0, hx => exact ⟨a, rfl, (Option.some.inj hx).symm⟩
              | 1, hx => exact ⟨b, rfl, (Option.some.inj hx).symm⟩
            have hsm2 : s = a ∨ s = b := by
              rcases List.mem_cons.mp (List.mem_of_getElem? hs) with z | z
              · exact .inl z
              · exact .inr (List.mem_singleton.mp z)
            have hl1 : (r ++ [s]).length ≤ 20 := by
              rw [List.length_append, hrow.1]
              show k + 1 ≤ 20
              omega
            have cat : ∀ {H8 : Hp} {σ8 : L2.St}, Ex H7 H8 → σ8[5]? = some (some (.ref u)) → σ8[6]? = some (some (.int s)) → EvL (tOp rCat (tVar 5) (tLst (tCons (tVar 6) tNil))) σ8 H8 ((r ++ [s]).map V.int) := fun e8 h5 h6 =>
              el_is (el_catN (ev_var h5) (el_lst (ea_cons (ev_var h6) ea_nil) (show 1 ≤ 100000 by decide)) ((e7.trans e8) u _ hur) (by rw [List.length_map, hrow.1]; show k + 1 ≤ 100000; omega)) (by rw [List.map_append]; rfl)
            refine s_when (b := (height a b (r ++ [s])).isSome) (et_is (et_test (ev_op (ev_callR (ev_var rfl) (cat (Ex.refl H7) rfl rfl) fun p8 H8 h8 e8 => sv_height_of ((e.trans (e7.trans e8)) l _ hT) hL h8 (by omega)) ev_c rv_notN)) (by
              cases height a b (r ++ [s]) with
              | none => rfl
              | some n => rfl)) (fun hb H8 e8 => ?_) (fun hb H8 e8 => ?_)
            · refine s_appL (e8 g _ hg7) (ev_var rfl) (cat e8 rfl rfl) (by
                have h1 := hr7.len
                rw [List.length_map, h1, List.length_append, List.length_map]
                have h2 := List.length_filter_le (fun s => (height a b (r ++ [s])).isSome) ([a, b].take j)
                have h3 : ([a, b].take j).length ≤ 2 := by
                  rw [List.length_take]
                  exact Nat.min_le_right _ _
                omega) fun p H9 np e9 hp => ?_
              have e79 := e8.trans e9
              have hne := hr7.ne hg7
              have hpg : p ≠ g := fun z => by
                rw [z, e8 g _ hg7] at np
                cases np
              refine ⟨vs ++ [p], _, rfl, Ex.mut (e7.trans e79) ng, ?_, ?_, fun w hw => ?_⟩
              · rw [upd_same, List.map_append]
                rfl
              · rw [take_next hs, List.filter_append, List.filter_cons, if_pos hb, List.map_append, ← List.append_assoc]
                refine RowsAt.append ((hr7.mono e79).upd hne) (RowsAt.one ?_)
                rw [upd_ne hpg]
                exact hp
              · rcases List.mem_append.mp hw with c | c
                · exact hn7 w c
                · cases List.mem_singleton.mp c
                  exact fresh_back (e7.trans e8) np
            · refine ⟨vs, _, rfl, e7.trans e8, e8 g _ hg7, ?_, hn7⟩
              rw [take_next hs, List.filter_append, List.filter_cons, if_neg (by rw [hb]; decide), List.filter_nil, List.append_nil]
              exact hr7.mono e8
          · subst es
            refine ⟨vs, _, _, rfl, e7, hg7, ?_, hn7⟩
            rw [take_next hri, List.flatMap_append]
            have : [r].flatMap (nextS a b) = nextS a b r := by
              rw [List.flatMap_cons, List.flatMap_nil, List.append_nil]
            rw [this]
            exact hr7
        · subst es
          rw [List.length_map, hql, List.take_length] at hr6
          refine s_asg (ev_var rfl) fun H7 e7 => ⟨g, us, _, _, _, _, rfl, (e.trans e6).trans e7, ng0, e7 g _ hg6, hr6.mono e7, fun u hu => fresh_back e (hn6 u hu)⟩
      · subst es
        rw [Int.toNat_natCast] at hr
        exact s_ret (ev_var rfl) fun H5 e5 => qq o qs H5 no (e.trans e5) (e5 o _ ho) (by rw [Int.toNat_natCast]; exact hr.mono e5) hn
    · unfold outLet at hi
      unfold outAll
      by_cases c : Lets a b
      · rw [if_pos c] at hi
        cases hi
      · rw [if_neg c] at hi ⊢
        exact hi
abbrev s_shown : Stmt := topS 23
theorem sc_shown : FnScope ["letters", "row", "sign"] ["letters", "row"] (defScope s_shown) := ⟨rfl, rfl, rfl, by decide +kernel, rfl, by decide +kernel, by decide +kernel⟩
def spShown (cls : Nat → Addr) : Sp := fun vs H Q E => ∃ (l : Addr) (a b : Int) (p : Addr) (row : List Int), vs = [.ref l, .ref p] ∧ IsT H l a b ∧ IsL H p row ∧ OutsN cls (outRow a b row) (RetV (.str (ST (row.map digitOf))) H Q) H E
theorem has_shown {cls : Nat → Addr} (D : DefAt K mg "shown" s_shown) (B : Bl mg) (G_see_row : Has P w K mg base (L2N.CX P w) 2 "see_row" ["letters", "row"] (spSeeRow cls)) : Has P w K mg base (L2N.CX P w) 3 "shown" ["letters", "row"] (spShown cls) := by
  obtain ⟨f, fd, F, gf⟩ := D
  refine ⟨f, fd, okN F sc_shown (fun vs H Q E h => ?_) (fun cdv A outer s H vs Q E hr h => ?_), gf, F.kp, F.binds (ps := ["letters", "row"]) fun _ _ _ _ _ _ us hl => match us, hl with | [_, _], _ => rfl⟩
  · obtain ⟨l, a, b, p, row, rfl, _⟩ := h
    rfl
  · obtain ⟨l, a, b, p, row, rfl, hT, hp, q⟩ := h
    refine ⟨_, (pss_cons (ps_expr (pe_hasX G_see_row (hr.mono (by decide)) (by rfl) (L2N.takes_of rfl rfl rfl rfl) (pa_cons (pv 0) (pa_cons (pv 1) pa_nil))))
      (pss_one (ps_ret (pe_m1 PySem.F.slot_str_join PySem.F.type_str_join (show MtR _ "str.join" (rJoin K) from mt_join) pe_str (pe_lc (own := [("sign", 2)]) (g := gName 2) (tt := tYes) rfl sc_shown.nd (pi_list (pv 1)) (blkOk_by (own := [("sign", 2)]) (N := ["letters", "row", "sign"]) (sc := defScope s_shown) (by decide +kernel)) (fun _ _ _ _ _ => pg_name (i := 2) sc_shown.nd rfl (Or.inl rfl)) (fun _ _ _ _ _ => pts_nil) (fun _ _ _ _ _ => (pe_callTy call_str_int (by rfl) B.str (by decide +kernel) (pa_cons (pv 2) pa_nil)))))))), ?_⟩
    refine q_dropX (ea_cons (ev_var rfl) (ea_cons (ev_var rfl) ea_nil)) fun H1 e1 => ⟨l, a, b, p, row, rfl, e1 l _ hT, e1 p _ hp, OutsN.mk (fun hl H2 e2 => ?_) (fun i hi H2 e2 => q.no hi H2 (e1.trans e2))⟩
    obtain ⟨hL, hn, hov⟩ := outRow_none hl
    have e12 := e1.trans e2
    refine s_ret (ev_join1 (l := row.map digitOf) ev_c (el_is (el_lcL (fun _ => true) (fun i => .str (ST [digitOf (row.getD i 0)])) (ev_var rfl) (ex_l e12 hp.at) (by rw [List.length_map]; omega) (fun x => rfl) (fun i x H2 _ _ => et_yes) (fun i x H3 e3 hx _ => ?_)) ?_) (by rw [List.length_map]; omega)) fun H3 e3 => (q.yes hl) H3 (e12.trans e3)
    · obtain ⟨z, hz, rfl⟩ := get_map hx
      have hg : row.getD i 0 = z := by
        rw [List.getD_eq_getElem?_getD, hz]
        rfl
      rw [hg]
      have h1 := hov z (List.mem_of_getElem? hz)
      have := hL.lo
      have := hL.lt
      have := hL.hi
      exact ev_strI (ev_var rfl) (by omega)
    · rw [List.length_map]
      unfold given
      rw [List.filter_eq_self.mpr (fun _ _ => rfl), List.map_map]
      refine List.ext_getElem? fun i => ?_
      rw [List.getElem?_map, List.getElem?_map]
      by_cases c : i < row.length
      · rw [List.getElem?_range c, List.getElem?_eq_getElem c]
        simp [List.getD_eq_getElem?_getD, List.getElem?_eq_getElem c]
      · rw [List.getElem?_eq_none (by rw [List.length_range]; omega), List.getElem?_eq_none (by omega)]
        rfl
abbrev s_read : Stmt := topS 24
theorem sc_read : FnScope ["letters", "text", "row", "sign"] ["letters", "text"] (defScope s_read) := ⟨rfl, rfl, rfl, by decide +kernel, rfl, by decide +kernel, by decide +kernel⟩
/-- a sign of a text that stands for one of the two -/
def okC (a b : Int) (c : Nat) : Prop := valOf c = a ∨ valOf c = b
instance (a b : Int) (c : Nat) : Decidable (okC a b c) := by
  unfold okC
  exact inferInstance
def outRead (a b : Int) (t : List Nat) : Option Nat := if Lets a b then (if ∀ c ∈ t, okC a b c then none else some 5) else some 0
def spRead (cls : Nat → Addr) : Sp := fun vs H Q E => ∃ (l : Addr) (a b : Int) (z : Str) (t : List Nat), vs = [.ref l, .str z] ∧ IsT H l a b ∧ z.cps.toList = t ∧ t.length ≤ 1000 ∧ OutsN cls (outRead a b t) (RetL ((t.map valOf).map V.int) H Q) H E
theorem has_read {cls : Nat → Addr} (D : DefAt K mg "read" s_read) (B : Bl mg) (O_BadText : Own K mg "BadText" (cls 5)) (G_see_letters : Has P w K mg base (L2N.CX P w) 1 "see_letters" ["letters"] (spSeeLetters cls)) : Has P w K mg base (L2N.CX P w) 2 "read" ["letters", "text"] (spRead cls) := by
  obtain ⟨f, fd, F, gf⟩ := D
  refine ⟨f, fd, okN F sc_read (fun vs H Q E h => ?_) (fun cdv A outer s H vs Q E hr h => ?_), gf, F.kp, F.binds (ps := ["letters", "text"]) fun _ _ _ _ _ _ us hl => match us, hl with | [_, _], _ => rfl⟩
  · obtain ⟨l, a, b, z, t, rfl, _⟩ := h
    rfl
  · obtain ⟨l, a, b, z, t, rfl, hT, hz, hn, q⟩ := h
    refine ⟨_, (pss_cons (ps_expr (pe_hasX G_see_letters (hr.mono (by decide)) (by rfl) (L2N.takes_of rfl rfl rfl rfl) (pa_cons (pv 0) pa_nil)))
      (pss_cons (ps_set (i := 2) sc_read.nd rfl (.inl rfl) (pe_lst pa_nil))
      (pss_cons (ps_for (passes_of rfl) rfl (pi_str (pv 1)) (pg_name (i := 3) sc_read.nd rfl (.inl rfl)) (pss_one (ps_if (pt_cmpR op_eq (pv 3) (pe_callTy call_str_int (by rfl) B.str (by decide +kernel) (pa_cons (pe_ix ix_tup (pv 0) pe_int (fun _ _ => rfl)) pa_nil)) (nomark _)) (pss_one (ps_expr (pe_bm PySem.F.plainAttrs_list PySem.F.slot_list_append PySem.F.type_list_append mt_append (pv 2) (pa_cons (pe_ix ix_tup (pv 0) pe_int (fun _ _ => rfl)) pa_nil)))) (pss_one (ps_if (pt_cmpR op_eq (pv 3) (pe_callTy call_str_int (by rfl) B.str (by decide +kernel) (pa_cons (pe_ix ix_tup (pv 0) pe_int (fun _ _ => rfl)) pa_nil)) (nomark _)) (pss_one (ps_expr (pe_bm PySem.F.plainAttrs_list PySem.F.slot_list_append PySem.F.type_list_append mt_append (pv 2) (pa_cons (pe_ix ix_tup (pv 0) pe_int (fun _ _ => rfl)) pa_nil)))) (pss_one (ps_own rfl O_BadText (L2N.takes_of rfl rfl rfl rfl) (by rfl))))))))
      (pss_one (ps_ret (pv 2)))))), ?_⟩
    refine q_dropX (ea_cons (ev_var rfl) ea_nil) fun H1 e1 => ⟨l, a, b, rfl, e1 l _ hT, OutsN.mk (fun hl H2 e2 => ?_) (fun i hi H2 e2 => q.no (i := i) ?_ H2 (e1.trans e2))⟩
    · have hL : Lets a b := by
        unfold outLet at hl
        by_cases c : Lets a b
        · exact c
        · rw [if_neg c] at hl
          cases hl
      have h1 := hL.1
      have h2 := hL.2.1
      have h3 := hL.2.2
      have e12 := e1.trans e2
      have hout : outRead a b t = if ∀ c ∈ t, okC a b c then none else some 5 := by
        unfold outRead
        rw [if_pos hL]
      refine q_asgL (el_lst ea_nil (Nat.zero_le _)) fun o H3 no e3 ho => ?_
      have no' : H o = none := fresh_back e12 no
      have e13 := e12.trans e3
      refine q_forS (ev_var rfl) hz (fun i σ' H' => (∃ y, σ' = [some (.ref l), some (.str z), some (.ref o), y]) ∧ Ex H H' ∧ IsL H' o ((t.take i).map valOf) ∧ ∀ c ∈ t.take i, okC a b c)
        (fun H4 e4 => ⟨⟨_, rfl⟩, e13.trans e4, e4 o _ ho, fun c hc => by simp at hc⟩) (fun i c σ' H' hx ⟨⟨y, es⟩, e, ho', hok⟩ => ?_) (fun σ' H' ⟨⟨y, es⟩, e, ho', hok⟩ => ?_)
      · subst es
        have hi := (List.getElem?_eq_some_iff.mp hx).1
        have hlen : (((t.take i).map valOf).map V.int).length < 100000 := by
          rw [List.length_map, List.length_map, List.length_take]
          omega
        have eqs : ∀ v : Int, 1 ≤ v → v ≤ 9 → decide (V.str (ST [c]) = V.str (ST [digitOf v])) = decide (valOf c = v) := fun v hv1 hv2 => by
          have : (V.str (ST [c]) = V.str (ST [digitOf v])) ↔ valOf c = v := by
            unfold valOf digitOf
            constructor
            · intro h
              injection h with h
              have := congrArg (fun x : Str => x.cps.toList) h
              simp at this
              omega
            · intro h
              have : c = 48 + v.toNat := by omega
              rw [this]
          simp only [this]
        have more : okC a b c → ∀ x ∈ t.take (i + 1), okC a b x := fun hc x hxm => by
          rw [take_next hx] at hxm
          rcases List.mem_append.mp hxm with k | k
          · exact hok x k
          · cases List.mem_singleton.mp k
            exact hc
        have grown : ∀ (v : Int), valOf c = v → ((t.take i).map valOf).map V.int ++ [.int v] = ((t.take (i + 1)).map valOf).map V.int := fun v hv => by
          rw [take_next hx, List.map_append, List.map_append, ← hv]
          rfl
        refine s_if (b := decide (valOf c = a)) (et_is (et_test (ev_op (ev_var rfl) (ev_strI (ev_op (ev_var rfl) ev_c (rv_ixT (ex_t e hT.at) rfl)) (by omega)) (rv_eq rfl))) (eqs a h1 (by omega))) (fun hb H4 e4 => ?_) (fun hb H4 e4 => ?_)
        · have hc := of_decide_eq_true hb
          refine s_app (e4 o _ ho') (ev_var rfl) (ev_op (ev_var rfl) ev_c (rv_ixT (ex_t (e.trans e4) hT.at) rfl)) hlen fun H5 e5 => ⟨⟨_, rfl⟩, Ex.mut ((e.trans e4).trans e5) no', ?_, more (.inl hc)⟩
          show upd H5 o _ o = _
          rw [upd_same, grown a hc]
        · have hc := of_decide_eq_false hb
          refine s_if (b := decide (valOf c = b)) (et_is (et_test (ev_op (ev_var rfl) (ev_strI (ev_op (ev_var rfl) ev_c (rv_ixT (ex_t (e.trans e4) hT.at) rfl)) (by omega)) (rv_eq rfl))) (eqs b (by omega) (by omega))) (fun hb2 H5 e5 => ?_) (fun hb2 H5 e5 => ?_)
          · have hc2 := of_decide_eq_true hb2
            have e45 := e4.trans e5
            refine s_app (e45 o _ ho') (ev_var rfl) (ev_op (ev_var rfl) ev_c (rv_ixT (ex_t (e.trans e45) hT.at) rfl)) hlen fun H6 e6 => ⟨⟨_, rfl⟩, Ex.mut ((e.trans e45).trans e6) no', ?_, more (.inr hc2)⟩
            show upd H6 o _ o = _
            rw [upd_same, grown b hc2]
          · have hc2 := of_decide_eq_false hb2
            refine q.no (i := 5) ?_ H5 ((e.trans e4).trans e5)
            rw [hout, if_neg]
            intro all
            rcases all c (List.mem_of_getElem? hx) with k | k
            · exact hc k
            · exact hc2 k
      · subst es
        rw [List.take_length] at ho' hok
        exact s_ret (ev_var rfl) fun H6 e6 => (q.yes (by rw [hout, if_pos hok])) o H6 no' (e.trans e6) (e6 o _ ho')
    · unfold outLet at hi
      unfold outRead
      by_cases c : Lets a b
      · rw [if_pos c] at hi
        cases hi
      · rw [if_neg c] at hi ⊢
        exact hi
/-! ### own rows -/
abbrev s_own_row : Stmt := topS 26
theorem sc_own_row : FnScope ["letters", "sign", "many", "row", "run", "length"] ["letters", "sign", "many"] (defScope s_own_row) := ⟨rfl, rfl, rfl, by decide +kernel, rfl, by decide +kernel, by decide +kernel⟩
def spOwnRow : Sp := fun vs H Q _ => ∃ (l : Addr) (a b s m : Int), vs = [.ref l, .int s, .int m] ∧ IsT H l a b ∧ Let a b ∧ (s = a ∨ s = b) ∧ 0 ≤ m ∧ m ≤ 1000 ∧ RetOwn a b s m H Q
theorem has_own_row (D : DefAt K mg "own_row" s_own_row) (B : Bl mg) (G_other : Has P w K mg base CX0 1 "other" ["letters", "sign"] spOther) : Has P w K mg base CX0 2 "own_row" ["letters", "sign", "many"] spOwnRow := by
  obtain ⟨f, fd, F, gf⟩ := D
  refine ⟨f, fd, F.ok sc_own_row (fun vs H Q E h => ?_) (fun cdv A outer s H vs Q E hr h => ?_), gf, F.kp, F.binds (ps := ["letters", "sign", "many"]) fun _ _ _ _ _ _ us hl => match us, hl with | [_, _, _], _ => rfl⟩
  · obtain ⟨l, a, b, s, m, rfl, _⟩ := h
    rfl
  · obtain ⟨l, a, b, sn, m, rfl, hT, hL, hs, h0, hm, q⟩ := h
    have ha := hL.lo
    have hab := hL.lt
    have hb9 := hL.hi
    refine ⟨_, (pss_cons (ps_set (i := 3) sc_own_row.nd rfl (.inl rfl) (pe_lst pa_nil))
      (pss_cons (ps_set (i := 4) sc_own_row.nd rfl (.inl rfl) pe_int)
      (pss_cons (ps_while PassesOwn.never (pt_cmpR op_lt (pe_callB call_len_seq (by rfl) B.len PySem.boot_len (pa_cons (pv 3) pa_nil)) (pv 2) (nomark _)) (pss_cons (ps_set (i := 5) sc_own_row.nd rfl (.inl rfl) (pv 1))
      (pss_cons (ps_if (pt_cmpR op_lt (pv 4) (pe_callB call_len_seq (by rfl) B.len PySem.boot_len (pa_cons (pv 3) pa_nil)) (nomark _)) (pss_one (ps_set (i := 5) sc_own_row.nd rfl (.inl rfl) (pe_ix ix_list (pv 3) (pv 4) (fun _ _ => rfl)))) pss_nil)
      (pss_cons (ps_expr (pe_bm PySem.F.plainAttrs_list PySem.F.slot_list_extend PySem.F.type_list_extend mt_extend (pv 3) (pa_cons (pe_op op_rep (pe_lst (pa_cons (pv 1) pa_nil)) (pv 5)) pa_nil)))
      (pss_cons (ps_set (i := 1) sc_own_row.nd rfl (.inl rfl) (pe_has G_other (hr.mono (by decide)) (by rfl) pass0 (pa_cons (pv 0) (pa_cons (pv 1) pa_nil))))
      (pss_one (ps_set (i := 4) sc_own_row.nd rfl (.inl rfl) (pe_op op_add (pv 4) pe_int))))))))
      (pss_one (ps_ret (pv 3)))))), ?_⟩
    refine q_asgL (el_lst ea_nil (Nat.zero_le _)) fun o H1 no e1 h1 => ?_
    refine q_asg ev_c fun H2 e2 => ?_
    refine q_while (fun k σ' H' => ∃ (n : Nat) (y : Option V), σ' = [some (.ref l), some (.int (sg a b sn n)), some (.int m), some (.ref o), some (.int (n : Int)), y] ∧ Ex H H' ∧ IsL H' o (ownR a b sn n) ∧ ((ownR a b sn n).length : Int) ≤ m + 9 ∧ k = 2000 - (ownR a b sn n).length) 2000
      ⟨0, none, rfl, e1.trans e2, e2 o _ h1, (show ((0 : Nat) : Int) ≤ m + 9 by omega), rfl⟩ (fun k σ' H' ⟨n, y, es, e, ho, hle, hk⟩ => ?_)
    subst es
    have hlen := ownR_len ha hab hs n
    refine ⟨decide (((ownR a b sn n).length : Int) < m), et_test (ev_op (ev_lenI (ev_var rfl) ho.at) (ev_var rfl) rv_I0), fun hb H3 e3 => ?_, fun hb H3 e3 => ?_⟩
    · have hlt := of_decide_eq_true hb
      have ho3 : IsL H3 o (ownR a b sn n) := e3 o _ ho
      have hno := next_over (a := a) (b := b) (s := sn) hs n
      generalize hx : (ownR a b sn n).getD n (sg a b sn n) = x at hno
      have hnx : ownR a b sn (n + 1) = ownR a b sn n ++ List.replicate x.toNat (sg a b sn n) := by
        rw [← hx]
        rfl
      refine ⟨fun σ2 H4 => ∃ (y : Option V), σ2 = [some (.ref l), some (.int (sg a b sn (n + 1))), some (.int m), some (.ref o), some (.int ((n + 1 : Nat) : Int)), y] ∧ Ex H H4 ∧ IsL H4 o (ownR a b sn (n + 1)) ∧ ((ownR a b sn (n + 1)).length : Int) ≤ m + 9, fun σ2 H4 ⟨y2, es, e4, h4, hl4⟩ => ?_, ?_⟩
      · refine ⟨2000 - (ownR a b sn (n + 1)).length, ?_, n + 1, y2, es, e4, h4, hl4, rfl⟩
        rw [hk, hnx, List.length_append, List.length_replicate]
        omega
      · refine q_asg (ev_var rfl) fun H4 e4 => ?_
        have e34 := e3.trans e4
        -- if run < len(row): length = row[run]
        refine q_ifAsg (v := .int x) (b := decide ((n : Int) < ((ownR a b sn n).length : Int))) (et_test (ev_op (ev_var rfl) (ev_lenI (ev_var rfl) (ex_l e34 ho.at)) rv_I0)) (fun hb2 => ?_) (fun hb2 => ?_) fun H5 e5 => ?_
        · have hn2 : n < (ownR a b sn n).length := by
            have := of_decide_eq_true hb2
            omega
          refine ev_ixI (ev_var rfl) (ev_var rfl) (ex_l e34 ho.at) (at_int ?_)
          rw [List.getD_eq_getElem?_getD, List.getElem?_eq_getElem hn2] at hx
          rw [List.getElem?_eq_getElem hn2]
          exact congrArg some hx
        · have hn2 : (ownR a b sn n).length ≤ n := by
            have := of_decide_eq_false hb2
            omega
          rw [List.getD_eq_getElem?_getD, List.getElem?_eq_none hn2] at hx
          have hx2 : sg a b sn n = x := hx
          rw [hx2]
          rfl
        · have e35 := e34.trans e5
          refine q_ext (e35 o _ ho) (ev_var rfl) (el_rep (el_lst (ea_cons (ev_var rfl) ea_nil) (show 1 ≤ 100000 by decide)) (ev_var rfl) ⟨by omega, by omega⟩ (show 1 ≤ 1000 by decide)) (by
            rw [rep_one, List.length_map, List.length_map, List.length_replicate]
            omega) fun H6 e6 => ?_
          have e7 := Ex.mut ((e.trans e35).trans e6) (o := .lst ((ownR a b sn n).map V.int ++ (List.replicate x.toNat [V.int (sg a b sn n)]).flatten)) no
          refine q_asg (ev_call (ea_cons (ev_var rfl) (ea_cons (ev_var rfl) ea_nil)) (sv_other (e7 l _ hT))) fun H8 e8 => ?_
          refine s_asg (ev_op (ev_var rfl) ev_c rv_I0) fun H9 e9 => ?_
          refine ⟨_, rfl, (e7.trans e8).trans e9, ?_, ?_⟩
          · refine (e8.trans e9) o _ ?_
            rw [upd_same, rep_one, ← List.map_append, hnx]
          · rw [hnx, List.length_append, List.length_replicate]
            omega
    · have hge := of_decide_eq_false hb
      exact s_ret (ev_var rfl) fun H4 e4 => q n (by omega) hle o H4 no ((e.trans e3).trans e4) ((e3.trans e4) o _ ho)
abbrev s_own : Stmt := topS 27
theorem sc_own : FnScope ["letters", "sign", "many"] ["letters", "sign", "many"] (defScope s_own) := ⟨rfl, rfl, rfl, by decide +kernel, rfl, by decide +kernel, by decide +kernel⟩
def spOwn (cls : Nat → Addr) : Sp := fun vs H Q E => ∃ (l : Addr) (a b s m : Int), vs = [.ref l, .int s, .int m] ∧ IsT H l a b ∧ OutsN cls (outMany a b s m 400) (RetL ((own a b s m.toNat).map V.int) H Q) H E
theorem has_own {cls : Nat → Addr} (D : DefAt K mg "own" s_own) (O_TooMany : Own K mg "TooMany" (cls 4)) (G_see_sign : Has P w K mg base (L2N.CX P w) 2 "see_sign" ["letters", "sign"] (spSeeSign cls)) (G_own_row : Has P w K mg base CX0 2 "own_row" ["letters", "sign", "many"] spOwnRow) :
    Has P w K mg base (L2N.CX P w) 3 "own" ["letters", "sign", "many"] (spOwn cls) := by
  obtain ⟨f, fd, F, gf⟩ := D
  refine ⟨f, fd, okN F sc_own (fun vs H Q E h => ?_) (fun cdv A outer s H vs Q E hr h => ?_), gf, F.kp, F.binds (ps := ["letters", "sign", "many"]) fun _ _ _ _ _ _ us hl => match us, hl with | [_, _, _], _ => rfl⟩
  · obtain ⟨l, a, b, s, m, rfl, _⟩ := h
    rfl
  · obtain ⟨l, a, b, sn, m, rfl, hT, q⟩ := h
    refine ⟨_, (pss_cons (ps_expr (pe_hasX G_see_sign (hr.mono (by decide)) (by rfl) (L2N.takes_of rfl rfl rfl rfl) (pa_cons (pv 0) (pa_cons (pv 1) pa_nil))))
      (pss_cons (ps_if (pt_not (pt_chain op_le op_le pe_int (pv 2) pe_int)) (pss_one (ps_own rfl O_TooMany (L2N.takes_of rfl rfl rfl rfl) (by rfl))) pss_nil)
      (pss_one (ps_ret (pe_slice sl_list (pe_has G_own_row (hr.mono (by decide)) (by rfl) pass0 (pa_cons (pv 0) (pa_cons (pv 1) (pa_cons (pv 2) pa_nil)))) po_none (po_some (pv 2))))))), ?_⟩
    refine q_dropX (ea_cons (ev_var rfl) (ea_cons (ev_var rfl) ea_nil)) fun H1 e1 => ⟨l, a, b, sn, rfl, e1 l _ hT, OutsN.mk (fun hl H2 e2 => ?_) (fun i hi H2 e2 => q.no (i := i) (by unfold outMany; rw [hi]) H2 (e1.trans e2))⟩
    obtain ⟨hL, hs⟩ := outSign_none hl
    have e12 := e1.trans e2
    have ho : outMany a b sn m 400 = if 0 ≤ m ∧ m ≤ 400 then none else some 4 := by
      unfold outMany
      rw [hl]
    refine q_when (b := !decide (0 ≤ m ∧ m ≤ 400)) (et_is (et_not (et_test (ev_chain ev_c (ev_var rfl) ev_c))) (by by_cases c1 : 0 ≤ m <;> by_cases c2 : m ≤ 400 <;> simp [c1, c2])) (fun hb H3 e3 => q.no (i := 4) (by rw [ho, if_neg (no_of_not hb)]) H3 (e12.trans e3)) (fun hb H3 e3 => ?_)
    obtain ⟨h0, hm⟩ := yes_of_not hb
    have qq := q.yes (by rw [ho, if_pos ⟨h0, hm⟩])
    have e13 := e12.trans e3
    refine ⟨_, rfl, _, rfl, _, rfl, l, a, b, sn, m, rfl, e13 l _ hT, hL, hs, h0, by omega, fun n hn _ p H4 np e4 hp => ?_⟩
    refine ⟨_, rfl, m, rfl, p, _, rfl, sq_of hp, fun o no => qq o _ (fresh_back (e13.trans e4) no) ((e13.trans e4).trans (Ex.new no)) ?_⟩
    rw [upd_same, cut_toI _ h0, own_of hL.lo hL.lt hs (by omega)]
abbrev s_own_runs : Stmt := topS 28
theorem sc_own_runs : FnScope ["letters", "sign", "many", "row", "found", "place", "run"] ["letters", "sign", "many"] (defScope s_own_runs) := ⟨rfl, rfl, rfl, by decide +kernel, rfl, by decide +kernel, by decide +kernel⟩
def spOwnRuns (cls : Nat → Addr) : Sp := fun vs H Q E => ∃ (l : Addr) (a b s m : Int), vs = [.ref l, .int s, .int m] ∧ IsT H l a b ∧ OutsN cls (outMany a b s m 60) (RetRuns a b s m.toNat H Q) H E
theorem has_own_runs {cls : Nat → Addr} (D : DefAt K mg "own_runs" s_own_runs) (B : Bl mg) (O_TooMany : Own K mg "TooMany" (cls 4)) (G_see_sign : Has P w K mg base (L2N.CX P w) 2 "see_sign" ["letters", "sign"] (spSeeSign cls)) (G_own_row : Has P w K mg base CX0 2 "own_row" ["letters", "sign", "many"] spOwnRow) (G_other : Has P w K mg base CX0 1 "other" ["letters", "sign"] spOther) :
    Has P w K mg base (L2N.CX P w) 3 "own_runs" ["letters", "sign", "many"] (spOwnRuns cls) := by
  obtain ⟨f, fd, F, gf⟩ := D
  refine ⟨f, fd, okN F sc_own_runs (fun vs H Q E h => ?_) (fun cdv A outer s H vs Q E hr h => ?_), gf, F.kp, F.binds (ps := ["letters", "sign", "many"]) fun _ _ _ _ _ _ us hl => match us, hl with | [_, _, _], _ => rfl⟩
  · obtain ⟨l, a, b, s, m, rfl, _⟩ := h
    rfl
  · obtain ⟨l, a, b, sn, m, rfl, hT, q⟩ := h
    refine ⟨_, (pss_cons (ps_expr (pe_hasX G_see_sign (hr.mono (by decide)) (by rfl) (L2N.takes_of rfl rfl rfl rfl) (pa_cons (pv 0) (pa_cons (pv 1) pa_nil))))
      (pss_cons (ps_if (pt_not (pt_chain op_le op_le pe_int (pv 2) pe_int)) (pss_one (ps_own rfl O_TooMany (L2N.takes_of rfl rfl rfl rfl) (by rfl))) pss_nil)
      (pss_cons (ps_set (i := 3) sc_own_runs.nd rfl (.inl rfl) (pe_has G_own_row (hr.mono (by decide)) (by rfl) pass0 (pa_cons (pv 0) (pa_cons (pv 1) (pa_cons (pv 2) pa_nil)))))
      (pss_cons (ps_set (i := 4) sc_own_runs.nd rfl (.inl rfl) (pe_lst pa_nil))
      (pss_cons (ps_set (i := 5) sc_own_runs.nd rfl (.inl rfl) pe_int)
      (pss_cons (ps_for (passes_of rfl) rfl (pi_range1 rfl B.range (pa_cons (pv 2) pa_nil)) (pg_name (i := 6) sc_own_runs.nd rfl (.inl rfl)) (pss_cons (ps_expr (pe_bm PySem.F.plainAttrs_list PySem.F.slot_list_append PySem.F.type_list_append mt_append (pv 4) (pa_cons (pe_tup (pa_cons (pv 1) (pa_cons (pv 5) (pa_cons (pe_ix ix_list (pv 3) (pv 6) (fun _ _ => rfl)) pa_nil)))) pa_nil)))
      (pss_cons (ps_set (i := 5) sc_own_runs.nd rfl (.inl rfl) (pe_op op_add (pv 5) (pe_ix ix_list (pv 3) (pv 6) (fun _ _ => rfl))))
      (pss_one (ps_set (i := 1) sc_own_runs.nd rfl (.inl rfl) (pe_has G_other (hr.mono (by decide)) (by rfl) pass0 (pa_cons (pv 0) (pa_cons (pv 1) pa_nil))))))))
      (pss_one (ps_ret (pv 4))))))))), ?_⟩
    refine q_dropX (ea_cons (ev_var rfl) (ea_cons (ev_var rfl) ea_nil)) fun H1 e1 => ⟨l, a, b, sn, rfl, e1 l _ hT, OutsN.mk (fun hl H2 e2 => ?_) (fun i hi H2 e2 => q.no (i := i) (by unfold outMany; rw [hi]) H2 (e1.trans e2))⟩
    obtain ⟨hL, hs⟩ := outSign_none hl
    have ho : outMany a b sn m 60 = if 0 ≤ m ∧ m ≤ 60 then none else some 4 := by
      unfold outMany
      rw [hl]
    refine q_when (b := !decide (0 ≤ m ∧ m ≤ 60)) (et_is (et_not (et_test (ev_chain ev_c (ev_var rfl) ev_c))) (by by_cases c1 : 0 ≤ m <;> by_cases c2 : m ≤ 60 <;> simp [c1, c2])) (fun hb H3 e3 => q.no (i := 4) (by rw [ho, if_neg (no_of_not hb)]) H3 ((e1.trans e2).trans e3)) (fun hb H3 e3 => ?_)
    obtain ⟨h0, hm⟩ := yes_of_not hb
    have qq := q.yes (by rw [ho, if_pos ⟨h0, hm⟩])
    have e12 := (e1.trans e2).trans e3
    clear q ho hb
    refine q_asgC (ea_cons (ev_var rfl) (ea_cons (ev_var rfl) (ea_cons (ev_var rfl) ea_nil))) fun H3 e3 => ?_
    have e13 := e12.trans e3
    refine ⟨l, a, b, sn, m, rfl, e13 l _ hT, hL, hs, h0, by omega, fun n hn _ p H4 np e4 hp => ?_⟩
    have e14 := e13.trans e4
    refine q_asgL (el_lst ea_nil (Nat.zero_le _)) fun o H5 no e5 ho => ?_
    have no' : H o = none := fresh_back e14 no
    refine q_asg ev_c fun H6 e6 => ?_
    have hpo : p ≠ o := ne_of_none hp no
    obtain ⟨mn, hmn⟩ : ∃ mn : Nat, m = (mn : Int) := ⟨m.toNat, by omega⟩
    subst hmn
    refine q_forR1 (ea_cons (ev_var rfl) ea_nil) (by omega) (fun i σ' H' => ∃ (y : Option V) (ps : List Addr), σ' = [some (.ref l), some (.int (sg a b sn i)), some (.int (mn : Int)), some (.ref p), some (.ref o), some (.int ((own a b sn mn).take i).sum), y] ∧ Ex H H' ∧ IsL H' p (ownR a b sn n) ∧ H' o = some (.lst (ps.map V.ref)) ∧ ps.length = i ∧
        ∀ j pj, ps[j]? = some pj → ∃ z, (own a b sn mn)[j]? = some z ∧ H' pj = some (.tup [.int (sg a b sn j), .int ((own a b sn mn).take j).sum, .int z]) ∧ pj ≠ o)
      (fun H7 e7 => ⟨none, [], rfl, ((e14.trans e5).trans e6).trans e7, ((e5.trans e6).trans e7) p _ hp, (e6.trans e7) o _ ho, rfl, fun j pj h => by simp at h⟩) (fun i σ' H' hi ⟨y, ps, es, e, hp', ho', hl, hps⟩ => ?_) (fun σ' H' ⟨y, ps, es, e, hp', ho', hl, hps⟩ => ?_)
    · subst es
      have hol := own_len hL.lo hL.lt hs mn
      obtain ⟨z, hz⟩ := get_at (show i < (own a b sn mn).length by omega)
      have hz2 : (ownR a b sn n)[i]? = some z := by
        rw [ownR_at hL.lo hL.lt hs (show i < (ownR a b sn n).length by omega) (show i < mn by omega)]
        exact hz
      have item : Ev (tOp (rIxL K) (tVar 3) (tVar 6)) ([some (.ref l), some (.int (sg a b sn i)), some (.int (mn : Int)), some (.ref p), some (.ref o), some (.int ((own a b sn mn).take i).sum), y].set 6 (some (.int (i : Int)))) H' (.int z) := ev_ixI (ev_var rfl) (ev_var rfl) hp'.at (at_int hz2)
      refine q_appU ho' (ev_var rfl) (eu_tup (ea_cons (ev_var rfl) (ea_cons (ev_var rfl) (ea_cons item ea_nil))) (show 3 ≤ 100000 by decide)) (by rw [List.length_map]; omega) fun t H8 nt e8 ht => ?_
      have e8' : Ex H (upd H8 o (.lst (ps.map V.ref ++ [.ref t]))) := Ex.mut (e.trans e8) no'
      have hto : t ≠ o := fun z => by
        rw [z] at nt
        rw [ho'] at nt
        cases nt
      have hp8 : IsL (upd H8 o (.lst (ps.map V.ref ++ [.ref t]))) p (ownR a b sn n) := by
        show upd H8 o _ p = _
        rw [upd_ne hpo]
        exact e8 p _ hp'
      refine q_asg (ev_op (ev_var rfl) (ev_ixI (ev_var rfl) (ev_var rfl) hp8.at (at_int hz2)) rv_I0) fun H9 e9 => ?_
      refine s_asg (ev_call (ea_cons (ev_var rfl) (ea_cons (ev_var rfl) ea_nil)) (sv_other ((e8'.trans e9) l _ hT))) fun H10 e10 => ?_
      have e910 := e9.trans e10
      refine ⟨some (.int (i : Int)), ps ++ [t], ?_, e8'.trans e910, e910 p _ hp8, e910 o _ ?_, by simp [hl], fun j pj hj => ?_⟩
      · have hsum : ((own a b sn mn).take (i + 1)).sum = ((own a b sn mn).take i).sum + z := by
          rw [take_next hz, List.sum_append]
          simp
        rw [hsum]
        rfl
      · rw [upd_same, List.map_append]
        rfl
      · by_cases c : j < ps.length
        · rw [List.getElem?_append_left c] at hj
          obtain ⟨z2, h1, h2, h3⟩ := hps j pj hj
          refine ⟨z2, h1, e910 pj _ ?_, h3⟩
          rw [upd_ne h3]
          exact e8 pj _ h2
        · have hj2 : j = ps.length := by
            have := (List.getElem?_eq_some_iff.mp hj).1
            simp at this
            omega
          rw [List.getElem?_append_right (by omega), hj2, Nat.sub_self] at hj
          have : t = pj := Option.some.inj hj
          subst this
          rw [hj2, hl]
          refine ⟨z, hz, e910 t _ ?_, hto⟩
          rw [upd_ne hto]
          exact ht
    · subst es
      rw [Int.toNat_natCast] at hl
      refine s_ret (ev_var rfl) fun H9 e9 => qq o H9 ps no' (e.trans e9) (e9 o _ ho') ⟨by rw [Int.toNat_natCast]; exact hl, fun i pi hi => ?_⟩
      obtain ⟨z, h1, h2, _⟩ := hps i pi hi
      rw [Int.toNat_natCast]
      exact ⟨z, h1, e9 pi _ h2⟩
/-! ### the kinds of an error -/
abbrev s_law_kind : Stmt := topS 32
theorem sc_law_kind : FnScope ["e", "kinds"] ["e"] (defScope s_law_kind) := ⟨rfl, rfl, rfl, by decide +kernel, rfl, by decide +kernel, by decide +kernel⟩
theorem has_law_kind {cls : Nat → Addr} {cE : Addr} (D : DefAt K mg "_law_kind" s_law_kind) (B : Bl mg) (O_NoLetters : Own K mg "NoLetters" (cls 0)) (O_NoRow : Own K mg "NoRow" (cls 1)) (O_NoLengths : Own K mg "NoLengths" (cls 2)) (O_NoSign : Own K mg "NoSign" (cls 3))
    (O_TooMany : Own K mg "TooMany" (cls 4)) (O_BadText : Own K mg "BadText" (cls 5)) : HasE P w K mg base 1 "_law_kind" ["e"] (fun _ => True) (spKind K cls cE) := by
  obtain ⟨f, fd, F, gf⟩ := D
  refine ⟨f, fd, fun D _ => fnE_of F sc_law_kind (fun a vs H Q E h => ?_) (fun cdv A outer s H vs Q p hot her hr h => ?_), gf, F.kp, F.binds (ps := ["e"]) fun _ _ _ _ _ _ us hl => match us, hl with | [_], _ => rfl⟩
  · obtain ⟨rfl, _⟩ := h
    rfl
  · obtain ⟨rfl, i, hD, KX, q⟩ := h
    subst hD
    have hpn : p ∈ (L2H.cxH CX0 P w K mg base ["e", "kinds"] "_law_kind" (defScope s_law_kind) f cdv A outer s H E0 p).pn := List.mem_singleton.mpr rfl
    refine ⟨_, (pss_cons (ps_set (i := 1) sc_law_kind.nd rfl (.inl rfl) (pe_lst (pa_cons (pe_callB (call_isP KX.exc her hpn) (by rfl) B.isinstance (by decide +kernel) (pa_cons (pv 0) (pa_cons (pe_glob (v := .ref _) (by rfl) O_NoLetters.g rfl) pa_nil))) (pa_cons (pe_callB (call_isP KX.exc her hpn) (by rfl) B.isinstance (by decide +kernel) (pa_cons (pv 0) (pa_cons (pe_glob (v := .ref _) (by rfl) O_NoRow.g rfl) pa_nil))) (pa_cons (pe_callB (call_isP KX.exc her hpn) (by rfl) B.isinstance (by decide +kernel) (pa_cons (pv 0) (pa_cons (pe_glob (v := .ref _) (by rfl) O_NoLengths.g rfl) pa_nil))) (pa_cons (pe_callB (call_isP KX.exc her hpn) (by rfl) B.isinstance (by decide +kernel) (pa_cons (pv 0) (pa_cons (pe_glob (v := .ref _) (by rfl) O_NoSign.g rfl) pa_nil))) pa_nil))))))
      (pss_one (ps_ret (pe_op op_cat (pv 1) (pe_lst (pa_cons (pe_callB (call_isP KX.exc her hpn) (by rfl) B.isinstance (by decide +kernel) (pa_cons (pv 0) (pa_cons (pe_glob (v := .ref _) (by rfl) O_TooMany.g rfl) pa_nil))) (pa_cons (pe_callB (call_isP KX.exc her hpn) (by rfl) B.isinstance (by decide +kernel) (pa_cons (pv 0) (pa_cons (pe_glob (v := .ref _) (by rfl) O_BadText.g rfl) pa_nil))) (pa_cons (pe_callB (call_isP KX.exc her hpn) (by rfl) B.isinstance (by decide +kernel) (pa_cons (pv 0) (pa_cons (pe_bltn (v := .ty "ValueError") (by rfl) B.ValueError (by decide +kernel) rfl) pa_nil))) pa_nil)))))))), ?_⟩
    refine q_asgL (el_lst (ea_cons (ev_isE (ev_var rfl) ev_c (KX.is 0 (by decide))) (ea_cons (ev_isE (ev_var rfl) ev_c (KX.is 1 (by decide))) (ea_cons (ev_isE (ev_var rfl) ev_c (KX.is 2 (by decide))) (ea_cons (ev_isE (ev_var rfl) ev_c (KX.is 3 (by decide))) ea_nil)))) (show 4 ≤ 100000 by decide)) fun o H1 no e1 h1 => ?_
    refine s_retL (el_catN (ev_var rfl) (el_lst (ea_cons (ev_isE (ev_var rfl) ev_c (KX.is 4 (by decide))) (ea_cons (ev_isE (ev_var rfl) ev_c (KX.is 5 (by decide))) (ea_cons (ev_isV (ev_var rfl) ev_c KX.v) ea_nil))) (show 3 ≤ 100000 by decide)) h1 (show 4 + 3 ≤ 100000 by decide)) fun o2 H2 no2 e2 h2 => ?_
    exact q o2 H2 (fresh_back e1 no2) (e1.trans e2) h2
abbrev s_law_one : Stmt := topS 33
theorem sc_law_one : FnScope ["k", "j"] ["k"] (defScope s_law_one) := ⟨rfl, rfl, rfl, by decide +kernel, rfl, by decide +kernel, by decide +kernel⟩
def spOne : Sp := fun vs H Q _ => ∃ i : Nat, vs = [.int (i : Int)] ∧ RetL ((kindsOf i).map V.bl) H Q
theorem has_law_one (D : DefAt K mg "_law_one" s_law_one) (B : Bl mg) : Has P w K mg base CX0 1 "_law_one" ["k"] spOne := by
  obtain ⟨f, fd, F, gf⟩ := D
  refine ⟨f, fd, F.ok sc_law_one (fun vs H Q E h => ?_) (fun cdv A outer s H vs Q E hr h => ?_), gf, F.kp, F.binds (ps := ["k"]) fun _ _ _ _ _ _ us hl => match us, hl with | [_], _ => rfl⟩
  · obtain ⟨i, rfl, _⟩ := h
    rfl
  · obtain ⟨i, rfl, q⟩ := h
    refine ⟨_, (pss_one (ps_ret (pe_op op_cat (pe_lc (own := [("j", 1)]) (g := gName 1) (tt := tYes) rfl sc_law_one.nd (pi_range1 rfl B.range (pa_cons pe_int pa_nil)) (blkOk_by (own := [("j", 1)]) (N := ["k", "j"]) (sc := defScope s_law_one) (by decide +kernel)) (fun _ _ _ _ _ => pg_name (i := 1) sc_law_one.nd rfl (Or.inl rfl)) (fun _ _ _ _ _ => pts_nil) (fun _ _ _ _ _ => (pe_cmpR op_eq (pv 0) (pv 1) (nomark _)))) (pe_lst (pa_cons pe_bl pa_nil))))), ?_⟩
    refine s_retL (el_catNN (el_lcR1 (fun _ => true) (fun j => .bl (decide (i = j))) (ea_cons ev_c ea_nil) (show (0 : Int) ≤ 6 ∧ (6 : Int) ≤ 40000 by decide) (fun x => rfl) (fun j H1 _ _ => et_yes) (fun j H1 e1 hj _ => ?_)) (el_lst (ea_cons ev_c ea_nil) (show 1 ≤ 100000 by decide)) ?_) fun o H2 no e2 h2 => q o H2 no e2 h2
    · refine ev_is (ev_op (ev_var rfl) (ev_var rfl) (rv_eq rfl)) ?_
      congr 1
      by_cases c : i = j
      · subst c
        simp
      · have c2 : ¬ V.int (i : Int) = V.int (j : Int) := fun z => c (by injection z with z; omega)
        simp [c, c2]
    · exact (by decide : 6 + 1 ≤ 100000)
theorem sl_one {H : Hp} (i : Nat) : SpL spOne [.int (i : Int)] H ((kindsOf i).map V.bl) := fun H1 e Q q E => ⟨i, rfl, q⟩
abbrev s_law_call : Stmt := topS 41
theorem sc_law_call : FnScope ["call", "letters", "row", "odd"] ["call", "letters", "row", "odd"] (defScope s_law_call) := ⟨rfl, rfl, rfl, by decide +kernel, rfl, by decide +kernel, by decide +kernel⟩
def outCall (call a b : Int) (row : List Int) (odd : Int) : Option Nat :=
  if call < 4 then outRow a b row
  else if call = 4 then outAll a b (if odd = 0 then 2 else 11)
  else if call = 5 then outRead a b (if odd = 0 then [] else [120])
  else if call = 6 then outMany a b a (if odd = 0 then 3 else 401) 400
  else if call = 7 then outMany a b (if odd = 0 then b else 11) 3 60
  else outBuilt a b a [1, 2 - 2 * odd]
theorem some_six {c : Prop} [Decidable c] {k i : Nat} {o : Option Nat} (hk : k < 6) (ho : ∀ j, o = some j → j < 6) (h : (if c then o else some k) = some i) : i < 6 := by
  by_cases d : c
  · rw [if_pos d] at h
    exact ho i h
  · rw [if_neg d] at h
    cases h
    exact hk
theorem none_six : ∀ j : Nat, (none : Option Nat) = some j → j < 6 := fun _ h => nomatch h
theorem sign_six {a b s : Int} : ∀ j, outSign a b s = some j → j < 6 := fun j h => by
  unfold outSign at h
  exact some_six (by decide) (fun j h => some_six (by decide) none_six h) h
theorem out_six {call a b : Int} {row : List Int} {odd : Int} {i : Nat} (h : outCall call a b row odd = some i) : i < 6 := by
  have many : ∀ {s m c : Int}, outMany a b s m c = some i → i < 6 := fun {s m c} h => by
    unfold outMany at h
    cases hs : outSign a b s with
    | some j =>
      rw [hs] at h
      cases h
      exact sign_six _ hs
    | none =>
      rw [hs] at h
      exact some_six (by decide) none_six h
  unfold outCall at h
  by_cases c4 : call < 4
  · rw [if_pos c4] at h
    exact some_six (by decide) (fun j h => some_six (by decide) none_six h) h
  rw [if_neg c4] at h
  by_cases c5 : call = 4
  · rw [if_pos c5] at h
    exact some_six (by decide) (fun j h => some_six (by decide) none_six h) h
  rw [if_neg c5] at h
  by_cases c6 : call = 5
  · rw [if_pos c6] at h
    exact some_six (by decide) (fun j h => some_six (by decide) none_six h) h
  rw [if_neg c6] at h
  by_cases c7 : call = 6
  · rw [if_pos c7] at h
    exact many h
  rw [if_neg c7] at h
  by_cases c8 : call = 7
  · rw [if_pos c8] at h
    exact many h
  rw [if_neg c8] at h
  unfold outBuilt at h
  cases hs : outSign a b a with
  | some j =>
    rw [hs] at h
    cases h
    exact sign_six _ hs
  | none =>
    rw [hs] at h
    exact some_six (by decide) none_six h
def spCall (cls : Nat → Addr) : Sp := fun vs H Q E => ∃ (call : Int) (l : Addr) (a b : Int) (p : Addr) (row : List Int) (odd : Int), vs = [.int call, .ref l, .ref p, .int odd] ∧ 0 ≤ call ∧ call < 9 ∧ IsT H l a b ∧ IsL H p row ∧ 0 ≤ odd ∧ odd < 2 ∧
  OutsN cls (outCall call a b row odd) (RetAny H Q) H E
theorem has_law_call {cls : Nat → Addr} (D : DefAt K mg "_law_call" s_law_call) (B : Bl mg) (G_inner : Has P w K mg base (L2N.CX P w) 3 "inner" ["letters", "row"] (spInner cls)) (G_height : Has P w K mg base (L2N.CX P w) 4 "height" ["letters", "row"] (spHeight cls))
    (G_goes_on : Has P w K mg base (L2N.CX P w) 4 "goes_on" ["letters", "row"] (spGoes cls)) (G_shown : Has P w K mg base (L2N.CX P w) 3 "shown" ["letters", "row"] (spShown cls)) (G_all_smooth : Has P w K mg base (L2N.CX P w) 4 "all_smooth" ["letters", "many"] (spAll cls))
    (G_read : Has P w K mg base (L2N.CX P w) 2 "read" ["letters", "text"] (spRead cls)) (G_own : Has P w K mg base (L2N.CX P w) 3 "own" ["letters", "sign", "many"] (spOwn cls)) (G_own_runs : Has P w K mg base (L2N.CX P w) 3 "own_runs" ["letters", "sign", "many"] (spOwnRuns cls))
    (G_built : Has P w K mg base (L2N.CX P w) 3 "built" ["letters", "sign", "some"] (spBuilt cls)) : Has P w K mg base (L2N.CX P w) 5 "_law_call" ["call", "letters", "row", "odd"] (spCall cls) := by
  obtain ⟨f, fd, F, gf⟩ := D
  refine ⟨f, fd, okN F sc_law_call (fun vs H Q E h => ?_) (fun cdv A outer s H vs Q E hr h => ?_), gf, F.kp, F.binds (ps := ["call", "letters", "row", "odd"]) fun _ _ _ _ _ _ us hl => match us, hl with | [_, _, _, _], _ => rfl⟩
  · obtain ⟨call, l, a, b, p, row, odd, rfl, _⟩ := h
    rfl
  · obtain ⟨call, l, a, b, p, row, odd, rfl, hc0, hc9, hT, hp, ho0, ho2, q⟩ := h
    refine ⟨_, (pss_cut (ps_if (pt_cmpR op_eq (pv 0) pe_int (nomark _)) (pss_one (ps_expr (pe_hasX G_inner (hr.mono (by decide)) (by rfl) (L2N.takes_of rfl rfl rfl rfl) (pa_cons (pv 1) (pa_cons (pv 2) pa_nil))))) pss_nil)
      (pss_cut (ps_if (pt_cmpR op_eq (pv 0) pe_int (nomark _)) (pss_one (ps_expr (pe_hasX G_height (hr.mono (by decide)) (by rfl) (L2N.takes_of rfl rfl rfl rfl) (pa_cons (pv 1) (pa_cons (pv 2) pa_nil))))) pss_nil)
      (pss_cut (ps_if (pt_cmpR op_eq (pv 0) pe_int (nomark _)) (pss_one (ps_expr (pe_hasX G_goes_on (hr.mono (by decide)) (by rfl) (L2N.takes_of rfl rfl rfl rfl) (pa_cons (pv 1) (pa_cons (pv 2) pa_nil))))) pss_nil)
      (pss_cut (ps_if (pt_cmpR op_eq (pv 0) pe_int (nomark _)) (pss_one (ps_expr (pe_hasX G_shown (hr.mono (by decide)) (by rfl) (L2N.takes_of rfl rfl rfl rfl) (pa_cons (pv 1) (pa_cons (pv 2) pa_nil))))) pss_nil)
      (pss_cut (ps_if (pt_cmpR op_eq (pv 0) pe_int (nomark _)) (pss_one (ps_expr (pe_hasX G_all_smooth (hr.mono (by decide)) (by rfl) (L2N.takes_of rfl rfl rfl rfl) (pa_cons (pv 1) (pa_cons (pe_ix ix_list (pe_lst (pa_cons pe_int (pa_cons pe_int pa_nil))) (pv 3) (fun _ _ => rfl)) pa_nil))))) pss_nil)
      (pss_cut (ps_if (pt_cmpR op_eq (pv 0) pe_int (nomark _)) (pss_one (ps_expr (pe_hasX G_read (hr.mono (by decide)) (by rfl) (L2N.takes_of rfl rfl rfl rfl) (pa_cons (pv 1) (pa_cons (pe_ix ix_list (pe_lst (pa_cons pe_str (pa_cons pe_str pa_nil))) (pv 3) (fun _ _ => rfl)) pa_nil))))) pss_nil)
      (pss_cut (ps_if (pt_cmpR op_eq (pv 0) pe_int (nomark _)) (pss_one (ps_expr (pe_hasX G_own (hr.mono (by decide)) (by rfl) (L2N.takes_of rfl rfl rfl rfl) (pa_cons (pv 1) (pa_cons (pe_ix ix_tup (pv 1) pe_int (fun _ _ => rfl)) (pa_cons (pe_ix ix_list (pe_lst (pa_cons pe_int (pa_cons pe_int pa_nil))) (pv 3) (fun _ _ => rfl)) pa_nil)))))) pss_nil)
      (pss_cut (ps_if (pt_cmpR op_eq (pv 0) pe_int (nomark _)) (pss_one (ps_expr (pe_hasX G_own_runs (hr.mono (by decide)) (by rfl) (L2N.takes_of rfl rfl rfl rfl) (pa_cons (pv 1) (pa_cons (pe_ix ix_list (pe_lst (pa_cons (pe_ix ix_tup (pv 1) pe_int (fun _ _ => rfl)) (pa_cons pe_int pa_nil))) (pv 3) (fun _ _ => rfl)) (pa_cons pe_int pa_nil)))))) pss_nil)
      (pss_one (ps_if (pt_cmpR op_eq (pv 0) pe_int (nomark _)) (pss_one (ps_expr (pe_hasX G_built (hr.mono (by decide)) (by rfl) (L2N.takes_of rfl rfl rfl rfl) (pa_cons (pv 1) (pa_cons (pe_ix ix_tup (pv 1) pe_int (fun _ _ => rfl)) (pa_cons (pe_lst (pa_cons pe_int (pa_cons (pe_op op_sub pe_int (pe_op op_mul pe_int (pv 3))) pa_nil))) pa_nil)))))) pss_nil)))))))))), ?_⟩
    generalize hout : outCall call a b row odd = out at q
    have oddE : Ev (tVar 3) [some (.int call), some (.ref l), some (.ref p), some (.int odd)] H (.int odd) := ev_var rfl
    have test : ∀ (k : Int) {H' : Hp}, EvT (tTest (tOp rEq (tVar 0) (tC (.int k)))) [some (.int call), some (.ref l), some (.ref p), some (.int odd)] H' (decide (call = k)) := fun k H' => et_is (et_test (ev_op (ev_var rfl) ev_c (rv_eq rfl))) (by by_cases c : call = k <;> simp [c])
    -- row calls
    have row4 : call < 4 → outRow a b row = out := fun h => by
      rw [← hout]
      unfold outCall
      rw [if_pos h]
    refine q_cut (M := fun σ' H' => σ' = [some (.int call), some (.ref l), some (.ref p), some (.int odd)] ∧ Ex H H' ∧ (call ≤ 0 → out = none)) (s_when (test 0) (fun hb H1 e1 => ?_) (fun hb H1 e1 => ⟨rfl, e1, fun h => absurd (show call = 0 by omega) (of_decide_eq_false hb)⟩)) ?_
    · have hc := of_decide_eq_true hb
      have ho := row4 (by omega)
      refine s_dropX (ea_cons (ev_var rfl) (ea_cons (ev_var rfl) ea_nil)) fun H2 e2 => ⟨l, a, b, p, row, rfl, (e1.trans e2) l _ hT, (e1.trans e2) p _ hp, ?_⟩
      rw [ho]
      exact OutsN.mk (fun hn v H3 e3 => ⟨rfl, (e1.trans e2).trans e3, fun _ => hn⟩) (fun i hi H3 e3 => q.no hi H3 ((e1.trans e2).trans e3))
    rintro σ1 H1 ⟨rfl, e1, k1⟩
    refine q_cut (M := fun σ' H' => σ' = [some (.int call), some (.ref l), some (.ref p), some (.int odd)] ∧ Ex H H' ∧ (call ≤ 1 → out = none)) (s_when (test 1) (fun hb H2 e2 => ?_) (fun hb H2 e2 => ⟨rfl, e1.trans e2, fun h => k1 (by have := of_decide_eq_false hb; omega)⟩)) ?_
    · have hc := of_decide_eq_true hb
      have ho := row4 (by omega)
      have e12 := e1.trans e2
      refine s_dropX (ea_cons (ev_var rfl) (ea_cons (ev_var rfl) ea_nil)) fun H2 e2 => ⟨l, a, b, p, row, rfl, (e12.trans e2) l _ hT, (e12.trans e2) p _ hp, ?_⟩
      rw [ho]
      exact OutsN.mk (fun hn v H3 e3 => ⟨rfl, (e12.trans e2).trans e3, fun _ => hn⟩) (fun i hi H3 e3 => q.no hi H3 ((e12.trans e2).trans e3))
    clear e1 k1
    rintro σ1 H1 ⟨rfl, e1, k1⟩
    refine q_cut (M := fun σ' H' => σ' = [some (.int call), some (.ref l), some (.ref p), some (.int odd)] ∧ Ex H H' ∧ (call ≤ 2 → out = none)) (s_when (test 2) (fun hb H2 e2 => ?_) (fun hb H2 e2 => ⟨rfl, e1.trans e2, fun h => k1 (by have := of_decide_eq_false hb; omega)⟩)) ?_
    · have hc := of_decide_eq_true hb
      have ho := row4 (by omega)
      have e12 := e1.trans e2
      refine s_dropX (ea_cons (ev_var rfl) (ea_cons (ev_var rfl) ea_nil)) fun H2 e2 => ⟨l, a, b, p, row, rfl, (e12.trans e2) l _ hT, (e12.trans e2) p _ hp, ?_⟩
      rw [ho]
      exact OutsN.mk (fun hn v H3 e3 => ⟨rfl, (e12.trans e2).trans e3, fun _ => hn⟩) (fun i hi H3 e3 => q.no hi H3 ((e12.trans e2).trans e3))
    clear e1 k1
    rintro σ1 H1 ⟨rfl, e1, k1⟩
    refine q_cut (M := fun σ' H' => σ' = [some (.int call), some (.ref l), some (.ref p), some (.int odd)] ∧ Ex H H' ∧ (call ≤ 3 → out = none)) (s_when (test 3) (fun hb H2 e2 => ?_) (fun hb H2 e2 => ⟨rfl, e1.trans e2, fun h => k1 (by have := of_decide_eq_false hb; omega)⟩)) ?_
    · have hc := of_decide_eq_true hb
      have ho := row4 (by omega)
      have e12 := e1.trans e2
      refine s_dropX (ea_cons (ev_var rfl) (ea_cons (ev_var rfl) ea_nil)) fun H2 e2 => ⟨l, a, b, p, row, rfl, (e12.trans e2) l _ hT, (e12.trans e2) p _ hp, ?_⟩
      rw [ho]
      exact OutsN.mk (fun hn H3 e3 => ⟨rfl, (e12.trans e2).trans e3, fun _ => hn⟩) (fun i hi H3 e3 => q.no hi H3 ((e12.trans e2).trans e3))
    clear e1 k1
    rintro σ1 H1 ⟨rfl, e1, k1⟩
    -- all_smooth
    refine q_cut (M := fun σ' H' => σ' = [some (.int call), some (.ref l), some (.ref p), some (.int odd)] ∧ Ex H H' ∧ (call ≤ 4 → out = none)) (s_when (test 4) (fun hb H2 e2 => ?_) (fun hb H2 e2 => ⟨rfl, e1.trans e2, fun h => k1 (by have := of_decide_eq_false hb; omega)⟩)) ?_
    · have hc := of_decide_eq_true hb
      have ho : outAll a b (if odd = 0 then 2 else 11) = out := by
        rw [← hout, hc]
        rfl
      have e12 := e1.trans e2
      refine s_dropX (ea_cons (ev_var rfl) (ea_cons (ev_ixN (el_lst (ea_cons ev_c (ea_cons ev_c ea_nil)) (show 2 ≤ 100000 by decide)) (ev_var rfl) (at_two ⟨ho0, ho2⟩)) ea_nil)) fun H2 e2 => ⟨l, a, b, _, rfl, (e12.trans e2) l _ hT, ?_⟩
      rw [ho]
      exact OutsN.mk (fun hn o qs H3 _ e3 _ _ _ => ⟨rfl, (e12.trans e2).trans e3, fun _ => hn⟩) (fun i hi H3 e3 => q.no hi H3 ((e12.trans e2).trans e3))
    clear e1 k1
    rintro σ1 H1 ⟨rfl, e1, k1⟩
    -- read
    refine q_cut (M := fun σ' H' => σ' = [some (.int call), some (.ref l), some (.ref p), some (.int odd)] ∧ Ex H H' ∧ (call ≤ 5 → out = none)) (s_when (test 5) (fun hb H2 e2 => ?_) (fun hb H2 e2 => ⟨rfl, e1.trans e2, fun h => k1 (by have := of_decide_eq_false hb; omega)⟩)) ?_
    · have hc := of_decide_eq_true hb
      have ho : outRead a b (if odd = 0 then [] else [120]) = out := by
        rw [← hout, hc]
        rfl
      have e12 := e1.trans e2
      have hv : (if odd = 0 then V.str (Str.ofString "") else V.str (Str.ofString "x")) = V.str (ST (if odd = 0 then [] else [120])) := by
        by_cases c : odd = 0
        · rw [if_pos c, if_pos c]
          have : Str.ofString "" = ST [] := by decide +kernel
          rw [this]
        · rw [if_neg c, if_neg c]
          have : Str.ofString "x" = ST [120] := by decide +kernel
          rw [this]
      refine s_dropX (ea_cons (ev_var rfl) (ea_cons (ev_is (ev_ixN (el_lst (ea_cons ev_c (ea_cons ev_c ea_nil)) (show 2 ≤ 100000 by decide)) (ev_var rfl) (at_two_any ⟨ho0, ho2⟩)) hv) ea_nil)) fun H2 e2 => ⟨l, a, b, ST (if odd = 0 then [] else [120]), (if odd = 0 then [] else [120]), rfl, (e12.trans e2) l _ hT, rfl, by split <;> simp, ?_⟩
      rw [ho]
      exact OutsN.mk (fun hn o H3 _ e3 _ => ⟨rfl, (e12.trans e2).trans e3, fun _ => hn⟩) (fun i hi H3 e3 => q.no hi H3 ((e12.trans e2).trans e3))
    clear e1 k1
    rintro σ1 H1 ⟨rfl, e1, k1⟩
    -- own
    refine q_cut (M := fun σ' H' => σ' = [some (.int call), some (.ref l), some (.ref p), some (.int odd)] ∧ Ex H H' ∧ (call ≤ 6 → out = none)) (s_when (test 6) (fun hb H2 e2 => ?_) (fun hb H2 e2 => ⟨rfl, e1.trans e2, fun h => k1 (by have := of_decide_eq_false hb; omega)⟩)) ?_
    · have hc := of_decide_eq_true hb
      have ho : outMany a b a (if odd = 0 then 3 else 401) 400 = out := by
        rw [← hout, hc]
        rfl
      have e12 := e1.trans e2
      refine s_dropX (ea_cons (ev_var rfl) (ea_cons (ev_op (ev_var rfl) ev_c (rv_ixT (ex_t e12 hT.at) rfl)) (ea_cons (ev_ixN (el_lst (ea_cons ev_c (ea_cons ev_c ea_nil)) (show 2 ≤ 100000 by decide)) (ev_var rfl) (at_two ⟨ho0, ho2⟩)) ea_nil))) fun H2 e2 => ⟨l, a, b, a, _, rfl, (e12.trans e2) l _ hT, ?_⟩
      rw [ho]
      exact OutsN.mk (fun hn o H3 _ e3 _ => ⟨rfl, (e12.trans e2).trans e3, fun _ => hn⟩) (fun i hi H3 e3 => q.no hi H3 ((e12.trans e2).trans e3))
    clear e1 k1
    rintro σ1 H1 ⟨rfl, e1, k1⟩
    -- own_runs
    refine q_cut (M := fun σ' H' => σ' = [some (.int call), some (.ref l), some (.ref p), some (.int odd)] ∧ Ex H H' ∧ (call ≤ 7 → out = none)) (s_when (test 7) (fun hb H2 e2 => ?_) (fun hb H2 e2 => ⟨rfl, e1.trans e2, fun h => k1 (by have := of_decide_eq_false hb; omega)⟩)) ?_
    · have hc := of_decide_eq_true hb
      have ho : outMany a b (if odd = 0 then b else 11) 3 60 = out := by
        rw [← hout, hc]
        rfl
      have e12 := e1.trans e2
      refine s_dropX (ea_cons (ev_var rfl) (ea_cons (ev_ixN (el_lst (ea_cons (ev_op (ev_var rfl) ev_c (rv_ixT (ex_t e12 hT.at) rfl)) (ea_cons ev_c ea_nil)) (show 2 ≤ 100000 by decide)) (ev_var rfl) (at_two ⟨ho0, ho2⟩)) (ea_cons ev_c ea_nil))) fun H2 e2 => ⟨l, a, b, _, 3, rfl, (e12.trans e2) l _ hT, ?_⟩
      rw [ho]
      exact OutsN.mk (fun hn o H3 ps _ e3 _ _ => ⟨rfl, (e12.trans e2).trans e3, fun _ => hn⟩) (fun i hi H3 e3 => q.no hi H3 ((e12.trans e2).trans e3))
    clear e1 k1
    rintro σ1 H1 ⟨rfl, e1, k1⟩
    -- built
    have fin : ∀ {H' : Hp}, Ex H H' → out = none → Q .non H' := fun e hn => (q.yes hn) _ _ e
    refine s_when (test 8) (fun hb H2 e2 => ?_) (fun hb H2 e2 => fin (e1.trans e2) (k1 (by have := of_decide_eq_false hb; omega)))
    have hc := of_decide_eq_true hb
    have ho : outBuilt a b a [1, 2 - 2 * odd] = out := by
      rw [← hout, hc]
      rfl
    have e12 := e1.trans e2
    refine s_dropX3L (ev_var rfl) (ev_op (ev_var rfl) ev_c (rv_ixT (ex_t e12 hT.at) rfl)) (el_lst (ea_cons ev_c (ea_cons (ev_op ev_c (ev_op ev_c (ev_var rfl) (rv_I (Or.inl ⟨by decide, by decide⟩))) rv_I0) ea_nil)) (show 2 ≤ 100000 by decide)) fun p2 H3 e3 hp2 => ⟨l, a, b, a, p2, [1, 2 - 2 * odd], rfl, (e12.trans e3) l _ hT, hp2, ?_⟩
    rw [ho]
    exact OutsN.mk (fun hn o H4 _ e4 _ => fin ((e12.trans e3).trans e4) hn) (fun i hi H4 e4 => q.no hi H4 ((e12.trans e3).trans e4))
abbrev s_law_kinds : Stmt := topS 42
theorem sc_law_kinds : FnScope ["call", "letters", "row", "odd", "kinds", "e"] ["call", "letters", "row", "odd"] (defScope s_law_kinds) := ⟨rfl, rfl, rfl, by decide +kernel, rfl, by decide +kernel, by decide +kernel⟩
def spKinds (K : PySem.W.Frag) (cls : Nat → Addr) (cE : Addr) : Sp := fun vs H Q _ => ∃ (call : Int) (l : Addr) (a b : Int) (p : Addr) (row : List Int) (odd : Int), vs = [.int call, .ref l, .ref p, .int odd] ∧ 0 ≤ call ∧ call < 9 ∧ IsT H l a b ∧ IsL H p row ∧ 0 ≤ odd ∧ odd < 2 ∧
  RetL ((dueOf (outCall call a b row odd)).map V.bl) H Q
theorem has_law_kinds {cls : Nat → Addr} {cE : Addr} (D : DefAt K mg "_law_kinds" s_law_kinds) (g_RunError : mg "RunError" = some (.ref cE)) (KX : ∀ i, i < 6 → KD K cls cE i) (G_law_kind : HasE P w K mg base 1 "_law_kind" ["e"] (fun _ => True) (spKind K cls cE))
    (G_law_call : Has P w K mg base (L2N.CX P w) 5 "_law_call" ["call", "letters", "row", "odd"] (spCall cls)) : Has P w K mg base CX0 6 "_law_kinds" ["call", "letters", "row", "odd"] (spKinds K cls cE) := by
  obtain ⟨f, fd, F, gf⟩ := D
  refine ⟨f, fd, F.ok sc_law_kinds (fun vs H Q E h => ?_) (fun cdv A outer s H vs Q E hr h => ?_), gf, F.kp, F.binds (ps := ["call", "letters", "row", "odd"]) fun _ _ _ _ _ _ us hl => match us, hl with | [_, _, _, _], _ => rfl⟩
  · obtain ⟨call, l, a, b, p, row, odd, rfl, _⟩ := h
    rfl
  · obtain ⟨call, l, a, b, p, row, odd, rfl, hc0, hc9, hT, hp, ho0, ho2, q⟩ := h
    refine ⟨_, (pss_cons (ps_set (i := 4) sc_law_kinds.nd rfl (.inl rfl) (pe_lst pa_nil))
      (pss_cut (L2N.ps_try_as (i := 5) (Wout := fun _ _ _ _ => False) rfl rfl sc_law_kinds.nd rfl rfl ⟨rfl, by decide, Or.inl g_RunError⟩ takesN0 (fun W pn xe tk po => (pss_one (ps_expr (pe_hasX G_law_call (hr.mono (by decide)) (by rfl) tk (pa_cons (pv 0) (pa_cons (pv 1) (pa_cons (pv 2) (pa_cons (pv 3) pa_nil)))))))) (fun a oe cls d pn hz hf => (pss_one (ps_set (i := 4) sc_law_kinds.nd rfl (.inl rfl) (pe_kind G_law_kind hz hf (roomH_mark (hr.mono (by decide))) (by rfl) (pa_cons (pv 5) pa_nil))))))
      (pss_one (ps_ret (pv 4))))), ?_⟩
    refine q_asgL (el_lst ea_nil (Nat.zero_le _)) fun k0 H2 nk e2 h2 => ?_
    refine q_cut (M := fun σ' H' => Ex H H' ∧ ∃ ko, σ'[4]? = some (some (.ref ko)) ∧ H ko = none ∧ H' ko = some (.lst ((dueOf (outCall call a b row odd)).map V.bl))) ?_ ?_
    · refine s_dropX (ea_cons (ev_var rfl) (ea_cons (ev_var rfl) (ea_cons (ev_var rfl) (ea_cons (ev_var rfl) ea_nil)))) fun H4 e4 => ⟨call, l, a, b, p, row, odd, rfl, hc0, hc9, (e2.trans e4) l _ hT, (e2.trans e4) p _ hp, ho0, ho2, OutsN.mk (fun hn v H5 e5 => ?_) (fun i hi H5 e5 => ?_)⟩
      · refine ⟨(e2.trans e4).trans e5, k0, rfl, nk, ?_⟩
        rw [hn]
        exact (e4.trans e5) k0 _ h2
      · have hi6 : i < 6 := out_six hi
        refine ⟨true, (KX i hi6).c, fun _ ea na => ?_, fun z => nomatch z⟩
        refine ⟨cls i, rfl, rfl, trivial, _, rfl, rfl, i, rfl, KX i hi6, fun ko H6 nk e6 h6 => ⟨((e2.trans e4).trans e5).trans e6, ko, rfl, fresh_back ((e2.trans e4).trans e5) nk, ?_⟩⟩
        rw [hi]
        exact h6
    · rintro σ' H' ⟨e, ko, hv, nk, hko⟩
      exact s_ret (ev_var hv) fun H6 e6 => q ko H6 nk (e.trans e6) (e6 ko _ hko)
/-! ### the law's own helpers -/
abbrev s_law_cell_at : Stmt := topS 30
theorem sc_law_cell_at : FnScope ["script", "k"] ["script", "k"] (defScope s_law_cell_at) := ⟨rfl, rfl, rfl, by decide +kernel, rfl, by decide +kernel, by decide +kernel⟩
def spCell (K : PySem.W.Frag) : Sp := fun vs H Q _ => ∃ (s : Addr) (ns : List Int) (k : Int), vs = [.ref s, .int k] ∧ SqL K H s (ns.map V.int) ∧ 0 ≤ k ∧ RetV (.int (cell ns k)) H Q
theorem has_law_cell_at (D : DefAt K mg "_law_cell_at" s_law_cell_at) (B : Bl mg) : Has P w K mg base CX0 1 "_law_cell_at" ["script", "k"] (spCell K) := by
  obtain ⟨f, fd, F, gf⟩ := D
  refine ⟨f, fd, F.ok sc_law_cell_at (fun vs H Q E h => ?_) (fun cdv A outer s H vs Q E hr h => ?_), gf, F.kp, F.binds (ps := ["script", "k"]) fun _ _ _ _ _ _ us hl => match us, hl with | [_, _], _ => rfl⟩
  · obtain ⟨s, ns, k, rfl, _⟩ := h
    rfl
  · obtain ⟨sa, ns, k, rfl, hs, hk, q⟩ := h
    refine ⟨_, (pss_cons (ps_if (pt_cmpR op_lt (pv 1) (pe_callB call_len_seq (by rfl) B.len PySem.boot_len (pa_cons (pv 0) pa_nil)) (nomark _)) (pss_one (ps_ret (pe_ix ix_list (pv 0) (pv 1) (fun _ _ => rfl)))) pss_nil)
      (pss_one (ps_ret pe_int))), ?_⟩
    refine q_when (b := decide (k < (ns.length : Int))) (et_test (ev_op (ev_var rfl) (ev_lenI (ev_var rfl) hs) rv_I0)) (fun hb H1 e1 => ?_) (fun hb H1 e1 => ?_)
    · have hk2 : k.toNat < ns.length := by have := of_decide_eq_true hb; omega
      have hg : ns[k.toNat]? = some (cell ns k) := by
        unfold cell
        rw [List.getElem?_eq_getElem hk2, List.getD_eq_getElem?_getD, List.getElem?_eq_getElem hk2]
        rfl
      refine s_ret (ev_ixI (ev_var rfl) (ev_var rfl) (ex_l e1 hs) ?_) fun H2 e2 => q H2 (e1.trans e2)
      have := at_int hg
      rw [Int.toNat_of_nonneg hk] at this
      exact this
    · refine s_ret ev_c fun H2 e2 => ?_
      have hz : cell ns k = 0 := by
        unfold cell
        rw [List.getD_eq_getElem?_getD, List.getElem?_eq_none (by have := of_decide_eq_false hb; omega)]
        rfl
      have q2 := q H2 (e1.trans e2)
      rw [hz] at q2
      exact q2
theorem ev_cell {H : Hp} {σ : L2.St} {ta tb : TE} {s : Addr} {ns : List Int} {k : Int} (ha : Ev ta σ H (.ref s)) (hb : Ev tb σ H (.int k)) (hs : SqL K H s (ns.map V.int)) (hk : 0 ≤ k) : Ev (tCall (spCell K) [] E0 (tCons ta (tCons tb tNil))) σ H (.int (cell ns k)) :=
  ev_call (ea_cons ha (ea_cons hb ea_nil)) fun H1 e Q q E => ⟨s, ns, k, rfl, ex_l e hs, hk, q⟩
abbrev s_law_whole : Stmt := topS 31
theorem sc_law_whole : FnScope ["found"] ["found"] (defScope s_law_whole) := ⟨rfl, rfl, rfl, by decide +kernel, rfl, by decide +kernel, by decide +kernel⟩
def spWhole : Sp := fun vs H Q _ => ∃ n : Int, vs = [.int n] ∧ RetV (.bl true) H Q
theorem has_law_whole (D : DefAt K mg "_law_whole" s_law_whole) (B : Bl mg) : Has P w K mg base CX0 1 "_law_whole" ["found"] spWhole := by
  obtain ⟨f, fd, F, gf⟩ := D
  refine ⟨f, fd, F.ok sc_law_whole (fun vs H Q E h => ?_) (fun cdv A outer s H vs Q E hr h => ?_), gf, F.kp, F.binds (ps := ["found"]) fun _ _ _ _ _ _ us hl => match us, hl with | [_], _ => rfl⟩
  · obtain ⟨n, rfl, _⟩ := h
    rfl
  · obtain ⟨n, rfl, q⟩ := h
    refine ⟨_, (pss_one (ps_ret (pe_and (pe_callB call_isi (by rfl) B.isinstance (by decide +kernel) (pa_cons (pv 0) (pa_cons (pe_bltn (v := .ty "int") (by rfl) B.int (by decide +kernel) rfl) pa_nil))) (pe_one (pe_not (pe_callB call_isi (by rfl) B.isinstance (by decide +kernel) (pa_cons (pv 0) (pa_cons (pe_bltn (v := .ty "bool") (by rfl) B.bool (by decide +kernel) rfl) pa_nil)))))))), ?_⟩
    exact s_ret (ev_is (ev_andV (a := true) (b := true) (ev_isi (ev_var rfl) (fun _ _ => .base (.int n)) (kit_ty (by decide +kernel))) (fun _ => ev_is (ev_notV (ev_isi (b := false) (ev_var rfl) (fun _ _ => .base (.int n)) (kit_ty (by decide +kernel)))) rfl)) rfl) q
theorem ev_whole {H : Hp} {σ : L2.St} {ta : TE} {n : Int} (ha : Ev ta σ H (.int n)) : Ev (tCall spWhole [] E0 (tCons ta tNil)) σ H (.bl true) :=
  ev_call (ea_cons ha ea_nil) fun H1 e Q q E => ⟨n, rfl, q⟩
abbrev s_law_list : Stmt := topS 34
theorem sc_law_list : FnScope ["found", "due", "k"] ["found", "due"] (defScope s_law_list) := ⟨rfl, rfl, rfl, by decide +kernel, rfl, by decide +kernel, by decide +kernel⟩
def spList : Sp := fun vs H Q _ => ∃ (p : Addr) (xs : List Int) (r : Addr) (ys : List Int), vs = [.ref p, .ref r] ∧ IsL H p xs ∧ IsL H r ys ∧ ys.length ≤ 10000 ∧ RetV (.bl (decide (xs = ys))) H Q
theorem has_law_list (D : DefAt K mg "_law_list" s_law_list) (B : Bl mg) (G_law_whole : Has P w K mg base CX0 1 "_law_whole" ["found"] spWhole) : Has P w K mg base CX0 2 "_law_list" ["found", "due"] spList := by
  obtain ⟨f, fd, F, gf⟩ := D
  refine ⟨f, fd, F.ok sc_law_list (fun vs H Q E h => ?_) (fun cdv A outer s H vs Q E hr h => ?_), gf, F.kp, F.binds (ps := ["found", "due"]) fun _ _ _ _ _ _ us hl => match us, hl with | [_, _], _ => rfl⟩
  · obtain ⟨p, xs, r, ys, rfl, _⟩ := h
    rfl
  · obtain ⟨p, xs, r, ys, rfl, hp, hr', hn, q⟩ := h
    refine ⟨_, (pss_cons (ps_if (PW.pt (pw_or (pt_not (pt_val (pe_callB call_isi (by rfl) B.isinstance (by decide +kernel) (pa_cons (pv 0) (pa_cons (pe_bltn (v := .ty "list") (by rfl) B.list (by decide +kernel) rfl) pa_nil))))) (pw_or1 (pt_cmpR op_ne (pe_callB call_len_seq (by rfl) B.len PySem.boot_len (pa_cons (pv 0) pa_nil)) (pe_callB call_len_seq (by rfl) B.len PySem.boot_len (pa_cons (pv 1) pa_nil)) (nomark _))))) (pss_one (ps_ret pe_bl)) pss_nil)
      (pss_cons (ps_for PassesOwn.never rfl (pi_range1 rfl B.range (pa_cons (pe_callB call_len_seq (by rfl) B.len PySem.boot_len (pa_cons (pv 1) pa_nil)) pa_nil)) (pg_name (i := 2) sc_law_list.nd rfl (.inl rfl)) (pss_one (ps_if (PW.pt (pw_or (pt_not (pt_val (pe_has G_law_whole (hr.mono (by decide)) (by rfl) pass0 (pa_cons (pe_ix ix_list (pv 0) (pv 2) (fun _ _ => rfl)) pa_nil)))) (pw_or1 (pt_cmpR op_ne (pe_ix ix_list (pv 0) (pv 2) (fun _ _ => rfl)) (pe_ix ix_list (pv 1) (pv 2) (fun _ _ => rfl)) (nomark _))))) (pss_one (ps_ret pe_bl)) pss_nil)))
      (pss_one (ps_ret pe_bl)))), ?_⟩
    refine q_when (b := !decide (xs.length = ys.length)) (et_is (et_or (a := false) (b := !decide (xs.length = ys.length)) (et_is (et_not (et_B (ev_isi (b := true) (ev_var rfl) (fun H1 e => .base (.lst (e p _ hp))) (kit_ty (by decide +kernel))))) rfl)
      (fun _ => et_is (et_test (ev_op (ev_lenI (ev_var rfl) hp.at) (ev_lenI (ev_var rfl) hr'.at) (rv_ne rfl))) ?_)) rfl) (fun hb H1 e1 => ?_) (fun hb H1 e1 => ?_)
    · by_cases c : xs.length = ys.length
      · simp [c]
      · have c2 : ¬ (V.int (xs.length : Int) = V.int (ys.length : Int)) := fun z => c (by injection z with z; omega)
        simp [c, c2]
    · refine s_ret ev_c fun H2 e2 => ?_
      have hne : xs ≠ ys := fun z => no_of_not hb (by rw [z])
      have q2 := q H2 (e1.trans e2)
      rw [decide_eq_false hne] at q2
      exact q2
    · have hlen := yes_of_not hb
      refine q_forR1 (ea_cons (ev_lenI (ev_var rfl) (ex_l e1 hr'.at)) ea_nil) (by omega) (fun i σ' H' => (∃ y, σ' = [some (.ref p), some (.ref r), y]) ∧ Ex H H' ∧ xs.take i = ys.take i) (fun H2 e2 => ⟨⟨_, rfl⟩, e1.trans e2, rfl⟩) (fun i σ' H' hi ⟨⟨y, es⟩, e, ht⟩ => ?_) (fun σ' H' ⟨⟨y, es⟩, e, ht⟩ => ?_)
      · subst es
        obtain ⟨v, hv⟩ := get_at (show i < ys.length by omega)
        obtain ⟨u, hu⟩ := get_at (show i < xs.length by omega)
        refine s_when (b := !decide (u = v)) (et_is (et_or (a := false) (b := !decide (u = v)) (et_is (et_not (et_B (ev_whole (ev_ixI (ev_var rfl) (ev_var rfl) (ex_l e hp.at) (at_int hu))))) rfl)
          (fun _ => et_is (et_test (ev_op (ev_ixI (ev_var rfl) (ev_var rfl) (ex_l e hp.at) (at_int hu)) (ev_ixI (ev_var rfl) (ev_var rfl) (ex_l e hr'.at) (at_int hv)) (rv_ne rfl))) ?_)) rfl) (fun hb H2 e2 => ?_) (fun hb H2 e2 => ⟨⟨_, rfl⟩, e.trans e2, ?_⟩)
        · by_cases c : u = v <;> simp [c]
        · refine s_ret ev_c fun H3 e3 => ?_
          have hne : xs ≠ ys := fun z => no_of_not hb (by
            rw [z, hv] at hu
            exact (Option.some.inj hu).symm)
          have q2 := q H3 (e.trans (e2.trans e3))
          rw [decide_eq_false hne] at q2
          exact q2
        · rw [take_next hu, take_next hv, ht, yes_of_not hb]
      · subst es
        refine s_ret ev_c fun H2 e2 => ?_
        have heq : xs = ys := by
          rw [Int.toNat_natCast, List.take_length, ← hlen, List.take_length] at ht
          exact ht
        have q2 := q H2 (e.trans e2)
        rw [decide_eq_true heq] at q2
        exact q2
theorem sv_list {H : Hp} {p r : Addr} {xs ys : List Int} (hp : IsL H p xs) (hr : IsL H r ys) (hn : ys.length ≤ 10000) : SpV spList [.ref p, .ref r] H (.bl (decide (xs = ys))) := fun H1 e Q q E => ⟨p, xs, r, ys, rfl, e p _ hp, e r _ hr, hn, q⟩
abbrev s_law_letters : Stmt := topS 35
theorem sc_law_letters : FnScope ["cell", "low"] ["cell"] (defScope s_law_letters) := ⟨rfl, rfl, rfl, by decide +kernel, rfl, by decide +kernel, by decide +kernel⟩
def spLetters : Sp := fun vs H Q _ => ∃ c : Int, vs = [.int c] ∧ RetLet H Q
theorem has_law_letters (D : DefAt K mg "_law_letters" s_law_letters) : Has P w K mg base CX0 1 "_law_letters" ["cell"] spLetters := by
  obtain ⟨f, fd, F, gf⟩ := D
  refine ⟨f, fd, F.ok sc_law_letters (fun vs H Q E h => ?_) (fun cdv A outer s H vs Q E hr h => ?_), gf, F.kp, F.binds (ps := ["cell"]) fun _ _ _ _ _ _ us hl => match us, hl with | [_], _ => rfl⟩
  · obtain ⟨c, rfl, _⟩ := h
    rfl
  · obtain ⟨c, rfl, q⟩ := h
    refine ⟨_, (pss_cons (ps_set (i := 1) sc_law_letters.nd rfl (.inl rfl) (pe_op op_add pe_int (pe_op op_mod (pv 0) pe_int)))
      (pss_one (ps_ret (pe_tup (pa_cons (pv 1) (pa_cons (pe_op op_add (pe_op op_add (pv 1) pe_int) (pe_op op_mod (pe_op op_fdiv (pv 0) pe_int) (pe_op op_sub pe_int (pv 1)))) pa_nil)))))), ?_⟩
    have h1 := Int.emod_nonneg c (show (8 : Int) ≠ 0 by decide)
    have h2 := Int.emod_lt_of_pos c (show (0 : Int) < 8 by decide)
    refine q_asg (ev_op ev_c (ev_op (ev_var rfl) ev_c (rv_mod (by decide))) rv_I0) fun H1 e1 => ?_
    have hpos : 0 < 9 - (1 + c % 8) := by omega
    have h3 := Int.emod_nonneg (c / 8) (show (9 - (1 + c % 8) : Int) ≠ 0 by omega)
    have h4 := Int.emod_lt_of_pos (c / 8) hpos
    refine s_retU (eu_tup (ea_cons (ev_var rfl) (ea_cons (ev_op (ev_op (ev_var rfl) ev_c rv_I0) (ev_op (ev_op (ev_var rfl) ev_c (rv_div ⟨by decide, by decide⟩)) (ev_op ev_c (ev_var rfl) rv_I0) (rv_mod hpos)) rv_I0) ea_nil)) (show 2 ≤ 100000 by decide)) fun p H2 np e2 h5 => ?_
    exact q _ _ ⟨by omega, by omega, by omega⟩ p H2 (fresh_back e1 np) (e1.trans e2) h5
abbrev s_law_digits : Stmt := topS 37
theorem sc_law_digits : FnScope ["letters", "cell", "many", "row", "k"] ["letters", "cell", "many"] (defScope s_law_digits) := ⟨rfl, rfl, rfl, by decide +kernel, rfl, by decide +kernel, by decide +kernel⟩
def spDigits : Sp := fun vs H Q _ => ∃ (l : Addr) (a b c n : Int), vs = [.ref l, .int c, .int n] ∧ IsT H l a b ∧ 0 ≤ n ∧ n ≤ 1000 ∧ ∀ row : List Int, (row.length : Int) = n → Over a b row → RetL (row.map V.int) H Q
theorem has_law_digits (D : DefAt K mg "_law_digits" s_law_digits) (B : Bl mg) : Has P w K mg base CX0 1 "_law_digits" ["letters", "cell", "many"] spDigits := by
  obtain ⟨f, fd, F, gf⟩ := D
  refine ⟨f, fd, F.ok sc_law_digits (fun vs H Q E h => ?_) (fun cdv A outer s H vs Q E hr h => ?_), gf, F.kp, F.binds (ps := ["letters", "cell", "many"]) fun _ _ _ _ _ _ us hl => match us, hl with | [_, _, _], _ => rfl⟩
  · obtain ⟨l, a, b, c, n, rfl, _⟩ := h
    rfl
  · obtain ⟨l, a, b, c, n, rfl, hT, h0, hn, q⟩ := h
    refine ⟨_, (pss_cons (ps_set (i := 3) sc_law_digits.nd rfl (.inl rfl) (pe_lst pa_nil))
      (pss_cons (ps_for PassesOwn.never rfl (pi_range1 rfl B.range (pa_cons (pv 2) pa_nil)) (pg_name (i := 4) sc_law_digits.nd rfl (.inl rfl)) (pss_cons (ps_expr (pe_bm PySem.F.plainAttrs_list PySem.F.slot_list_append PySem.F.type_list_append mt_append (pv 3) (pa_cons (pe_ix ix_tup (pv 0) (pe_op op_mod (pv 1) pe_int) (fun _ _ => rfl)) pa_nil)))
      (pss_one (ps_set (i := 1) sc_law_digits.nd rfl (.inl rfl) (pe_op op_fdiv (pv 1) pe_int)))))
      (pss_one (ps_ret (pv 3))))), ?_⟩
    refine q_asgL (el_lst ea_nil (Nat.zero_le _)) fun o H1 no e1 h1 => ?_
    refine q_forR1 (ea_cons (ev_var rfl) ea_nil) (by omega) (fun i σ' H' => ∃ (c' : Int) (y : Option V) (row : List Int), σ' = [some (.ref l), some (.int c'), some (.int n), some (.ref o), y] ∧ Ex H H' ∧ IsL H' o row ∧ row.length = i ∧ Over a b row)
      (fun H2 e2 => ⟨c, none, [], rfl, e1.trans e2, e2 o _ h1, rfl, over_nil a b⟩) (fun i σ' H' hi ⟨c', y, row, es, e, ho, hl, hov⟩ => ?_) (fun σ' H' ⟨c', y, row, es, e, ho, hl, hov⟩ => ?_)
    · subst es
      have h2 := Int.emod_nonneg c' (show (2 : Int) ≠ 0 by decide)
      have h3 := Int.emod_lt_of_pos c' (show (0 : Int) < 2 by decide)
      refine q_app ho (ev_var rfl) (ev_op (ev_var rfl) (ev_op (ev_var rfl) ev_c (rv_mod (by decide))) (rv_ixT (ex_t e hT.at) (at_two ⟨h2, h3⟩))) (by rw [List.length_map]; omega) fun H2 e2 => ?_
      refine s_asg (ev_op (ev_var rfl) ev_c (rv_div ⟨by decide, by decide⟩)) fun H3 e3 => ?_
      refine ⟨c' / 2, _, row ++ [if c' % 2 = 0 then a else b], rfl, ((e.trans e2).mut no).trans e3, e3 o _ ?_, by simp [hl], over_snoc hov ?_⟩
      · rw [upd_same, List.map_append]
        rfl
      · by_cases z : c' % 2 = 0
        · rw [if_pos z]
          exact .inl rfl
        · rw [if_neg z]
          exact .inr rfl
    · subst es
      exact s_ret (ev_var rfl) fun H2 e2 => q row (by omega) hov o H2 no (e.trans e2) (e2 o _ ho)
abbrev s_law_built : Stmt := topS 39
theorem sc_law_built : FnScope ["letters", "sign", "some", "row", "length"] ["letters", "sign", "some"] (defScope s_law_built) := ⟨rfl, rfl, rfl, by decide +kernel, rfl, by decide +kernel, by decide +kernel⟩
def spLawBuilt : Sp := fun vs H Q _ => ∃ (l : Addr) (a b s : Int) (p : Addr) (some' : List Int), vs = [.ref l, .int s, .ref p] ∧ IsT H l a b ∧ IsL H p some' ∧ some'.length ≤ 1000 ∧ (∀ v ∈ some', 0 ≤ v ∧ v ≤ 10) ∧ RetL ((built a b s some').map V.int) H Q
theorem has_law_built (D : DefAt K mg "_law_built" s_law_built) (B : Bl mg) : Has P w K mg base CX0 1 "_law_built" ["letters", "sign", "some"] spLawBuilt := by
  obtain ⟨f, fd, F, gf⟩ := D
  refine ⟨f, fd, F.ok sc_law_built (fun vs H Q E h => ?_) (fun cdv A outer s H vs Q E hr h => ?_), gf, F.kp, F.binds (ps := ["letters", "sign", "some"]) fun _ _ _ _ _ _ us hl => match us, hl with | [_, _, _], _ => rfl⟩
  · obtain ⟨l, a, b, s, p, some', rfl, _⟩ := h
    rfl
  · obtain ⟨l, a, b, sn, p, xs, rfl, hT, hp, hn, hv, q⟩ := h
    refine ⟨_, (pss_cons (ps_set (i := 3) sc_law_built.nd rfl (.inl rfl) (pe_lst pa_nil))
      (pss_cons (ps_for PassesOwn.never rfl (pi_list (pv 2)) (pg_name (i := 4) sc_law_built.nd rfl (.inl rfl)) (pss_cons (ps_set (i := 3) sc_law_built.nd rfl (.inl rfl) (pe_op op_cat (pv 3) (pe_op op_rep (pe_lst (pa_cons (pv 1) pa_nil)) (pv 4))))
      (pss_one (ps_set (i := 1) sc_law_built.nd rfl (.inl rfl) (pe_op op_sub (pe_op op_add (pe_ix ix_tup (pv 0) pe_int (fun _ _ => rfl)) (pe_ix ix_tup (pv 0) pe_int (fun _ _ => rfl))) (pv 1))))))
      (pss_one (ps_ret (pv 3))))), ?_⟩
    refine q_asgL (el_lst ea_nil (Nat.zero_le _)) fun o H1 no e1 h1 => ?_
    refine q_forLn (ev_var rfl) (ex_l e1 hp.at) (fun i σ' H' => ∃ (o' : Addr) (y : Option V), σ' = [some (.ref l), some (.int (sg a b sn i)), some (.ref p), some (.ref o'), y] ∧ Ex H H' ∧ H o' = none ∧ IsL H' o' (built a b sn (xs.take i)))
      (fun H2 e2 => ⟨o, none, rfl, e1.trans e2, no, e2 o _ h1⟩) (fun i σ' H' _ ⟨_, _, _, e, _⟩ => ex_l e hp.at) (fun i x σ' H' hx ⟨o', y, es, e, no', ho⟩ => ?_) (fun σ' H' ⟨o', y, es, e, no', ho⟩ => ?_)
    · subst es
      obtain ⟨z, hz, rfl⟩ := get_map hx
      have hz2 := hv z (List.mem_of_getElem? hz)
      have hi := (List.getElem?_eq_some_iff.mp hz).1
      have hln : (xs.take i).length = i := by rw [List.length_take]; omega
      have hbl := built_len (a := a) (b := b) (xs.take i) sn (m := 10) (fun v hv' => (hv v (List.mem_of_mem_take hv')).2) (by decide)
      rw [hln] at hbl
      refine q_asgL (el_catN (ev_var rfl) (el_rep (el_lst (ea_cons (ev_var rfl) ea_nil) (show 1 ≤ 100000 by decide)) (ev_var rfl) ⟨by omega, by omega⟩ (show 1 ≤ 1000 by decide)) ho (by
        rw [rep_one, List.length_map, List.length_map, List.length_replicate]
        omega)) fun o2 H2 no2 e2 h2 => ?_
      refine s_asg (ev_op (ev_op (ev_op (ev_var rfl) ev_c (rv_ixT (ex_t (e.trans e2) hT.at) rfl)) (ev_op (ev_var rfl) ev_c (rv_ixT (ex_t (e.trans e2) hT.at) rfl)) rv_I0) (ev_var rfl) rv_I0) fun H3 e3 => ?_
      refine ⟨o2, _, rfl, (e.trans e2).trans e3, fresh_back e no2, ?_⟩
      have h2' := e3 o2 _ h2
      rw [rep_one, ← List.map_append] at h2'
      rw [take_next hz, built_snoc, hln]
      exact h2'
    · subst es
      rw [List.length_map, List.take_length] at ho
      exact s_ret (ev_var rfl) fun H2 e2 => q o' H2 no' (e.trans e2) (e2 o' _ ho)
abbrev s_law_row : Stmt := topS 40
theorem sc_law_row : FnScope ["script", "first", "letters", "most", "cell", "row", "k"] ["script", "first", "letters", "most"] (defScope s_law_row) := ⟨rfl, rfl, rfl, by decide +kernel, rfl, by decide +kernel, by decide +kernel⟩
def spRow (K : PySem.W.Frag) : Sp := fun vs H Q _ => ∃ (s : Addr) (ns : List Int) (f : Int) (l : Addr) (a b m : Int), vs = [.ref s, .int f, .ref l, .int m] ∧ SqL K H s (ns.map V.int) ∧ 0 ≤ f ∧ IsT H l a b ∧ (0 ≤ a ∧ a ≤ 10 ∧ 0 ≤ b ∧ b ≤ 10) ∧ 0 ≤ m ∧ m ≤ 900 ∧ RetSome a b m.toNat H Q
theorem has_law_row (D : DefAt K mg "_law_row" s_law_row) (B : Bl mg) (G_law_cell_at : Has P w K mg base CX0 1 "_law_cell_at" ["script", "k"] (spCell K)) (G_law_digits : Has P w K mg base CX0 1 "_law_digits" ["letters", "cell", "many"] spDigits)
    (G_law_built : Has P w K mg base CX0 1 "_law_built" ["letters", "sign", "some"] spLawBuilt) : Has P w K mg base CX0 2 "_law_row" ["script", "first", "letters", "most"] (spRow K) := by
  obtain ⟨f, fd, F, gf⟩ := D
  refine ⟨f, fd, F.ok sc_law_row (fun vs H Q E h => ?_) (fun cdv A outer s H vs Q E hr h => ?_), gf, F.kp, F.binds (ps := ["script", "first", "letters", "most"]) fun _ _ _ _ _ _ us hl => match us, hl with | [_, _, _, _], _ => rfl⟩
  · obtain ⟨s, ns, f, l, a, b, m, rfl, _⟩ := h
    rfl
  · obtain ⟨sa, ns, f, l, a, b, m, rfl, hs, hf, hT, hab, h0, hm, q⟩ := h
    refine ⟨_, (pss_cons (ps_set (i := 4) sc_law_row.nd rfl (.inl rfl) (pe_has G_law_cell_at (hr.mono (by decide)) (by rfl) pass0 (pa_cons (pv 0) (pa_cons (pv 1) pa_nil))))
      (pss_cons (ps_set (i := 5) sc_law_row.nd rfl (.inl rfl) (pe_has G_law_digits (hr.mono (by decide)) (by rfl) pass0 (pa_cons (pv 2) (pa_cons (pe_has G_law_cell_at (hr.mono (by decide)) (by rfl) pass0 (pa_cons (pv 0) (pa_cons (pe_op op_add (pv 1) pe_int) pa_nil))) (pa_cons (pe_op op_mod (pe_op op_fdiv (pv 4) pe_int) (pe_op op_add (pv 3) pe_int)) pa_nil)))))
      (pss_cons (ps_if (pt_cmpR op_gt (pe_op op_mod (pv 4) pe_int) pe_int (nomark _)) (pss_cons (ps_set (i := 5) sc_law_row.nd rfl (.inl rfl) (pe_has G_law_digits (hr.mono (by decide)) (by rfl) pass0 (pa_cons (pv 2) (pa_cons (pe_has G_law_cell_at (hr.mono (by decide)) (by rfl) pass0 (pa_cons (pv 0) (pa_cons (pe_op op_add (pv 1) pe_int) pa_nil))) (pa_cons (pe_op op_mod (pe_op op_fdiv (pv 4) pe_int) pe_int) pa_nil)))))
      (pss_cons (ps_for PassesOwn.never rfl (pi_range1 rfl B.range (pa_cons pe_int pa_nil)) (pg_name (i := 6) sc_law_row.nd rfl (.inl rfl)) (pss_one (ps_if (pt_cmpR op_lt (pe_callB call_len_seq (by rfl) B.len PySem.boot_len (pa_cons (pv 5) pa_nil)) pe_int (nomark _)) (pss_one (ps_set (i := 5) sc_law_row.nd rfl (.inl rfl) (pe_has G_law_built (hr.mono (by decide)) (by rfl) pass0 (pa_cons (pv 2) (pa_cons (pe_ix ix_tup (pv 2) (pe_op op_mod (pe_op op_fdiv (pv 4) (pe_ix ix_list (pe_lst (pa_cons pe_int (pa_cons pe_int (pa_cons pe_int pa_nil)))) (pv 6) (fun _ _ => rfl))) pe_int) (fun _ _ => rfl)) (pa_cons (pv 5) pa_nil)))))) pss_nil)))
      (pss_one (ps_set (i := 5) sc_law_row.nd rfl (.inl rfl) (pe_slice sl_list (pe_slice sl_list (pv 5) (po_some (pe_op op_mod (pe_op op_fdiv (pv 4) pe_int) (pe_op op_add (pe_callB call_len_seq (by rfl) B.len PySem.boot_len (pa_cons (pv 5) pa_nil)) pe_int))) po_none) po_none (po_some (pv 3))))))) pss_nil)
      (pss_one (ps_ret (pv 5)))))), ?_⟩
    refine q_asg (ev_cell (ev_var rfl) (ev_var rfl) hs hf) fun H1 e1 => ?_
    generalize hc : cell ns f = c
    have hm1 : 0 < m + 1 := by omega
    have d1 := Int.emod_nonneg (c / 4) (show (m + 1 : Int) ≠ 0 by omega)
    have d2 := Int.emod_lt_of_pos (c / 4) hm1
    refine q_asgC (ea_cons (ev_var rfl) (ea_cons (ev_cell (ev_var rfl) (ev_op (ev_var rfl) ev_c rv_I0) (ex_l e1 hs) (by omega)) (ea_cons (ev_op (ev_op (ev_var rfl) ev_c (rv_div ⟨by decide, by decide⟩)) (ev_op (ev_var rfl) ev_c rv_I0) (rv_mod hm1)) ea_nil))) fun H2 e2 => ?_
    refine ⟨l, a, b, _, _, rfl, e2 l _ (e1 l _ hT), d1, by omega, fun row hlen hov o H3 no e3 ho => ?_⟩
    have e13 := (e1.trans e2).trans e3
    have hfr : H o = none := fresh_back (e1.trans e2) no
    refine q_when (b := decide (1 < c % 4)) (et_test (ev_op (ev_op (ev_var rfl) ev_c (rv_mod (by decide))) ev_c rv_I0)) (fun hb H4 e4 => ?_) (fun hb H4 e4 => ?_)
    · have g1 := Int.emod_nonneg (c / 4) (show (5 : Int) ≠ 0 by decide)
      have g2 := Int.emod_lt_of_pos (c / 4) (show (0 : Int) < 5 by decide)
      have e14 := e13.trans e4
      refine q_asgC (ea_cons (ev_var rfl) (ea_cons (ev_cell (ev_var rfl) (ev_op (ev_var rfl) ev_c rv_I0) (ex_l e14 hs) (by omega)) (ea_cons (ev_op (ev_op (ev_var rfl) ev_c (rv_div ⟨by decide, by decide⟩)) ev_c (rv_mod (by decide))) ea_nil))) fun H5 e5 => ?_
      refine ⟨l, a, b, _, _, rfl, (e14.trans e5) l _ hT, g1, by omega, fun row2 hlen2 hov2 o2 H6 no2 e6 ho2 => ?_⟩
      have e16 := (e14.trans e5).trans e6
      have hfr2 : H o2 = none := fresh_back (e14.trans e5) no2
      refine q_forR1 (ea_cons ev_c ea_nil) (by omega) (fun i σ' H' => ∃ (o' : Addr) (y : Option V) (r : List Int), σ' = [some (.ref sa), some (.int f), some (.ref l), some (.int m), some (.int c), some (.ref o'), y] ∧ Ex H H' ∧ H o' = none ∧ IsL H' o' r ∧ Over a b r ∧ r.length ≤ 200)
        (fun H7 e7 => ⟨o2, none, row2, rfl, e16.trans e7, hfr2, e7 o2 _ ho2, hov2, by omega⟩) (fun i σ' H' hi ⟨o', y, r, es, e, no', ho', hov', hl'⟩ => ?_) (fun σ' H' ⟨o', y, r, es, e, no', ho', hov', hl'⟩ => ?_)
      · subst es
        refine s_when (b := decide ((r.length : Int) < 12)) (et_test (ev_op (ev_lenI (ev_var rfl) ho'.at) ev_c rv_I0)) (fun hb7 H7 e7 => ?_) (fun hb7 H7 e7 => ⟨o', _, r, rfl, e.trans e7, no', e7 o' _ ho', hov', hl'⟩)
        have hr12 := of_decide_eq_true hb7
        obtain ⟨n3, hn3, hn4⟩ := at_three (a := 64) (b := 128) (c := 256) (show i < 3 by omega)
        have hn5 : 0 < n3 ∧ n3 < 1073741824 := by omega
        have k1 := Int.emod_nonneg (c / n3) (show (2 : Int) ≠ 0 by decide)
        have k2 := Int.emod_lt_of_pos (c / n3) (show (0 : Int) < 2 by decide)
        refine s_asgC (ea_cons (ev_var rfl) (ea_cons (ev_op (ev_var rfl) (ev_op (ev_op (ev_var rfl) (ev_ixN (el_lst (ea_cons ev_c (ea_cons ev_c (ea_cons ev_c ea_nil))) (show 3 ≤ 100000 by decide)) (ev_var rfl) hn3) (rv_div hn5)) ev_c (rv_mod (by decide))) (rv_ixT (ex_t (e.trans e7) hT.at) (at_two ⟨k1, k2⟩))) (ea_cons (ev_var rfl) ea_nil))) fun H8 e8 => ?_
        have hs2 : (if c / n3 % 2 = 0 then a else b) = a ∨ (if c / n3 % 2 = 0 then a else b) = b := by
          by_cases z : c / n3 % 2 = 0
          · rw [if_pos z]
            exact .inl rfl
          · rw [if_neg z]
            exact .inr rfl
        refine ⟨l, a, b, _, o', r, rfl, ((e.trans e7).trans e8) l _ hT, (e7.trans e8) o' _ ho', by omega, fun v hv => ?_, fun o3 H9 no3 e9 h9 => ?_⟩
        · have := hov' v hv
          omega
        · refine ⟨o3, _, _, rfl, ((e.trans e7).trans e8).trans e9, fresh_back ((e.trans e7).trans e8) no3, h9, built_over _ _ hs2, ?_⟩
          have := built_len (a := a) (b := b) (m := 10) r (if c / n3 % 2 = 0 then a else b) (fun v hv => by have := hov' v hv; omega) (by decide)
          omega
      · subst es
        have j1 := Int.emod_nonneg (c / 512) (show ((r.length : Int) + 1) ≠ 0 by omega)
        have hlp : 0 < (r.length : Int) + 1 := by omega
        refine s_asgL (el_slN (el_sl (ev_var rfl) (eo_some (ev_op (ev_op (ev_var rfl) ev_c (rv_div ⟨by decide, by decide⟩)) (ev_op (ev_lenI (ev_var rfl) ho'.at) ev_c rv_I0) (rv_mod hlp))) eo_none ho'.at) eo_none (eo_some (ev_var rfl))) fun o3 H9 no3 e9 h9 => ?_
        rw [cut_fromI r j1, cut_toI _ h0] at h9
        exact s_ret (ev_var rfl) fun H10 e10 => q _ (by rw [List.length_take]; omega) ((hov'.drop _).take _) o3 H10 (fresh_back e no3) ((e.trans e9).trans e10) (e10 o3 _ h9)
    · have hmn : row.length ≤ m.toNat := by omega
      exact s_ret (ev_var rfl) fun H5 e5 => q row hmn hov o H5 hfr ((e13.trans e4).trans e5) ((e4.trans e5) o _ ho)
theorem sp_row_go {H : Hp} {Q : VK} {E : XK} {s : Addr} {ns : List Int} {f : Int} {l : Addr} {a b m : Int} (hs : SqL K H s (ns.map V.int)) (hf : 0 ≤ f) (hT : IsT H l a b) (hL : Let a b) (h0 : 0 ≤ m) (hm : m ≤ 900) (q : RetSome a b m.toNat H Q) : spRow K [.ref s, .int f, .ref l, .int m] H Q E :=
  ⟨s, ns, f, l, a, b, m, rfl, hs, hf, hT, ⟨by have := hL.lo; omega, by have := hL.lt; have := hL.hi; omega, by have := hL.lo; have := hL.lt; omega, by have := hL.hi; omega⟩, h0, hm, q⟩
/-! ### the law -/
abbrev s_law : Stmt := topS 43
theorem sc_law : FnScope ["script", "letters", "row", "call", "odd", "due", "others", "sign"] ["script"] (defScope s_law) := ⟨rfl, rfl, rfl, by decide +kernel, rfl, by decide +kernel, by decide +kernel⟩
def spLaw (K : PySem.W.Frag) : Sp := fun vs H Q _ => ∃ (s : Addr) (ns : List Int), vs = [.ref s] ∧ SqL K H s (ns.map V.int) ∧ ∀ H', Q (.bl true) H'
def wantOdd (call : Int) : Nat := if call = 4 then 4 else if call = 5 then 5 else if call = 6 then 4 else if call = 7 then 3 else 2
def want1 (call odd : Int) : Option Nat := if 3 < call ∧ odd = 1 then some (wantOdd call) else none
def want2 (call a b : Int) (row : List Int) (odd : Int) : Option Nat := if call < 4 ∧ ¬ (row.length ≤ 400 ∧ Over a b row) then some 1 else want1 call odd
theorem wants {call a b : Int} {row : List Int} {odd : Int} (h0 : 0 ≤ call ∧ call < 9) (ho : odd = 0 ∨ odd = 1) : outCall call a b row odd = if Lets a b then want2 call a b row odd else some 0 := by
  by_cases hL : Lets a b
  · have h1 := hL.1
    have h2 := hL.2.1
    have h3 := hL.2.2
    rw [if_pos hL]
    have sa : outSign a b a = none := by
      unfold outSign
      rw [if_pos hL, if_pos (.inl rfl)]
    have sb : outSign a b b = none := by
      unfold outSign
      rw [if_pos hL, if_pos (.inr rfl)]
    have s11 : outSign a b 11 = some 3 := by
      unfold outSign
      rw [if_pos hL, if_neg (by omega)]
    unfold outCall want2
    by_cases c4 : call < 4
    · rw [if_pos c4]
      unfold outRow want1
      rw [if_pos hL]
      by_cases r : row.length ≤ 400 ∧ Over a b row
      · rw [if_pos r, if_neg (fun z => z.2 r), if_neg (by omega)]
      · rw [if_neg r, if_pos ⟨c4, r⟩]
    · have n2 : ¬ (call < 4 ∧ ¬ (row.length ≤ 400 ∧ Over a b row)) := fun z => c4 z.1
      rw [if_neg c4, if_neg n2]
      have : call = 4 ∨ call = 5 ∨ call = 6 ∨ call = 7 ∨ call = 8 := by omega
      have w0 : odd = 0 → want1 call odd = none := fun h => if_neg (fun z => by omega)
      have w1 : odd = 1 → want1 call odd = some (wantOdd call) := fun h => if_pos ⟨by omega, h⟩
      rcases this with rfl | rfl | rfl | rfl | rfl
      · rcases ho with h | h
        · rw [w0 h, h]
          show outAll a b 2 = none
          unfold outAll
          rw [if_pos hL, if_pos (by decide)]
        · rw [w1 h, h]
          show outAll a b 11 = some 4
          unfold outAll
          rw [if_pos hL, if_neg (by decide)]
      · rcases ho with h | h
        · rw [w0 h, h]
          show outRead a b [] = none
          unfold outRead
          rw [if_pos hL, if_pos (fun _ h => nomatch h)]
        · rw [w1 h, h]
          show outRead a b [120] = some 5
          unfold outRead
          rw [if_pos hL, if_neg]
          intro z
          rcases z 120 List.mem_cons_self with k | k
          · have : (72 : Int) = a := k
            omega
          · have : (72 : Int) = b := k
            omega
      · rcases ho with h | h
        · rw [w0 h, h]
          show outMany a b a 3 400 = none
          unfold outMany
          rw [sa]
          rfl
        · rw [w1 h, h]
          show outMany a b a 401 400 = some 4
          unfold outMany
          rw [sa]
          rfl
      · rcases ho with h | h
        · rw [w0 h, h]
          show outMany a b b 3 60 = none
          unfold outMany
          rw [sb]
          rfl
        · rw [w1 h, h]
          show outMany a b 11 3 60 = some 3
          unfold outMany
          rw [s11]
      · rcases ho with h | h
        · rw [w0 h, h]
          show outBuilt a b a [1, 2] = none
          unfold outBuilt
          rw [sa]
          rfl
        · rw [w1 h, h]
          show outBuilt a b a [1, 0] = some 2
          unfold outBuilt
          rw [sa]
          rfl
  · rw [if_neg hL]
    have so : ∀ s, outSign a b s = some 0 := fun s => if_neg hL
    have mo : ∀ s m c, outMany a b s m c = some 0 := fun s m c => by
      unfold outMany
      rw [so]
    unfold outCall
    by_cases c4 : call < 4
    · rw [if_pos c4]
      exact if_neg hL
    rw [if_neg c4]
    by_cases c5 : call = 4
    · rw [if_pos c5]
      exact if_neg hL
    rw [if_neg c5]
    by_cases c6 : call = 5
    · rw [if_pos c6]
      exact if_neg hL
    rw [if_neg c6]
    by_cases c7 : call = 6
    · rw [if_pos c7]
      exact mo _ _ _
    rw [if_neg c7]
    by_cases c8 : call = 7
    · rw [if_pos c8]
      exact mo _ _ _
    rw [if_neg c8]
    unfold outBuilt
    rw [so]
theorem ok_law {cls : Nat → Addr} {cE : Addr} {f : Addr} {fd : FuncData} (F : Fun K "law" "law" s_law f fd) (B : Bl mg) (G_law_cell_at : Has P w K mg base CX0 1 "_law_cell_at" ["script", "k"] (spCell K))
    (G_law_letters : Has P w K mg base CX0 1 "_law_letters" ["cell"] spLetters) (G_law_digits : Has P w K mg base CX0 1 "_law_digits" ["letters", "cell", "many"] spDigits) (G_law_one : Has P w K mg base CX0 1 "_law_one" ["k"] spOne)
    (G_law_kinds : Has P w K mg base CX0 6 "_law_kinds" ["call", "letters", "row", "odd"] (spKinds K cls cE)) : FnOk P w K mg base CX0 7 f fd ["script"] (spLaw K) := by
  refine F.ok sc_law (fun vs H Q E h => ?_) (fun cdv A outer s H vs Q E hr h => ?_)
  · obtain ⟨s, ns, rfl, _⟩ := h
    rfl
  · obtain ⟨sa, ns, rfl, hs, q⟩ := h
    refine ⟨_, (pss_cons (ps_set (i := 1) sc_law.nd rfl (.inr rfl) (pe_has G_law_letters (hr.mono (by decide)) (by rfl) pass0 (pa_cons (pe_op op_fdiv (pe_has G_law_cell_at (hr.mono (by decide)) (by rfl) pass0 (pa_cons (pv 0) (pa_cons pe_int pa_nil))) pe_int) pa_nil)))
      (pss_cut (ps_if (pt_cmpR op_eq (pe_op op_mod (pe_has G_law_cell_at (hr.mono (by decide)) (by rfl) pass0 (pa_cons (pv 0) (pa_cons pe_int pa_nil))) pe_int) pe_int (nomark _)) (pss_one (ps_set (i := 1) sc_law.nd rfl (.inr rfl) (pe_tup (pa_cons (pe_op op_mod (pe_op op_fdiv (pe_has G_law_cell_at (hr.mono (by decide)) (by rfl) pass0 (pa_cons (pv 0) (pa_cons pe_int pa_nil))) pe_int) pe_int) (pa_cons (pe_op op_mod (pe_op op_fdiv (pe_has G_law_cell_at (hr.mono (by decide)) (by rfl) pass0 (pa_cons (pv 0) (pa_cons pe_int pa_nil))) pe_int) pe_int) pa_nil))))) pss_nil)
      (pss_cons (ps_set (i := 2) sc_law.nd rfl (.inl rfl) (pe_has G_law_digits (hr.mono (by decide)) (by rfl) pass0 (pa_cons (pv 1) (pa_cons (pe_has G_law_cell_at (hr.mono (by decide)) (by rfl) pass0 (pa_cons (pv 0) (pa_cons pe_int pa_nil))) (pa_cons (pe_op op_mod (pe_has G_law_cell_at (hr.mono (by decide)) (by rfl) pass0 (pa_cons (pv 0) (pa_cons pe_int pa_nil))) pe_int) pa_nil)))))
      (pss_cut (ps_if (PW.pt (pw_and (pt_cmpR (op_neD hr.units) (pv 2) (pe_lst pa_nil) (nomark _)) (pw_and1 (pt_cmpR op_eq (pe_op op_mod (pe_has G_law_cell_at (hr.mono (by decide)) (by rfl) pass0 (pa_cons (pv 0) (pa_cons pe_int pa_nil))) pe_int) pe_int (nomark _))))) (pss_one (ps_asg (pe_ix ix_list (pe_lst (pa_cons pe_int (pa_cons pe_int pa_nil))) (pe_op op_mod (pe_op op_fdiv (pe_has G_law_cell_at (hr.mono (by decide)) (by rfl) pass0 (pa_cons (pv 0) (pa_cons pe_int pa_nil))) pe_int) pe_int) (fun _ _ => rfl)) (pg_sub (pv 2) (pe_op op_mod (pe_op op_fdiv (pe_has G_law_cell_at (hr.mono (by decide)) (by rfl) pass0 (pa_cons (pv 0) (pa_cons pe_int pa_nil))) pe_int) (pe_callB call_len_seq (by rfl) B.len PySem.boot_len (pa_cons (pv 2) pa_nil))) set_list))) pss_nil)
      (pss_cut (ps_if (pt_cmpR op_eq (pe_op op_mod (pe_has G_law_cell_at (hr.mono (by decide)) (by rfl) pass0 (pa_cons (pv 0) (pa_cons pe_int pa_nil))) pe_int) pe_int (nomark _)) (pss_one (ps_set (i := 2) sc_law.nd rfl (.inl rfl) (pe_op op_rep (pe_lst (pa_cons (pe_ix ix_tup (pv 1) pe_int (fun _ _ => rfl)) pa_nil)) pe_int))) pss_nil)
      (pss_cons (ps_set (i := 3) sc_law.nd rfl (.inl rfl) (pe_op op_mod (pe_has G_law_cell_at (hr.mono (by decide)) (by rfl) pass0 (pa_cons (pv 0) (pa_cons pe_int pa_nil))) pe_int))
      (pss_cons (ps_set (i := 4) sc_law.nd rfl (.inl rfl) (pe_op op_mod (pe_op op_fdiv (pe_has G_law_cell_at (hr.mono (by decide)) (by rfl) pass0 (pa_cons (pv 0) (pa_cons pe_int pa_nil))) pe_int) pe_int))
      (pss_cons (ps_set (i := 5) sc_law.nd rfl (.inl rfl) (pe_lst pa_nil))
      (pss_cut (ps_if (PW.pt (pw_and (pt_cmpR op_gt (pv 3) pe_int (nomark _)) (pw_and1 (pt_cmpR op_eq (pv 4) pe_int (nomark _))))) (pss_one (ps_set (i := 5) sc_law.nd rfl (.inl rfl) (pe_has G_law_one (hr.mono (by decide)) (by rfl) pass0 (pa_cons (pe_ix ix_list (pe_lst (pa_cons pe_int (pa_cons pe_int (pa_cons pe_int (pa_cons pe_int (pa_cons pe_int pa_nil)))))) (pe_op op_sub (pv 3) pe_int) (fun _ _ => rfl)) pa_nil)))) pss_nil)
      (pss_cons (ps_setLc (i := 6) (own := [("sign", 7)]) (g := gName 7) rfl sc_law.nd rfl rfl (sw_true rfl rfl rfl (by decide +kernel)) (pi_list (pv 2)) (blkOk_by (own := [("sign", 7)]) (N := ["script", "letters", "row", "call", "odd", "due", "others", "sign"]) (sc := defScope s_law) (by decide +kernel)) (fun _ _ _ _ _ => pg_name (i := 7) sc_law.nd rfl (Or.inl rfl)) (fun _ _ _ _ _ => (pts_one (pt_cmpR (show OpR _ (compareOp .NotIn) (rIn K true) from op_notIn_seq) (pv 7) (pv 1) (by rfl)))) (fun _ _ _ _ _ => (pv 7)))
      (pss_cut (ps_if (PW.pt (pw_and (pt_cmpR op_lt (pv 3) pe_int (nomark _)) (pw_and1 (PW.pt (pw_or (pt_cmpR op_gt (pe_callB call_len_seq (by rfl) B.len PySem.boot_len (pa_cons (pv 2) pa_nil)) pe_int (nomark _)) (pw_or1 (pt_cmpR (op_neD hr.units) (pv 6) (pe_lst pa_nil) (nomark _)))))))) (pss_one (ps_set (i := 5) sc_law.nd rfl (.inl rfl) (pe_has G_law_one (hr.mono (by decide)) (by rfl) pass0 (pa_cons pe_int pa_nil)))) pss_nil)
      (pss_cut (ps_if (pt_not (pt_chain3 op_le op_lt op_le pe_int (pe_ix ix_tup (pv 1) pe_int (fun _ _ => rfl)) (pe_ix ix_tup (pv 1) pe_int (fun _ _ => rfl)) pe_int)) (pss_one (ps_set (i := 5) sc_law.nd rfl (.inl rfl) (pe_has G_law_one (hr.mono (by decide)) (by rfl) pass0 (pa_cons pe_int pa_nil)))) pss_nil)
      (pss_one (ps_ret (pe_cmpR (op_eqD hr.units) (pe_has G_law_kinds (hr.mono (by decide)) (by rfl) pass0 (pa_cons (pv 3) (pa_cons (pv 1) (pa_cons (pv 2) (pa_cons (pv 4) pa_nil))))) (pv 5) (nomark _)))))))))))))))), ?_⟩
    refine q_asgC (ea_cons (ev_op (ev_cell (ev_var rfl) ev_c hs (by decide)) ev_c (rv_div ⟨by decide, by decide⟩)) ea_nil) fun H1 e1 => ?_
    refine ⟨_, rfl, fun a0 b0 hL l0 H2 nl e2 hT => ?_⟩
    have e12 := e1.trans e2
    have hlo := hL.lo
    have hlt := hL.lt
    have hhi := hL.hi
    refine q_cut (M := fun σ' H' => ∃ (l : Addr) (a b : Int), σ' = [some (.ref sa), some (.ref l), none, none, none, none, none, none] ∧ Ex H H' ∧ IsT H' l a b) ?_ ?_
    · refine s_when (et_test (ev_op (ev_op (ev_cell (ev_var rfl) ev_c (ex_l e12 hs) (by decide)) ev_c (rv_mod (by decide))) ev_c (rv_eq rfl))) (fun _ H3 e3 => ?_) (fun _ H3 e3 => ⟨l0, a0, b0, rfl, e12.trans e3, e3 l0 _ hT⟩)
      have e13 := e12.trans e3
      refine s_asgU (eu_tup (ea_cons (ev_op (ev_op (ev_cell (ev_var rfl) ev_c (ex_l e13 hs) (by decide)) ev_c (rv_div ⟨by decide, by decide⟩)) ev_c (rv_mod (by decide))) (ea_cons (ev_op (ev_op (ev_cell (ev_var rfl) ev_c (ex_l e13 hs) (by decide)) ev_c (rv_div ⟨by decide, by decide⟩)) ev_c (rv_mod (by decide))) ea_nil)) (show 2 ≤ 100000 by decide)) fun t H4 nt e4 ht => ?_
      exact ⟨t, _, _, rfl, e13.trans e4, ht⟩
    clear e1 e2 nl e12 hT
    rintro σ1 H3 ⟨l, a, b, rfl, e3, hT⟩
    have hs3 : SqL K H3 sa (ns.map V.int) := ex_l e3 hs
    -- the row
    have m1 := Int.emod_nonneg (cell ns 1) (show (21 : Int) ≠ 0 by decide)
    have m2 := Int.emod_lt_of_pos (cell ns 1) (show (0 : Int) < 21 by decide)
    refine q_asgC (ea_cons (ev_var rfl) (ea_cons (ev_cell (ev_var rfl) ev_c hs3 (by decide)) (ea_cons (ev_op (ev_cell (ev_var rfl) ev_c hs3 (by decide)) ev_c (rv_mod (by decide))) ea_nil))) fun H4 e4 => ?_
    refine ⟨l, a, b, _, _, rfl, e4 l _ hT, m1, by omega, fun row hlen hov p H5 np e5 hp => ?_⟩
    have e35 := e4.trans e5
    have np3 : H3 p = none := fresh_back e4 np
    have hp5 : IsL H5 p row := hp
    have hrl : row.length ≤ 20 := by omega
    refine q_cut (M := fun σ' H' => ∃ (row : List Int), σ' = [some (.ref sa), some (.ref l), some (.ref p), none, none, none, none, none] ∧ Ex H3 H' ∧ IsL H' p row ∧ row.length ≤ 20) ?_ ?_
    · refine s_when (et_and (et_test (ev_ne0 (ev_var rfl) hp5.at)) (fun _ => et_test (ev_op (ev_op (ev_cell (ev_var rfl) ev_c (ex_l e35 hs3) (by decide)) ev_c (rv_mod (by decide))) ev_c (rv_eq rfl)))) (fun hbb H6 e6 => ?_) (fun _ H6 e6 => ⟨row, rfl, e35.trans e6, e6 p _ hp5, hrl⟩)
      have hne : row ≠ [] := by
        intro z
        rw [z] at hbb
        simp at hbb
      have hpos : 0 < (row.length : Int) := by
        have := List.length_pos_iff.mpr hne
        omega
      have hp6 : IsL H6 p row := e6 p _ hp5
      have e36 := e35.trans e6
      have g1 := Int.emod_nonneg (cell ns 3 / 3) (show (2 : Int) ≠ 0 by decide)
      have g2 := Int.emod_lt_of_pos (cell ns 3 / 3) (show (0 : Int) < 2 by decide)
      have g3 := Int.emod_nonneg (cell ns 3 / 6) (show (row.length : Int) ≠ 0 by omega)
      have g4 := Int.emod_lt_of_pos (cell ns 3 / 6) hpos
      obtain ⟨j, hj⟩ : ∃ j : Nat, cell ns 3 / 6 % (row.length : Int) = (j : Int) := ⟨(cell ns 3 / 6 % (row.length : Int)).toNat, by omega⟩
      refine s_setL (j := j) (v := .int (if cell ns 3 / 3 % 2 = 0 then 0 else 10)) hp6 (ev_ixN (el_lst (ea_cons ev_c (ea_cons ev_c ea_nil)) (show 2 ≤ 100000 by decide)) (ev_op (ev_op (ev_cell (ev_var rfl) ev_c (ex_l e36 hs3) (by decide)) ev_c (rv_div ⟨by decide, by decide⟩)) ev_c (rv_mod (by decide))) (at_two ⟨g1, g2⟩)) (ev_var rfl)
        (ev_is (ev_op (ev_op (ev_cell (ev_var rfl) ev_c (ex_l e36 hs3) (by decide)) ev_c (rv_div ⟨by decide, by decide⟩)) (ev_lenI (ev_var rfl) hp6.at) (rv_mod hpos)) (by rw [hj])) (by rw [List.length_map]; omega) fun H7 e7 => ?_
      refine ⟨row.set j (if cell ns 3 / 3 % 2 = 0 then 0 else 10), rfl, Ex.mut (e36.trans e7) np3, ?_, by rw [List.length_set]; exact hrl⟩
      show upd H7 p _ p = _
      rw [upd_same, List.map_set]
    clear hp hp5 hrl hlen hov e35 e5 e4 np row
    rintro σ1 H5 ⟨row, rfl, e35, hp5, hrl⟩
    have np := np3
    refine q_cut (M := fun σ' H' => ∃ (p : Addr) (row : List Int), σ' = [some (.ref sa), some (.ref l), some (.ref p), none, none, none, none, none] ∧ Ex H3 H' ∧ IsL H' p row ∧ row.length ≤ 401) ?_ ?_
    · refine s_when (et_test (ev_op (ev_op (ev_cell (ev_var rfl) ev_c (ex_l e35 hs3) (by decide)) ev_c (rv_mod (by decide))) ev_c (rv_eq rfl))) (fun _ H6 e6 => ?_) (fun _ H6 e6 => ⟨p, row, rfl, e35.trans e6, e6 p _ hp5, by omega⟩)
      refine s_asgL (el_rep (el_lst (ea_cons (ev_op (ev_var rfl) ev_c (rv_ixT (ex_t (e35.trans e6) hT.at) rfl)) ea_nil) (show 1 ≤ 100000 by decide)) ev_c (show (0 : Int) ≤ 401 ∧ (401 : Int) ≤ 1000 by decide) (show 1 ≤ 1000 by decide)) fun o H7 no e7 h7 => ?_
      rw [rep_one] at h7
      exact ⟨o, _, rfl, (e35.trans e6).trans e7, h7, by rw [List.length_replicate]; decide⟩
    clear hp5 hrl e35 np np3 row p
    rintro σ1 H5 ⟨p, row, rfl, e35, hp5, hrl⟩
    -- the call
    refine q_asg (ev_op (ev_cell (ev_var rfl) ev_c (ex_l e35 hs3) (by decide)) ev_c (rv_mod (by decide))) fun H6 e6 => ?_
    have e36 := e35.trans e6
    refine q_asg (ev_op (ev_op (ev_cell (ev_var rfl) ev_c (ex_l e36 hs3) (by decide)) ev_c (rv_div ⟨by decide, by decide⟩)) ev_c (rv_mod (by decide))) fun H7 e7 => ?_
    have c1 := Int.emod_nonneg (cell ns 4) (show (9 : Int) ≠ 0 by decide)
    have c2 := Int.emod_lt_of_pos (cell ns 4) (show (0 : Int) < 9 by decide)
    have d1 := Int.emod_nonneg (cell ns 4 / 9) (show (2 : Int) ≠ 0 by decide)
    have d2 := Int.emod_lt_of_pos (cell ns 4 / 9) (show (0 : Int) < 2 by decide)
    generalize cell ns 4 % 9 = call at c1 c2
    generalize cell ns 4 / 9 % 2 = odd at d1 d2
    have e57 := e6.trans e7
    have hT7 : IsT H7 l a b := (e35.trans e57) l _ hT
    have hp7 : IsL H7 p row := e57 p _ hp5
    refine q_asgL (el_lst ea_nil (Nat.zero_le _)) fun d0 H8 nd e8 hd0 => ?_
    refine q_cut (M := fun σ' H' => ∃ (d0 : Addr), σ' = [some (.ref sa), some (.ref l), some (.ref p), some (.int call), some (.int odd), some (.ref d0), none, none] ∧ Ex H7 H' ∧ H' d0 = some (.lst ((dueOf (want1 call odd)).map V.bl))) ?_ ?_
    · refine s_when (b := decide (3 < call ∧ odd = 1)) (et_is (et_and (a := decide (3 < call)) (b := decide (odd = 1)) (et_test (ev_op (ev_var rfl) ev_c rv_I0)) (fun _ => et_is (et_test (ev_op (ev_var rfl) ev_c (rv_eq rfl))) (by by_cases c : odd = 1 <;> simp [c]))) (by by_cases c : 3 < call <;> by_cases d : odd = 1 <;> simp [c, d])) (fun hb H9 e9 => ?_) (fun hb H9 e9 => ?_)
      · have hb := of_decide_eq_true hb
        have hat : atI [V.int 4, V.int 5, V.int 4, V.int 3, V.int 2] (call - 4) = some (.int ((wantOdd call : Nat) : Int)) := by
          have : call = 4 ∨ call = 5 ∨ call = 6 ∨ call = 7 ∨ call = 8 := by omega
          rcases this with h | h | h | h | h <;> rw [h] <;> rfl
        refine s_asgL (el_call (ea_cons (ev_ixN (el_lst (ea_cons ev_c (ea_cons ev_c (ea_cons ev_c (ea_cons ev_c (ea_cons ev_c ea_nil))))) (show 5 ≤ 100000 by decide)) (ev_op (ev_var rfl) ev_c rv_I0) hat) ea_nil) (sl_one (wantOdd call))) fun o HA no eA ho => ⟨o, rfl, (e8.trans e9).trans eA, ?_⟩
        have : want1 call odd = some (wantOdd call) := if_pos hb
        rw [this]
        exact ho
      · refine ⟨d0, rfl, e8.trans e9, ?_⟩
        have : want1 call odd = none := if_neg (of_decide_eq_false hb)
        rw [this]
        exact e9 d0 _ hd0
    clear hd0 nd e8 d0
    rintro σ1 H8 ⟨d0, rfl, e8, hd0⟩
    have hT8 : IsT H8 l a b := e8 l _ hT7
    have hp8 : IsL H8 p row := e8 p _ hp7
    -- the others
    refine q_asgL (el_is (ys := (((List.range row.length).filter fun i => !decide (row.getD i 0 = a ∨ row.getD i 0 = b)).map fun i => row.getD i 0).map V.int) (el_lcL (fun i => !decide (row.getD i 0 = a ∨ row.getD i 0 = b)) (fun i => .int (row.getD i 0)) (ev_var rfl) hp8.at (by rw [List.length_map]; omega) (fun x => rfl) (fun i x H6 e6 hx => ?_) (fun i x H6 e6 hx _ => ?_)) ?_) fun o H9 no e9 ho => ?_
    · obtain ⟨z, hz, rfl⟩ := get_map hx
      have hg : row.getD i 0 = z := by
        rw [List.getD_eq_getElem?_getD, hz]
        rfl
      rw [hg]
      exact et_is (et_test (ev_op (ev_var rfl) (ev_var rfl) (rv_niT (ex_t e6 hT8.at) rfl rfl))) (by rw [in_two])
    · obtain ⟨z, hz, rfl⟩ := get_map hx
      have hg : row.getD i 0 = z := by
        rw [List.getD_eq_getElem?_getD, hz]
        rfl
      rw [hg]
      exact ev_var rfl
    · rw [List.length_map, List.map_map]
      rfl
    have hodd := odd_signs a b row
    have hgl : (given row.length (fun i => !decide (row.getD i 0 = a ∨ row.getD i 0 = b)) (fun i => V.int (row.getD i 0))).length = (((List.range row.length).filter fun i => !decide (row.getD i 0 = a ∨ row.getD i 0 = b)).map fun i => row.getD i 0).length := by
      unfold given
      rw [List.length_map, List.length_map]
    rw [hgl] at hodd
    generalize (((List.range row.length).filter fun i => !decide (row.getD i 0 = a ∨ row.getD i 0 = b)).map fun i => row.getD i 0) = os at hodd ho
    have hos : (!decide (os = [])) = !decide (Over a b row) := by
      rw [← hodd]
      cases os with
      | nil => rfl
      | cons x r =>
        simp
    have e89 := e8.trans e9
    have ho9 : IsL H9 o os := ho
    have hp9 : IsL H9 p row := e9 p _ hp8
    have hd9 := e9 d0 _ hd0
    refine q_cut (M := fun σ' H' => ∃ (d0 : Addr) (y6 : Option V), σ' = [some (.ref sa), some (.ref l), some (.ref p), some (.int call), some (.int odd), some (.ref d0), y6, none] ∧ Ex H9 H' ∧ H' d0 = some (.lst ((dueOf (want2 call a b row odd)).map V.bl))) ?_ ?_
    · refine s_when (b := decide (call < 4 ∧ ¬ (row.length ≤ 400 ∧ Over a b row))) (et_is (et_and (a := decide (call < 4)) (b := !decide (row.length ≤ 400 ∧ Over a b row)) (et_test (ev_op (ev_var rfl) ev_c rv_I0)) (fun _ => et_is (et_or (a := decide ((400 : Int) < (row.length : Int))) (b := !decide (Over a b row)) (et_test (ev_op (ev_lenI (ev_var rfl) hp9.at) ev_c rv_I0)) (fun _ => et_is (et_test (ev_ne0 (ev_var rfl) ho9.at)) hos)) ?_)) ?_) (fun hb HA eA => ?_) (fun hb HA eA => ?_)
      · by_cases c1 : row.length ≤ 400
        · have c2 : ¬ (400 : Int) < (row.length : Int) := by omega
          by_cases c3 : Over a b row
          · simp [c1, c2, c3]
          · simp [c2, c3]
        · have c2 : (400 : Int) < (row.length : Int) := by omega
          simp [c1, c2]
      · by_cases c1 : call < 4
        · by_cases c2 : row.length ≤ 400 ∧ Over a b row
          · rw [decide_eq_true c1, decide_eq_true c2, decide_eq_false (fun z => z.2 c2)]
            rfl
          · rw [decide_eq_true c1, decide_eq_false c2, decide_eq_true ⟨c1, c2⟩]
            rfl
        · have n2 : ¬ (call < 4 ∧ ¬ (row.length ≤ 400 ∧ Over a b row)) := fun z => c1 z.1
          rw [decide_eq_false c1, decide_eq_false n2]
          rfl
      · refine s_asgL (el_call (ea_cons ev_c ea_nil) (sl_one 1)) fun o HB nd eB hd => ⟨o, _, rfl, eA.trans eB, ?_⟩
        have : want2 call a b row odd = some 1 := if_pos (of_decide_eq_true hb)
        rw [this]
        exact hd
      · refine ⟨d0, _, rfl, eA, ?_⟩
        have : want2 call a b row odd = want1 call odd := if_neg (of_decide_eq_false hb)
        rw [this]
        exact eA d0 _ hd9
    clear hd9 hd0 d0
    rintro σ1 HA ⟨d0, y6, rfl, eA, hd0⟩
    have hTA : IsT HA l a b := (e89.trans eA) l _ hT7
    have hpA : IsL HA p row := eA p _ hp9
    have hwant := wants (a := a) (b := b) (row := row) (odd := odd) ⟨c1, c2⟩ (by omega)
    refine q_cut (M := fun σ' H' => ∃ (d0 : Addr), σ' = [some (.ref sa), some (.ref l), some (.ref p), some (.int call), some (.int odd), some (.ref d0), y6, none] ∧ Ex HA H' ∧ H' d0 = some (.lst ((dueOf (outCall call a b row odd)).map V.bl))) ?_ ?_
    · refine s_when (b := !decide (Lets a b)) (et_is (et_not (et_chain3 ev_c (ev_op (ev_var rfl) ev_c (rv_ixT hTA.at rfl)) (ev_op (ev_var rfl) ev_c (rv_ixT hTA.at rfl)) ev_c)) (lets_chain a b)) (fun hbb HB eB => ?_) (fun hbb HB eB => ?_)
      · refine s_asgL (el_call (ea_cons ev_c ea_nil) (sl_one 0)) fun d HC nd eC hd => ⟨d, rfl, eB.trans eC, ?_⟩
        rw [hwant, if_neg (no_of_not hbb)]
        exact hd
      · refine ⟨d0, rfl, eB, ?_⟩
        rw [hwant, if_pos (yes_of_not hbb)]
        exact eB d0 _ hd0
    clear hd0 d0
    rintro σ1 HB ⟨d0, rfl, eB, hd0⟩
    exact s_ret (ev_opL1 (el_call (ea_cons (ev_var rfl) (ea_cons (ev_var rfl) (ea_cons (ev_var rfl) (ea_cons (ev_var rfl) ea_nil)))) (fun H1 e1 Q1 q1 E1 => ⟨call, l, a, b, p, row, odd, rfl, c1, c2, (eB.trans e1) l _ hTA, (eB.trans e1) p _ hpA, d1, d2, q1⟩)) (fun _ _ => ev_var rfl) fun k H1 hk e1 => rv_eqBl hk (e1 d0 _ hd0)) fun H12 _ => q H12
end
def clsOf (C0 C1 C2 C3 C4 C5 : Addr) : Nat → Addr
  | 0 => C0
  | 1 => C1
  | 2 => C2
  | 3 => C3
  | 4 => C4
  | _ => C5
theorem all_mk {l : PySem.W.OpenLaw} {w : World} {K : PySem.W.Frag} {h : Heap} {mg : Str → Option Value} {fa f1 f2 f3 f4 f5 f6 f7 f8 f9 f10 f11 f12 f13 f14 f15 f16 f17 f18 f19 f20 f21 f22 f23 f24 f25 : Addr} (X : K.In h) (G : h.Ns mainGlobals mg) (hfa : mg "law" = some (.ref fa))
    {od1 an1 od2 an2 od3 an3 od4 an4 od5 an5 od6 an6 od7 an7 od8 an8 od9 an9 od10 an10 od11 an11 od12 an12 od13 an13 od14 an14 od15 an15 od16 an16 od17 an17 od18 an18 od19 an19 od20 an20 od21 an21 od22 an22 od23 an23 od24 an24 od25 an25 : Option Addr} {sl1 sl2 sl3 sl4 sl5 sl6 sl7 sl8 sl9 sl10 sl11 sl12 sl13 sl14 sl15 sl16 sl17 sl18 sl19 sl20 sl21 sl22 sl23 sl24 sl25 : Array (Option Value)} {oc1 kV1 dc1 pm1 cd1 ct1 oc2 kV2 dc2 pm2 cd2 ct2 oc3 kV3 dc3 pm3 cd3 ct3 oc4 kV4 dc4 pm4 cd4 ct4 oc5 kV5 dc5 pm5 cd5 ct5 oc6 kV6 dc6 pm6 cd6 ct6 oc7 kV7 dc7 pm7 cd7 ct7 oc8 kV8 dc8 pm8 cd8 ct8 oc9 kV9 dc9 pm9 cd9 ct9 oc10 kV10 dc10 pm10 cd10 ct10 oc11 kV11 dc11 pm11 cd11 ct11 oc12 kV12 dc12 pm12 cd12 ct12 oc13 kV13 dc13 pm13 cd13 ct13 oc14 kV14 dc14 pm14 cd14 ct14 oc15 kV15 dc15 pm15 cd15 ct15 oc16 kV16 dc16 pm16 cd16 ct16 oc17 kV17 dc17 pm17 cd17 ct17 oc18 kV18 dc18 pm18 cd18 ct18 oc19 kV19 dc19 pm19 cd19 ct19 oc20 kV20 dc20 pm20 cd20 ct20 oc21 kV21 dc21 pm21 cd21 ct21 oc22 kV22 dc22 pm22 cd22 ct22 oc23 kV23 dc23 pm23 cd23 ct23 oc24 kV24 dc24 pm24 cd24 ct24 oc25 kV25 dc25 pm25 cd25 ct25 : Value}
    (a1 : PySem.W.nsIn K mainGlobals "see_letters" = some (some (.ref f1))) (l1 : K.lookup f1 = some ⟨oc1, od1, .func (PySem.W.fnOf "see_letters" "see_letters" (defArgs s_see_letters) (defBody s_see_letters) (defScope s_see_letters) .none kV1 dc1 pm1 an1 cd1 ct1), sl1⟩) (c1 : PySem.W.codeIn K cd1 "see_letters" = true) (k1 : PySem.W.keepIn K (.ref f1) = true)
    (a2 : PySem.W.nsIn K mainGlobals "see_row" = some (some (.ref f2))) (l2 : K.lookup f2 = some ⟨oc2, od2, .func (PySem.W.fnOf "see_row" "see_row" (defArgs s_see_row) (defBody s_see_row) (defScope s_see_row) .none kV2 dc2 pm2 an2 cd2 ct2), sl2⟩) (c2 : PySem.W.codeIn K cd2 "see_row" = true) (k2 : PySem.W.keepIn K (.ref f2) = true)
    (a3 : PySem.W.nsIn K mainGlobals "see_sign" = some (some (.ref f3))) (l3 : K.lookup f3 = some ⟨oc3, od3, .func (PySem.W.fnOf "see_sign" "see_sign" (defArgs s_see_sign) (defBody s_see_sign) (defScope s_see_sign) .none kV3 dc3 pm3 an3 cd3 ct3), sl3⟩) (c3 : PySem.W.codeIn K cd3 "see_sign" = true) (k3 : PySem.W.keepIn K (.ref f3) = true)
    (a4 : PySem.W.nsIn K mainGlobals "runs_of" = some (some (.ref f4))) (l4 : K.lookup f4 = some ⟨oc4, od4, .func (PySem.W.fnOf "runs_of" "runs_of" (defArgs s_runs_of) (defBody s_runs_of) (defScope s_runs_of) .none kV4 dc4 pm4 an4 cd4 ct4), sl4⟩) (c4 : PySem.W.codeIn K cd4 "runs_of" = true) (k4 : PySem.W.keepIn K (.ref f4) = true)
    (a5 : PySem.W.nsIn K mainGlobals "other" = some (some (.ref f5))) (l5 : K.lookup f5 = some ⟨oc5, od5, .func (PySem.W.fnOf "other" "other" (defArgs s_other) (defBody s_other) (defScope s_other) .none kV5 dc5 pm5 an5 cd5 ct5), sl5⟩) (c5 : PySem.W.codeIn K cd5 "other" = true) (k5 : PySem.W.keepIn K (.ref f5) = true)
    (a6 : PySem.W.nsIn K mainGlobals "built" = some (some (.ref f6))) (l6 : K.lookup f6 = some ⟨oc6, od6, .func (PySem.W.fnOf "built" "built" (defArgs s_built) (defBody s_built) (defScope s_built) .none kV6 dc6 pm6 an6 cd6 ct6), sl6⟩) (c6 : PySem.W.codeIn K cd6 "built" = true) (k6 : PySem.W.keepIn K (.ref f6) = true)
    (a7 : PySem.W.nsIn K mainGlobals "inner_of" = some (some (.ref f7))) (l7 : K.lookup f7 = some ⟨oc7, od7, .func (PySem.W.fnOf "inner_of" "inner_of" (defArgs s_inner_of) (defBody s_inner_of) (defScope s_inner_of) .none kV7 dc7 pm7 an7 cd7 ct7), sl7⟩) (c7 : PySem.W.codeIn K cd7 "inner_of" = true) (k7 : PySem.W.keepIn K (.ref f7) = true)
    (a8 : PySem.W.nsIn K mainGlobals "height_of" = some (some (.ref f8))) (l8 : K.lookup f8 = some ⟨oc8, od8, .func (PySem.W.fnOf "height_of" "height_of" (defArgs s_height_of) (defBody s_height_of) (defScope s_height_of) .none kV8 dc8 pm8 an8 cd8 ct8), sl8⟩) (c8 : PySem.W.codeIn K cd8 "height_of" = true) (k8 : PySem.W.keepIn K (.ref f8) = true)
    (a9 : PySem.W.nsIn K mainGlobals "inner" = some (some (.ref f9))) (l9 : K.lookup f9 = some ⟨oc9, od9, .func (PySem.W.fnOf "inner" "inner" (defArgs s_inner) (defBody s_inner) (defScope s_inner) .none kV9 dc9 pm9 an9 cd9 ct9), sl9⟩) (c9 : PySem.W.codeIn K cd9 "inner" = true) (k9 : PySem.W.keepIn K (.ref f9) = true)
    (a10 : PySem.W.nsIn K mainGlobals "height" = some (some (.ref f10))) (l10 : K.lookup f10 = some ⟨oc10, od10, .func (PySem.W.fnOf "height" "height" (defArgs s_height) (defBody s_height) (defScope s_height) .none kV10 dc10 pm10 an10 cd10 ct10), sl10⟩) (c10 : PySem.W.codeIn K cd10 "height" = true) (k10 : PySem.W.keepIn K (.ref f10) = true)
    (a11 : PySem.W.nsIn K mainGlobals "goes_on" = some (some (.ref f11))) (l11 : K.lookup f11 = some ⟨oc11, od11, .func (PySem.W.fnOf "goes_on" "goes_on" (defArgs s_goes_on) (defBody s_goes_on) (defScope s_goes_on) .none kV11 dc11 pm11 an11 cd11 ct11), sl11⟩) (c11 : PySem.W.codeIn K cd11 "goes_on" = true) (k11 : PySem.W.keepIn K (.ref f11) = true)
    (a12 : PySem.W.nsIn K mainGlobals "all_smooth" = some (some (.ref f12))) (l12 : K.lookup f12 = some ⟨oc12, od12, .func (PySem.W.fnOf "all_smooth" "all_smooth" (defArgs s_all_smooth) (defBody s_all_smooth) (defScope s_all_smooth) .none kV12 dc12 pm12 an12 cd12 ct12), sl12⟩) (c12 : PySem.W.codeIn K cd12 "all_smooth" = true) (k12 : PySem.W.keepIn K (.ref f12) = true)
    (a13 : PySem.W.nsIn K mainGlobals "shown" = some (some (.ref f13))) (l13 : K.lookup f13 = some ⟨oc13, od13, .func (PySem.W.fnOf "shown" "shown" (defArgs s_shown) (defBody s_shown) (defScope s_shown) .none kV13 dc13 pm13 an13 cd13 ct13), sl13⟩) (c13 : PySem.W.codeIn K cd13 "shown" = true) (k13 : PySem.W.keepIn K (.ref f13) = true)
    (a14 : PySem.W.nsIn K mainGlobals "read" = some (some (.ref f14))) (l14 : K.lookup f14 = some ⟨oc14, od14, .func (PySem.W.fnOf "read" "read" (defArgs s_read) (defBody s_read) (defScope s_read) .none kV14 dc14 pm14 an14 cd14 ct14), sl14⟩) (c14 : PySem.W.codeIn K cd14 "read" = true) (k14 : PySem.W.keepIn K (.ref f14) = true)
    (a15 : PySem.W.nsIn K mainGlobals "own_row" = some (some (.ref f15))) (l15 : K.lookup f15 = some ⟨oc15, od15, .func (PySem.W.fnOf "own_row" "own_row" (defArgs s_own_row) (defBody s_own_row) (defScope s_own_row) .none kV15 dc15 pm15 an15 cd15 ct15), sl15⟩) (c15 : PySem.W.codeIn K cd15 "own_row" = true) (k15 : PySem.W.keepIn K (.ref f15) = true)
    (a16 : PySem.W.nsIn K mainGlobals "own" = some (some (.ref f16))) (l16 : K.lookup f16 = some ⟨oc16, od16, .func (PySem.W.fnOf "own" "own" (defArgs s_own) (defBody s_own) (defScope s_own) .none kV16 dc16 pm16 an16 cd16 ct16), sl16⟩) (c16 : PySem.W.codeIn K cd16 "own" = true) (k16 : PySem.W.keepIn K (.ref f16) = true)
    (a17 : PySem.W.nsIn K mainGlobals "own_runs" = some (some (.ref f17))) (l17 : K.lookup f17 = some ⟨oc17, od17, .func (PySem.W.fnOf "own_runs" "own_runs" (defArgs s_own_runs) (defBody s_own_runs) (defScope s_own_runs) .none kV17 dc17 pm17 an17 cd17 ct17), sl17⟩) (c17 : PySem.W.codeIn K cd17 "own_runs" = true) (k17 : PySem.W.keepIn K (.ref f17) = true)
    (a18 : PySem.W.nsIn K mainGlobals "_law_kind" = some (some (.ref f18))) (l18 : K.lookup f18 = some ⟨oc18, od18, .func (PySem.W.fnOf "_law_kind" "_law_kind" (defArgs s_law_kind) (defBody s_law_kind) (defScope s_law_kind) .none kV18 dc18 pm18 an18 cd18 ct18), sl18⟩) (c18 : PySem.W.codeIn K cd18 "_law_kind" = true) (k18 : PySem.W.keepIn K (.ref f18) = true)
    (a19 : PySem.W.nsIn K mainGlobals "_law_call" = some (some (.ref f19))) (l19 : K.lookup f19 = some ⟨oc19, od19, .func (PySem.W.fnOf "_law_call" "_law_call" (defArgs s_law_call) (defBody s_law_call) (defScope s_law_call) .none kV19 dc19 pm19 an19 cd19 ct19), sl19⟩) (c19 : PySem.W.codeIn K cd19 "_law_call" = true) (k19 : PySem.W.keepIn K (.ref f19) = true)
    (a20 : PySem.W.nsIn K mainGlobals "_law_kinds" = some (some (.ref f20))) (l20 : K.lookup f20 = some ⟨oc20, od20, .func (PySem.W.fnOf "_law_kinds" "_law_kinds" (defArgs s_law_kinds) (defBody s_law_kinds) (defScope s_law_kinds) .none kV20 dc20 pm20 an20 cd20 ct20), sl20⟩) (c20 : PySem.W.codeIn K cd20 "_law_kinds" = true) (k20 : PySem.W.keepIn K (.ref f20) = true)
    (a21 : PySem.W.nsIn K mainGlobals "_law_one" = some (some (.ref f21))) (l21 : K.lookup f21 = some ⟨oc21, od21, .func (PySem.W.fnOf "_law_one" "_law_one" (defArgs s_law_one) (defBody s_law_one) (defScope s_law_one) .none kV21 dc21 pm21 an21 cd21 ct21), sl21⟩) (c21 : PySem.W.codeIn K cd21 "_law_one" = true) (k21 : PySem.W.keepIn K (.ref f21) = true)
    (a22 : PySem.W.nsIn K mainGlobals "_law_cell_at" = some (some (.ref f22))) (l22 : K.lookup f22 = some ⟨oc22, od22, .func (PySem.W.fnOf "_law_cell_at" "_law_cell_at" (defArgs s_law_cell_at) (defBody s_law_cell_at) (defScope s_law_cell_at) .none kV22 dc22 pm22 an22 cd22 ct22), sl22⟩) (c22 : PySem.W.codeIn K cd22 "_law_cell_at" = true) (k22 : PySem.W.keepIn K (.ref f22) = true)
    (a23 : PySem.W.nsIn K mainGlobals "_law_letters" = some (some (.ref f23))) (l23 : K.lookup f23 = some ⟨oc23, od23, .func (PySem.W.fnOf "_law_letters" "_law_letters" (defArgs s_law_letters) (defBody s_law_letters) (defScope s_law_letters) .none kV23 dc23 pm23 an23 cd23 ct23), sl23⟩) (c23 : PySem.W.codeIn K cd23 "_law_letters" = true) (k23 : PySem.W.keepIn K (.ref f23) = true)
    (a24 : PySem.W.nsIn K mainGlobals "_law_digits" = some (some (.ref f24))) (l24 : K.lookup f24 = some ⟨oc24, od24, .func (PySem.W.fnOf "_law_digits" "_law_digits" (defArgs s_law_digits) (defBody s_law_digits) (defScope s_law_digits) .none kV24 dc24 pm24 an24 cd24 ct24), sl24⟩) (c24 : PySem.W.codeIn K cd24 "_law_digits" = true) (k24 : PySem.W.keepIn K (.ref f24) = true)
    (a25 : PySem.W.nsIn K mainGlobals "law" = some (some (.ref f25))) (l25 : K.lookup f25 = some ⟨oc25, od25, .func (PySem.W.fnOf "law" "law" (defArgs s_law) (defBody s_law) (defScope s_law) .none kV25 dc25 pm25 an25 cd25 ct25), sl25⟩) (c25 : PySem.W.codeIn K cd25 "law" = true) (k25 : PySem.W.keepIn K (.ref f25) = true)
    {C_NoLetters C_NoRow C_NoLengths C_NoSign C_TooMany C_BadText C_RunError : Addr}
    (g_NoLetters : PySem.W.nsIn K mainGlobals "NoLetters" = some (some (.ref C_NoLetters)))
    (x_NoLetters : PySem.W.excIn K C_NoLetters [.type "ValueError", .type "Exception", .type "BaseException", .type "object"] "ValueError.__new__" = true)
    (p_NoLetters : PySem.W.keepIn K (.ref C_NoLetters) = true)
    (b_NoLetters : PySem.W.subIn K (.ref C_NoLetters) (.type "BaseException") = some true)
    (t_NoLetters : PySem.W.typeIn K (.ref C_NoLetters) = some (.type "type"))
    (g_NoRow : PySem.W.nsIn K mainGlobals "NoRow" = some (some (.ref C_NoRow)))
    (x_NoRow : PySem.W.excIn K C_NoRow [.type "ValueError", .type "Exception", .type "BaseException", .type "object"] "ValueError.__new__" = true)
    (p_NoRow : PySem.W.keepIn K (.ref C_NoRow) = true)
    (b_NoRow : PySem.W.subIn K (.ref C_NoRow) (.type "BaseException") = some true)
    (t_NoRow : PySem.W.typeIn K (.ref C_NoRow) = some (.type "type"))
    (g_NoLengths : PySem.W.nsIn K mainGlobals "NoLengths" = some (some (.ref C_NoLengths)))
    (x_NoLengths : PySem.W.excIn K C_NoLengths [.type "ValueError", .type "Exception", .type "BaseException", .type "object"] "ValueError.__new__" = true)
    (p_NoLengths : PySem.W.keepIn K (.ref C_NoLengths) = true)
    (b_NoLengths : PySem.W.subIn K (.ref C_NoLengths) (.type "BaseException") = some true)
    (t_NoLengths : PySem.W.typeIn K (.ref C_NoLengths) = some (.type "type"))
    (g_NoSign : PySem.W.nsIn K mainGlobals "NoSign" = some (some (.ref C_NoSign)))
    (x_NoSign : PySem.W.excIn K C_NoSign [.type "ValueError", .type "Exception", .type "BaseException", .type "object"] "ValueError.__new__" = true)
    (p_NoSign : PySem.W.keepIn K (.ref C_NoSign) = true)
    (b_NoSign : PySem.W.subIn K (.ref C_NoSign) (.type "BaseException") = some true)
    (t_NoSign : PySem.W.typeIn K (.ref C_NoSign) = some (.type "type"))
    (g_TooMany : PySem.W.nsIn K mainGlobals "TooMany" = some (some (.ref C_TooMany)))
    (x_TooMany : PySem.W.excIn K C_TooMany [.type "ValueError", .type "Exception", .type "BaseException", .type "object"] "ValueError.__new__" = true)
    (p_TooMany : PySem.W.keepIn K (.ref C_TooMany) = true)
    (b_TooMany : PySem.W.subIn K (.ref C_TooMany) (.type "BaseException") = some true)
    (t_TooMany : PySem.W.typeIn K (.ref C_TooMany) = some (.type "type"))
    (g_BadText : PySem.W.nsIn K mainGlobals "BadText" = some (some (.ref C_BadText)))
    (x_BadText : PySem.W.excIn K C_BadText [.type "ValueError", .type "Exception", .type "BaseException", .type "object"] "ValueError.__new__" = true)
    (p_BadText : PySem.W.keepIn K (.ref C_BadText) = true)
    (b_BadText : PySem.W.subIn K (.ref C_BadText) (.type "BaseException") = some true)
    (t_BadText : PySem.W.typeIn K (.ref C_BadText) = some (.type "type"))
    (g_RunError : PySem.W.nsIn K mainGlobals "RunError" = some (some (.ref C_RunError)))
    (d_RunError : PySem.W.hasDictIn K C_RunError = true)
    (t_RunError : PySem.W.typeIn K (.ref C_RunError) = some (.type "type"))
    (b_RunError : PySem.W.subIn K (.ref C_RunError) (.type "BaseException") = some true)
    (h_get : PySem.W.specialIn K (.builtin "object.__class__") "__get__" = some (some (.builtin "getset_descriptor.__get__")))
    (h_takes : PySem.W.takesIn K (.builtin "object.__class__") = some true)
    (hg_NoLetters : PySem.W.findIn K (.ref C_NoLetters) "__getattribute__" = some (some (.builtin "BaseException.__getattribute__")))
    (hk_NoLetters : PySem.W.findIn K (.ref C_NoLetters) "__getattr__" = some none)
    (hd_NoLetters : PySem.W.hasDictIn K C_NoLetters = true)
    (ha_NoLetters : PySem.W.findIn K (.ref C_NoLetters) "__class__" = some (some (.builtin "object.__class__")))
    (hm_NoLetters : PySem.W.mroIn K C_NoLetters (.type "object") = some true)
    (v_NoLetters : PySem.W.kitOne K (.ref C_NoLetters) (.type "ValueError") = some true)
    (s_NoLetters : PySem.W.subIn K (.ref C_NoLetters) (.ref C_RunError) = some true)
    (i00 : PySem.W.kitOne K (.ref C_NoLetters) (.ref C_NoLetters) = some true)
    (i01 : PySem.W.kitOne K (.ref C_NoLetters) (.ref C_NoRow) = some false)
    (i02 : PySem.W.kitOne K (.ref C_NoLetters) (.ref C_NoLengths) = some false)
    (i03 : PySem.W.kitOne K (.ref C_NoLetters) (.ref C_NoSign) = some false)
    (i04 : PySem.W.kitOne K (.ref C_NoLetters) (.ref C_TooMany) = some false)
    (i05 : PySem.W.kitOne K (.ref C_NoLetters) (.ref C_BadText) = some false)
    (hg_NoRow : PySem.W.findIn K (.ref C_NoRow) "__getattribute__" = some (some (.builtin "BaseException.__getattribute__")))
    (hk_NoRow : PySem.W.findIn K (.ref C_NoRow) "__getattr__" = some none)
    (hd_NoRow : PySem.W.hasDictIn K C_NoRow = true)
    (ha_NoRow : PySem.W.findIn K (.ref C_NoRow) "__class__" = some (some (.builtin "object.__class__")))
    (hm_NoRow : PySem.W.mroIn K C_NoRow (.type "object") = some true)
    (v_NoRow : PySem.W.kitOne K (.ref C_NoRow) (.type "ValueError") = some true)
    (s_NoRow : PySem.W.subIn K (.ref C_NoRow) (.ref C_RunError) = some true)
    (i10 : PySem.W.kitOne K (.ref C_NoRow) (.ref C_NoLetters) = some false)
    (i11 : PySem.W.kitOne K (.ref C_NoRow) (.ref C_NoRow) = some true)
    (i12 : PySem.W.kitOne K (.ref C_NoRow) (.ref C_NoLengths) = some false)
    (i13 : PySem.W.kitOne K (.ref C_NoRow) (.ref C_NoSign) = some false)
    (i14 : PySem.W.kitOne K (.ref C_NoRow) (.ref C_TooMany) = some false)
    (i15 : PySem.W.kitOne K (.ref C_NoRow) (.ref C_BadText) = some false)
    (hg_NoLengths : PySem.W.findIn K (.ref C_NoLengths) "__getattribute__" = some (some (.builtin "BaseException.__getattribute__")))
    (hk_NoLengths : PySem.W.findIn K (.ref C_NoLengths) "__getattr__" = some none)
    (hd_NoLengths : PySem.W.hasDictIn K C_NoLengths = true)
    (ha_NoLengths : PySem.W.findIn K (.ref C_NoLengths) "__class__" = some (some (.builtin "object.__class__")))
    (hm_NoLengths : PySem.W.mroIn K C_NoLengths (.type "object") = some true)
    (v_NoLengths : PySem.W.kitOne K (.ref C_NoLengths) (.type "ValueError") = some true)
    (s_NoLengths : PySem.W.subIn K (.ref C_NoLengths) (.ref C_RunError) = some true)
    (i20 : PySem.W.kitOne K (.ref C_NoLengths) (.ref C_NoLetters) = some false)
    (i21 : PySem.W.kitOne K (.ref C_NoLengths) (.ref C_NoRow) = some false)
    (i22 : PySem.W.kitOne K (.ref C_NoLengths) (.ref C_NoLengths) = some true)
    (i23 : PySem.W.kitOne K (.ref C_NoLengths) (.ref C_NoSign) = some false)
    (i24 : PySem.W.kitOne K (.ref C_NoLengths) (.ref C_TooMany) = some false)
    (i25 : PySem.W.kitOne K (.ref C_NoLengths) (.ref C_BadText) = some false)
    (hg_NoSign : PySem.W.findIn K (.ref C_NoSign) "__getattribute__" = some (some (.builtin "BaseException.__getattribute__")))
    (hk_NoSign : PySem.W.findIn K (.ref C_NoSign) "__getattr__" = some none)
    (hd_NoSign : PySem.W.hasDictIn K C_NoSign = true)
    (ha_NoSign : PySem.W.findIn K (.ref C_NoSign) "__class__" = some (some (.builtin "object.__class__")))
    (hm_NoSign : PySem.W.mroIn K C_NoSign (.type "object") = some true)
    (v_NoSign : PySem.W.kitOne K (.ref C_NoSign) (.type "ValueError") = some true)
    (s_NoSign : PySem.W.subIn K (.ref C_NoSign) (.ref C_RunError) = some true)
    (i30 : PySem.W.kitOne K (.ref C_NoSign) (.ref C_NoLetters) = some false)
    (i31 : PySem.W.kitOne K (.ref C_NoSign) (.ref C_NoRow) = some false)
    (i32 : PySem.W.kitOne K (.ref C_NoSign) (.ref C_NoLengths) = some false)
    (i33 : PySem.W.kitOne K (.ref C_NoSign) (.ref C_NoSign) = some true)
    (i34 : PySem.W.kitOne K (.ref C_NoSign) (.ref C_TooMany) = some false)
    (i35 : PySem.W.kitOne K (.ref C_NoSign) (.ref C_BadText) = some false)
    (hg_TooMany : PySem.W.findIn K (.ref C_TooMany) "__getattribute__" = some (some (.builtin "BaseException.__getattribute__")))
    (hk_TooMany : PySem.W.findIn K (.ref C_TooMany) "__getattr__" = some none)
    (hd_TooMany : PySem.W.hasDictIn K C_TooMany = true)
    (ha_TooMany : PySem.W.findIn K (.ref C_TooMany) "__class__" = some (some (.builtin "object.__class__")))
    (hm_TooMany : PySem.W.mroIn K C_TooMany (.type "object") = some true)
    (v_TooMany : PySem.W.kitOne K (.ref C_TooMany) (.type "ValueError") = some true)
    (s_TooMany : PySem.W.subIn K (.ref C_TooMany) (.ref C_RunError) = some true)
    (i40 : PySem.W.kitOne K (.ref C_TooMany) (.ref C_NoLetters) = some false)
    (i41 : PySem.W.kitOne K (.ref C_TooMany) (.ref C_NoRow) = some false)
    (i42 : PySem.W.kitOne K (.ref C_TooMany) (.ref C_NoLengths) = some false)
    (i43 : PySem.W.kitOne K (.ref C_TooMany) (.ref C_NoSign) = some false)
    (i44 : PySem.W.kitOne K (.ref C_TooMany) (.ref C_TooMany) = some true)
    (i45 : PySem.W.kitOne K (.ref C_TooMany) (.ref C_BadText) = some false)
    (hg_BadText : PySem.W.findIn K (.ref C_BadText) "__getattribute__" = some (some (.builtin "BaseException.__getattribute__")))
    (hk_BadText : PySem.W.findIn K (.ref C_BadText) "__getattr__" = some none)
    (hd_BadText : PySem.W.hasDictIn K C_BadText = true)
    (ha_BadText : PySem.W.findIn K (.ref C_BadText) "__class__" = some (some (.builtin "object.__class__")))
    (hm_BadText : PySem.W.mroIn K C_BadText (.type "object") = some true)
    (v_BadText : PySem.W.kitOne K (.ref C_BadText) (.type "ValueError") = some true)
    (s_BadText : PySem.W.subIn K (.ref C_BadText) (.ref C_RunError) = some true)
    (i50 : PySem.W.kitOne K (.ref C_BadText) (.ref C_NoLetters) = some false)
    (i51 : PySem.W.kitOne K (.ref C_BadText) (.ref C_NoRow) = some false)
    (i52 : PySem.W.kitOne K (.ref C_BadText) (.ref C_NoLengths) = some false)
    (i53 : PySem.W.kitOne K (.ref C_BadText) (.ref C_NoSign) = some false)
    (i54 : PySem.W.kitOne K (.ref C_BadText) (.ref C_TooMany) = some false)
    (i55 : PySem.W.kitOne K (.ref C_BadText) (.ref C_BadText) = some true)
    (z_len : PySem.W.nsIn K mainGlobals "len" = some none) (z_range : PySem.W.nsIn K mainGlobals "range" = some none) (z_max : PySem.W.nsIn K mainGlobals "max" = some none) (z_min : PySem.W.nsIn K mainGlobals "min" = some none) (z_list : PySem.W.nsIn K mainGlobals "list" = some none) (z_str : PySem.W.nsIn K mainGlobals "str" = some none) (z_int : PySem.W.nsIn K mainGlobals "int" = some none) (z_bool : PySem.W.nsIn K mainGlobals "bool" = some none) (z_tuple : PySem.W.nsIn K mainGlobals "tuple" = some none) (z_isinstance : PySem.W.nsIn K mainGlobals "isinstance" = some none) (z_sorted : PySem.W.nsIn K mainGlobals "sorted" = some none) (z_enumerate : PySem.W.nsIn K mainGlobals "enumerate" = some none) (z_reversed : PySem.W.nsIn K mainGlobals "reversed" = some none) (z_all : PySem.W.nsIn K mainGlobals "all" = some none) (z_ValueError : PySem.W.nsIn K mainGlobals "ValueError" = some none) :
    ∃ fd : FuncData, (∀ (s : Shared) (v : Value), BindsTo s fd ⟨[v], []⟩ [("script", v)]) ∧ ∀ base : Heap, K.In base → base.Ns mainGlobals mg → FnOk l.prog w K mg base CX0 7 fa fd ["script"] (spLaw K) := by
  have e := hfa.symm.trans (PySem.W.mg_of X G a25)
  cases e
  have B : Bl mg := ⟨PySem.W.mg_none_of X G z_len, PySem.W.mg_none_of X G z_range, PySem.W.mg_none_of X G z_max, PySem.W.mg_none_of X G z_min, PySem.W.mg_none_of X G z_list, PySem.W.mg_none_of X G z_str, PySem.W.mg_none_of X G z_int, PySem.W.mg_none_of X G z_bool, PySem.W.mg_none_of X G z_tuple, PySem.W.mg_none_of X G z_isinstance, PySem.W.mg_none_of X G z_sorted, PySem.W.mg_none_of X G z_enumerate, PySem.W.mg_none_of X G z_reversed, PySem.W.mg_none_of X G z_all, PySem.W.mg_none_of X G z_ValueError⟩
  have D_see_letters : DefAt K mg "see_letters" s_see_letters := def_mk X G (st := s_see_letters) a1 l1 c1 k1
  have D_see_row : DefAt K mg "see_row" s_see_row := def_mk X G (st := s_see_row) a2 l2 c2 k2
  have D_see_sign : DefAt K mg "see_sign" s_see_sign := def_mk X G (st := s_see_sign) a3 l3 c3 k3
  have D_runs_of : DefAt K mg "runs_of" s_runs_of := def_mk X G (st := s_runs_of) a4 l4 c4 k4
  have D_other : DefAt K mg "other" s_other := def_mk X G (st := s_other) a5 l5 c5 k5
  have D_built : DefAt K mg "built" s_built := def_mk X G (st := s_built) a6 l6 c6 k6
  have D_inner_of : DefAt K mg "inner_of" s_inner_of := def_mk X G (st := s_inner_of) a7 l7 c7 k7
  have D_height_of : DefAt K mg "height_of" s_height_of := def_mk X G (st := s_height_of) a8 l8 c8 k8
  have D_inner : DefAt K mg "inner" s_inner := def_mk X G (st := s_inner) a9 l9 c9 k9
  have D_height : DefAt K mg "height" s_height := def_mk X G (st := s_height) a10 l10 c10 k10
  have D_goes_on : DefAt K mg "goes_on" s_goes_on := def_mk X G (st := s_goes_on) a11 l11 c11 k11
  have D_all_smooth : DefAt K mg "all_smooth" s_all_smooth := def_mk X G (st := s_all_smooth) a12 l12 c12 k12
  have D_shown : DefAt K mg "shown" s_shown := def_mk X G (st := s_shown) a13 l13 c13 k13
  have D_read : DefAt K mg "read" s_read := def_mk X G (st := s_read) a14 l14 c14 k14
  have D_own_row : DefAt K mg "own_row" s_own_row := def_mk X G (st := s_own_row) a15 l15 c15 k15
  have D_own : DefAt K mg "own" s_own := def_mk X G (st := s_own) a16 l16 c16 k16
  have D_own_runs : DefAt K mg "own_runs" s_own_runs := def_mk X G (st := s_own_runs) a17 l17 c17 k17
  have D_law_kind : DefAt K mg "_law_kind" s_law_kind := def_mk X G (st := s_law_kind) a18 l18 c18 k18
  have D_law_call : DefAt K mg "_law_call" s_law_call := def_mk X G (st := s_law_call) a19 l19 c19 k19
  have D_law_kinds : DefAt K mg "_law_kinds" s_law_kinds := def_mk X G (st := s_law_kinds) a20 l20 c20 k20
  have D_law_one : DefAt K mg "_law_one" s_law_one := def_mk X G (st := s_law_one) a21 l21 c21 k21
  have D_law_cell_at : DefAt K mg "_law_cell_at" s_law_cell_at := def_mk X G (st := s_law_cell_at) a22 l22 c22 k22
  have D_law_letters : DefAt K mg "_law_letters" s_law_letters := def_mk X G (st := s_law_letters) a23 l23 c23 k23
  have D_law_digits : DefAt K mg "_law_digits" s_law_digits := def_mk X G (st := s_law_digits) a24 l24 c24 k24
  have F := fun_mk (st := s_law) l25 c25 k25
  refine ⟨PySem.W.fnOf "law" "law" (defArgs s_law) (defBody s_law) (defScope s_law) .none kV25 dc25 pm25 an25 cd25 ct25, fun s v => .of_eq rfl, fun base _ _ => ?_⟩
  have O_NoLetters : Own K mg "NoLetters" ((clsOf C_NoLetters C_NoRow C_NoLengths C_NoSign C_TooMany C_BadText) 0) := ⟨PySem.W.mg_of X G g_NoLetters, x_NoLetters, p_NoLetters, b_NoLetters, t_NoLetters⟩
  have O_NoRow : Own K mg "NoRow" ((clsOf C_NoLetters C_NoRow C_NoLengths C_NoSign C_TooMany C_BadText) 1) := ⟨PySem.W.mg_of X G g_NoRow, x_NoRow, p_NoRow, b_NoRow, t_NoRow⟩
  have O_NoLengths : Own K mg "NoLengths" ((clsOf C_NoLetters C_NoRow C_NoLengths C_NoSign C_TooMany C_BadText) 2) := ⟨PySem.W.mg_of X G g_NoLengths, x_NoLengths, p_NoLengths, b_NoLengths, t_NoLengths⟩
  have O_NoSign : Own K mg "NoSign" ((clsOf C_NoLetters C_NoRow C_NoLengths C_NoSign C_TooMany C_BadText) 3) := ⟨PySem.W.mg_of X G g_NoSign, x_NoSign, p_NoSign, b_NoSign, t_NoSign⟩
  have O_TooMany : Own K mg "TooMany" ((clsOf C_NoLetters C_NoRow C_NoLengths C_NoSign C_TooMany C_BadText) 4) := ⟨PySem.W.mg_of X G g_TooMany, x_TooMany, p_TooMany, b_TooMany, t_TooMany⟩
  have O_BadText : Own K mg "BadText" ((clsOf C_NoLetters C_NoRow C_NoLengths C_NoSign C_TooMany C_BadText) 5) := ⟨PySem.W.mg_of X G g_BadText, x_BadText, p_BadText, b_BadText, t_BadText⟩
  have m_RunError : mg "RunError" = some (.ref C_RunError) := PySem.W.mg_of X G g_RunError
  have KD_NoLetters : KD K (clsOf C_NoLetters C_NoRow C_NoLengths C_NoSign C_TooMany C_BadText) C_RunError 0 := ⟨⟨hg_NoLetters, hk_NoLetters, b_NoLetters, hd_NoLetters, ha_NoLetters, h_get, h_takes, hm_NoLetters⟩, fun j hj => match j, hj with | 0, _ => i00 | 1, _ => i01 | 2, _ => i02 | 3, _ => i03 | 4, _ => i04 | 5, _ => i05 | (n + 6), h => absurd h (by omega), v_NoLetters, PySem.W.exm_ref b_RunError d_RunError t_RunError s_NoLetters⟩
  have KD_NoRow : KD K (clsOf C_NoLetters C_NoRow C_NoLengths C_NoSign C_TooMany C_BadText) C_RunError 1 := ⟨⟨hg_NoRow, hk_NoRow, b_NoRow, hd_NoRow, ha_NoRow, h_get, h_takes, hm_NoRow⟩, fun j hj => match j, hj with | 0, _ => i10 | 1, _ => i11 | 2, _ => i12 | 3, _ => i13 | 4, _ => i14 | 5, _ => i15 | (n + 6), h => absurd h (by omega), v_NoRow, PySem.W.exm_ref b_RunError d_RunError t_RunError s_NoRow⟩
  have KD_NoLengths : KD K (clsOf C_NoLetters C_NoRow C_NoLengths C_NoSign C_TooMany C_BadText) C_RunError 2 := ⟨⟨hg_NoLengths, hk_NoLengths, b_NoLengths, hd_NoLengths, ha_NoLengths, h_get, h_takes, hm_NoLengths⟩, fun j hj => match j, hj with | 0, _ => i20 | 1, _ => i21 | 2, _ => i22 | 3, _ => i23 | 4, _ => i24 | 5, _ => i25 | (n + 6), h => absurd h (by omega), v_NoLengths, PySem.W.exm_ref b_RunError d_RunError t_RunError s_NoLengths⟩
  have KD_NoSign : KD K (clsOf C_NoLetters C_NoRow C_NoLengths C_NoSign C_TooMany C_BadText) C_RunError 3 := ⟨⟨hg_NoSign, hk_NoSign, b_NoSign, hd_NoSign, ha_NoSign, h_get, h_takes, hm_NoSign⟩, fun j hj => match j, hj with | 0, _ => i30 | 1, _ => i31 | 2, _ => i32 | 3, _ => i33 | 4, _ => i34 | 5, _ => i35 | (n + 6), h => absurd h (by omega), v_NoSign, PySem.W.exm_ref b_RunError d_RunError t_RunError s_NoSign⟩
  have KD_TooMany : KD K (clsOf C_NoLetters C_NoRow C_NoLengths C_NoSign C_TooMany C_BadText) C_RunError 4 := ⟨⟨hg_TooMany, hk_TooMany, b_TooMany, hd_TooMany, ha_TooMany, h_get, h_takes, hm_TooMany⟩, fun j hj => match j, hj with | 0, _ => i40 | 1, _ => i41 | 2, _ => i42 | 3, _ => i43 | 4, _ => i44 | 5, _ => i45 | (n + 6), h => absurd h (by omega), v_TooMany, PySem.W.exm_ref b_RunError d_RunError t_RunError s_TooMany⟩
  have KD_BadText : KD K (clsOf C_NoLetters C_NoRow C_NoLengths C_NoSign C_TooMany C_BadText) C_RunError 5 := ⟨⟨hg_BadText, hk_BadText, b_BadText, hd_BadText, ha_BadText, h_get, h_takes, hm_BadText⟩, fun j hj => match j, hj with | 0, _ => i50 | 1, _ => i51 | 2, _ => i52 | 3, _ => i53 | 4, _ => i54 | 5, _ => i55 | (n + 6), h => absurd h (by omega), v_BadText, PySem.W.exm_ref b_RunError d_RunError t_RunError s_BadText⟩
  have KX : ∀ i, i = 0 ∨ i = 1 ∨ i = 2 ∨ i = 3 ∨ i = 4 ∨ i = 5 → KD K (clsOf C_NoLetters C_NoRow C_NoLengths C_NoSign C_TooMany C_BadText) C_RunError i := fun i h => by
    rcases h with h | h | h | h | h | h
    · subst h
      exact KD_NoLetters
    · subst h
      exact KD_NoRow
    · subst h
      exact KD_NoLengths
    · subst h
      exact KD_NoSign
    · subst h
      exact KD_TooMany
    · subst h
      exact KD_BadText
  have G_see_letters := has_see_letters (P := l.prog) (w := w) (base := base) D_see_letters O_NoLetters
  have G_see_row := has_see_row (P := l.prog) (w := w) (base := base) D_see_row B O_NoRow G_see_letters
  have G_see_sign := has_see_sign (P := l.prog) (w := w) (base := base) D_see_sign O_NoSign G_see_letters
  have G_runs_of := has_runs_of (P := l.prog) (w := w) (base := base) D_runs_of B
  have G_other := has_other (P := l.prog) (w := w) (base := base) D_other 
  have G_built := has_built (P := l.prog) (w := w) (base := base) D_built B O_NoLengths G_see_sign G_other
  have G_inner_of := has_inner_of (P := l.prog) (w := w) (base := base) D_inner_of B G_runs_of
  have G_height_of := has_height_of (P := l.prog) (w := w) (base := base) D_height_of G_inner_of
  have G_inner := has_inner (P := l.prog) (w := w) (base := base) D_inner G_see_row G_inner_of
  have G_height := has_height (P := l.prog) (w := w) (base := base) D_height B G_see_row G_height_of
  have G_goes_on := has_goes_on (P := l.prog) (w := w) (base := base) D_goes_on B G_see_row G_height_of
  have G_all_smooth := has_all_smooth (P := l.prog) (w := w) (base := base) D_all_smooth B O_TooMany G_see_letters G_height_of
  have G_shown := has_shown (P := l.prog) (w := w) (base := base) D_shown B G_see_row
  have G_read := has_read (P := l.prog) (w := w) (base := base) D_read B O_BadText G_see_letters
  have G_own_row := has_own_row (P := l.prog) (w := w) (base := base) D_own_row B G_other
  have G_own := has_own (P := l.prog) (w := w) (base := base) D_own O_TooMany G_see_sign G_own_row
  have G_own_runs := has_own_runs (P := l.prog) (w := w) (base := base) D_own_runs B O_TooMany G_see_sign G_own_row G_other
  have G_law_kind := has_law_kind (cE := C_RunError) (P := l.prog) (w := w) (base := base) D_law_kind B O_NoLetters O_NoRow O_NoLengths O_NoSign O_TooMany O_BadText
  have G_law_call := has_law_call (P := l.prog) (w := w) (base := base) D_law_call B G_inner G_height G_goes_on G_shown G_all_smooth G_read G_own G_own_runs G_built
  have G_law_kinds := has_law_kinds (P := l.prog) (w := w) (base := base) D_law_kinds m_RunError (fun i h => KX i (by omega)) G_law_kind G_law_call
  have G_law_one := has_law_one (P := l.prog) (w := w) (base := base) D_law_one B
  have G_law_cell_at := has_law_cell_at (P := l.prog) (w := w) (base := base) D_law_cell_at B
  have G_law_letters := has_law_letters (P := l.prog) (w := w) (base := base) D_law_letters 
  have G_law_digits := has_law_digits (P := l.prog) (w := w) (base := base) D_law_digits B
  exact ok_law F B G_law_cell_at G_law_letters G_law_digits G_law_one G_law_kinds
end SR
open PySem PySem.W PyProof.Rows
set_option maxHeartbeats 0 in
theorem PySem.Challenge.cw_selfruns_k10_what_is_refused_holds : PySem.Challenge.rw_selfruns_k10_what_is_refused.Holds := by
  w_on; o_law; k_head; (case hw => w_witness2)
  k_fill
  refine L2.walk_of (l := PySem.Challenge.rw_selfruns_k10_what_is_refused) (n := 63) (k := 7) (x := "script") (CX := fun w => L2.CX0) (sp := fun w => SR.spLaw _) rfl (by decide) rfl ⟨rfl, by decide, by decide⟩ (fun w h Y => PySem.W.kIn_of Y) ?F (fun _ _ a ns hl _ hS => ⟨a, ns, rfl, hS, fun _ => rfl⟩) (fun _ _ _ _ _ h => h)
  case F =>
    intro w mg fa h KX G hmg
    refine' SR.all_mk KX G hmg ?a1 ?l1 ?c1 ?k1 ?a2 ?l2 ?c2 ?k2 ?a3 ?l3 ?c3 ?k3 ?a4 ?l4 ?c4 ?k4 ?a5 ?l5 ?c5 ?k5 ?a6 ?l6 ?c6 ?k6 ?a7 ?l7 ?c7 ?k7 ?a8 ?l8 ?c8 ?k8 ?a9 ?l9 ?c9 ?k9 ?a10 ?l10 ?c10 ?k10 ?a11 ?l11 ?c11 ?k11 ?a12 ?l12 ?c12 ?k12 ?a13 ?l13 ?c13 ?k13 ?a14 ?l14 ?c14 ?k14 ?a15 ?l15 ?c15 ?k15 ?a16 ?l16 ?c16 ?k16 ?a17 ?l17 ?c17 ?k17 ?a18 ?l18 ?c18 ?k18 ?a19 ?l19 ?c19 ?k19 ?a20 ?l20 ?c20 ?k20 ?a21 ?l21 ?c21 ?k21 ?a22 ?l22 ?c22 ?k22 ?a23 ?l23 ?c23 ?k23 ?a24 ?l24 ?c24 ?k24 ?a25 ?l25 ?c25 ?k25 ?g_NoLetters ?x_NoLetters ?p_NoLetters ?b_NoLetters ?t_NoLetters ?g_NoRow ?x_NoRow ?p_NoRow ?b_NoRow ?t_NoRow ?g_NoLengths ?x_NoLengths ?p_NoLengths ?b_NoLengths ?t_NoLengths ?g_NoSign ?x_NoSign ?p_NoSign ?b_NoSign ?t_NoSign ?g_TooMany ?x_TooMany ?p_TooMany ?b_TooMany ?t_TooMany ?g_BadText ?x_BadText ?p_BadText ?b_BadText ?t_BadText ?g_RunError ?d_RunError ?t_RunError ?b_RunError ?h_get ?h_takes ?hg_NoLetters ?hk_NoLetters ?hd_NoLetters ?ha_NoLetters ?hm_NoLetters ?v_NoLetters ?s_NoLetters ?i00 ?i01 ?i02 ?i03 ?i04 ?i05 ?hg_NoRow ?hk_NoRow ?hd_NoRow ?ha_NoRow ?hm_NoRow ?v_NoRow ?s_NoRow ?i10 ?i11 ?i12 ?i13 ?i14 ?i15 ?hg_NoLengths ?hk_NoLengths ?hd_NoLengths ?ha_NoLengths ?hm_NoLengths ?v_NoLengths ?s_NoLengths ?i20 ?i21 ?i22 ?i23 ?i24 ?i25 ?hg_NoSign ?hk_NoSign ?hd_NoSign ?ha_NoSign ?hm_NoSign ?v_NoSign ?s_NoSign ?i30 ?i31 ?i32 ?i33 ?i34 ?i35 ?hg_TooMany ?hk_TooMany ?hd_TooMany ?ha_TooMany ?hm_TooMany ?v_TooMany ?s_TooMany ?i40 ?i41 ?i42 ?i43 ?i44 ?i45 ?hg_BadText ?hk_BadText ?hd_BadText ?ha_BadText ?hm_BadText ?v_BadText ?s_BadText ?i50 ?i51 ?i52 ?i53 ?i54 ?i55 ?z_len ?z_range ?z_max ?z_min ?z_list ?z_str ?z_int ?z_bool ?z_tuple ?z_isinstance ?z_sorted ?z_enumerate ?z_reversed ?z_all ?z_ValueError
    (case a1 => k_is); (case l1 => k_is); (case c1 => k_is); (case k1 => k_is); (case a2 => k_is); (case l2 => k_is); (case c2 => k_is); (case k2 => k_is); (case a3 => k_is); (case l3 => k_is); (case c3 => k_is); (case k3 => k_is); (case a4 => k_is); (case l4 => k_is); (case c4 => k_is); (case k4 => k_is); (case a5 => k_is); (case l5 => k_is); (case c5 => k_is); (case k5 => k_is); (case a6 => k_is); (case l6 => k_is); (case c6 => k_is); (case k6 => k_is); (case a7 => k_is); (case l7 => k_is); (case c7 => k_is); (case k7 => k_is); (case a8 => k_is); (case l8 => k_is); (case c8 => k_is); (case k8 => k_is); (case a9 => k_is); (case l9 => k_is); (case c9 => k_is); (case k9 => k_is); (case a10 => k_is); (case l10 => k_is); (case c10 => k_is); (case k10 => k_is); (case a11 => k_is); (case l11 => k_is); (case c11 => k_is); (case k11 => k_is); (case a12 => k_is); (case l12 => k_is); (case c12 => k_is); (case k12 => k_is); (case a13 => k_is); (case l13 => k_is); (case c13 => k_is); (case k13 => k_is); (case a14 => k_is); (case l14 => k_is); (case c14 => k_is); (case k14 => k_is); (case a15 => k_is); (case l15 => k_is); (case c15 => k_is); (case k15 => k_is); (case a16 => k_is); (case l16 => k_is); (case c16 => k_is); (case k16 => k_is); (case a17 => k_is); (case l17 => k_is); (case c17 => k_is); (case k17 => k_is); (case a18 => k_is); (case l18 => k_is); (case c18 => k_is); (case k18 => k_is); (case a19 => k_is); (case l19 => k_is); (case c19 => k_is); (case k19 => k_is); (case a20 => k_is); (case l20 => k_is); (case c20 => k_is); (case k20 => k_is); (case a21 => k_is); (case l21 => k_is); (case c21 => k_is); (case k21 => k_is); (case a22 => k_is); (case l22 => k_is); (case c22 => k_is); (case k22 => k_is); (case a23 => k_is); (case l23 => k_is); (case c23 => k_is); (case k23 => k_is); (case a24 => k_is); (case l24 => k_is); (case c24 => k_is); (case k24 => k_is); (case a25 => k_is); (case l25 => k_is); (case c25 => k_is); (case k25 => k_is); (case g_NoLetters => k_is); (case x_NoLetters => k_exc); (case p_NoLetters => k_is); (case b_NoLetters => k_is); (case t_NoLetters => k_is); (case g_NoRow => k_is); (case x_NoRow => k_exc); (case p_NoRow => k_is); (case b_NoRow => k_is); (case t_NoRow => k_is); (case g_NoLengths => k_is); (case x_NoLengths => k_exc); (case p_NoLengths => k_is); (case b_NoLengths => k_is); (case t_NoLengths => k_is); (case g_NoSign => k_is); (case x_NoSign => k_exc); (case p_NoSign => k_is); (case b_NoSign => k_is); (case t_NoSign => k_is); (case g_TooMany => k_is); (case x_TooMany => k_exc); (case p_TooMany => k_is); (case b_TooMany => k_is); (case t_TooMany => k_is); (case g_BadText => k_is); (case x_BadText => k_exc); (case p_BadText => k_is); (case b_BadText => k_is); (case t_BadText => k_is); (case g_RunError => k_is); (case d_RunError => k_is); (case t_RunError => k_is); (case b_RunError => k_is); (case h_get => k_is); (case h_takes => k_is); (case hg_NoLetters => k_is); (case hk_NoLetters => k_is); (case hd_NoLetters => k_is); (case ha_NoLetters => k_is); (case hm_NoLetters => k_is); (case v_NoLetters => kit_is); (case s_NoLetters => k_is); (case i00 => kit_is); (case i01 => kit_is); (case i02 => kit_is); (case i03 => kit_is); (case i04 => kit_is); (case i05 => kit_is); (case hg_NoRow => k_is); (case hk_NoRow => k_is); (case hd_NoRow => k_is); (case ha_NoRow => k_is); (case hm_NoRow => k_is); (case v_NoRow => kit_is); (case s_NoRow => k_is); (case i10 => kit_is); (case i11 => kit_is); (case i12 => kit_is); (case i13 => kit_is); (case i14 => kit_is); (case i15 => kit_is); (case hg_NoLengths => k_is); (case hk_NoLengths => k_is); (case hd_NoLengths => k_is); (case ha_NoLengths => k_is); (case hm_NoLengths => k_is); (case v_NoLengths => kit_is); (case s_NoLengths => k_is); (case i20 => kit_is); (case i21 => kit_is); (case i22 => kit_is); (case i23 => kit_is); (case i24 => kit_is); (case i25 => kit_is); (case hg_NoSign => k_is); (case hk_NoSign => k_is); (case hd_NoSign => k_is); (case ha_NoSign => k_is); (case hm_NoSign => k_is); (case v_NoSign => kit_is); (case s_NoSign => k_is); (case i30 => kit_is); (case i31 => kit_is); (case i32 => kit_is); (case i33 => kit_is); (case i34 => kit_is); (case i35 => kit_is); (case hg_TooMany => k_is); (case hk_TooMany => k_is); (case hd_TooMany => k_is); (case ha_TooMany => k_is); (case hm_TooMany => k_is); (case v_TooMany => kit_is); (case s_TooMany => k_is); (case i40 => kit_is); (case i41 => kit_is); (case i42 => kit_is); (case i43 => kit_is); (case i44 => kit_is); (case i45 => kit_is); (case hg_BadText => k_is); (case hk_BadText => k_is); (case hd_BadText => k_is); (case ha_BadText => k_is); (case hm_BadText => k_is); (case v_BadText => kit_is); (case s_BadText => k_is); (case i50 => kit_is); (case i51 => kit_is); (case i52 => kit_is); (case i53 => kit_is); (case i54 => kit_is); (case i55 => kit_is); (case z_len => k_is); (case z_range => k_is); (case z_max => k_is); (case z_min => k_is); (case z_list => k_is); (case z_str => k_is); (case z_int => k_is); (case z_bool => k_is); (case z_tuple => k_is); (case z_isinstance => k_is); (case z_sorted => k_is); (case z_enumerate => k_is); (case z_reversed => k_is); (case z_all => k_is); (case z_ValueError => k_is)
