import PyProof.Rows.All
import Wide.All
import OpenK.AllK
import Wide.FinOn
import HandS.ForMost
import HandS.Evl
import HandS.Deep
import HandS.TupAny
import HandS.IsInst
import HandS.Zip
import HandS.RevRange
import HandS.Defaults
import HandS.Exc
import HandS.HeadHook4
import HandS.HeadEnd
import HandS.Head2
import PySem.Challenge.RW_handways_k01_programs_and_ways_refused
import HandS.ForExc
import HandS.Text
import PyProof.P3In
import HandS.Lambda
import HandS.Nested
import HandS.ExcIs
import HandS.TupMul
import HandS.HeadWalk
set_option Elab.async false
set_option linter.all false
set_option maxRecDepth 100000
set_option maxHeartbeats 4000000
/-! W1: data (tuples within tuples) as values, what expressions are worth as data -/
namespace Hw
open PySem PySem.Spec PyProof.Rows L2 Evl
theorem filter_not_isEmpty {α : Type} {f : α → Bool} : ∀ xs : List α, (xs.filter fun t => !f t).isEmpty = xs.all f
  | [] => rfl
  | x :: r => by
    rw [List.filter_cons, List.all_cons]
    cases h : f x with
    | true => simpa using filter_not_isEmpty (f := f) r
    | false => simp

/-! ### data that never changes -/
mutual
inductive Td (K : PySem.W.Frag) (H : Hp) : V → PyData → Prop
  | non : Td K H .non .none
  | bl (b : Bool) : Td K H (.bl b) (.bool b)
  | int (i : Int) : Td K H (.int i) (.int i)
  | str (x : Str) : Td K H (.str x) (.str x)
  | tup {a : Addr} {xs : List V} {ds : List PyData} : SqT K H a xs → TdAll K H xs ds → Td K H (.ref a) (.tuple ds)
inductive TdAll (K : PySem.W.Frag) (H : Hp) : List V → List PyData → Prop
  | nil : TdAll K H [] []
  | cons {v : V} {vs : List V} {d : PyData} {ds : List PyData} : Td K H v d → TdAll K H vs ds → TdAll K H (v :: vs) (d :: ds)
end
/-- tuples stay as they stand -/
def Keep (K : PySem.W.Frag) (H H' : Hp) : Prop := ∀ a xs, SqT K H a xs → SqT K H' a xs
section
variable {K : PySem.W.Frag} {H H' H1 H2 : Hp}
theorem Keep.refl : Keep K H H := fun _ _ h => h
theorem Keep.trans (a : Keep K H H1) (b : Keep K H1 H2) : Keep K H H2 := fun x xs h => b x xs (a x xs h)
theorem ex_keep (e : Ex H H') : Keep K H H' := fun _ _ h => ex_t e h
theorem Keep.upd {a : Addr} {o u : HO} (h : H a = some u) (m : Mut (some u)) : Keep K H (upd H a o) := fun b xs q => by
  rcases q with (q | ⟨oo, q⟩) | q
  · refine .inl (.inl ?_)
    rw [upd_ne]
    · exact q
    · intro z
      subst z
      rw [h] at q
      cases q
      exact m
  · refine .inl (.inr ⟨oo, ?_⟩)
    rw [upd_ne]
    · exact q
    · intro z
      subst z
      rw [h] at q
      cases q
      exact m
  · exact .inr q
mutual
theorem Td.keep (k : Keep K H H') : ∀ (d : PyData) {v : V}, Td K H v d → Td K H' v d
  | .none, _, h => by cases h; exact .non
  | .bool _, _, h => by cases h; exact .bl _
  | .int _, _, h => by cases h; exact .int _
  | .str _, _, h => by cases h; exact .str _
  | .list _, _, h => by cases h
  | .tuple ds, _, h => by
    cases h with
    | tup hs ha => exact .tup (k _ _ hs) (TdAll.keep k ds ha)
  | .dict _, _, h => by cases h
theorem TdAll.keep (k : Keep K H H') : ∀ (ds : List PyData) {vs : List V}, TdAll K H vs ds → TdAll K H' vs ds
  | [], _, h => by cases h; exact .nil
  | d :: ds, _, h => by
    cases h with
    | cons a b => exact .cons (Td.keep k d a) (TdAll.keep k ds b)
end
theorem Td.kp {d : PyData} {v : V} (h : Td K H v d) (k : Keep K H H') : Td K H' v d := Td.keep k d h
theorem TdAll.kp {d : List PyData} {v : List V} (h : TdAll K H v d) (k : Keep K H H') : TdAll K H' v d := TdAll.keep k d h
theorem Td.ex {d : PyData} {v : V} (h : Td K H v d) (e : Ex H H') : Td K H' v d := h.kp (ex_keep e)
theorem TdAll.ex {d : List PyData} {v : List V} (h : TdAll K H v d) (e : Ex H H') : TdAll K H' v d := h.kp (ex_keep e)
mutual
theorem Td.dp : ∀ (d : PyData) {v : V}, Td K H v d → Dp K H v d
  | .none, _, h => by cases h; exact .non
  | .bool _, _, h => by cases h; exact .bl _
  | .int _, _, h => by cases h; exact .int _
  | .str _, _, h => by cases h; exact .str _
  | .list _, _, h => by cases h
  | .tuple ds, _, h => by
    cases h with
    | tup hs ha => exact .tup hs (TdAll.dp ds ha)
  | .dict _, _, h => by cases h
theorem TdAll.dp : ∀ (ds : List PyData) {vs : List V}, TdAll K H vs ds → DpAll K H vs ds
  | [], _, h => by cases h; exact .nil
  | d :: ds, _, h => by
    cases h with
    | cons a b => exact .cons (Td.dp d a) (TdAll.dp ds b)
end
theorem TdAll.length : ∀ {ds : List PyData} {vs : List V}, TdAll K H vs ds → vs.length = ds.length
  | [], _, h => by cases h; rfl
  | d :: ds, _, h => by
    cases h with
    | cons a b => simp [TdAll.length b]
theorem TdAll.get : ∀ {ds : List PyData} {vs : List V} {i : Nat} {d : PyData}, TdAll K H vs ds → ds[i]? = some d → ∃ v, vs[i]? = some v ∧ Td K H v d
  | [], _, _, _, _, e => by simp at e
  | d :: ds, _, i, d', h, e => by
    cases h with
    | cons a b =>
      cases i with
      | zero => simp at e; subst e; exact ⟨_, rfl, a⟩
      | succ i => simp at e; simpa using TdAll.get b e
theorem TdAll.getV : ∀ {ds : List PyData} {vs : List V} {i : Nat} {v : V}, TdAll K H vs ds → vs[i]? = some v → ∃ d, ds[i]? = some d ∧ Td K H v d
  | [], _, _, _, h, e => by cases h; simp at e
  | d :: ds, _, i, v', h, e => by
    cases h with
    | cons a b =>
      cases i with
      | zero => simp at e; subst e; exact ⟨_, rfl, a⟩
      | succ i => simp at e; simpa using TdAll.getV b e
theorem TdAll.append : ∀ {ds es : List PyData} {vs us : List V}, TdAll K H vs ds → TdAll K H us es → TdAll K H (vs ++ us) (ds ++ es)
  | [], _, _, _, h, g => by cases h; exact g
  | d :: ds, _, _, _, h, g => by
    cases h with
    | cons a b => exact .cons a (TdAll.append b g)
theorem TdAll.snoc {ds : List PyData} {vs : List V} {d : PyData} {v : V} (h : TdAll K H vs ds) (g : Td K H v d) : TdAll K H (vs ++ [v]) (ds ++ [d]) := h.append (.cons g .nil)
theorem TdAll.take : ∀ {ds : List PyData} {vs : List V} (n : Nat), TdAll K H vs ds → TdAll K H (vs.take n) (ds.take n)
  | _, _, 0, _ => .nil
  | [], _, n + 1, h => by cases h; exact .nil
  | d :: ds, _, n + 1, h => by
    cases h with
    | cons a b => exact .cons a (TdAll.take n b)
theorem TdAll.drop : ∀ {ds : List PyData} {vs : List V} (n : Nat), TdAll K H vs ds → TdAll K H (vs.drop n) (ds.drop n)
  | _, _, 0, h => h
  | [], _, n + 1, h => by cases h; exact .nil
  | d :: ds, _, n + 1, h => by
    cases h with
    | cons a b => exact TdAll.drop n b
theorem Td.tup_inv {v : V} {ds : List PyData} (h : Td K H v (.tuple ds)) : ∃ a xs, v = .ref a ∧ SqT K H a xs ∧ TdAll K H xs ds := by
  cases h with
  | tup hs ha => exact ⟨_, _, rfl, hs, ha⟩
theorem atI_td {ds : List PyData} {vs : List V} {i : Int} {d : PyData} (h : TdAll K H vs ds) (e : atI ds i = some d) : ∃ v, atI vs i = some v ∧ Td K H v d := by
  unfold atI at e ⊢
  rw [h.length]
  cases hi : ixN ds.length i with
  | none => rw [hi] at e; cases e
  | some j =>
    rw [hi] at e
    exact h.get e
end

/-! ### what is worth which data -/
def EvD (K : PySem.W.Frag) (te : TE) (σ : L2.St) (H : Hp) (d : PyData) : Prop := ∀ H1, Ex H H1 → ∀ Q : VK, (∀ v H2, Ex H1 H2 → Td K H2 v d → Q v H2) → te σ H1 Q
def EvDA (K : PySem.W.Frag) (ta : TA) (σ : L2.St) (H : Hp) (ds : List PyData) : Prop := ∀ H1, Ex H H1 → ∀ Q : List V → Hp → Prop, (∀ vs H2, Ex H1 H2 → TdAll K H2 vs ds → Q vs H2) → ta σ H1 Q
/-- a test's answer (K is only carried) -/
def EvTK (_ : PySem.W.Frag) (t : TT) (σ : L2.St) (H : Hp) (b : Bool) : Prop := EvT t σ H b
/-- a new list of data -/
def EvDL (K : PySem.W.Frag) (te : TE) (σ : L2.St) (H : Hp) (ds : List PyData) : Prop := ∀ H1, Ex H H1 → ∀ Q : VK, (∀ p xs H2, H1 p = none → Ex H1 H2 → H2 p = some (.lst xs) → TdAll K H2 xs ds → Q (.ref p) H2) → te σ H1 Q
/-- a list of data, to be read -/
def EvDR (K : PySem.W.Frag) (te : TE) (σ : L2.St) (H : Hp) (ds : List PyData) : Prop := ∀ H1, Ex H H1 → ∀ Q : VK, (∀ p xs H2, Ex H1 H2 → SqL K H2 p xs → TdAll K H2 xs ds → Q (.ref p) H2) → te σ H1 Q
section
variable {K : PySem.W.Frag} {σ : L2.St} {H H' : Hp} {ta tb te tx : TE} {t u : TT} {x y z v : V} {r : R2} {d e f : PyData} {ds es : List PyData} {i j k : Int}
theorem EvD.mono (a : Ex H H') (h : EvD K te σ H d) : EvD K te σ H' d := fun H1 b Q q => h H1 (a.trans b) Q q
theorem EvDA.mono {ta : TA} (a : Ex H H') (h : EvDA K ta σ H ds) : EvDA K ta σ H' ds := fun H1 b Q q => h H1 (a.trans b) Q q
theorem EvDL.mono (a : Ex H H') (h : EvDL K te σ H ds) : EvDL K te σ H' ds := fun H1 b Q q => h H1 (a.trans b) Q q
theorem EvDR.mono (a : Ex H H') (h : EvDR K te σ H ds) : EvDR K te σ H' ds := fun H1 b Q q => h H1 (a.trans b) Q q
theorem EvDL.rd (h : EvDL K te σ H ds) : EvDR K te σ H ds := fun H1 a Q q => h H1 a Q fun p xs H2 _ e2 hp ht => q p xs H2 e2 (SqL.of hp) ht
theorem edl_is (h : EvDL K te σ H ds) (q : ds = es) : EvDL K te σ H es := q ▸ h
theorem EvD.iv (h : EvD K te σ H (.int i)) : Ev te σ H (.int i) := fun H1 a Q q => h H1 a Q fun v H2 e2 td => by cases td; exact q H2 e2
theorem EvD.sv {s : Str} (h : EvD K te σ H (.str s)) : Ev te σ H (.str s) := fun H1 a Q q => h H1 a Q fun v H2 e2 td => by cases td; exact q H2 e2
theorem EvD.bv {b : Bool} (h : EvD K te σ H (.bool b)) : Ev te σ H (.bl b) := fun H1 a Q q => h H1 a Q fun v H2 e2 td => by cases td; exact q H2 e2
theorem EvD.nv (h : EvD K te σ H .none) : Ev te σ H .non := fun H1 a Q q => h H1 a Q fun v H2 e2 td => by cases td; exact q H2 e2
theorem ev_d (h : Ev te σ H v) (t : ∀ H, Td K H v d) : EvD K te σ H d := fun H1 a Q q => h H1 a Q fun H2 e2 => q v H2 e2 (t H2)
theorem ed_i (h : Ev te σ H (.int i)) : EvD K te σ H (.int i) := ev_d h fun _ => .int _
theorem ed_b {b : Bool} (h : Ev te σ H (.bl b)) : EvD K te σ H (.bool b) := ev_d h fun _ => .bl _
theorem ed_s {s : Str} (h : Ev te σ H (.str s)) : EvD K te σ H (.str s) := ev_d h fun _ => .str _
theorem ed_is (h : EvD K te σ H d) (q : d = e) : EvD K te σ H e := q ▸ h
theorem ed_var {n : Nat} (h : σ[n]? = some (some v)) (td : Td K H v d) : EvD K (tVar n) σ H d := fun H1 a _ q => ⟨v, h, q v H1 (Ex.refl H1) (td.ex a)⟩
theorem ed_ci : EvD K (tC (.int i)) σ H (.int i) := fun H1 _ _ q => q _ H1 (Ex.refl H1) (.int _)
theorem ed_cs {s : Str} : EvD K (tC (.str s)) σ H (.str s) := fun H1 _ _ q => q _ H1 (Ex.refl H1) (.str _)
theorem ed_cb {b : Bool} : EvD K (tC (.bl b)) σ H (.bool b) := fun H1 _ _ q => q _ H1 (Ex.refl H1) (.bl _)
theorem ed_cn : EvD K (tC .non) σ H .none := fun H1 _ _ q => q _ H1 (Ex.refl H1) .non
theorem ed_ct {a : Addr} (td : Td K H (.ref a) d) : EvD K (tC (.ref a)) σ H d := fun H1 e1 _ q => q _ H1 (Ex.refl H1) (td.ex e1)
theorem ed_cg {a : Addr} (td : ∀ H, Td K H (.ref a) d) : EvD K (tC (.ref a)) σ H d := fun H1 e1 _ q => q _ H1 (Ex.refl H1) (td H1)
theorem edr_var {n : Nat} {a : Addr} {xs : List V} (h : σ[n]? = some (some (.ref a))) (hl : SqL K H a xs) (td : TdAll K H xs ds) : EvDR K (tVar n) σ H ds := fun H1 e1 _ q => ⟨.ref a, h, q a xs H1 (Ex.refl H1) (ex_l e1 hl) (td.ex e1)⟩
theorem ed_ixT (ha : EvD K ta σ H (.tuple ds)) (hb : EvD K tb σ H (.int i)) (hd : atI ds i = some d) : EvD K (tOp (rIxT K) ta tb) σ H d := fun H1 a Q q =>
  ha H1 a _ fun v H2 e2 t2 => by
    obtain ⟨p, xs, rfl, hs, hall⟩ := t2.tup_inv
    refine hb.iv H2 (a.trans e2) _ fun H3 e3 => ?_
    obtain ⟨w, hw, tw⟩ := atI_td (hall.ex e3) hd
    exact ⟨p, xs, i, w, rfl, rfl, ex_t e3 hs, hw, q w H3 (e2.trans e3) tw⟩
theorem ed_ixL (ha : EvDR K ta σ H ds) (hb : EvD K tb σ H (.int i)) (hd : atI ds i = some d) : EvD K (tOp (rIxL K) ta tb) σ H d := fun H1 a Q q =>
  ha H1 a _ fun p xs H2 e2 hs hall => by
    refine hb.iv H2 (a.trans e2) _ fun H3 e3 => ?_
    obtain ⟨w, hw, tw⟩ := atI_td (hall.ex e3) hd
    exact ⟨p, xs, i, w, rfl, rfl, ex_l e3 hs, hw, q w H3 (e2.trans e3) tw⟩
theorem ed_I0i {g : Int → Int → Int} (ha : EvD K ta σ H (.int i)) (hb : EvD K tb σ H (.int j)) : EvD K (tOp (rI0 fun i j => .int (g i j)) ta tb) σ H (.int (g i j)) := ed_i (ev_op ha.iv hb.iv rv_I0)
theorem ed_I0b {g : Int → Int → Bool} (ha : EvD K ta σ H (.int i)) (hb : EvD K tb σ H (.int j)) : EvD K (tOp (rI0 fun i j => .bl (g i j)) ta tb) σ H (.bool (g i j)) := ed_b (ev_op ha.iv hb.iv rv_I0)
theorem ed_Ii {C : Int → Int → Prop} {g : Int → Int → Int} (ha : EvD K ta σ H (.int i)) (hb : EvD K tb σ H (.int j)) (hc : C i j) : EvD K (tOp (rI C fun i j => .int (g i j)) ta tb) σ H (.int (g i j)) := ed_i (ev_op ha.iv hb.iv (rv_I hc))
theorem ed_eqi (ha : EvD K ta σ H (.int i)) (hb : EvD K tb σ H (.int j)) : EvD K (tOp rEq ta tb) σ H (.bool (decide (i = j))) := ed_is (ed_b (ev_op ha.iv hb.iv (rv_eq rfl))) (by simp)
theorem ed_nei (ha : EvD K ta σ H (.int i)) (hb : EvD K tb σ H (.int j)) : EvD K (tOp rNe ta tb) σ H (.bool (!decide (i = j))) := ed_is (ed_b (ev_op ha.iv hb.iv (rv_ne rfl))) (by simp)
theorem ed_tup {ta : TA} (h : EvDA K ta σ H ds) (hl : ds.length ≤ 100000) : EvD K (tTup ta) σ H (.tuple ds) := fun H1 a _ q =>
  h H1 a _ fun vs H2 e2 t2 => ⟨by rw [t2.length]; exact sz_of hl, fun p hp => q _ _ (e2.trans (Ex.new hp)) (.tup (SqT.of upd_same) (t2.ex (Ex.new hp)))⟩
theorem edl_lst {ta : TA} (h : EvDA K ta σ H ds) (hl : ds.length ≤ 100000) : EvDL K (tLst ta) σ H ds := fun H1 a _ q =>
  h H1 a _ fun vs H2 e2 t2 => ⟨by rw [t2.length]; exact sz_of hl, fun p hp => q _ _ _ (fresh_back e2 hp) (e2.trans (Ex.new hp)) upd_same (t2.ex (Ex.new hp))⟩
theorem eda_nil : EvDA K tNil σ H [] := fun H1 _ _ q => q [] H1 (Ex.refl H1) .nil
theorem eda_cons {tr : TA} (h : EvD K ta σ H d) (hr : EvDA K tr σ H ds) : EvDA K (tCons ta tr) σ H (d :: ds) := fun H1 a _ q =>
  h H1 a _ fun v H2 e2 t2 => hr H2 (a.trans e2) _ fun vs H3 e3 t3 => q _ H3 (e2.trans e3) (.cons (t2.ex e3) t3)
theorem ed_len (h : EvD K ta σ H (.tuple ds)) : EvD K (tCB (rLenS K) (tCons ta tNil)) σ H (.int (ds.length : Int)) := fun H1 a Q q =>
  h H1 a _ fun v H2 e2 t2 => by
    obtain ⟨p, xs, rfl, hs, hall⟩ := t2.tup_inv
    refine ⟨p, xs, rfl, Or.inr hs, ?_⟩
    rw [hall.length]
    exact q _ H2 e2 (.int _)
theorem ed_lenL (h : EvDR K ta σ H ds) : EvD K (tCB (rLenS K) (tCons ta tNil)) σ H (.int (ds.length : Int)) := fun H1 a Q q =>
  h H1 a _ fun p xs H2 e2 hs ht => by
    refine ⟨p, xs, rfl, Or.inl hs, ?_⟩
    rw [ht.length]
    exact q _ H2 e2 (.int _)
theorem ed_andV {a b : Bool} (h1 : EvD K ta σ H (.bool a)) (h2 : a = true → EvD K tb σ H (.bool b)) : EvD K (tAndV ta tb) σ H (.bool (a && b)) := ed_b (ev_andV h1.bv fun q => (h2 q).bv)
theorem ed_orV {a b : Bool} (h1 : EvD K ta σ H (.bool a)) (h2 : a = false → EvD K tb σ H (.bool b)) : EvD K (tOrV ta tb) σ H (.bool (a || b)) := ed_b (ev_orV h1.bv fun q => (h2 q).bv)
theorem ed_andF (h1 : EvD K ta σ H (.bool false)) : EvD K (tAndV ta tb) σ H (.bool false) := fun H1 a Q q => h1.bv H1 a _ fun H2 e2 => ⟨false, rfl, (show Q (.bl false) H2 from q _ H2 e2 (.bl _))⟩
theorem ed_orT (h1 : EvD K ta σ H (.bool true)) : EvD K (tOrV ta tb) σ H (.bool true) := fun H1 a Q q => h1.bv H1 a _ fun H2 e2 => ⟨true, rfl, (show Q (.bl true) H2 from q _ H2 e2 (.bl _))⟩
theorem tk_andF (h1 : EvTK K t σ H false) : EvTK K (tAnd t u) σ H false := et_and (b := false) h1 fun q => nomatch q
theorem tk_orT (h1 : EvTK K t σ H true) : EvTK K (tOr t u) σ H true := et_or (b := true) h1 fun q => nomatch q
theorem tk_and {a b : Bool} (h1 : EvTK K t σ H a) (h2 : a = true → EvTK K u σ H b) : EvTK K (tAnd t u) σ H (a && b) := et_and h1 h2
theorem tk_or {a b : Bool} (h1 : EvTK K t σ H a) (h2 : a = false → EvTK K u σ H b) : EvTK K (tOr t u) σ H (a || b) := et_or h1 h2
theorem tk_not {a : Bool} (h1 : EvTK K t σ H a) : EvTK K (tNot t) σ H (!a) := et_not h1
theorem tk_notT (h1 : EvTK K t σ H true) : EvTK K (tNot t) σ H false := et_not h1
theorem tk_notF (h1 : EvTK K t σ H false) : EvTK K (tNot t) σ H true := et_not h1
theorem tk_yes : EvTK K tYes σ H true := fun H1 _ _ q => q H1 (Ex.refl H1)
theorem tk_is {a b : Bool} (h : EvTK K t σ H a) (e : a = b) : EvTK K t σ H b := e ▸ h
theorem ed_ifT (h : EvTK K t σ H true) (h1 : EvD K ta σ H d) : EvD K (tIf t ta tb) σ H d := fun H1 a Q q => h H1 a _ fun H2 e2 => h1 H2 (a.trans e2) Q fun v H3 e3 => q v H3 (e2.trans e3)
theorem ed_ifF (h : EvTK K t σ H false) (h1 : EvD K tb σ H d) : EvD K (tIf t ta tb) σ H d := fun H1 a Q q => h H1 a _ fun H2 e2 => h1 H2 (a.trans e2) Q fun v H3 e3 => q v H3 (e2.trans e3)
theorem ed_notV {a : Bool} (h1 : EvD K ta σ H (.bool a)) : EvD K (tNotV ta) σ H (.bool (!a)) := ed_b (ev_notV h1.bv)
theorem ed_notT (h1 : EvD K ta σ H (.bool true)) : EvD K (tNotV ta) σ H (.bool false) := ed_notV h1
theorem ed_notF (h1 : EvD K ta σ H (.bool false)) : EvD K (tNotV ta) σ H (.bool true) := ed_notV h1
theorem ed_if {b : Bool} (h : EvTK K t σ H b) (h1 : b = true → EvD K ta σ H d) (h2 : b = false → EvD K tb σ H d) : EvD K (tIf t ta tb) σ H d := fun H1 a Q q => h H1 a _ fun H2 e2 => by
  cases b with
  | true =>
    show ta σ H2 Q
    exact h1 rfl H2 (a.trans e2) Q fun v H3 e3 => q v H3 (e2.trans e3)
  | false =>
    show tb σ H2 Q
    exact h2 rfl H2 (a.trans e2) Q fun v H3 e3 => q v H3 (e2.trans e3)
theorem tk_v {b : Bool} (h : EvD K te σ H (.bool b)) : EvTK K (tTest te) σ H b := et_test h.bv
theorem tk_vB {b : Bool} (h : EvD K te σ H (.bool b)) : EvTK K (tB te) σ H b := et_B h.bv
/-- a < b < c -/
theorem ed_chain {g g' : Int → Int → Bool} (ha : EvD K ta σ H (.int i)) (hb : EvD K tb σ H (.int j)) (hc : g i j = true → EvD K tx σ H (.int k)) :
    EvD K (tChain (rI0 fun i j => .bl (g i j)) (rI0 fun i j => .bl (g' i j)) ta tb tx) σ H (.bool (g i j && g' j k)) := fun H1 a Q q =>
  ha.iv H1 a _ fun H2 e2 => hb.iv H2 (a.trans e2) _ fun H3 e3 => ⟨i, j, rfl, rfl, g i j, rfl, by
    cases hg : g i j with
    | true =>
      rw [if_pos rfl]
      rw [hg] at q
      exact (hc hg).iv H3 ((a.trans e2).trans e3) _ fun H4 e4 => ⟨j, k, rfl, rfl, q _ H4 ((e2.trans e3).trans e4) (.bl _)⟩
    | false =>
      rw [if_neg Bool.false_ne_true]
      rw [hg] at q
      exact q _ H3 (e2.trans e3) (.bl _)⟩
/-- is None -/
def noneD : PyData → Bool
  | .none => true
  | _ => false
theorem ed_isN (ha : EvD K ta σ H d) : EvD K (tIsN ta) σ H (.bool (noneD d)) := fun H1 a Q q => ha H1 a _ fun v H2 e2 t2 => by
  have e : decide (v = .non) = noneD d := by cases t2 <;> simp [noneD]
  rw [e]
  exact q _ H2 e2 (.bl _)
theorem ed_notN (ha : EvD K ta σ H d) : EvD K (tNotN ta) σ H (.bool (!noneD d)) := fun H1 a Q q => ha H1 a _ fun v H2 e2 t2 => by
  have e : decide (v = .non) = noneD d := by cases t2 <;> simp [noneD]
  rw [e]
  exact q _ H2 e2 (.bl _)
/-! flat data within a sequence -/
def flatD : PyData → Bool
  | .none | .bool _ | .int _ | .str _ => true
  | _ => false
theorem flat_td (h : Td K H v d) (f : flatD d = true) : flatV v = true := by cases h <;> first | rfl | cases f
theorem eqV_td {v w : V} (h : Td K H v d) (g : Td K H w e) (f : flatD d = true) (f2 : flatD e = true) : eqV v w = PyData.eqv d e := by
  cases h <;> cases g <;> first | rfl | cases f | cases f2 | simp [eqV, PyData.eqv]
theorem flatAll_td : ∀ {es : List PyData} {vs : List V}, TdAll K H vs es → es.all flatD = true → vs.all flatV = true
  | [], _, h, _ => by cases h; rfl
  | e :: es, _, h, f => by
    cases h with
    | cons a b =>
      simp only [List.all_cons, Bool.and_eq_true] at f ⊢
      exact ⟨flat_td a f.1, flatAll_td b f.2⟩
theorem inV_td : ∀ {es : List PyData} {vs : List V} {v : V}, TdAll K H vs es → Td K H v d → flatD d = true → es.all flatD = true → inV v vs = es.any fun z => PyData.eqv z d
  | [], _, _, h, _, _, _ => by cases h; rfl
  | e :: es, _, _, h, t, f, f2 => by
    cases h with
    | cons a b =>
      simp only [List.all_cons, Bool.and_eq_true] at f2
      have ih := inV_td b t f f2.2
      unfold inV at ih ⊢
      rw [List.any_cons, List.any_cons, ih, eqV_td a t f2.1 f]
theorem ed_inT (ha : EvD K ta σ H d) (hb : EvD K tb σ H (.tuple es)) (fd : flatD d = true) (fe : es.all flatD = true) : EvD K (tOp (rIn K false) ta tb) σ H (.bool (es.any fun z => PyData.eqv z d)) := fun H1 a Q q =>
  ha H1 a _ fun v H2 e2 t2 => hb H2 (a.trans e2) _ fun w H3 e3 t3 => by
    obtain ⟨p, xs, rfl, hs, hall⟩ := t3.tup_inv
    refine ⟨p, xs, rfl, .inr hs, flat_td t2 fd, flatAll_td hall fe, ?_⟩
    show Q (.bl (inV v xs)) H3
    rw [inV_td hall (t2.ex e3) fd fe]
    exact q _ H3 (e2.trans e3) (.bl _)
theorem ed_niT (ha : EvD K ta σ H d) (hb : EvD K tb σ H (.tuple es)) (fd : flatD d = true) (fe : es.all flatD = true) : EvD K (tOp (rIn K true) ta tb) σ H (.bool (!es.any fun z => PyData.eqv z d)) := fun H1 a Q q =>
  ha H1 a _ fun v H2 e2 t2 => hb H2 (a.trans e2) _ fun w H3 e3 t3 => by
    obtain ⟨p, xs, rfl, hs, hall⟩ := t3.tup_inv
    refine ⟨p, xs, rfl, .inr hs, flat_td t2 fd, flatAll_td hall fe, ?_⟩
    show Q (.bl (!inV v xs)) H3
    rw [inV_td hall (t2.ex e3) fd fe]
    exact q _ H3 (e2.trans e3) (.bl _)
/-! isinstance -/
def tyD : PyData → String
  | .none => "NoneType"
  | .bool _ => "bool"
  | .int _ => "int"
  | .str _ => "str"
  | .list _ => "list"
  | .tuple _ => "tuple"
  | .dict _ => "dict"
theorem tyx_td (h : Td K H v d) : TyX K H v (.type (tyD d)) := by
  cases h with
  | non => exact .base .non
  | bl b => exact .base (.bl b)
  | int i => exact .base (.int i)
  | str x => exact .base (.str x)
  | tup hs _ =>
    rcases hs with (hs | ⟨o, hs⟩) | ⟨o, its, n, hk, hc, _⟩
    · exact .base (.tup hs)
    · exact .fTuple hs
    · exact .kTuple hk hc
theorem ed_isi {b : Bool} {n : String} (ha : EvD K ta σ H d) (hk : kitB (tyD d) n = some b) : EvD K (tCB (rIsi K) (tCons ta (tCons (tC (.ty n)) tNil))) σ H (.bool b) := fun H1 a Q q =>
  ha H1 a _ fun v H2 e2 t2 => ⟨v, .ty n, _, _, b, rfl, .ty n, tyx_td t2, kit_ty hk, q _ H2 e2 (.bl _)⟩
/-! == of data of any depth, where one of both is not deep -/
def rEqM (K : PySem.W.Frag) : R2 := fun x y H Q => ∃ d e, Dp K H x d ∧ Dp K H y e ∧ d.canLay0 = true ∧ e.canLay0 = true ∧ min d.depth e.depth ≤ 64 ∧ Q (.bl (PyData.eqv d e)) H
def rNeM (K : PySem.W.Frag) : R2 := fun x y H Q => ∃ d e, Dp K H x d ∧ Dp K H y e ∧ d.canLay0 = true ∧ e.canLay0 = true ∧ min d.depth e.depth ≤ 64 ∧ Q (.bl (!PyData.eqv d e)) H
theorem op_eqM {X : Cx} (hu : X.A.units + 64 < cLine) : OpR X (compareOp .Eq) (rEqM X.K) := by
  intro pins s σ H x y v u Q I rx ry h
  obtain ⟨d, e, hd, he, sd, se, hm, q⟩ := h
  obtain ⟨as, r1⟩ := Dp.reads I d x v hd rx
  obtain ⟨bs, r2⟩ := Dp.reads I e y u he ry
  exact SeqAt.compareEq_reads r1 r2 sd se (by omega) ⟨.bl _, H, I, rfl, q⟩
theorem op_neM {X : Cx} (hu : X.A.units + 64 < cLine) : OpR X (compareOp .NotEq) (rNeM X.K) := by
  intro pins s σ H x y v u Q I rx ry h
  obtain ⟨d, e, hd, he, sd, se, hm, q⟩ := h
  obtain ⟨as, r1⟩ := Dp.reads I d x v hd rx
  obtain ⟨bs, r2⟩ := Dp.reads I e y u he ry
  exact SeqAt.compareNe_reads r1 r2 sd se (by omega) ⟨.bl _, H, I, rfl, q⟩
theorem ed_eqM (ha : EvD K ta σ H d) (hb : EvD K tb σ H e) (sd : d.canLay0 = true) (se : e.canLay0 = true) (hm : min d.depth e.depth ≤ 64) : EvD K (tOp (rEqM K) ta tb) σ H (.bool (PyData.eqv d e)) := fun H1 a Q q =>
  ha H1 a _ fun v H2 e2 t2 => hb H2 (a.trans e2) _ fun w H3 e3 t3 => ⟨d, e, (t2.ex e3).dp, t3.dp, sd, se, hm, q _ H3 (e2.trans e3) (.bl _)⟩
theorem ed_neM (ha : EvD K ta σ H d) (hb : EvD K tb σ H e) (sd : d.canLay0 = true) (se : e.canLay0 = true) (hm : min d.depth e.depth ≤ 64) : EvD K (tOp (rNeM K) ta tb) σ H (.bool (!PyData.eqv d e)) := fun H1 a Q q =>
  ha H1 a _ fun v H2 e2 t2 => hb H2 (a.trans e2) _ fun w H3 e3 t3 => ⟨d, e, (t2.ex e3).dp, t3.dp, sd, se, hm, q _ H3 (e2.trans e3) (.bl _)⟩
/-- a text on the right -/
theorem ed_eqS {s : Str} (ha : EvD K ta σ H d) (hb : EvD K tb σ H (.str s)) (sd : d.canLay0 = true) (ss : (PyData.str s).canLay0 = true) : EvD K (tOp (rEqM K) ta tb) σ H (.bool (PyData.eqv d (.str s))) := ed_eqM ha hb sd ss (by simp [PyData.depth])
theorem ed_neS {s : Str} (ha : EvD K ta σ H d) (hb : EvD K tb σ H (.str s)) (sd : d.canLay0 = true) (ss : (PyData.str s).canLay0 = true) : EvD K (tOp (rNeM K) ta tb) σ H (.bool (!PyData.eqv d (.str s))) := ed_neM ha hb sd ss (by simp [PyData.depth])
/-- a list of data and the empty list -/
theorem ed_eqN (ha : EvDR K ta σ H ds) (hb : EvDL K tb σ H []) (sd : PyData.canLayAll0 ds = true) : EvD K (tOp (rEqM K) ta tb) σ H (.bool ds.isEmpty) := fun H1 a Q q =>
  ha H1 a _ fun p xs H2 e2 hs ht => hb H2 (a.trans e2) _ fun w ys H3 _ e3 hw hy => by
    refine ⟨.list ds, .list [], .lst (ex_l e3 hs) (ht.ex e3).dp, .lst (SqL.of hw) hy.dp, (show PyData.canLay0 (.list ds) = true by simpa [PyData.canLay0] using sd), rfl, by simp [PyData.depth, PyData.depthAll], ?_⟩
    have e : PyData.eqv (.list ds) (.list []) = ds.isEmpty := by cases ds <;> simp [PyData.eqv, PyData.eqvAll]
    rw [e]
    exact q _ H3 (e2.trans e3) (.bl _)
theorem ed_neN (ha : EvDR K ta σ H ds) (hb : EvDL K tb σ H []) (sd : PyData.canLayAll0 ds = true) : EvD K (tOp (rNeM K) ta tb) σ H (.bool (!ds.isEmpty)) := fun H1 a Q q =>
  ha H1 a _ fun p xs H2 e2 hs ht => hb H2 (a.trans e2) _ fun w ys H3 _ e3 hw hy => by
    refine ⟨.list ds, .list [], .lst (ex_l e3 hs) (ht.ex e3).dp, .lst (SqL.of hw) hy.dp, (show PyData.canLay0 (.list ds) = true by simpa [PyData.canLay0] using sd), rfl, by simp [PyData.depth, PyData.depthAll], ?_⟩
    have e : PyData.eqv (.list ds) (.list []) = ds.isEmpty := by cases ds <;> simp [PyData.eqv, PyData.eqvAll]
    rw [e]
    exact q _ H3 (e2.trans e3) (.bl _)
/-! slices, + -/
def cutD (ds : List PyData) (lo hi : Option Int) : List PyData := (ds.drop (HT.sIx ds.length 0 lo)).take (HT.sIx ds.length ds.length hi - HT.sIx ds.length 0 lo)
theorem TdAll.cut {vs : List V} (h : TdAll K H vs ds) (lo hi : Option Int) : TdAll K H (cutV vs lo hi) (cutD ds lo hi) := by
  unfold cutV cutD
  rw [h.length]
  exact (h.drop _).take _
def EvOK (_ : PySem.W.Frag) (to : TO) (σ : L2.St) (H : Hp) (o : Option Int) : Prop := EvO to σ H o
theorem eok_some (h : EvD K te σ H (.int i)) : EvOK K (tPart te) σ H (some i) := eo_some h.iv
theorem eok_none : EvOK K tNoPart σ H none := eo_none
theorem ed_sl {tl th : TO} {lo hi : Option Int} (h : EvD K te σ H (.tuple ds)) (h1 : EvOK K tl σ H lo) (h2 : EvOK K th σ H hi) : EvD K (tSl (rSlA K) te tl th) σ H (.tuple (cutD ds lo hi)) := fun H1 a Q q =>
  h H1 a _ fun v H2 e2 t2 => by
    obtain ⟨p, xs, rfl, hs, hall⟩ := t2.tup_inv
    refine h1 H2 (a.trans e2) _ fun H3 e3 => h2 H3 ((a.trans e2).trans e3) _ fun H4 e4 => ?_
    have hs4 := ex_t (e3.trans e4) hs
    have ha4 := hall.ex (e3.trans e4)
    refine ⟨p, xs, rfl, hs4, fun hw => ?_, fun _ n hn => ?_⟩
    · refine q _ H4 ((e2.trans e3).trans e4) ?_
      have hl := hall.length
      have e : cutD ds lo hi = ds := by
        unfold cutD
        rw [← hl, hw.1, hw.2, List.drop_zero, hl]
        simp
      rw [e]
      exact .tup hs4 ha4
    · exact q _ _ (((e2.trans e3).trans e4).trans (Ex.new hn)) (.tup (SqT.of upd_same) ((ha4.cut lo hi).ex (Ex.new hn)))
theorem ed_cat (ha : EvD K ta σ H (.tuple ds)) (hb : EvD K tb σ H (.tuple es)) (hl : ds.length + es.length ≤ 100000) : EvD K (tOp (rCatA K) ta tb) σ H (.tuple (ds ++ es)) := fun H1 a Q q =>
  ha H1 a _ fun v H2 e2 t2 => hb H2 (a.trans e2) _ fun w H3 e3 t3 => by
    obtain ⟨p, xs, rfl, hs, hall⟩ := t2.tup_inv
    obtain ⟨p2, ys, rfl, hs2, hall2⟩ := t3.tup_inv
    have l1 := hall.length
    have l2 := hall2.length
    refine ⟨p, p2, xs, ys, rfl, rfl, ex_t e3 hs, hs2, sz_of (by omega), fun hx => ?_, fun _ hy => ?_, fun _ _ n hn => ?_⟩
    · subst hx
      cases hall
      exact q _ H3 (e2.trans e3) (.tup hs2 hall2)
    · subst hy
      cases hall2
      rw [List.append_nil] at q
      exact q _ H3 (e2.trans e3) (.tup (ex_t e3 hs) (hall.ex e3))
    · exact q _ _ ((e2.trans e3).trans (Ex.new hn)) (.tup (SqT.of upd_same) (((hall.ex e3).append hall2).ex (Ex.new hn)))
/-- tuple(a list of data) -/
def rTupS (K : PySem.W.Frag) : List V → Hp → VK → Prop := fun xs H Q => ∃ p ys, xs = [.ref p] ∧ ((SqL K H p ys ∧ ∀ l, H l = none → Q (.ref l) (upd H l (.tup ys))) ∨ (SqT K H p ys ∧ Q (.ref p) H))
theorem ed_tupL (h : EvDR K ta σ H ds) : EvD K (tCB (rTupS K) (tCons ta tNil)) σ H (.tuple ds) := fun H1 a Q q =>
  h H1 a _ fun p xs H2 e2 hs ht => ⟨p, xs, rfl, .inl ⟨hs, fun l hl => q _ _ (e2.trans (Ex.new hl)) (.tup (SqT.of upd_same) (ht.ex (Ex.new hl)))⟩⟩
theorem edl_lstT (h : EvD K ta σ H (.tuple ds)) : EvDL K (tCB (rListS K) (tCons ta tNil)) σ H ds := fun H1 a Q q =>
  h H1 a _ fun v H2 e2 t2 => by
    obtain ⟨p, xs, rfl, hs, hall⟩ := t2.tup_inv
    exact ⟨p, xs, rfl, .inr hs, fun l hl => q l xs _ (fresh_back e2 hl) (e2.trans (Ex.new hl)) upd_same (hall.ex (Ex.new hl))⟩
/-- sum of a list of ints -/
theorem td_ints : ∀ {ns : List Int} {xs : List V}, TdAll K H xs (ns.map PyData.int) → xs = ns.map V.int
  | [], _, h => by cases h; rfl
  | n :: ns, _, h => by
    cases h with
    | cons a b => cases a; rw [td_ints b]; rfl
theorem ed_sum {ns : List Int} (h : EvDR K ta σ H (ns.map PyData.int)) : EvD K (tCB (rSum K) (tCons ta tNil)) σ H (.int ns.sum) := fun H1 a Q q =>
  h H1 a _ fun p xs H2 e2 hs ht => ⟨p, ns, rfl, by rw [← td_ints ht]; exact hs, q _ H2 e2 (.int _)⟩
/-! constants of the top -/
theorem pe_gint {X : Cx} {x : Str} {i : Int} {pos : Pos} (hg : Gl X x) (hm : ∃ t, X.mg x = some (.int i t)) (hd : (x == ("__debug__" : Str)) = false := by decide) : PE X (.Name x pos) (tC (.int i)) := by
  obtain ⟨t, ht⟩ := hm
  exact pe_glob hg ht ⟨_, rfl⟩ hd
theorem pe_gstr {X : Cx} {x z : Str} {pos : Pos} (hg : Gl X x) (hm : ∃ t, X.mg x = some (.str z t)) (hd : (x == ("__debug__" : Str)) = false := by decide) : PE X (.Name x pos) (tC (.str z)) := by
  obtain ⟨t, ht⟩ := hm
  exact pe_glob hg ht ⟨_, rfl⟩ hd
/-! calls -/
def spF (K : PySem.W.Frag) (P : List PyData → PyData → Prop) : Sp := fun vs H Q _ => ∃ ds d, TdAll K H vs ds ∧ P ds d ∧ ∀ v H', Ex H H' → Td K H' v d → Q v H'
theorem ed_call {P : List PyData → PyData → Prop} {E : XK} {ta : TA} (h : EvDA K ta σ H ds) (hp : P ds d) : EvD K (tCall (spF K P) [] E ta) σ H d := fun H1 a Q q =>
  h H1 a _ fun vs H2 e2 t2 => by
    rw [List.append_nil]
    exact ⟨ds, d, t2, hp, fun v H3 e3 t3 => q v H3 (e2.trans e3) t3⟩
theorem spF_len {P : List PyData → PyData → Prop} {n : Nat} (h : ∀ ds d, P ds d → ds.length = n) (vs : List V) (H : Hp) (Q : VK) (E : XK) (q : spF K P vs H Q E) : vs.length = n := by
  obtain ⟨ds, d, ht, hp, _⟩ := q
  rw [ht.length, h ds d hp]
/-- a promise that asks what can't be -/
theorem fn_vac {P : Program} {w : World} {mg : Str → Option Value} {base : Heap} {CX : CXT} {k : Nat} {f : Addr} {fd : FuncData} {ps : List Str} {sp : Sp} (no : ∀ vs H Q E, ¬ sp vs H Q E) : FnOk P w K mg base CX k f fd ps sp :=
  ⟨fun vs H Q E h => absurd h (no vs H Q E), fun A outer s H args us vs Q E _ _ _ _ h => absurd h (no vs H Q E)⟩
end
end Hw

set_option maxRecDepth 100000
set_option maxHeartbeats 4000000
/-! W2: comprehensions and loops over data -/
namespace Hw
open PySem PySem.Spec PyProof.Rows L2 Evl
section
variable {K : PySem.W.Frag} {σ : L2.St} {H H' : Hp} {ta tb te tx : TE} {t u : TT} {x y z v : V} {d e f : PyData} {ds es : List PyData} {i j k : Int}
/-- what a comprehension has made so far -/
def Cd (K : PySem.W.Frag) (H : Hp) (Dl : Addr) (es : List PyData) (H' : Hp) : Prop := H Dl = none ∧ Ex H H' ∧ ∃ acc, H' Dl = some (.lst acc) ∧ TdAll K H' acc es
theorem cd_step {Dl : Addr} {b : Bool} {e : PyData} {H' : Hp} {σ2 : L2.St} (p : Cd K H Dl es H') (hl : es.length < 50000) (ht : EvTK K t σ2 H b) (he : b = true → EvD K te σ2 H e) :
    t σ2 H' fun c H3 => if c = true then te σ2 H3 fun y H4 => ∃ acc, H4 Dl = some (.lst acc) ∧ acc.length < sizeLine ∧ Cd K H Dl (if b then es ++ [e] else es) (upd H4 Dl (.lst (acc ++ [y]))) else Cd K H Dl (if b then es ++ [e] else es) H3 := by
  obtain ⟨p1, p2, acc, p3, p4⟩ := p
  refine ht H' p2 _ fun H3 e3 => ?_
  cases b with
  | true =>
    rw [if_pos rfl]
    refine he rfl H3 (p2.trans e3) _ fun v H4 e4 t4 => ⟨acc, e4 Dl _ (e3 Dl _ p3), by rw [p4.length]; exact sz_lt (by omega), p1, Ex.mut ((p2.trans e3).trans e4) p1, acc ++ [v], upd_same, ?_⟩
    have k : Keep K H4 (upd H4 Dl (.lst (acc ++ [v]))) := Keep.upd (e4 Dl _ (e3 Dl _ p3)) True.intro
    exact ((p4.ex (e3.trans e4)).kp k).snoc (t4.kp k)
  | false =>
    rw [if_neg Bool.false_ne_true]
    exact ⟨p1, p2.trans e3, acc, e3 Dl _ p3, p4.ex e3⟩
theorem filt_snoc {α : Type} {xs : List α} {p : α → Bool} {g : α → PyData} {n : Nat} {d : α} (h : xs[n]? = some d) : ((xs.take (n + 1)).filter p).map g = if p d then ((xs.take n).filter p).map g ++ [g d] else ((xs.take n).filter p).map g := by
  rw [List.take_add_one, h]
  simp only [Option.toList_some, List.filter_append, List.map_append, List.filter_cons, List.filter_nil]
  split <;> simp
theorem filt_len {α : Type} {xs : List α} {p : α → Bool} {g : α → PyData} (n : Nat) : (((xs.take n).filter p).map g).length ≤ xs.length := by
  rw [List.length_map]
  refine Nat.le_trans (List.length_filter_le _ _) ?_
  rw [List.length_take]
  omega
/-- [e for x in a tuple if t], the items told as xs.map f -/
theorem edl_lcM {α : Type} {tl : TE} {j : Nat} {vs : List Nat} (xs : List α) (f : α → PyData) (p : α → Bool) (g : α → PyData) (h : EvD K tl σ H (.tuple ds)) (hds : ds = xs.map f) (hz : xs.length ≤ 40000) (hw : ∀ x, wipe ((wipe σ vs).set j (some x)) vs = wipe σ vs)
    (ht : ∀ (x : α) (v : V) H1, Ex H H1 → x ∈ xs → Td K H1 v (f x) → EvTK K t ((wipe σ vs).set j (some v)) H1 (p x))
    (he : ∀ (x : α) (v : V) H1, Ex H H1 → x ∈ xs → p x = true → Td K H1 v (f x) → EvD K te ((wipe σ vs).set j (some v)) H1 (g x)) :
    EvDL K (tLc (iTup K tl) (gName j) t te vs) σ H ((xs.filter p).map g) := fun H0 e Q q => h H0 e _ fun w H1 e1 tw => by
  obtain ⟨a, ys, rfl, hx, hall⟩ := tw.tup_inv
  subst hds
  refine ⟨a, rfl, ⟨ys, hx⟩, fun Dl hD => ?_⟩
  refine lc_tup (xs := ys) (fun i H' => Cd K H1 Dl (((xs.take i).filter p).map g) H') ⟨hD, Ex.new hD, [], upd_same, by simpa using TdAll.nil⟩ (fun i H' _ c => ex_t c.2.1 hx) (fun i x H' hi c => ⟨hw x, ?_⟩) (fun H' c => ?_)
  · obtain ⟨d, hd, td⟩ := hall.getV hi
    rw [List.getElem?_map] at hd
    obtain ⟨z, hz2, rfl⟩ := Option.map_eq_some_iff.mp hd
    have hm : z ∈ xs := List.mem_of_getElem? hz2
    have := cd_step (te := te) (e := g z) c (by have := filt_len (xs := xs) (p := p) (g := g) i; omega) (ht z x H1 (e.trans e1) hm td) (fun hb => he z x H1 (e.trans e1) hm hb td)
    rw [filt_snoc hz2]
    exact this
  · obtain ⟨c1, c2, acc, c3, c4⟩ := c
    rw [hall.length, List.length_map, List.take_length] at c4
    exact q Dl acc H' (fresh_back e1 c1) (e1.trans c2) c3 c4
theorem edl_lcML {α : Type} {tl : TE} {j : Nat} {vs : List Nat} (xs : List α) (f : α → PyData) (p : α → Bool) (g : α → PyData) (h : EvDR K tl σ H ds) (hds : ds = xs.map f) (hz : xs.length ≤ 40000) (hw : ∀ x, wipe ((wipe σ vs).set j (some x)) vs = wipe σ vs)
    (ht : ∀ (x : α) (v : V) H1, Ex H H1 → x ∈ xs → Td K H1 v (f x) → EvTK K t ((wipe σ vs).set j (some v)) H1 (p x))
    (he : ∀ (x : α) (v : V) H1, Ex H H1 → x ∈ xs → p x = true → Td K H1 v (f x) → EvD K te ((wipe σ vs).set j (some v)) H1 (g x)) :
    EvDL K (tLc (iList K tl) (gName j) t te vs) σ H ((xs.filter p).map g) := fun H0 e Q q => h H0 e _ fun a ys H1 e1 hx hall => by
  subst hds
  refine ⟨a, rfl, ⟨ys, hx⟩, fun Dl hD => ?_⟩
  refine lc_list (xs := ys) (fun i H' => Cd K H1 Dl (((xs.take i).filter p).map g) H') ⟨hD, Ex.new hD, [], upd_same, by simpa using TdAll.nil⟩ (fun i H' _ c => ex_l c.2.1 hx) (fun i x H' hi c => ⟨hw x, ?_⟩) (fun H' c => ?_)
  · obtain ⟨d, hd, td⟩ := hall.getV hi
    rw [List.getElem?_map] at hd
    obtain ⟨z, hz2, rfl⟩ := Option.map_eq_some_iff.mp hd
    have hm : z ∈ xs := List.mem_of_getElem? hz2
    have := cd_step (te := te) (e := g z) c (by have := filt_len (xs := xs) (p := p) (g := g) i; omega) (ht z x H1 (e.trans e1) hm td) (fun hb => he z x H1 (e.trans e1) hm hb td)
    rw [filt_snoc hz2]
    exact this
  · obtain ⟨c1, c2, acc, c3, c4⟩ := c
    rw [hall.length, List.length_map, List.take_length] at c4
    exact q Dl acc H' (fresh_back e1 c1) (e1.trans c2) c3 c4
def rngD (n : Nat) : List PyData := (List.range n).map fun i => PyData.int ((i : Nat) : Int)
theorem rngD_length (n : Nat) : (rngD n).length = n := by simp [rngD]
theorem rngD_get {n i : Nat} (h : i < n) : (rngD n)[i]? = some (.int (i : Int)) := by
  unfold rngD
  rw [List.getElem?_map, List.getElem?_range h]
  rfl
theorem edl_lcR {ta : TA} {j : Nat} {vs : List Nat} {n : Nat} (p : Nat → Bool) (g : Nat → PyData) (h : EvDA K ta σ H [.int (n : Int)]) (hz : n ≤ 40000) (hw : ∀ x, wipe ((wipe σ vs).set j (some x)) vs = wipe σ vs)
    (ht : ∀ (i : Nat) H1, Ex H H1 → i < n → EvTK K t ((wipe σ vs).set j (some (.int (i : Int)))) H1 (p i))
    (he : ∀ (i : Nat) H1, Ex H H1 → i < n → p i = true → EvD K te ((wipe σ vs).set j (some (.int (i : Int)))) H1 (g i)) :
    EvDL K (tLc (iRng1 ta) (gName j) t te vs) σ H (((List.range n).filter p).map g) := fun H0 e Q q => h H0 e _ fun ws H1 e1 tw => by
  cases tw with
  | cons tw1 tw2 =>
    cases tw1
    cases tw2
    refine ⟨(n : Int), rfl, by omega, by omega, fun Dl hD => ?_⟩
    have en : ((n : Int)).toNat = n := by simp
    rw [en]
    refine lc_range (lo := 0) (n := n) (fun i H' => Cd K H1 Dl (((List.range i).filter p).map g) H') ⟨hD, Ex.new hD, [], upd_same, by simpa using TdAll.nil⟩ (fun i H' hi c => ?_) (fun H' c => ?_)
    · have e0 : (0 : Int) + (i : Int) = (i : Int) := Int.zero_add _
      show wipe ((wipe σ vs).set j (some (.int ((0 : Int) + (i : Int))))) vs = wipe σ vs ∧ _
      rw [e0]
      refine ⟨hw _, ?_⟩
      have hlen : (((List.range i).filter p).map g).length < 50000 := by
        rw [List.length_map]
        have := List.length_filter_le p (List.range i)
        rw [List.length_range] at this
        omega
      have := cd_step (te := te) (e := g i) c hlen (ht i H1 (e.trans e1) hi) (fun hb => he i H1 (e.trans e1) hi hb)
      have es : ((List.range (i + 1)).filter p).map g = if p i then ((List.range i).filter p).map g ++ [g i] else ((List.range i).filter p).map g := by
        rw [List.range_succ, List.filter_append, List.map_append, List.filter_cons]
        split <;> simp
      rw [es]
      exact this
    · obtain ⟨c1, c2, acc, c3, c4⟩ := c
      exact q Dl acc H' (fresh_back e1 c1) (e1.trans c2) c3 c4

/-! ### statements -/
variable {D : Ends} {tu tw tz : TS} {g : TG}
theorem sd_asg {i : Nat} (h : EvD K te σ H d) (k : ∀ v H1, Ex H H1 → Td K H1 v d → D.nx (σ.set i (some v)) H1) : tAsg te (gName i) D σ H := h H (Ex.refl H) _ fun v H1 e t => k v H1 e t
theorem qd_asg {i : Nat} (h : EvD K te σ H d) (k : ∀ v H1, Ex H H1 → Td K H1 v d → tz D (σ.set i (some v)) H1) : tSeq (tAsg te (gName i)) tz D σ H := sd_asg (D := { D with nx := tz D }) h k
theorem sd_asgL {i : Nat} (h : EvDL K te σ H ds) (k : ∀ p xs H1, H p = none → Ex H H1 → H1 p = some (.lst xs) → TdAll K H1 xs ds → D.nx (σ.set i (some (.ref p))) H1) : tAsg te (gName i) D σ H := h H (Ex.refl H) _ fun p xs H1 hp e h1 t => k p xs H1 hp e h1 t
theorem qd_asgL {i : Nat} (h : EvDL K te σ H ds) (k : ∀ p xs H1, H p = none → Ex H H1 → H1 p = some (.lst xs) → TdAll K H1 xs ds → tz D (σ.set i (some (.ref p))) H1) : tSeq (tAsg te (gName i)) tz D σ H := sd_asgL (D := { D with nx := tz D }) h k
theorem sd_ret (h : EvD K te σ H d) (k : ∀ v H1, Ex H H1 → Td K H1 v d → D.rt v H1) : tRet te D σ H := h H (Ex.refl H) _ k
theorem sd_retL (h : EvDL K te σ H ds) (k : ∀ p xs H1, H p = none → Ex H H1 → H1 p = some (.lst xs) → TdAll K H1 xs ds → D.rt (.ref p) H1) : tRet te D σ H := h H (Ex.refl H) _ k
theorem sd_drop (h : EvD K te σ H d) (k : ∀ H1, Ex H H1 → D.nx σ H1) : tDrop te D σ H := h H (Ex.refl H) _ fun _ H1 e _ => k H1 e
/-! from any heap that extends H -/
def Pst (_ : PySem.W.Frag) (t : TS) (D : Ends) (σ : L2.St) (H : Hp) : Prop := ∀ H1, Ex H H1 → t D σ H1
theorem Pst.go {t : TS} (h : Pst K t D σ H) : t D σ H := h H (Ex.refl H)
theorem pst_asg {i : Nat} (h : EvD K te σ H d) (k : ∀ v H1, Ex H H1 → Td K H1 v d → Pst K tz D (σ.set i (some v)) H1) : Pst K (tSeq (tAsg te (gName i)) tz) D σ H := fun H1 a => h H1 a _ fun v H2 e t => k v H2 (a.trans e) t H2 (Ex.refl H2)
theorem pst_asg1 {i : Nat} (h : EvD K te σ H d) (k : ∀ v H1, Ex H H1 → Td K H1 v d → D.nx (σ.set i (some v)) H1) : Pst K (tAsg te (gName i)) D σ H := fun H1 a => h H1 a _ fun v H2 e t => k v H2 (a.trans e) t
theorem pst_asgL {i : Nat} (h : EvDL K te σ H ds) (k : ∀ p xs H1, H p = none → Ex H H1 → H1 p = some (.lst xs) → TdAll K H1 xs ds → Pst K tz D (σ.set i (some (.ref p))) H1) : Pst K (tSeq (tAsg te (gName i)) tz) D σ H :=
  fun H1 a => h H1 a _ fun p xs H2 hp e h2 t => k p xs H2 (fresh_back a hp) (a.trans e) h2 t H2 (Ex.refl H2)
theorem pst_ret (h : EvD K te σ H d) (k : ∀ v H1, Ex H H1 → Td K H1 v d → D.rt v H1) : Pst K (tRet te) D σ H := fun H1 a => h H1 a _ fun v H2 e t => k v H2 (a.trans e) t
theorem pst_retL (h : EvDL K te σ H ds) (k : ∀ p xs H1, H p = none → Ex H H1 → H1 p = some (.lst xs) → TdAll K H1 xs ds → D.rt (.ref p) H1) : Pst K (tRet te) D σ H := fun H1 a => h H1 a _ fun p xs H2 hp e h2 t => k p xs H2 (fresh_back a hp) (a.trans e) h2 t
theorem pst_if {b : Bool} (h : EvTK K t σ H b) (h1 : b = true → Pst K tu D σ H) (h2 : b = false → Pst K tw D σ H) : Pst K (tIfS t tu tw) D σ H := fun H1 a => h H1 a _ fun H2 e => by
  cases b with
  | true => exact h1 rfl H2 (a.trans e)
  | false => exact h2 rfl H2 (a.trans e)
theorem pst_when {b : Bool} (h : EvTK K t σ H b) (h1 : b = true → Pst K tu { D with nx := tz D } σ H) (h2 : b = false → Pst K tz D σ H) : Pst K (tSeq (tIfS t tu tNext) tz) D σ H := fun H1 a => h H1 a _ fun H2 e => by
  cases b with
  | true => exact h1 rfl H2 (a.trans e)
  | false => exact h2 rfl H2 (a.trans e)
theorem pst_whenF {b : Bool} (h : EvTK K t σ H b) (hb : b = false) (h2 : Pst K tz D σ H) : Pst K (tSeq (tIfS t tu tNext) tz) D σ H := pst_when h (fun q => by rw [hb] at q; cases q) fun _ => h2
theorem pst_whenT {b : Bool} (h : EvTK K t σ H b) (hb : b = true) (h1 : Pst K tu { D with nx := tz D } σ H) : Pst K (tSeq (tIfS t tu tNext) tz) D σ H := pst_when h (fun _ => h1) fun q => by rw [hb] at q; cases q
theorem pst_drop (h : EvD K te σ H d) (k : Pst K tz D σ H) : Pst K (tSeq (tDrop te) tz) D σ H := fun H1 a => h H1 a _ fun v H2 e _ => k H2 (a.trans e)
/-- a, b, c = e -/
theorem pst_unp3 {i j l : Nat} {d1 d2 d3 : PyData} (h : EvD K te σ H (.tuple [d1, d2, d3]))
    (k : ∀ v1 v2 v3 H1, Ex H H1 → Td K H1 v1 d1 → Td K H1 v2 d2 → Td K H1 v3 d3 → Pst K tz D (((σ.set i (some v1)).set j (some v2)).set l (some v3)) H1) :
    Pst K (tSeq (tAsg te (gTup K 3 (gCons (gName i) (gCons (gName j) (gCons (gName l) gNil))))) tz) D σ H := fun H1 a => h H1 a _ fun v H2 e t => by
  obtain ⟨p, xs, rfl, hs, hall⟩ := t.tup_inv
  obtain _ | ⟨u1, _ | ⟨u2, _ | ⟨u3, _ | _⟩⟩⟩ := hall
  exact ⟨p, _, rfl, hs, rfl, _, _, rfl, _, _, rfl, _, _, rfl, rfl, k _ _ _ H2 (a.trans e) u1 u2 u3 H2 (Ex.refl H2)⟩
/-! a written dict with text keys -/
def EvPs (trs : List (TE × TE)) (σ : L2.St) (H : Hp) (ps : List (V × V)) : Prop := ∀ H1, Ex H H1 → ∀ Q : List (V × V) → Hp → Prop, (∀ H2, Ex H1 H2 → Q ps H2) → tPairs trs σ H1 Q
theorem eps_nil : EvPs [] σ H [] := fun H1 _ _ q => q H1 (Ex.refl H1)
theorem eps_cons {tk tv : TE} {r : List (TE × TE)} {ps : List (V × V)} {x y : V} (h1 : Ev tk σ H x) (h2 : Ev tv σ H y) (h3 : EvPs r σ H ps) : EvPs ((tk, tv) :: r) σ H ((x, y) :: ps) := fun H1 a Q q =>
  h1 H1 a _ fun H2 e2 => h2 H2 (a.trans e2) _ fun H3 e3 => h3 H3 ((a.trans e2).trans e3) _ fun H4 e4 => q H4 ((e2.trans e3).trans e4)
theorem pst_disp {i : Nat} {trs : List (TE × TE)} (kvs : List (Key × V)) (h : EvPs trs σ H (kvs.map fun kv => (kV kv.1, kv.2))) (hl : kvs.length ≤ 15)
    (k : ∀ p H1, H p = none → Ex H H1 → H1 p = some (.dK (mergeK [] kvs)) → Pst K tz D (σ.set i (some (.ref p))) H1) : Pst K (tSeq (tAsg (tDisp trs) (gName i)) tz) D σ H := fun H1 a p hp => by
  refine h _ (a.trans (Ex.new hp)) _ fun H2 e2 => ⟨e2 p _ upd_same, kvs, rfl, hl, ?_⟩
  have hp0 := fresh_back a hp
  exact k p _ hp0 (Ex.mut ((a.trans (Ex.new hp)).trans e2) hp0) upd_same _ (Ex.refl _)
theorem ev_dget {n : Nat} {p : Addr} {kvs : List (Key × V)} {s : Str} {v : V} (hs : σ[n]? = some (some (.ref p))) (hp : H p = some (.dK kvs)) (hk : Ev te σ H (.str s)) (hv : valV kvs (Sum.inr s) = some v) : Ev (tDGet (tVar n) te) σ H v := fun H1 a Q q =>
  ⟨.ref p, hs, hk H1 a _ fun H2 e2 => ⟨p, v, rfl, by
    have := DGet.k (k := Sum.inr s) ((a.trans e2) p _ hp)
    rw [hv] at this
    exact this, q H2 e2⟩⟩
/-- for x in a tuple -/
theorem sd_forT {tl : TE} {j : Nat} (h : EvD K tl σ H (.tuple ds)) (Pv : Nat → L2.St → Hp → Prop) (h0 : ∀ H1, Ex H H1 → Pv 0 σ H1) (hl : ∀ i σ' H', i ≤ ds.length → Pv i σ' H' → ∀ H1, Ex H H1 → Pv 0 σ H1 → Keep K H1 H')
    (hs : ∀ i d v σ' H', ds[i]? = some d → Td K H' v d → Pv i σ' H' → tu { D with nx := Pv (i + 1), ct := Pv (i + 1), bk := D.nx } (σ'.set j (some v)) H') (hd : ∀ σ' H', Pv ds.length σ' H' → D.nx σ' H') : tFor (iTup K tl) (gName j) tu D σ H :=
  h H (Ex.refl H) _ fun v H1 e tv => by
    obtain ⟨a, xs, rfl, hx, hall⟩ := tv.tup_inv
    have hlen := hall.length
    refine ⟨a, rfl, ⟨xs, hx⟩, for_tup Pv (h0 H1 e) (fun i σ' H' hi p => hl i σ' H' (by omega) p H1 e (h0 H1 e) a xs hx) (fun i x σ' H' hi p => ?_) (fun σ' H' p => hd σ' H' (by rw [← hlen]; exact p))⟩
    obtain ⟨d, hdd, td⟩ := hall.getV hi
    have hi' : i < xs.length := (List.getElem?_eq_some_iff.mp hi).1
    exact hs i d x σ' H' hdd (td.kp (hl i σ' H' (by omega) p H1 e (h0 H1 e))) p
end
end Hw

set_option maxRecDepth 100000
set_option maxHeartbeats 4000000
/-! W3: the rules with the written part told (within a comprehension's block it is the same) -/
namespace Hw
open PySem PySem.Spec PyProof.Rows L2 Evl
def rInt1 : List V → Hp → VK → Prop := fun xs H Q => (∃ i, xs = [.int i] ∧ Q (.int i) H) ∨ ∃ k, xs = [.bl k] ∧ Q (.int (if k then 1 else 0)) H
theorem kc_int {X : Cx} : CallR X (.type "int") rInt1 := call_int1
theorem units65 {k : Nat} {A : Around} (r : Room k A) : A.units + 65 < cLine := by have := r.un; omega
section
variable {X : Cx} (K : PySem.W.Frag)
theorem kix_list (h : X.K = K := by rfl) : IxR X (rIxL K) := by subst h; exact ix_list
theorem kix_tup (h : X.K = K := by rfl) : IxR X (rIxT K) := by subst h; exact ix_tup
theorem ksl_list (h : X.K = K := by rfl) : SlR X (rSlL K) := by subst h; exact sl_list
theorem ksl_tup (h : X.K = K := by rfl) : SlR X (rSlA K) := by subst h; exact sl_tupA
theorem kop_cat (h : X.K = K := by rfl) : OpR X (binaryOp .Add) (rCatA K) := by subst h; exact op_catA
theorem kop_in (h : X.K = K := by rfl) : OpR X (compareOp .In) (rIn K false) := by subst h; exact op_in_seq
theorem kop_ni (h : X.K = K := by rfl) : OpR X (compareOp .NotIn) (rIn K true) := by subst h; exact op_notIn_seq
theorem kop_inD (hu : X.A.units + 65 < cLine) (h : X.K = K := by rfl) : OpR X (compareOp .In) (rInD K) := by subst h; exact op_inD hu
theorem kop_niD (hu : X.A.units + 65 < cLine) (h : X.K = K := by rfl) : OpR X (compareOp .NotIn) (rNotInD K) := by subst h; exact op_notInD hu
theorem kop_eq (hu : X.A.units + 64 < cLine) (h : X.K = K := by rfl) : OpR X (compareOp .Eq) (rEqM K) := by subst h; exact op_eqM hu
theorem kop_ne (hu : X.A.units + 64 < cLine) (h : X.K = K := by rfl) : OpR X (compareOp .NotEq) (rNeM K) := by subst h; exact op_neM hu
theorem kc_isi (h : X.K = K := by rfl) : CallR X (.builtin "isinstance") (rIsi K) := by subst h; exact call_isi
theorem kc_isiT (h : X.K = K := by rfl) : CallR X (.builtin "isinstance") (rIsiT K) := by subst h; exact call_isiT
theorem kc_len (h : X.K = K := by rfl) : CallR X (.builtin "len") (rLenS K) := by subst h; exact call_len_seq
theorem kc_list (h : X.K = K := by rfl) : CallR X (.type "list") (rListS K) := by subst h; exact call_list_of
theorem kc_tuple (h : X.K = K := by rfl) : CallR X (.type "tuple") (rTupS K) := by subst h; exact call_tuple_of
theorem kc_sum (h : X.K = K := by rfl) (hc : X.calm = true := by rfl) : CallR X (.builtin "sum") (rSum K) := by subst h; exact cr_sum hc
theorem kpi_list {l tg : Expr} {tl : TE} (hl : PE X l tl) (h : X.K = K := by rfl) : PI X tg l (iList K tl) := by subst h; exact pi_list hl
theorem kpi_tup {l tg : Expr} {tl : TE} (hl : PE X l tl) (h : X.K = K := by rfl) : PI X tg l (iTup K tl) := by subst h; exact pi_tup hl
theorem kpe_fld {e : Expr} {f : Str} {pos : Pos} {ta : TE} (he : PE X e ta) (hb : attributeBase e f X.env (eval e X.env) = eval e X.env := by rfl) (h : X.K = K := by rfl) : PE X (.Attribute e f pos) (tFld K ta f) := by subst h; exact pe_fld he hb
theorem kpg_tup {es : List Expr} {k : Nat} {t : TGs} {n : Nat} {pos : Pos} (hc : X.calm = true) (ht : PGs X es t) (hn : (assignEach es X.env).length = n := by rfl) (hst : (assignEach es X.env).findIdx? (·.1) = none := by rfl) (h : X.K = K := by rfl) : PG X (.Tuple es k pos) (gTup K n t) := by subst h; exact pg_tup hc ht hn hst
theorem kpi_zip {e e2 : Expr} {ta : TA} {p pos tpos : Pos} {elts : List Expr} {kk : Nat} (hg : Gl X "zip") (hm : X.mg "zip" = none) (ha : PA X [e, e2] ta)
    (hs : starEach [e, e2] X.env = (false, eval e X.env) :: starEach [e2] X.env := by rfl) (hpl : (backTo pos (starEach [e2] X.env)).any (·.1) = false := by rfl) (h : X.K = K := by rfl) :
    PI X (.Tuple elts kk tpos) (.Call (.Name "zip" p) [e, e2] [] pos) (RZ.iZipA K ta) := by subst h; exact RZ.pi_zipA hg hm ha hs hpl
end
section
variable {K : PySem.W.Frag} {σ : L2.St} {H H' : Hp} {D : Ends} {tu : TS} {ds es : List PyData}
/-- for a, b in zip(t, u), two tuples of one length; the heap is only added to -/
theorem pst_forZ {α β : Type} {ta : TA} {j l : Nat} (xs : List α) (ys : List β) (f : α → PyData) (g : β → PyData) (h : EvDA K ta σ H [.tuple (xs.map f), .tuple (ys.map g)]) (hl : xs.length = ys.length)
    (Pv : Nat → L2.St → Hp → Prop) (hst : ∀ i σ' H1 H2, Ex H1 H2 → Pv i σ' H1 → Pv i σ' H2) (h0 : Pv 0 σ H)
    (hs : ∀ i x y v u σ' H1, xs[i]? = some x → ys[i]? = some y → Ex H H1 → Td K H1 v (f x) → Td K H1 u (g y) → Pv i σ' H1 →
      ∀ N : L2.St → Hp → Prop, (∀ σ2 H2, Pv (i + 1) σ2 H2 → Ex H1 H2 → N σ2 H2) → Pst K tu { D with nx := N, ct := N, bk := D.nx } ((σ'.set j (some v)).set l (some u)) H1)
    (hd : ∀ σ' H1, Ex H H1 → Pv xs.length σ' H1 → D.nx σ' H1) : Pst K (tFor (RZ.iZipA K ta) (gTup K 2 (gCons (gName j) (gCons (gName l) gNil))) tu) D σ H := fun H1 a => h H1 a _ fun ws H2 e tw => by
  obtain _ | ⟨w1, _ | ⟨w2, _ | _⟩⟩ := tw
  obtain ⟨pa, xa, rfl, ha, alla⟩ := w1.tup_inv
  obtain ⟨pb, xb, rfl, hb, allb⟩ := w2.tup_inv
  have la := alla.length
  have lb := allb.length
  rw [List.length_map] at la lb
  have a2 := a.trans e
  refine ⟨pa, pb, xa, xb, rfl, .inr ⟨ha, hb, RZ.for_zipT (xs := xa) (ys := xb) (by omega) (fun i σ' H' => Pv i σ' H' ∧ Ex H H' ∧ Ex H2 H') ⟨hst _ _ _ _ a2 h0, a2, Ex.refl _⟩ (fun i σ' H' p => ⟨ex_t p.2.2 ha, ex_t p.2.2 hb⟩) (fun i x y T σ' H' hx hy p hT => ?_) (fun σ' H' p => hd σ' H' p.2.1 (by rw [← la]; exact p.1))⟩⟩
  obtain ⟨p1, p2, p3⟩ := p
  obtain ⟨d1, hd1, td1⟩ := alla.getV hx
  obtain ⟨d2, hd2, td2⟩ := allb.getV hy
  rw [List.getElem?_map] at hd1 hd2
  obtain ⟨z1, hz1, rfl⟩ := Option.map_eq_some_iff.mp hd1
  obtain ⟨z2, hz2, rfl⟩ := Option.map_eq_some_iff.mp hd2
  have e4 : Ex H' (upd H' T (.tup [x, y])) := Ex.new hT
  refine ⟨T, [x, y], rfl, SqT.of upd_same, rfl, x, [y], rfl, y, [], rfl, rfl, ?_⟩
  exact (hs i z1 z2 x y σ' (upd H' T (.tup [x, y])) hz1 hz2 (p2.trans e4) (td1.ex (p3.trans e4)) (td2.ex (p3.trans e4)) (hst _ _ _ _ e4 p1) _ fun σ2 H3 q1 q2 => ⟨q1, (p2.trans e4).trans q2, (p3.trans e4).trans q2⟩).go
variable {ta tb te tx : TE} {tz tw : TS} {r s : Addr} {xs : List V} {i j c : Int} {d : PyData} {n : Nat} {v : V}
/-- an int of a list that is known by its values -/
theorem ed_rowI (hs : σ[n]? = some (some (.ref r))) (hr : SqL K H r xs) (hb : EvD K tb σ H (.int i)) (ha : atI xs i = some (.int c)) : EvD K (tOp (rIxL K) (tVar n) tb) σ H (.int c) := ed_i (ev_op (ev_var hs) hb.iv (rv_ixL hr ha))
theorem ev_rowR (hs : σ[n]? = some (some (.ref r))) (hr : SqL K H r xs) (hb : EvD K tb σ H (.int i)) (ha : atI xs i = some v) : Ev (tOp (rIxL K) (tVar n) tb) σ H v := ev_op (ev_var hs) hb.iv (rv_ixL hr ha)
theorem ed_lenV (ha : Ev ta σ H (.ref r)) (hr : SqL K H r xs) : EvD K (tCB (rLenS K) (tCons ta tNil)) σ H (.int (xs.length : Int)) := ed_i (ev_len ha hr)
/-- l[i] = e, e an int -/
theorem pst_setI {l : Addr} {k : Nat} (hs : σ[n]? = some (some (.ref l))) (hl : H l = some (.lst xs)) (h : EvD K te σ H (.int c)) (hi : EvD K tb σ H (.int i)) (hk : ixN xs.length i = some k)
    (kk : ∀ H1, Ex H H1 → Pst K tz D σ (upd H1 l (.lst (xs.set k (.int c))))) : Pst K (tSeq (tAsg te (gSub (tVar n) tb rSetL)) tz) D σ H := fun H1 a =>
  h.iv H1 a _ fun H2 e2 => ⟨.ref l, hs, hi.iv H2 (a.trans e2) _ fun H3 e3 => ⟨l, xs, i, k, rfl, rfl, ((a.trans e2).trans e3) l _ hl, hk, kk H3 ((a.trans e2).trans e3) _ (Ex.refl _)⟩⟩
theorem pst_setI1 {l : Addr} {k : Nat} (hs : σ[n]? = some (some (.ref l))) (hl : H l = some (.lst xs)) (h : EvD K te σ H (.int c)) (hi : EvD K tb σ H (.int i)) (hk : ixN xs.length i = some k)
    (kk : ∀ H1, Ex H H1 → D.nx σ (upd H1 l (.lst (xs.set k (.int c))))) : Pst K (tAsg te (gSub (tVar n) tb rSetL)) D σ H := fun H1 a =>
  h.iv H1 a _ fun H2 e2 => ⟨.ref l, hs, hi.iv H2 (a.trans e2) _ fun H3 e3 => ⟨l, xs, i, k, rfl, rfl, ((a.trans e2).trans e3) l _ hl, hk, kk H3 ((a.trans e2).trans e3)⟩⟩
theorem ed_intb {b : Bool} (h : EvD K te σ H (.bool b)) : EvD K (tCB rInt1 (tCons te tNil)) σ H (.int (if b then 1 else 0)) := fun H1 a Q q => h.bv H1 a _ fun H2 e2 => .inr ⟨b, rfl, q _ H2 e2 (.int _)⟩
/-! what stands beside some addresses is kept -/
def Fr (S : List Addr) (H H' : Hp) : Prop := ∀ p o, p ∉ S → H p = some o → H' p = some o
theorem Fr.refl {S : List Addr} : Fr S H H := fun _ _ _ h => h
theorem Fr.trans {S : List Addr} {H1 H2 : Hp} (a : Fr S H H1) (b : Fr S H1 H2) : Fr S H H2 := fun p o h e => b p o h (a p o h e)
theorem Fr.of {S : List Addr} (e : Ex H H') : Fr S H H' := fun p o _ h => e p o h
theorem Fr.sub {S S' : List Addr} (f : Fr S H H') (h : ∀ a ∈ S, a ∈ S') : Fr S' H H' := fun p o hp e => f p o (fun q => hp (h p q)) e
theorem Fr.upd {S : List Addr} {a : Addr} {o : HO} (h : a ∈ S) : Fr S H (upd H a o) := fun p u hp e => by rw [upd_ne (fun q => hp (by rw [q]; exact h))]; exact e
theorem Fr.keep {S : List Addr} (f : Fr S H H') (m : ∀ a ∈ S, ∃ u, H a = some u ∧ Mut (some u)) : Keep K H H' := fun b xs q => by
  have ne : ∀ u, H b = some u → ¬ Mut (some u) → b ∉ S := fun u hu nm hb => by
    obtain ⟨u2, h2, m2⟩ := m b hb
    rw [hu] at h2
    cases h2
    exact nm m2
  rcases q with (q | ⟨oo, q⟩) | q
  · exact .inl (.inl (f b _ (ne _ q fun z => z) q))
  · exact .inl (.inr ⟨oo, f b _ (ne _ q fun z => z) q⟩)
  · exact .inr q
end
end Hw

set_option maxRecDepth 100000
set_option maxHeartbeats 4000000
/-! S1: programs as Lean data, how they stand as values, which of them are let by -/
namespace Hw
open PySem PySem.Spec PyProof.Rows L2 Evl

inductive Th where
  | num (n : Nat) | sum (a b : Th) | cell (t : Th) | own (k : Nat) | par (k : Nat)
  deriving DecidableEq
inductive Stm where
  | set (p t : Th) | say (t : Th) | ite (t : Th) (a b : List Stm) | call (w : Nat) (ts : List Th)
structure Wk where
  params : Nat
  owns : Nat
  body : List Stm
def encT : Th → PyData
  | .num n => .tuple [.str "num", .int (n : Int)]
  | .sum a b => .tuple [.str "sum", encT a, encT b]
  | .cell t => .tuple [.str "cell", encT t]
  | .own k => .tuple [.str "own", .int (k : Int)]
  | .par k => .tuple [.str "par", .int (k : Int)]
mutual
def encS : Stm → PyData
  | .set p t => .tuple [.str "set", encT p, encT t]
  | .say t => .tuple [.str "say", encT t]
  | .ite t a b => .tuple [.str "if", encT t, .tuple (encB a), .tuple (encB b)]
  | .call w ts => .tuple [.str "call", .int (w : Int), .tuple (ts.map encT)]
def encB : List Stm → List PyData
  | [] => []
  | s :: r => encS s :: encB r
end
def encW (w : Wk) : PyData := .tuple [.int (w.params : Int), .int (w.owns : Int), .tuple (encB w.body)]
def encP (p : List Wk) : PyData := .tuple (p.map encW)
theorem encB_map : ∀ b : List Stm, encB b = b.map encS
  | [] => by simp [encB]
  | s :: r => by simp [encB, encB_map r]
theorem encB_length (b : List Stm) : (encB b).length = b.length := by rw [encB_map, List.length_map]
/-! ### words -/
@[simp] theorem eqv_str_self (x : Str) : PyData.eqv (.str x) (.str x) = true := by simp [PyData.eqv]
@[simp] theorem w_back_copy : PyData.eqv (.str "back") (.str "copy") = false := by decide +kernel
@[simp] theorem w_back_place : PyData.eqv (.str "back") (.str "place") = false := by decide +kernel
@[simp] theorem w_back_want : PyData.eqv (.str "back") (.str "want") = false := by decide +kernel
@[simp] theorem w_call_cell : PyData.eqv (.str "call") (.str "cell") = false := by decide +kernel
@[simp] theorem w_call_if : PyData.eqv (.str "call") (.str "if") = false := by decide +kernel
@[simp] theorem w_call_num : PyData.eqv (.str "call") (.str "num") = false := by decide +kernel
@[simp] theorem w_call_own : PyData.eqv (.str "call") (.str "own") = false := by decide +kernel
@[simp] theorem w_call_par : PyData.eqv (.str "call") (.str "par") = false := by decide +kernel
@[simp] theorem w_call_say : PyData.eqv (.str "call") (.str "say") = false := by decide +kernel
@[simp] theorem w_call_set : PyData.eqv (.str "call") (.str "set") = false := by decide +kernel
@[simp] theorem w_call_sum : PyData.eqv (.str "call") (.str "sum") = false := by decide +kernel
@[simp] theorem w_cell_call : PyData.eqv (.str "cell") (.str "call") = false := by decide +kernel
@[simp] theorem w_cell_if : PyData.eqv (.str "cell") (.str "if") = false := by decide +kernel
@[simp] theorem w_cell_num : PyData.eqv (.str "cell") (.str "num") = false := by decide +kernel
@[simp] theorem w_cell_own : PyData.eqv (.str "cell") (.str "own") = false := by decide +kernel
@[simp] theorem w_cell_par : PyData.eqv (.str "cell") (.str "par") = false := by decide +kernel
@[simp] theorem w_cell_say : PyData.eqv (.str "cell") (.str "say") = false := by decide +kernel
@[simp] theorem w_cell_set : PyData.eqv (.str "cell") (.str "set") = false := by decide +kernel
@[simp] theorem w_cell_sum : PyData.eqv (.str "cell") (.str "sum") = false := by decide +kernel
@[simp] theorem w_copy_back : PyData.eqv (.str "copy") (.str "back") = false := by decide +kernel
@[simp] theorem w_copy_place : PyData.eqv (.str "copy") (.str "place") = false := by decide +kernel
@[simp] theorem w_copy_want : PyData.eqv (.str "copy") (.str "want") = false := by decide +kernel
@[simp] theorem w_if_call : PyData.eqv (.str "if") (.str "call") = false := by decide +kernel
@[simp] theorem w_if_cell : PyData.eqv (.str "if") (.str "cell") = false := by decide +kernel
@[simp] theorem w_if_num : PyData.eqv (.str "if") (.str "num") = false := by decide +kernel
@[simp] theorem w_if_own : PyData.eqv (.str "if") (.str "own") = false := by decide +kernel
@[simp] theorem w_if_par : PyData.eqv (.str "if") (.str "par") = false := by decide +kernel
@[simp] theorem w_if_say : PyData.eqv (.str "if") (.str "say") = false := by decide +kernel
@[simp] theorem w_if_set : PyData.eqv (.str "if") (.str "set") = false := by decide +kernel
@[simp] theorem w_if_sum : PyData.eqv (.str "if") (.str "sum") = false := by decide +kernel
@[simp] theorem w_num_call : PyData.eqv (.str "num") (.str "call") = false := by decide +kernel
@[simp] theorem w_num_cell : PyData.eqv (.str "num") (.str "cell") = false := by decide +kernel
@[simp] theorem w_num_if : PyData.eqv (.str "num") (.str "if") = false := by decide +kernel
@[simp] theorem w_num_own : PyData.eqv (.str "num") (.str "own") = false := by decide +kernel
@[simp] theorem w_num_par : PyData.eqv (.str "num") (.str "par") = false := by decide +kernel
@[simp] theorem w_num_say : PyData.eqv (.str "num") (.str "say") = false := by decide +kernel
@[simp] theorem w_num_set : PyData.eqv (.str "num") (.str "set") = false := by decide +kernel
@[simp] theorem w_num_sum : PyData.eqv (.str "num") (.str "sum") = false := by decide +kernel
@[simp] theorem w_own_call : PyData.eqv (.str "own") (.str "call") = false := by decide +kernel
@[simp] theorem w_own_cell : PyData.eqv (.str "own") (.str "cell") = false := by decide +kernel
@[simp] theorem w_own_if : PyData.eqv (.str "own") (.str "if") = false := by decide +kernel
@[simp] theorem w_own_num : PyData.eqv (.str "own") (.str "num") = false := by decide +kernel
@[simp] theorem w_own_par : PyData.eqv (.str "own") (.str "par") = false := by decide +kernel
@[simp] theorem w_own_say : PyData.eqv (.str "own") (.str "say") = false := by decide +kernel
@[simp] theorem w_own_set : PyData.eqv (.str "own") (.str "set") = false := by decide +kernel
@[simp] theorem w_own_sum : PyData.eqv (.str "own") (.str "sum") = false := by decide +kernel
@[simp] theorem w_par_call : PyData.eqv (.str "par") (.str "call") = false := by decide +kernel
@[simp] theorem w_par_cell : PyData.eqv (.str "par") (.str "cell") = false := by decide +kernel
@[simp] theorem w_par_if : PyData.eqv (.str "par") (.str "if") = false := by decide +kernel
@[simp] theorem w_par_num : PyData.eqv (.str "par") (.str "num") = false := by decide +kernel
@[simp] theorem w_par_own : PyData.eqv (.str "par") (.str "own") = false := by decide +kernel
@[simp] theorem w_par_say : PyData.eqv (.str "par") (.str "say") = false := by decide +kernel
@[simp] theorem w_par_set : PyData.eqv (.str "par") (.str "set") = false := by decide +kernel
@[simp] theorem w_par_sum : PyData.eqv (.str "par") (.str "sum") = false := by decide +kernel
@[simp] theorem w_place_back : PyData.eqv (.str "place") (.str "back") = false := by decide +kernel
@[simp] theorem w_place_copy : PyData.eqv (.str "place") (.str "copy") = false := by decide +kernel
@[simp] theorem w_place_want : PyData.eqv (.str "place") (.str "want") = false := by decide +kernel
@[simp] theorem w_say_call : PyData.eqv (.str "say") (.str "call") = false := by decide +kernel
@[simp] theorem w_say_cell : PyData.eqv (.str "say") (.str "cell") = false := by decide +kernel
@[simp] theorem w_say_if : PyData.eqv (.str "say") (.str "if") = false := by decide +kernel
@[simp] theorem w_say_num : PyData.eqv (.str "say") (.str "num") = false := by decide +kernel
@[simp] theorem w_say_own : PyData.eqv (.str "say") (.str "own") = false := by decide +kernel
@[simp] theorem w_say_par : PyData.eqv (.str "say") (.str "par") = false := by decide +kernel
@[simp] theorem w_say_set : PyData.eqv (.str "say") (.str "set") = false := by decide +kernel
@[simp] theorem w_say_sum : PyData.eqv (.str "say") (.str "sum") = false := by decide +kernel
@[simp] theorem w_set_call : PyData.eqv (.str "set") (.str "call") = false := by decide +kernel
@[simp] theorem w_set_cell : PyData.eqv (.str "set") (.str "cell") = false := by decide +kernel
@[simp] theorem w_set_if : PyData.eqv (.str "set") (.str "if") = false := by decide +kernel
@[simp] theorem w_set_num : PyData.eqv (.str "set") (.str "num") = false := by decide +kernel
@[simp] theorem w_set_own : PyData.eqv (.str "set") (.str "own") = false := by decide +kernel
@[simp] theorem w_set_par : PyData.eqv (.str "set") (.str "par") = false := by decide +kernel
@[simp] theorem w_set_say : PyData.eqv (.str "set") (.str "say") = false := by decide +kernel
@[simp] theorem w_set_sum : PyData.eqv (.str "set") (.str "sum") = false := by decide +kernel
@[simp] theorem w_sum_call : PyData.eqv (.str "sum") (.str "call") = false := by decide +kernel
@[simp] theorem w_sum_cell : PyData.eqv (.str "sum") (.str "cell") = false := by decide +kernel
@[simp] theorem w_sum_if : PyData.eqv (.str "sum") (.str "if") = false := by decide +kernel
@[simp] theorem w_sum_num : PyData.eqv (.str "sum") (.str "num") = false := by decide +kernel
@[simp] theorem w_sum_own : PyData.eqv (.str "sum") (.str "own") = false := by decide +kernel
@[simp] theorem w_sum_par : PyData.eqv (.str "sum") (.str "par") = false := by decide +kernel
@[simp] theorem w_sum_say : PyData.eqv (.str "sum") (.str "say") = false := by decide +kernel
@[simp] theorem w_sum_set : PyData.eqv (.str "sum") (.str "set") = false := by decide +kernel
@[simp] theorem w_want_back : PyData.eqv (.str "want") (.str "back") = false := by decide +kernel
@[simp] theorem w_want_copy : PyData.eqv (.str "want") (.str "copy") = false := by decide +kernel
@[simp] theorem w_want_place : PyData.eqv (.str "want") (.str "place") = false := by decide +kernel
@[simp] theorem lay_num : (PyData.str "num").canLay0 = true := by decide +kernel
@[simp] theorem lay_sum : (PyData.str "sum").canLay0 = true := by decide +kernel
@[simp] theorem lay_cell : (PyData.str "cell").canLay0 = true := by decide +kernel
@[simp] theorem lay_own : (PyData.str "own").canLay0 = true := by decide +kernel
@[simp] theorem lay_par : (PyData.str "par").canLay0 = true := by decide +kernel
@[simp] theorem lay_set : (PyData.str "set").canLay0 = true := by decide +kernel
@[simp] theorem lay_say : (PyData.str "say").canLay0 = true := by decide +kernel
@[simp] theorem lay_if : (PyData.str "if").canLay0 = true := by decide +kernel
@[simp] theorem lay_call : (PyData.str "call").canLay0 = true := by decide +kernel
@[simp] theorem lay_copy : (PyData.str "copy").canLay0 = true := by decide +kernel
@[simp] theorem lay_place : (PyData.str "place").canLay0 = true := by decide +kernel
@[simp] theorem lay_back : (PyData.str "back").canLay0 = true := by decide +kernel
@[simp] theorem lay_want : (PyData.str "want").canLay0 = true := by decide +kernel
/-! ### which things and steps can be -/
def okT (ps os : Nat) : Th → Nat → Bool
  | .num n, w => decide (w ≤ 4) && decide (n < 3)
  | .own k, w => decide (w ≤ 4) && decide (k < os)
  | .par k, w => decide (w ≤ 4) && decide (k < ps)
  | .cell t, w => decide (w ≤ 4) && okT ps os t (w + 1)
  | .sum a b, w => decide (w ≤ 4) && (okT ps os a (w + 1) && okT ps os b (w + 1))
def isPlace : Th → Bool
  | .cell _ | .own _ | .par _ => true
  | _ => false
/-- sh: params and own cells of all works -/
def shP (sh : List (Nat × Nat)) (i : Nat) : Nat := (sh.getD i (0, 0)).1
def shO (sh : List (Nat × Nat)) (i : Nat) : Nat := (sh.getD i (0, 0)).2
mutual
def okS (sh : List (Nat × Nat)) (at_ : Nat) : Stm → Nat → Bool
  | .set p t, w => decide (w ≤ 4) && (okT (shP sh at_) (shO sh at_) p 0 && (isPlace p && okT (shP sh at_) (shO sh at_) t 0))
  | .say t, w => decide (w ≤ 4) && okT (shP sh at_) (shO sh at_) t 0
  | .ite t a b, w => decide (w ≤ 4) && (okT (shP sh at_) (shO sh at_) t 0 && (okB sh at_ a (w + 1) && okB sh at_ b (w + 1)))
  | .call c ts, w => decide (w ≤ 4) && (decide (c < sh.length) && (decide (at_ < c) && (decide (ts.length = shP sh c) && ts.all fun t => okT (shP sh at_) (shO sh at_) t 0)))
def okB (sh : List (Nat × Nat)) (at_ : Nat) : List Stm → Nat → Bool
  | [], _ => true
  | s :: r, w => okS sh at_ s w && okB sh at_ r w
end
mutual
def cntS : Stm → Nat
  | .ite _ a b => 1 + (cntB a + cntB b)
  | _ => 1
def cntB : List Stm → Nat
  | [] => 0
  | s :: r => cntS s + cntB r
end
/-! bodies and calls are no longer than that -/
mutual
def smS : Stm → Bool
  | .call _ ts => decide (ts.length ≤ 20000)
  | .ite _ a b => (decide (a.length ≤ 20000) && decide (b.length ≤ 20000)) && (smB a && smB b)
  | _ => true
def smB : List Stm → Bool
  | [] => true
  | s :: r => smS s && smB r
end
theorem smB_mem : ∀ {b : List Stm} {s : Stm}, smB b = true → s ∈ b → smS s = true
  | x :: r, s, h, hm => by
    simp only [smB, Bool.and_eq_true] at h
    rcases List.mem_cons.mp hm with e | hm
    · rw [e]; exact h.1
    · exact smB_mem h.2 hm
/-! how deep bodies lie within others -/
mutual
def dpS : Stm → Nat
  | .ite _ a b => 1 + max (dpB a) (dpB b)
  | _ => 0
def dpB : List Stm → Nat
  | [] => 0
  | s :: r => max (dpS s) (dpB r)
end
theorem dpB_mem : ∀ {b : List Stm} {s : Stm}, s ∈ b → dpS s ≤ dpB b
  | x :: r, s, hm => by
    simp only [dpB]
    rcases List.mem_cons.mp hm with e | hm
    · rw [e]; exact Nat.le_max_left _ _
    · exact Nat.le_trans (dpB_mem hm) (Nat.le_max_right _ _)
mutual
theorem okS_dp {sh : List (Nat × Nat)} {at_ : Nat} : ∀ (s : Stm) (w : Nat), okS sh at_ s w = true → dpS s + w ≤ 5
  | .set p t, w, h => by simp [okS] at h; simp [dpS]; omega
  | .say t, w, h => by simp [okS] at h; simp [dpS]; omega
  | .call c ts, w, h => by simp [okS] at h; simp [dpS]; omega
  | .ite t a b, w, h => by
    simp [okS] at h
    have h1 := okB_dp a (w + 1) h.2.2.1
    have h2 := okB_dp b (w + 1) h.2.2.2
    simp only [dpS]
    omega
theorem okB_dp {sh : List (Nat × Nat)} {at_ : Nat} : ∀ (b : List Stm) (w : Nat), okB sh at_ b w = true → dpB b = 0 ∨ dpB b + w ≤ 5
  | [], w, _ => .inl (by simp [dpB])
  | s :: r, w, h => by
    simp only [okB, Bool.and_eq_true] at h
    have h1 := okS_dp s w h.1
    have h2 := okB_dp r w h.2
    simp only [dpB]
    omega
end
def bods : Stm → List (List Stm)
  | .ite _ a b => [a, b]
  | _ => []
theorem bods_sm {s : Stm} {b : List Stm} (h : smS s = true) (hb : b ∈ bods s) : b.length ≤ 20000 ∧ smB b = true := by
  cases s with
  | ite t x y =>
    simp only [smS, Bool.and_eq_true, decide_eq_true_eq] at h
    simp only [bods, List.mem_cons, List.not_mem_nil, or_false] at hb
    rcases hb with e | e <;> subst e <;> simp [h]
  | _ => simp [bods] at hb
theorem bods_dp {s : Stm} {b : List Stm} (hb : b ∈ bods s) : dpB b + 1 ≤ dpS s := by
  cases s with
  | ite t x y =>
    simp only [bods, List.mem_cons, List.not_mem_nil, or_false] at hb
    simp only [dpS]
    rcases hb with e | e <;> subst e <;> omega
  | _ => simp [bods] at hb
theorem cntS_bods (s : Stm) : cntS s = 1 + ((bods s).map cntB).sum := by cases s <;> simp [cntS, bods]
theorem cntB_sum : ∀ b : List Stm, cntB b = (b.map cntS).sum
  | [] => by simp [cntB]
  | s :: r => by simp [cntB, cntB_sum r]
theorem okB_all {sh : List (Nat × Nat)} {at_ w : Nat} : ∀ b : List Stm, okB sh at_ b w = b.all fun s => okS sh at_ s w
  | [] => by simp [okB]
  | s :: r => by simp [okB, okB_all r]
def shapes (p : List Wk) : List (Nat × Nat) := p.map fun w => (w.params, w.owns)
def okW (p : List Wk) (at_ : Nat) : Bool := match p[at_]? with
  | some w => decide (w.params ≤ 3) && (decide (w.owns ≤ 99) && ((decide (at_ ≠ 0) || decide (w.params = 0)) && (okB (shapes p) at_ w.body 0 && decide (cntB w.body ≤ 100))))
  | none => false
def okP (p : List Wk) : Bool := decide (1 ≤ p.length) && (decide (p.length ≤ 4) && (List.range p.length).all (okW p))
/-! ### ways -/
def encY (ys : List (List Str)) : PyData := .tuple (ys.map fun y => .tuple (y.map PyData.str))
def isWay (s : Str) : Bool := [("back" : Str), "copy", "place", "want"].any fun z => PyData.eqv (.str z) (.str s)
def okY (p : List Wk) (ys : List (List Str)) : Bool := decide (ys.length = p.length) && (List.range p.length).all fun i => decide ((ys.getD i []).length = shP (shapes p) i) && (ys.getD i []).all isWay
def smY (ys : List (List Str)) : Prop := ys.length ≤ 1000 ∧ ∀ y ∈ ys, y.length ≤ 1000 ∧ ∀ s ∈ y, (PyData.str s).canLay0 = true
/-! ### data that may be laid -/
theorem encT_lay : ∀ t : Th, (encT t).canLay0 = true
  | .num n => by simp [encT, PyData.canLay0, PyData.canLayAll0]; decide +kernel
  | .own n => by simp [encT, PyData.canLay0, PyData.canLayAll0]; decide +kernel
  | .par n => by simp [encT, PyData.canLay0, PyData.canLayAll0]; decide +kernel
  | .cell t => by
    simp only [encT, PyData.canLay0, PyData.canLayAll0, encT_lay t, Bool.and_true]
    decide +kernel
  | .sum a b => by
    simp only [encT, PyData.canLay0, PyData.canLayAll0, encT_lay a, encT_lay b, Bool.and_true]
    decide +kernel
theorem encTs_lay : ∀ ts : List Th, PyData.canLayAll0 (ts.map encT) = true
  | [] => by simp [PyData.canLayAll0]
  | t :: r => by simp [PyData.canLayAll0, encT_lay t, encTs_lay r]
mutual
theorem encS_lay : ∀ s : Stm, (encS s).canLay0 = true
  | .set p t => by
    simp only [encS, PyData.canLay0, PyData.canLayAll0, encT_lay, Bool.and_true]
    decide +kernel
  | .say t => by
    simp only [encS, PyData.canLay0, PyData.canLayAll0, encT_lay, Bool.and_true]
    decide +kernel
  | .ite t a b => by
    simp only [encS, PyData.canLay0, PyData.canLayAll0, encT_lay, encB_lay a, encB_lay b, Bool.and_true]
    decide +kernel
  | .call w ts => by
    simp only [encS, PyData.canLay0, PyData.canLayAll0, encTs_lay, Bool.and_true]
    decide +kernel
theorem encB_lay : ∀ b : List Stm, PyData.canLayAll0 (encB b) = true
  | [] => by simp [encB, PyData.canLayAll0]
  | s :: r => by simp [encB, PyData.canLayAll0, encS_lay s, encB_lay r]
end
theorem encW_lay (w : Wk) : (encW w).canLay0 = true := by simp [encW, PyData.canLay0, PyData.canLayAll0, encB_lay]
theorem encP_lay (p : List Wk) : (encP p).canLay0 = true := by
  have h : ∀ p : List Wk, PyData.canLayAll0 (p.map encW) = true := by
    intro p
    induction p with
    | nil => simp [PyData.canLayAll0]
    | cons w r ih => simp [PyData.canLayAll0, encW_lay w, ih]
  simpa [encP, PyData.canLay0] using h p
theorem layAll_filter {p : PyData → Bool} : ∀ {ds : List PyData}, PyData.canLayAll0 ds = true → PyData.canLayAll0 (ds.filter p) = true
  | [], _ => by simp [PyData.canLayAll0]
  | d :: ds, h => by
    simp only [PyData.canLayAll0, Bool.and_eq_true] at h
    rw [List.filter_cons]
    split
    · simp [PyData.canLayAll0, h.1, layAll_filter h.2]
    · exact layAll_filter h.2
end Hw

set_option maxRecDepth 100000
set_option maxHeartbeats 4000000
namespace Hw
open PySem PySem.Spec PyProof.Rows L2
def top (i : Nat) : Stmt := PySem.Challenge.pw_handways_k01_programs_and_ways_refused.main.body.getD i (.Pass ⟨0, 0, 0, 0⟩)
abbrev s_BadText___init__ : Stmt := inClass (top 5) 0
abbrev s_is_number : Stmt := top 15
abbrev s_is_thing : Stmt := top 16
abbrev s_is_call : Stmt := top 17
abbrev s_is_step : Stmt := top 18
abbrev s_is_body : Stmt := top 19
abbrev s_bodies_of : Stmt := top 20
abbrev s_count : Stmt := top 21
abbrev s_is_work : Stmt := top 22
abbrev s_need_program : Stmt := top 23
abbrev s_need_ways : Stmt := top 24
abbrev s_Frame___init__ : Stmt := inClass (top 27) 0
abbrev s_Lent___init__ : Stmt := inClass (top 28) 0
abbrev s_Run___init__ : Stmt := inClass (top 29) 0
abbrev s_Run_fresh : Stmt := inClass (top 29) 1
abbrev s_Run_come : Stmt := inClass (top 29) 2
abbrev s_Run_find : Stmt := inClass (top 29) 3
abbrev s_Run_number : Stmt := inClass (top 29) 4
abbrev s_Run_do : Stmt := inClass (top 29) 5
abbrev s_Run_steps : Stmt := inClass (top 29) 6
abbrev s_Run_put : Stmt := inClass (top 29) 7
abbrev s_Run_call : Stmt := inClass (top 29) 8
abbrev s_out_of : Stmt := top 30
abbrev s_ran : Stmt := top 31
abbrev s_all_cells : Stmt := top 34
abbrev s_parted : Stmt := top 35
abbrev s_mixed : Stmt := top 36
abbrev s_all_ways : Stmt := top 37
abbrev s_classes : Stmt := top 38
abbrev s_need_small : Stmt := top 42
abbrev s_thing_anew : Stmt := top 43
abbrev s_Maker___init__ : Stmt := inClass (top 44) 0
abbrev s_Maker_fresh : Stmt := inClass (top 44) 1
abbrev s_Maker_made : Stmt := inClass (top 44) 2
abbrev s_Maker_steps : Stmt := inClass (top 44) 3
abbrev s_Maker_call : Stmt := inClass (top 44) 4
abbrev s_Maker_held : Stmt := inClass (top 44) 5
abbrev s_anew : Stmt := top 45
abbrev s_placed : Stmt := top 46
abbrev s_wanted : Stmt := top 47
abbrev s_thing_words : Stmt := top 49
abbrev s_body_words : Stmt := top 50
abbrev s_written : Stmt := top 51
abbrev s_sets : Stmt := top 53
abbrev s_may_set : Stmt := top 54
abbrev s__law_taken : Stmt := top 56
abbrev s__law_thing : Stmt := top 57
abbrev s__law_place : Stmt := top 58
abbrev s__law_step : Stmt := top 59
abbrev s__law_body : Stmt := top 60
abbrev s__law_program : Stmt := top 61
abbrev s__law_ways : Stmt := top 62
abbrev s__law_cells : Stmt := top 63
abbrev s__law_is_number : Stmt := top 64
abbrev s__law_is_thing : Stmt := top 65
abbrev s__law_is_step : Stmt := top 66
abbrev s__law_is_body : Stmt := top 67
abbrev s__law_count : Stmt := top 68
abbrev s__law_is_program : Stmt := top 69
abbrev s__law_deep : Stmt := top 70
abbrev s__law_around : Stmt := top 71
abbrev s__law_odd_step : Stmt := top 72
abbrev s__law_spoilt : Stmt := top 73
abbrev s__law_works : Stmt := top 74
abbrev s__law_others : Stmt := top 75
abbrev s__law_word : Stmt := top 76
abbrev s_law : Stmt := top 77
theorem sc_BadText___init__ : FnScope ["self", "row"] ["self", "row"] (defScope s_BadText___init__) := ⟨rfl, rfl, rfl, by decide +kernel, rfl, by decide +kernel, by decide +kernel⟩
theorem sc_is_number : FnScope ["part", "below"] ["part", "below"] (defScope s_is_number) := ⟨rfl, rfl, rfl, by decide +kernel, rfl, by decide +kernel, by decide +kernel⟩
theorem sc_is_thing : FnScope ["thing", "sizes", "within", "word", "below"] ["thing", "sizes", "within"] (defScope s_is_thing) := ⟨rfl, rfl, rfl, by decide +kernel, rfl, by decide +kernel, by decide +kernel⟩
theorem sc_is_call : FnScope ["program", "at", "step", "sizes", "thing"] ["program", "at", "step", "sizes"] (defScope s_is_call) := ⟨rfl, rfl, rfl, by decide +kernel, rfl, by decide +kernel, by decide +kernel⟩
theorem sc_is_step : FnScope ["program", "at", "step", "within", "sizes", "body"] ["program", "at", "step", "within"] (defScope s_is_step) := ⟨rfl, rfl, rfl, by decide +kernel, rfl, by decide +kernel, by decide +kernel⟩
theorem sc_is_body : FnScope ["program", "at", "body", "within", "step"] ["program", "at", "body", "within"] (defScope s_is_body) := ⟨rfl, rfl, rfl, by decide +kernel, rfl, by decide +kernel, by decide +kernel⟩
theorem sc_bodies_of : FnScope ["step"] ["step"] (defScope s_bodies_of) := ⟨rfl, rfl, rfl, by decide +kernel, rfl, by decide +kernel, by decide +kernel⟩
theorem sc_count : FnScope ["body", "step", "inner"] ["body"] (defScope s_count) := ⟨rfl, rfl, rfl, by decide +kernel, rfl, by decide +kernel, by decide +kernel⟩
theorem sc_is_work : FnScope ["program", "at", "params", "owns", "body"] ["program", "at"] (defScope s_is_work) := ⟨rfl, rfl, rfl, by decide +kernel, rfl, by decide +kernel, by decide +kernel⟩
theorem sc_need_program : FnScope ["program", "at"] ["program"] (defScope s_need_program) := ⟨rfl, rfl, rfl, by decide +kernel, rfl, by decide +kernel, by decide +kernel⟩
theorem sc_need_ways : FnScope ["program", "ways", "work", "some", "way"] ["program", "ways"] (defScope s_need_ways) := ⟨rfl, rfl, rfl, by decide +kernel, rfl, by decide +kernel, by decide +kernel⟩
theorem sc_Frame___init__ : FnScope ["self"] ["self"] (defScope s_Frame___init__) := ⟨rfl, rfl, rfl, by decide +kernel, rfl, by decide +kernel, by decide +kernel⟩
theorem sc_Lent___init__ : FnScope ["self", "place", "through", "thing", "frame"] ["self", "place", "through", "thing", "frame"] (defScope s_Lent___init__) := ⟨rfl, rfl, rfl, by decide +kernel, rfl, by decide +kernel, by decide +kernel⟩
theorem sc_Run___init__ : FnScope ["self", "program", "ways", "cells"] ["self", "program", "ways", "cells"] (defScope s_Run___init__) := ⟨rfl, rfl, rfl, by decide +kernel, rfl, by decide +kernel, by decide +kernel⟩
theorem sc_Run_fresh : FnScope ["self", "number"] ["self", "number"] (defScope s_Run_fresh) := ⟨rfl, rfl, rfl, by decide +kernel, rfl, by decide +kernel, by decide +kernel⟩
theorem sc_Run_come : FnScope ["self", "place", "through", "pair"] ["self", "place", "through"] (defScope s_Run_come) := ⟨rfl, rfl, rfl, by decide +kernel, rfl, by decide +kernel, by decide +kernel⟩
theorem sc_Run_find : FnScope ["self", "thing", "frame", "lent"] ["self", "thing", "frame"] (defScope s_Run_find) := ⟨rfl, rfl, rfl, by decide +kernel, rfl, by decide +kernel, by decide +kernel⟩
theorem sc_Run_number : FnScope ["self", "thing", "frame", "found", "lent"] ["self", "thing", "frame"] (defScope s_Run_number) := ⟨rfl, rfl, rfl, by decide +kernel, rfl, by decide +kernel, by decide +kernel⟩
theorem sc_Run_do : FnScope ["self", "at", "frame", "k"] ["self", "at", "frame"] (defScope s_Run_do) := ⟨rfl, rfl, rfl, by decide +kernel, rfl, by decide +kernel, by decide +kernel⟩
theorem sc_Run_steps : FnScope ["self", "body", "frame", "step"] ["self", "body", "frame"] (defScope s_Run_steps) := ⟨rfl, rfl, rfl, by decide +kernel, rfl, by decide +kernel, by decide +kernel⟩
theorem sc_Run_put : FnScope ["self", "thing", "number", "frame", "found"] ["self", "thing", "number", "frame"] (defScope s_Run_put) := ⟨rfl, rfl, rfl, by decide +kernel, rfl, by decide +kernel, by decide +kernel⟩
theorem sc_Run_call : FnScope ["self", "at", "things", "frame", "inner", "backs", "ahead", "thing", "way", "found", "place", "other"] ["self", "at", "things", "frame"] (defScope s_Run_call) := ⟨rfl, rfl, rfl, by decide +kernel, rfl, by decide +kernel, by decide +kernel⟩
theorem sc_out_of : FnScope ["program", "ways", "cells", "run"] ["program", "ways", "cells"] (defScope s_out_of) := ⟨rfl, rfl, rfl, by decide +kernel, rfl, by decide +kernel, by decide +kernel⟩
theorem sc_ran : FnScope ["program", "ways", "cells", "number"] ["program", "ways", "cells"] (defScope s_ran) := ⟨rfl, rfl, rfl, by decide +kernel, rfl, by decide +kernel, by decide +kernel⟩
theorem sc_all_cells : FnScope ["found", "cell", "longer", "some", "number"] [] (defScope s_all_cells) := ⟨rfl, rfl, rfl, by decide +kernel, rfl, by decide +kernel, by decide +kernel⟩
theorem sc_parted : FnScope ["program", "one", "other", "cells"] ["program", "one", "other"] (defScope s_parted) := ⟨rfl, rfl, rfl, by decide +kernel, rfl, by decide +kernel, by decide +kernel⟩
theorem sc_mixed : FnScope ["program", "ways", "cells"] ["program", "ways"] (defScope s_mixed) := ⟨rfl, rfl, rfl, by decide +kernel, rfl, by decide +kernel, by decide +kernel⟩
theorem sc_all_ways : FnScope ["program", "found", "params", "owns", "body", "some", "param", "longer", "ways", "one", "way"] ["program"] (defScope s_all_ways) := ⟨rfl, rfl, rfl, by decide +kernel, rfl, by decide +kernel, by decide +kernel⟩
theorem sc_classes : FnScope ["program", "found", "outs", "ways", "out", "cells", "work"] ["program"] (defScope s_classes) := ⟨rfl, rfl, rfl, by decide +kernel, rfl, by decide +kernel, by decide +kernel⟩
theorem sc_need_small : FnScope ["program", "work"] ["program"] (defScope s_need_small) := ⟨rfl, rfl, rfl, by decide +kernel, rfl, by decide +kernel, by decide +kernel⟩
theorem sc_thing_anew : FnScope ["thing", "news", "part"] ["thing", "news"] (defScope s_thing_anew) := ⟨rfl, rfl, rfl, by decide +kernel, rfl, by decide +kernel, by decide +kernel⟩
theorem sc_Maker___init__ : FnScope ["self", "work", "at", "ways", "frozen"] ["self", "work", "at", "ways", "frozen"] (defScope s_Maker___init__) := ⟨rfl, rfl, rfl, by decide +kernel, rfl, by decide +kernel, by decide +kernel⟩
theorem sc_Maker_fresh : FnScope ["self"] ["self"] (defScope s_Maker_fresh) := ⟨rfl, rfl, rfl, by decide +kernel, rfl, by decide +kernel, by decide +kernel⟩
theorem sc_Maker_made : FnScope ["self", "ahead", "behind", "param", "body"] ["self"] (defScope s_Maker_made) := ⟨rfl, rfl, rfl, by decide +kernel, rfl, by decide +kernel, by decide +kernel⟩
theorem sc_Maker_steps : FnScope ["self", "body", "found", "step", "inner", "one", "thing"] ["self", "body"] (defScope s_Maker_steps) := ⟨rfl, rfl, rfl, by decide +kernel, rfl, by decide +kernel, by decide +kernel⟩
theorem sc_Maker_call : FnScope ["self", "step", "ahead", "things", "thing", "way"] ["self", "step"] (defScope s_Maker_call) := ⟨rfl, rfl, rfl, by decide +kernel, rfl, by decide +kernel, by decide +kernel⟩
theorem sc_Maker_held : FnScope ["self", "thing", "ahead", "new"] ["self", "thing", "ahead"] (defScope s_Maker_held) := ⟨rfl, rfl, rfl, by decide +kernel, rfl, by decide +kernel, by decide +kernel⟩
theorem sc_anew : FnScope ["program", "ways", "frozen", "at"] ["program", "ways", "frozen"] (defScope s_anew) := ⟨rfl, rfl, rfl, by decide +kernel, rfl, by decide +kernel, by decide +kernel⟩
theorem sc_placed : FnScope ["program", "ways", "others", "some", "way"] ["program", "ways"] (defScope s_placed) := ⟨rfl, rfl, rfl, by decide +kernel, rfl, by decide +kernel, by decide +kernel⟩
theorem sc_wanted : FnScope ["program", "ways", "some"] ["program", "ways"] (defScope s_wanted) := ⟨rfl, rfl, rfl, by decide +kernel, rfl, by decide +kernel, by decide +kernel⟩
theorem sc_thing_words : FnScope ["thing", "found", "part"] ["thing"] (defScope s_thing_words) := ⟨rfl, rfl, rfl, by decide +kernel, rfl, by decide +kernel, by decide +kernel⟩
theorem sc_body_words : FnScope ["body", "found", "step", "thing", "inner"] ["body"] (defScope s_body_words) := ⟨rfl, rfl, rfl, by decide +kernel, rfl, by decide +kernel, by decide +kernel⟩
theorem sc_written : FnScope ["program", "lines", "params", "owns", "body"] ["program"] (defScope s_written) := ⟨rfl, rfl, rfl, by decide +kernel, rfl, by decide +kernel, by decide +kernel⟩
theorem sc_sets : FnScope ["body", "param", "ways", "known", "step", "thing", "way", "good", "inner"] ["body", "param", "ways", "known"] (defScope s_sets) := ⟨rfl, rfl, rfl, by decide +kernel, rfl, by decide +kernel, by decide +kernel⟩
theorem sc_may_set : FnScope ["program", "ways", "known", "at", "param"] ["program", "ways"] (defScope s_may_set) := ⟨rfl, rfl, rfl, by decide +kernel, rfl, by decide +kernel, by decide +kernel⟩
theorem sc__law_taken : FnScope ["_law_row", "_law_many", "_law_found", "_law_cell"] ["_law_row", "_law_many"] (defScope s__law_taken) := ⟨rfl, rfl, rfl, by decide +kernel, rfl, by decide +kernel, by decide +kernel⟩
theorem sc__law_thing : FnScope ["_law_row", "_law_sizes", "_law_within", "_law_way"] ["_law_row", "_law_sizes", "_law_within"] (defScope s__law_thing) := ⟨rfl, rfl, rfl, by decide +kernel, rfl, by decide +kernel, by decide +kernel⟩
theorem sc__law_place : FnScope ["_law_row", "_law_sizes", "_law_within", "_law_thing_here"] ["_law_row", "_law_sizes", "_law_within"] (defScope s__law_place) := ⟨rfl, rfl, rfl, by decide +kernel, rfl, by decide +kernel, by decide +kernel⟩
theorem sc__law_step : FnScope ["_law_row", "_law_shapes", "_law_at", "_law_left", "_law_within", "_law_sizes", "_law_way", "_law_work", "_law_things", "_law_k", "_law_thing_here", "_law_first"] ["_law_row", "_law_shapes", "_law_at", "_law_left", "_law_within"] (defScope s__law_step) := ⟨rfl, rfl, rfl, by decide +kernel, rfl, by decide +kernel, by decide +kernel⟩
theorem sc__law_body : FnScope ["_law_row", "_law_shapes", "_law_at", "_law_left", "_law_within", "_law_found", "_law_turn"] ["_law_row", "_law_shapes", "_law_at", "_law_left", "_law_within"] (defScope s__law_body) := ⟨rfl, rfl, rfl, by decide +kernel, rfl, by decide +kernel, by decide +kernel⟩
theorem sc__law_program : FnScope ["_law_row", "_law_most", "_law_shapes", "_law_k", "_law_owns", "_law_found", "_law_at", "_law_body_here", "_law_things"] ["_law_row", "_law_most"] (defScope s__law_program) := ⟨rfl, rfl, rfl, by decide +kernel, rfl, by decide +kernel, by decide +kernel⟩
theorem sc__law_ways : FnScope ["_law_row", "_law_program_here", "_law_some", "_law_found", "_law_params", "_law_owns", "_law_body_here", "_law_k"] ["_law_row", "_law_program_here", "_law_some"] (defScope s__law_ways) := ⟨rfl, rfl, rfl, by decide +kernel, rfl, by decide +kernel, by decide +kernel⟩
theorem sc__law_cells : FnScope ["_law_k"] [] (defScope s__law_cells) := ⟨rfl, rfl, rfl, by decide +kernel, rfl, by decide +kernel, by decide +kernel⟩
theorem sc__law_is_number : FnScope ["_law_part", "_law_below"] ["_law_part", "_law_below"] (defScope s__law_is_number) := ⟨rfl, rfl, rfl, by decide +kernel, rfl, by decide +kernel, by decide +kernel⟩
theorem sc__law_is_thing : FnScope ["_law_thing_here", "_law_sizes", "_law_within", "_law_part"] ["_law_thing_here", "_law_sizes", "_law_within"] (defScope s__law_is_thing) := ⟨rfl, rfl, rfl, by decide +kernel, rfl, by decide +kernel, by decide +kernel⟩
theorem sc__law_is_step : FnScope ["_law_shapes", "_law_at", "_law_step_here", "_law_within", "_law_things", "_law_bodies", "_law_thing_here", "_law_body_here"] ["_law_shapes", "_law_at", "_law_step_here", "_law_within"] (defScope s__law_is_step) := ⟨rfl, rfl, rfl, by decide +kernel, rfl, by decide +kernel, by decide +kernel⟩
theorem sc__law_is_body : FnScope ["_law_shapes", "_law_at", "_law_body_here", "_law_within", "_law_step_here"] ["_law_shapes", "_law_at", "_law_body_here", "_law_within"] (defScope s__law_is_body) := ⟨rfl, rfl, rfl, by decide +kernel, rfl, by decide +kernel, by decide +kernel⟩
theorem sc__law_count : FnScope ["_law_body_here", "_law_found", "_law_step_here"] ["_law_body_here"] (defScope s__law_count) := ⟨rfl, rfl, rfl, by decide +kernel, rfl, by decide +kernel, by decide +kernel⟩
theorem sc__law_is_program : FnScope ["_law_program_here", "_law_shapes", "_law_at", "_law_work", "_law_one"] ["_law_program_here"] (defScope s__law_is_program) := ⟨rfl, rfl, rfl, by decide +kernel, rfl, by decide +kernel, by decide +kernel⟩
theorem sc__law_deep : FnScope ["_law_row", "_law_thing_here", "_law_many", "_law_turn"] ["_law_row", "_law_thing_here", "_law_many"] (defScope s__law_deep) := ⟨rfl, rfl, rfl, by decide +kernel, rfl, by decide +kernel, by decide +kernel⟩
theorem sc__law_around : FnScope ["_law_row", "_law_step_here", "_law_many", "_law_turn", "_law_some"] ["_law_row", "_law_step_here", "_law_many"] (defScope s__law_around) := ⟨rfl, rfl, rfl, by decide +kernel, rfl, by decide +kernel, by decide +kernel⟩
theorem sc__law_odd_step : FnScope ["_law_row", "_law_one", "_law_cell", "_law_some"] ["_law_row"] (defScope s__law_odd_step) := ⟨rfl, rfl, rfl, by decide +kernel, rfl, by decide +kernel, by decide +kernel⟩
theorem sc__law_spoilt : FnScope ["_law_row", "_law_program_here", "_law_at", "_law_params", "_law_owns", "_law_body_here", "_law_way", "_law_k", "_law_step_here"] ["_law_row", "_law_program_here"] (defScope s__law_spoilt) := ⟨rfl, rfl, rfl, by decide +kernel, rfl, by decide +kernel, by decide +kernel⟩
theorem sc__law_works : FnScope ["_law_program_here", "_law_ways_here", "_law_cells_here", "_law_works_here"] ["_law_program_here", "_law_ways_here", "_law_cells_here"] (defScope s__law_works) := ⟨rfl, rfl, rfl, by decide +kernel, rfl, by decide +kernel, by decide +kernel⟩
theorem sc__law_others : FnScope ["_law_program_here", "_law_works_here"] ["_law_program_here"] (defScope s__law_others) := ⟨rfl, rfl, rfl, by decide +kernel, rfl, by decide +kernel, by decide +kernel⟩
theorem sc__law_word : FnScope ["_law_work", "e", "_law_kinds"] ["_law_work"] (defScope s__law_word) := ⟨rfl, rfl, rfl, by decide +kernel, rfl, by decide +kernel, by decide +kernel⟩
theorem sc_law : FnScope ["_law_script", "_law_row", "_law_turn", "_law_program_here", "_law_ways_here", "_law_at", "_law_odd", "_law_bad", "_law_told", "_law_other", "_law_work"] ["_law_script"] (defScope s_law) := ⟨rfl, rfl, rfl, by decide +kernel, rfl, by decide +kernel, by decide +kernel⟩
/-- what the walk leans on, of the text behind its top -/
structure Tx (K : PySem.W.Frag) (mg : Str → Option Value) : Prop where
  g_is_number : mg "is_number" = some (.ref (He.ga K "is_number"))
  g_is_thing : mg "is_thing" = some (.ref (He.ga K "is_thing"))
  g_is_call : mg "is_call" = some (.ref (He.ga K "is_call"))
  g_is_step : mg "is_step" = some (.ref (He.ga K "is_step"))
  g_is_body : mg "is_body" = some (.ref (He.ga K "is_body"))
  g_bodies_of : mg "bodies_of" = some (.ref (He.ga K "bodies_of"))
  g_count : mg "count" = some (.ref (He.ga K "count"))
  g_is_work : mg "is_work" = some (.ref (He.ga K "is_work"))
  g_need_program : mg "need_program" = some (.ref (He.ga K "need_program"))
  g_need_ways : mg "need_ways" = some (.ref (He.ga K "need_ways"))
  g_out_of : mg "out_of" = some (.ref (He.ga K "out_of"))
  g_ran : mg "ran" = some (.ref (He.ga K "ran"))
  g_all_cells : mg "all_cells" = some (.ref (He.ga K "all_cells"))
  g_parted : mg "parted" = some (.ref (He.ga K "parted"))
  g_mixed : mg "mixed" = some (.ref (He.ga K "mixed"))
  g_all_ways : mg "all_ways" = some (.ref (He.ga K "all_ways"))
  g_classes : mg "classes" = some (.ref (He.ga K "classes"))
  g_need_small : mg "need_small" = some (.ref (He.ga K "need_small"))
  g_thing_anew : mg "thing_anew" = some (.ref (He.ga K "thing_anew"))
  g_anew : mg "anew" = some (.ref (He.ga K "anew"))
  g_placed : mg "placed" = some (.ref (He.ga K "placed"))
  g_wanted : mg "wanted" = some (.ref (He.ga K "wanted"))
  g_thing_words : mg "thing_words" = some (.ref (He.ga K "thing_words"))
  g_body_words : mg "body_words" = some (.ref (He.ga K "body_words"))
  g_written : mg "written" = some (.ref (He.ga K "written"))
  g_sets : mg "sets" = some (.ref (He.ga K "sets"))
  g_may_set : mg "may_set" = some (.ref (He.ga K "may_set"))
  g__law_taken : mg "_law_taken" = some (.ref (He.ga K "_law_taken"))
  g__law_thing : mg "_law_thing" = some (.ref (He.ga K "_law_thing"))
  g__law_place : mg "_law_place" = some (.ref (He.ga K "_law_place"))
  g__law_step : mg "_law_step" = some (.ref (He.ga K "_law_step"))
  g__law_body : mg "_law_body" = some (.ref (He.ga K "_law_body"))
  g__law_program : mg "_law_program" = some (.ref (He.ga K "_law_program"))
  g__law_ways : mg "_law_ways" = some (.ref (He.ga K "_law_ways"))
  g__law_cells : mg "_law_cells" = some (.ref (He.ga K "_law_cells"))
  g__law_is_number : mg "_law_is_number" = some (.ref (He.ga K "_law_is_number"))
  g__law_is_thing : mg "_law_is_thing" = some (.ref (He.ga K "_law_is_thing"))
  g__law_is_step : mg "_law_is_step" = some (.ref (He.ga K "_law_is_step"))
  g__law_is_body : mg "_law_is_body" = some (.ref (He.ga K "_law_is_body"))
  g__law_count : mg "_law_count" = some (.ref (He.ga K "_law_count"))
  g__law_is_program : mg "_law_is_program" = some (.ref (He.ga K "_law_is_program"))
  g__law_deep : mg "_law_deep" = some (.ref (He.ga K "_law_deep"))
  g__law_around : mg "_law_around" = some (.ref (He.ga K "_law_around"))
  g__law_odd_step : mg "_law_odd_step" = some (.ref (He.ga K "_law_odd_step"))
  g__law_spoilt : mg "_law_spoilt" = some (.ref (He.ga K "_law_spoilt"))
  g__law_works : mg "_law_works" = some (.ref (He.ga K "_law_works"))
  g__law_others : mg "_law_others" = some (.ref (He.ga K "_law_others"))
  g__law_word : mg "_law_word" = some (.ref (He.ga K "_law_word"))
  g_law : mg "law" = some (.ref (He.ga K "law"))
  g_HandError : mg "HandError" = some (.ref (He.ga K "HandError"))
  k_HandError : PySem.W.keepIn K (.ref (He.ga K "HandError")) = true
  x_HandError : PySem.W.excIn K (He.ga K "HandError") [.type "ValueError", .type "Exception", .type "BaseException", .type "object"] "ValueError.__new__" = true
  be_HandError : PySem.W.subIn K (.ref (He.ga K "HandError")) (.type "BaseException") = some true
  ty_HandError : PySem.W.typeIn K (.ref (He.ga K "HandError")) = some (.type "type")
  em_HandError_HandError : PySem.W.exmOne K (.ref (He.ga K "HandError")) (.ref (He.ga K "HandError")) = some true
  em_HandError_BadProgram : PySem.W.exmOne K (.ref (He.ga K "HandError")) (.ref (He.ga K "BadProgram")) = some false
  em_HandError_BadWays : PySem.W.exmOne K (.ref (He.ga K "HandError")) (.ref (He.ga K "BadWays")) = some false
  em_HandError_BadCells : PySem.W.exmOne K (.ref (He.ga K "HandError")) (.ref (He.ga K "BadCells")) = some false
  em_HandError_BadText : PySem.W.exmOne K (.ref (He.ga K "HandError")) (.ref (He.ga K "BadText")) = some false
  g_BadProgram : mg "BadProgram" = some (.ref (He.ga K "BadProgram"))
  k_BadProgram : PySem.W.keepIn K (.ref (He.ga K "BadProgram")) = true
  x_BadProgram : PySem.W.excIn K (He.ga K "BadProgram") [.type "ValueError", .type "Exception", .type "BaseException", .type "object"] "ValueError.__new__" = true
  be_BadProgram : PySem.W.subIn K (.ref (He.ga K "BadProgram")) (.type "BaseException") = some true
  ty_BadProgram : PySem.W.typeIn K (.ref (He.ga K "BadProgram")) = some (.type "type")
  em_BadProgram_HandError : PySem.W.exmOne K (.ref (He.ga K "BadProgram")) (.ref (He.ga K "HandError")) = some true
  em_BadProgram_BadProgram : PySem.W.exmOne K (.ref (He.ga K "BadProgram")) (.ref (He.ga K "BadProgram")) = some true
  em_BadProgram_BadWays : PySem.W.exmOne K (.ref (He.ga K "BadProgram")) (.ref (He.ga K "BadWays")) = some false
  em_BadProgram_BadCells : PySem.W.exmOne K (.ref (He.ga K "BadProgram")) (.ref (He.ga K "BadCells")) = some false
  em_BadProgram_BadText : PySem.W.exmOne K (.ref (He.ga K "BadProgram")) (.ref (He.ga K "BadText")) = some false
  g_BadWays : mg "BadWays" = some (.ref (He.ga K "BadWays"))
  k_BadWays : PySem.W.keepIn K (.ref (He.ga K "BadWays")) = true
  x_BadWays : PySem.W.excIn K (He.ga K "BadWays") [.type "ValueError", .type "Exception", .type "BaseException", .type "object"] "ValueError.__new__" = true
  be_BadWays : PySem.W.subIn K (.ref (He.ga K "BadWays")) (.type "BaseException") = some true
  ty_BadWays : PySem.W.typeIn K (.ref (He.ga K "BadWays")) = some (.type "type")
  em_BadWays_HandError : PySem.W.exmOne K (.ref (He.ga K "BadWays")) (.ref (He.ga K "HandError")) = some true
  em_BadWays_BadProgram : PySem.W.exmOne K (.ref (He.ga K "BadWays")) (.ref (He.ga K "BadProgram")) = some false
  em_BadWays_BadWays : PySem.W.exmOne K (.ref (He.ga K "BadWays")) (.ref (He.ga K "BadWays")) = some true
  em_BadWays_BadCells : PySem.W.exmOne K (.ref (He.ga K "BadWays")) (.ref (He.ga K "BadCells")) = some false
  em_BadWays_BadText : PySem.W.exmOne K (.ref (He.ga K "BadWays")) (.ref (He.ga K "BadText")) = some false
  g_BadCells : mg "BadCells" = some (.ref (He.ga K "BadCells"))
  k_BadCells : PySem.W.keepIn K (.ref (He.ga K "BadCells")) = true
  x_BadCells : PySem.W.excIn K (He.ga K "BadCells") [.type "ValueError", .type "Exception", .type "BaseException", .type "object"] "ValueError.__new__" = true
  be_BadCells : PySem.W.subIn K (.ref (He.ga K "BadCells")) (.type "BaseException") = some true
  ty_BadCells : PySem.W.typeIn K (.ref (He.ga K "BadCells")) = some (.type "type")
  em_BadCells_HandError : PySem.W.exmOne K (.ref (He.ga K "BadCells")) (.ref (He.ga K "HandError")) = some true
  em_BadCells_BadProgram : PySem.W.exmOne K (.ref (He.ga K "BadCells")) (.ref (He.ga K "BadProgram")) = some false
  em_BadCells_BadWays : PySem.W.exmOne K (.ref (He.ga K "BadCells")) (.ref (He.ga K "BadWays")) = some false
  em_BadCells_BadCells : PySem.W.exmOne K (.ref (He.ga K "BadCells")) (.ref (He.ga K "BadCells")) = some true
  em_BadCells_BadText : PySem.W.exmOne K (.ref (He.ga K "BadCells")) (.ref (He.ga K "BadText")) = some false
  g_BadText : mg "BadText" = some (.ref (He.ga K "BadText"))
  k_BadText : PySem.W.keepIn K (.ref (He.ga K "BadText")) = true
  be_BadText : PySem.W.subIn K (.ref (He.ga K "BadText")) (.type "BaseException") = some true
  ty_BadText : PySem.W.typeIn K (.ref (He.ga K "BadText")) = some (.type "type")
  em_BadText_HandError : PySem.W.exmOne K (.ref (He.ga K "BadText")) (.ref (He.ga K "HandError")) = some true
  em_BadText_BadProgram : PySem.W.exmOne K (.ref (He.ga K "BadText")) (.ref (He.ga K "BadProgram")) = some false
  em_BadText_BadWays : PySem.W.exmOne K (.ref (He.ga K "BadText")) (.ref (He.ga K "BadWays")) = some false
  em_BadText_BadCells : PySem.W.exmOne K (.ref (He.ga K "BadText")) (.ref (He.ga K "BadCells")) = some false
  em_BadText_BadText : PySem.W.exmOne K (.ref (He.ga K "BadText")) (.ref (He.ga K "BadText")) = some true
  g_Frame : mg "Frame" = some (.ref (He.ga K "Frame"))
  k_Frame : PySem.W.keepIn K (.ref (He.ga K "Frame")) = true
  c_Frame : Cls K (He.ga K "Frame")
  mk_Frame : Mk K (He.ga K "Frame") (He.ma K (He.ga K "Frame") "__init__")
  na_Frame_owns : NoAttr K (He.ga K "Frame") "owns"
  na_Frame_pars : NoAttr K (He.ga K "Frame") "pars"
  g_Lent : mg "Lent" = some (.ref (He.ga K "Lent"))
  k_Lent : PySem.W.keepIn K (.ref (He.ga K "Lent")) = true
  c_Lent : Cls K (He.ga K "Lent")
  mk_Lent : Mk K (He.ga K "Lent") (He.ma K (He.ga K "Lent") "__init__")
  na_Lent_place : NoAttr K (He.ga K "Lent") "place"
  na_Lent_through : NoAttr K (He.ga K "Lent") "through"
  na_Lent_thing : NoAttr K (He.ga K "Lent") "thing"
  na_Lent_frame : NoAttr K (He.ga K "Lent") "frame"
  g_Run : mg "Run" = some (.ref (He.ga K "Run"))
  k_Run : PySem.W.keepIn K (.ref (He.ga K "Run")) = true
  c_Run : Cls K (He.ga K "Run")
  mk_Run : Mk K (He.ga K "Run") (He.ma K (He.ga K "Run") "__init__")
  na_Run_program : NoAttr K (He.ga K "Run") "program"
  na_Run_ways : NoAttr K (He.ga K "Run") "ways"
  na_Run_numbers : NoAttr K (He.ga K "Run") "numbers"
  na_Run_said : NoAttr K (He.ga K "Run") "said"
  na_Run_lent : NoAttr K (He.ga K "Run") "lent"
  na_Run_many : NoAttr K (He.ga K "Run") "many"
  na_Run_mixed : NoAttr K (He.ga K "Run") "mixed"
  na_Run_owns : NoAttr K (He.ga K "Run") "owns"
  m_Run_fresh : Meth K (He.ga K "Run") "fresh" (He.ma K (He.ga K "Run") "fresh")
  m_Run_come : Meth K (He.ga K "Run") "come" (He.ma K (He.ga K "Run") "come")
  m_Run_find : Meth K (He.ga K "Run") "find" (He.ma K (He.ga K "Run") "find")
  m_Run_number : Meth K (He.ga K "Run") "number" (He.ma K (He.ga K "Run") "number")
  m_Run_do : Meth K (He.ga K "Run") "do" (He.ma K (He.ga K "Run") "do")
  m_Run_steps : Meth K (He.ga K "Run") "steps" (He.ma K (He.ga K "Run") "steps")
  m_Run_put : Meth K (He.ga K "Run") "put" (He.ma K (He.ga K "Run") "put")
  m_Run_call : Meth K (He.ga K "Run") "call" (He.ma K (He.ga K "Run") "call")
  g_Maker : mg "Maker" = some (.ref (He.ga K "Maker"))
  k_Maker : PySem.W.keepIn K (.ref (He.ga K "Maker")) = true
  c_Maker : Cls K (He.ga K "Maker")
  mk_Maker : Mk K (He.ga K "Maker") (He.ma K (He.ga K "Maker") "__init__")
  na_Maker_ways : NoAttr K (He.ga K "Maker") "ways"
  na_Maker_frozen : NoAttr K (He.ga K "Maker") "frozen"
  na_Maker_news : NoAttr K (He.ga K "Maker") "news"
  na_Maker_own : NoAttr K (He.ga K "Maker") "own"
  na_Maker_many : NoAttr K (He.ga K "Maker") "many"
  na_Maker_params : NoAttr K (He.ga K "Maker") "params"
  na_Maker_body : NoAttr K (He.ga K "Maker") "body"
  m_Maker_fresh : Meth K (He.ga K "Maker") "fresh" (He.ma K (He.ga K "Maker") "fresh")
  m_Maker_made : Meth K (He.ga K "Maker") "made" (He.ma K (He.ga K "Maker") "made")
  m_Maker_steps : Meth K (He.ga K "Maker") "steps" (He.ma K (He.ga K "Maker") "steps")
  m_Maker_call : Meth K (He.ga K "Maker") "call" (He.ma K (He.ga K "Maker") "call")
  m_Maker_held : Meth K (He.ga K "Maker") "held" (He.ma K (He.ga K "Maker") "held")
  hg_BadProgram : PySem.W.findIn K (.ref (He.ga K "BadProgram")) "__getattribute__" = some (some (.builtin "BaseException.__getattribute__"))
  hk_BadProgram : PySem.W.findIn K (.ref (He.ga K "BadProgram")) "__getattr__" = some none
  hd_BadProgram : PySem.W.hasDictIn K (He.ga K "BadProgram") = true
  ha_BadProgram : PySem.W.findIn K (.ref (He.ga K "BadProgram")) "__class__" = some (some (.builtin "object.__class__"))
  hn_BadProgram : PySem.W.specialIn K (.builtin "object.__class__") "__get__" = some (some (.builtin "getset_descriptor.__get__"))
  ht_BadProgram : PySem.W.takesIn K (.builtin "object.__class__") = some true
  hm_BadProgram : PySem.W.mroIn K (He.ga K "BadProgram") (.type "object") = some true
  iv_BadProgram : PySem.W.kitOne K (.ref (He.ga K "BadProgram")) (.type "ValueError") = some true
  hg_BadWays : PySem.W.findIn K (.ref (He.ga K "BadWays")) "__getattribute__" = some (some (.builtin "BaseException.__getattribute__"))
  hk_BadWays : PySem.W.findIn K (.ref (He.ga K "BadWays")) "__getattr__" = some none
  hd_BadWays : PySem.W.hasDictIn K (He.ga K "BadWays") = true
  ha_BadWays : PySem.W.findIn K (.ref (He.ga K "BadWays")) "__class__" = some (some (.builtin "object.__class__"))
  hn_BadWays : PySem.W.specialIn K (.builtin "object.__class__") "__get__" = some (some (.builtin "getset_descriptor.__get__"))
  ht_BadWays : PySem.W.takesIn K (.builtin "object.__class__") = some true
  hm_BadWays : PySem.W.mroIn K (He.ga K "BadWays") (.type "object") = some true
  iv_BadWays : PySem.W.kitOne K (.ref (He.ga K "BadWays")) (.type "ValueError") = some true
  tn_law__law_works : (He.cT K ("law", none)).2 ≠ (He.cT K ("_law_works", none)).2
  tn_law__law_others : (He.cT K ("law", none)).2 ≠ (He.cT K ("_law_others", none)).2
  tn__law_works__law_others : (He.cT K ("_law_works", none)).2 ≠ (He.cT K ("_law_others", none)).2
  ki_BadProgram_BadProgram : PySem.W.kitOne K (.ref (He.ga K "BadProgram")) (.ref (He.ga K "BadProgram")) = some true
  ki_BadProgram_BadWays : PySem.W.kitOne K (.ref (He.ga K "BadProgram")) (.ref (He.ga K "BadWays")) = some false
  ki_BadProgram_BadCells : PySem.W.kitOne K (.ref (He.ga K "BadProgram")) (.ref (He.ga K "BadCells")) = some false
  ki_BadProgram_BadText : PySem.W.kitOne K (.ref (He.ga K "BadProgram")) (.ref (He.ga K "BadText")) = some false
  ki_BadWays_BadProgram : PySem.W.kitOne K (.ref (He.ga K "BadWays")) (.ref (He.ga K "BadProgram")) = some false
  ki_BadWays_BadWays : PySem.W.kitOne K (.ref (He.ga K "BadWays")) (.ref (He.ga K "BadWays")) = some true
  ki_BadWays_BadCells : PySem.W.kitOne K (.ref (He.ga K "BadWays")) (.ref (He.ga K "BadCells")) = some false
  ki_BadWays_BadText : PySem.W.kitOne K (.ref (He.ga K "BadWays")) (.ref (He.ga K "BadText")) = some false
  b_ValueError : mg "ValueError" = none
  b_bool : mg "bool" = none
  b_int : mg "int" = none
  b_isinstance : mg "isinstance" = none
  b_len : mg "len" = none
  b_list : mg "list" = none
  b_range : mg "range" = none
  b_reversed : mg "reversed" = none
  b_str : mg "str" = none
  b_sum : mg "sum" = none
  b_tuple : mg "tuple" = none
  b_zip : mg "zip" = none
  g_NUMBERS : ∃ t, mg "NUMBERS" = some (.int 3 t)
  g_MOST_WORKS : ∃ t, mg "MOST_WORKS" = some (.int 4 t)
  g_MOST_PARAMS : ∃ t, mg "MOST_PARAMS" = some (.int 3 t)
  g_MOST_OWNS_programs : ∃ t, mg "MOST_OWNS_programs" = some (.int 99 t)
  g_MOST_STEPS_programs : ∃ t, mg "MOST_STEPS_programs" = some (.int 100 t)
  g_MOST_WITHIN : ∃ t, mg "MOST_WITHIN" = some (.int 4 t)
  g_PLACES : mg "PLACES" = some (.ref (He.ga K "PLACES"))
  t_PLACES : ∀ H : Hp, SqT K H (He.ga K "PLACES") [V.str "cell", V.str "own", V.str "par"]
  g_WAYS : mg "WAYS" = some (.ref (He.ga K "WAYS"))
  t_WAYS : ∀ H : Hp, SqT K H (He.ga K "WAYS") [V.str "back", V.str "copy", V.str "place", V.str "want"]
  g_COMMON : ∃ t, mg "COMMON" = some (.int 3 t)
  g_MOST_IN_ALL : ∃ t, mg "MOST_IN_ALL" = some (.int 3 t)
  g_MOST_STEPS_making : ∃ t, mg "MOST_STEPS_making" = some (.int 20 t)
  g_MOST_OWNS_making : ∃ t, mg "MOST_OWNS_making" = some (.int 10 t)
  d_BadText___init__ : ∃ fd, FunD K "__init__" "BadText.__init__" (defArgs s_BadText___init__) (defBody s_BadText___init__) (defScope s_BadText___init__) [] [] (He.ma K (He.ga K "BadText") "__init__") fd
  d_is_number : ∃ fd, FunD K "is_number" "is_number" (defArgs s_is_number) (defBody s_is_number) (defScope s_is_number) [] [] (He.ga K "is_number") fd
  d_is_thing : ∃ fd, FunD K "is_thing" "is_thing" (defArgs s_is_thing) (defBody s_is_thing) (defScope s_is_thing) [] [] (He.ga K "is_thing") fd
  d_is_call : ∃ fd, FunD K "is_call" "is_call" (defArgs s_is_call) (defBody s_is_call) (defScope s_is_call) [] [] (He.ga K "is_call") fd
  d_is_step : ∃ fd, FunD K "is_step" "is_step" (defArgs s_is_step) (defBody s_is_step) (defScope s_is_step) [] [] (He.ga K "is_step") fd
  d_is_body : ∃ fd, FunD K "is_body" "is_body" (defArgs s_is_body) (defBody s_is_body) (defScope s_is_body) [] [] (He.ga K "is_body") fd
  d_bodies_of : ∃ fd, FunD K "bodies_of" "bodies_of" (defArgs s_bodies_of) (defBody s_bodies_of) (defScope s_bodies_of) [] [] (He.ga K "bodies_of") fd
  d_count : ∃ fd, FunD K "count" "count" (defArgs s_count) (defBody s_count) (defScope s_count) [] [] (He.ga K "count") fd
  d_is_work : ∃ fd, FunD K "is_work" "is_work" (defArgs s_is_work) (defBody s_is_work) (defScope s_is_work) [] [] (He.ga K "is_work") fd
  d_need_program : ∃ fd, FunD K "need_program" "need_program" (defArgs s_need_program) (defBody s_need_program) (defScope s_need_program) [] [] (He.ga K "need_program") fd
  d_need_ways : ∃ fd, FunD K "need_ways" "need_ways" (defArgs s_need_ways) (defBody s_need_ways) (defScope s_need_ways) [] [] (He.ga K "need_ways") fd
  d_Frame___init__ : ∃ fd, FunD K "__init__" "Frame.__init__" (defArgs s_Frame___init__) (defBody s_Frame___init__) (defScope s_Frame___init__) [] [] (He.ma K (He.ga K "Frame") "__init__") fd
  d_Lent___init__ : ∃ fd, FunD K "__init__" "Lent.__init__" (defArgs s_Lent___init__) (defBody s_Lent___init__) (defScope s_Lent___init__) [] [] (He.ma K (He.ga K "Lent") "__init__") fd
  d_Run___init__ : ∃ fd, FunD K "__init__" "Run.__init__" (defArgs s_Run___init__) (defBody s_Run___init__) (defScope s_Run___init__) [] [] (He.ma K (He.ga K "Run") "__init__") fd
  d_Run_fresh : ∃ fd, FunD K "fresh" "Run.fresh" (defArgs s_Run_fresh) (defBody s_Run_fresh) (defScope s_Run_fresh) [] [] (He.ma K (He.ga K "Run") "fresh") fd
  d_Run_come : ∃ fd, FunD K "come" "Run.come" (defArgs s_Run_come) (defBody s_Run_come) (defScope s_Run_come) [] [] (He.ma K (He.ga K "Run") "come") fd
  d_Run_find : ∃ fd, FunD K "find" "Run.find" (defArgs s_Run_find) (defBody s_Run_find) (defScope s_Run_find) [] [] (He.ma K (He.ga K "Run") "find") fd
  d_Run_number : ∃ fd, FunD K "number" "Run.number" (defArgs s_Run_number) (defBody s_Run_number) (defScope s_Run_number) [] [] (He.ma K (He.ga K "Run") "number") fd
  d_Run_do : ∃ fd, FunD K "do" "Run.do" (defArgs s_Run_do) (defBody s_Run_do) (defScope s_Run_do) [] [] (He.ma K (He.ga K "Run") "do") fd
  d_Run_steps : ∃ fd, FunD K "steps" "Run.steps" (defArgs s_Run_steps) (defBody s_Run_steps) (defScope s_Run_steps) [] [] (He.ma K (He.ga K "Run") "steps") fd
  d_Run_put : ∃ fd, FunD K "put" "Run.put" (defArgs s_Run_put) (defBody s_Run_put) (defScope s_Run_put) [] [] (He.ma K (He.ga K "Run") "put") fd
  d_Run_call : ∃ fd, FunD K "call" "Run.call" (defArgs s_Run_call) (defBody s_Run_call) (defScope s_Run_call) [] [] (He.ma K (He.ga K "Run") "call") fd
  d_out_of : ∃ fd, FunD K "out_of" "out_of" (defArgs s_out_of) (defBody s_out_of) (defScope s_out_of) [] [] (He.ga K "out_of") fd
  d_ran : ∃ fd, FunD K "ran" "ran" (defArgs s_ran) (defBody s_ran) (defScope s_ran) [] [] (He.ga K "ran") fd
  d_all_cells : ∃ fd, FunD K "all_cells" "all_cells" (defArgs s_all_cells) (defBody s_all_cells) (defScope s_all_cells) [] [] (He.ga K "all_cells") fd
  d_parted : ∃ fd, FunD K "parted" "parted" (defArgs s_parted) (defBody s_parted) (defScope s_parted) [] [] (He.ga K "parted") fd
  d_mixed : ∃ fd, FunD K "mixed" "mixed" (defArgs s_mixed) (defBody s_mixed) (defScope s_mixed) [] [] (He.ga K "mixed") fd
  d_all_ways : ∃ fd, FunD K "all_ways" "all_ways" (defArgs s_all_ways) (defBody s_all_ways) (defScope s_all_ways) [] [] (He.ga K "all_ways") fd
  d_classes : ∃ fd, FunD K "classes" "classes" (defArgs s_classes) (defBody s_classes) (defScope s_classes) [] [] (He.ga K "classes") fd
  d_need_small : ∃ fd, FunD K "need_small" "need_small" (defArgs s_need_small) (defBody s_need_small) (defScope s_need_small) [] [] (He.ga K "need_small") fd
  d_thing_anew : ∃ fd, FunD K "thing_anew" "thing_anew" (defArgs s_thing_anew) (defBody s_thing_anew) (defScope s_thing_anew) [] [] (He.ga K "thing_anew") fd
  d_Maker___init__ : ∃ fd, FunD K "__init__" "Maker.__init__" (defArgs s_Maker___init__) (defBody s_Maker___init__) (defScope s_Maker___init__) [] [] (He.ma K (He.ga K "Maker") "__init__") fd
  d_Maker_fresh : ∃ fd, FunD K "fresh" "Maker.fresh" (defArgs s_Maker_fresh) (defBody s_Maker_fresh) (defScope s_Maker_fresh) [] [] (He.ma K (He.ga K "Maker") "fresh") fd
  d_Maker_made : ∃ fd, FunD K "made" "Maker.made" (defArgs s_Maker_made) (defBody s_Maker_made) (defScope s_Maker_made) [] [] (He.ma K (He.ga K "Maker") "made") fd
  d_Maker_steps : ∃ fd, FunD K "steps" "Maker.steps" (defArgs s_Maker_steps) (defBody s_Maker_steps) (defScope s_Maker_steps) [] [] (He.ma K (He.ga K "Maker") "steps") fd
  d_Maker_call : ∃ fd, FunD K "call" "Maker.call" (defArgs s_Maker_call) (defBody s_Maker_call) (defScope s_Maker_call) [] [] (He.ma K (He.ga K "Maker") "call") fd
  d_Maker_held : ∃ fd, FunD K "held" "Maker.held" (defArgs s_Maker_held) (defBody s_Maker_held) (defScope s_Maker_held) [] [] (He.ma K (He.ga K "Maker") "held") fd
  d_anew : ∃ fd, FunD K "anew" "anew" (defArgs s_anew) (defBody s_anew) (defScope s_anew) [] [] (He.ga K "anew") fd
  d_placed : ∃ fd, FunD K "placed" "placed" (defArgs s_placed) (defBody s_placed) (defScope s_placed) [] [] (He.ga K "placed") fd
  d_wanted : ∃ fd, FunD K "wanted" "wanted" (defArgs s_wanted) (defBody s_wanted) (defScope s_wanted) [] [] (He.ga K "wanted") fd
  d_thing_words : ∃ fd, FunD K "thing_words" "thing_words" (defArgs s_thing_words) (defBody s_thing_words) (defScope s_thing_words) [] [] (He.ga K "thing_words") fd
  d_body_words : ∃ fd, FunD K "body_words" "body_words" (defArgs s_body_words) (defBody s_body_words) (defScope s_body_words) [] [] (He.ga K "body_words") fd
  d_written : ∃ fd, FunD K "written" "written" (defArgs s_written) (defBody s_written) (defScope s_written) [] [] (He.ga K "written") fd
  d_sets : ∃ fd, FunD K "sets" "sets" (defArgs s_sets) (defBody s_sets) (defScope s_sets) [] [] (He.ga K "sets") fd
  d_may_set : ∃ fd, FunD K "may_set" "may_set" (defArgs s_may_set) (defBody s_may_set) (defScope s_may_set) [] [] (He.ga K "may_set") fd
  d__law_taken : ∃ fd, FunD K "_law_taken" "_law_taken" (defArgs s__law_taken) (defBody s__law_taken) (defScope s__law_taken) [] [] (He.ga K "_law_taken") fd
  d__law_thing : ∃ fd, FunD K "_law_thing" "_law_thing" (defArgs s__law_thing) (defBody s__law_thing) (defScope s__law_thing) [] [] (He.ga K "_law_thing") fd
  d__law_place : ∃ fd, FunD K "_law_place" "_law_place" (defArgs s__law_place) (defBody s__law_place) (defScope s__law_place) [] [] (He.ga K "_law_place") fd
  d__law_step : ∃ fd, FunD K "_law_step" "_law_step" (defArgs s__law_step) (defBody s__law_step) (defScope s__law_step) [] [] (He.ga K "_law_step") fd
  d__law_body : ∃ fd, FunD K "_law_body" "_law_body" (defArgs s__law_body) (defBody s__law_body) (defScope s__law_body) [] [] (He.ga K "_law_body") fd
  d__law_program : ∃ fd, FunD K "_law_program" "_law_program" (defArgs s__law_program) (defBody s__law_program) (defScope s__law_program) [] [] (He.ga K "_law_program") fd
  d__law_ways : ∃ fd, FunD K "_law_ways" "_law_ways" (defArgs s__law_ways) (defBody s__law_ways) (defScope s__law_ways) [] [] (He.ga K "_law_ways") fd
  d__law_cells : ∃ fd, FunD K "_law_cells" "_law_cells" (defArgs s__law_cells) (defBody s__law_cells) (defScope s__law_cells) [] [] (He.ga K "_law_cells") fd
  d__law_is_number : ∃ fd, FunD K "_law_is_number" "_law_is_number" (defArgs s__law_is_number) (defBody s__law_is_number) (defScope s__law_is_number) [] [] (He.ga K "_law_is_number") fd
  d__law_is_thing : ∃ fd, FunD K "_law_is_thing" "_law_is_thing" (defArgs s__law_is_thing) (defBody s__law_is_thing) (defScope s__law_is_thing) [] [] (He.ga K "_law_is_thing") fd
  d__law_is_step : ∃ fd, FunD K "_law_is_step" "_law_is_step" (defArgs s__law_is_step) (defBody s__law_is_step) (defScope s__law_is_step) [] [] (He.ga K "_law_is_step") fd
  d__law_is_body : ∃ fd, FunD K "_law_is_body" "_law_is_body" (defArgs s__law_is_body) (defBody s__law_is_body) (defScope s__law_is_body) [] [] (He.ga K "_law_is_body") fd
  d__law_count : ∃ fd, FunD K "_law_count" "_law_count" (defArgs s__law_count) (defBody s__law_count) (defScope s__law_count) [] [] (He.ga K "_law_count") fd
  d__law_is_program : ∃ fd, FunD K "_law_is_program" "_law_is_program" (defArgs s__law_is_program) (defBody s__law_is_program) (defScope s__law_is_program) [] [] (He.ga K "_law_is_program") fd
  d__law_deep : ∃ fd, FunD K "_law_deep" "_law_deep" (defArgs s__law_deep) (defBody s__law_deep) (defScope s__law_deep) [] [] (He.ga K "_law_deep") fd
  d__law_around : ∃ fd, FunD K "_law_around" "_law_around" (defArgs s__law_around) (defBody s__law_around) (defScope s__law_around) [] [] (He.ga K "_law_around") fd
  d__law_odd_step : ∃ fd, FunD K "_law_odd_step" "_law_odd_step" (defArgs s__law_odd_step) (defBody s__law_odd_step) (defScope s__law_odd_step) [] [] (He.ga K "_law_odd_step") fd
  d__law_spoilt : ∃ fd, FunD K "_law_spoilt" "_law_spoilt" (defArgs s__law_spoilt) (defBody s__law_spoilt) (defScope s__law_spoilt) [] [] (He.ga K "_law_spoilt") fd
  d__law_works : ∃ fd, FunD K "_law_works" "_law_works" (defArgs s__law_works) (defBody s__law_works) (defScope s__law_works) [] [] (He.ga K "_law_works") fd
  d__law_others : ∃ fd, FunD K "_law_others" "_law_others" (defArgs s__law_others) (defBody s__law_others) (defScope s__law_others) [] [] (He.ga K "_law_others") fd
  d__law_word : ∃ fd, FunD K "_law_word" "_law_word" (defArgs s__law_word) (defBody s__law_word) (defScope s__law_word) [] [] (He.ga K "_law_word") fd
  d_law : ∃ fd, FunD K "law" "law" (defArgs s_law) (defBody s_law) (defScope s_law) [] [] (He.ga K "law") fd
section
variable {K : PySem.W.Frag} {mg : Str → Option Value} (T : Tx K mg)
include T
noncomputable def Tx.fd_BadText___init__ : FuncData := Classical.choose T.d_BadText___init__
theorem Tx.F_BadText___init__ : FunD K "__init__" "BadText.__init__" (defArgs s_BadText___init__) (defBody s_BadText___init__) (defScope s_BadText___init__) [] [] (He.ma K (He.ga K "BadText") "__init__") T.fd_BadText___init__ := Classical.choose_spec T.d_BadText___init__
theorem Tx.k_BadText___init__ : PySem.W.keepIn K (.ref (He.ma K (He.ga K "BadText") "__init__")) = true := T.F_BadText___init__.kp
theorem Tx.bd_BadText___init__ : Binds K T.fd_BadText___init__ ["self", "row"] [] := T.F_BadText___init__.bindsN fun _ _ _ _ _ _ us hl => match us, hl with | [_, _], _ => rfl
abbrev Fn_BadText___init__ (P : Program) (w : World) (base : Heap) (CX : CXT) (k : Nat) (sp : Sp) : Prop := FnOk P w K mg base CX k (He.ma K (He.ga K "BadText") "__init__") T.fd_BadText___init__ ["self", "row"] sp
noncomputable def Tx.fd_is_number : FuncData := Classical.choose T.d_is_number
theorem Tx.F_is_number : FunD K "is_number" "is_number" (defArgs s_is_number) (defBody s_is_number) (defScope s_is_number) [] [] (He.ga K "is_number") T.fd_is_number := Classical.choose_spec T.d_is_number
theorem Tx.k_is_number : PySem.W.keepIn K (.ref (He.ga K "is_number")) = true := T.F_is_number.kp
theorem Tx.bd_is_number : Binds K T.fd_is_number ["part", "below"] [] := T.F_is_number.bindsN fun _ _ _ _ _ _ us hl => match us, hl with | [_, _], _ => rfl
abbrev Fn_is_number (P : Program) (w : World) (base : Heap) (CX : CXT) (k : Nat) (sp : Sp) : Prop := FnOk P w K mg base CX k (He.ga K "is_number") T.fd_is_number ["part", "below"] sp
noncomputable def Tx.fd_is_thing : FuncData := Classical.choose T.d_is_thing
theorem Tx.F_is_thing : FunD K "is_thing" "is_thing" (defArgs s_is_thing) (defBody s_is_thing) (defScope s_is_thing) [] [] (He.ga K "is_thing") T.fd_is_thing := Classical.choose_spec T.d_is_thing
theorem Tx.k_is_thing : PySem.W.keepIn K (.ref (He.ga K "is_thing")) = true := T.F_is_thing.kp
theorem Tx.bd_is_thing : Binds K T.fd_is_thing ["thing", "sizes", "within"] [] := T.F_is_thing.bindsN fun _ _ _ _ _ _ us hl => match us, hl with | [_, _, _], _ => rfl
abbrev Fn_is_thing (P : Program) (w : World) (base : Heap) (CX : CXT) (k : Nat) (sp : Sp) : Prop := FnOk P w K mg base CX k (He.ga K "is_thing") T.fd_is_thing ["thing", "sizes", "within"] sp
noncomputable def Tx.fd_is_call : FuncData := Classical.choose T.d_is_call
theorem Tx.F_is_call : FunD K "is_call" "is_call" (defArgs s_is_call) (defBody s_is_call) (defScope s_is_call) [] [] (He.ga K "is_call") T.fd_is_call := Classical.choose_spec T.d_is_call
theorem Tx.k_is_call : PySem.W.keepIn K (.ref (He.ga K "is_call")) = true := T.F_is_call.kp
theorem Tx.bd_is_call : Binds K T.fd_is_call ["program", "at", "step", "sizes"] [] := T.F_is_call.bindsN fun _ _ _ _ _ _ us hl => match us, hl with | [_, _, _, _], _ => rfl
abbrev Fn_is_call (P : Program) (w : World) (base : Heap) (CX : CXT) (k : Nat) (sp : Sp) : Prop := FnOk P w K mg base CX k (He.ga K "is_call") T.fd_is_call ["program", "at", "step", "sizes"] sp
noncomputable def Tx.fd_is_step : FuncData := Classical.choose T.d_is_step
theorem Tx.F_is_step : FunD K "is_step" "is_step" (defArgs s_is_step) (defBody s_is_step) (defScope s_is_step) [] [] (He.ga K "is_step") T.fd_is_step := Classical.choose_spec T.d_is_step
theorem Tx.k_is_step : PySem.W.keepIn K (.ref (He.ga K "is_step")) = true := T.F_is_step.kp
theorem Tx.bd_is_step : Binds K T.fd_is_step ["program", "at", "step", "within"] [] := T.F_is_step.bindsN fun _ _ _ _ _ _ us hl => match us, hl with | [_, _, _, _], _ => rfl
abbrev Fn_is_step (P : Program) (w : World) (base : Heap) (CX : CXT) (k : Nat) (sp : Sp) : Prop := FnOk P w K mg base CX k (He.ga K "is_step") T.fd_is_step ["program", "at", "step", "within"] sp
noncomputable def Tx.fd_is_body : FuncData := Classical.choose T.d_is_body
theorem Tx.F_is_body : FunD K "is_body" "is_body" (defArgs s_is_body) (defBody s_is_body) (defScope s_is_body) [] [] (He.ga K "is_body") T.fd_is_body := Classical.choose_spec T.d_is_body
theorem Tx.k_is_body : PySem.W.keepIn K (.ref (He.ga K "is_body")) = true := T.F_is_body.kp
theorem Tx.bd_is_body : Binds K T.fd_is_body ["program", "at", "body", "within"] [] := T.F_is_body.bindsN fun _ _ _ _ _ _ us hl => match us, hl with | [_, _, _, _], _ => rfl
abbrev Fn_is_body (P : Program) (w : World) (base : Heap) (CX : CXT) (k : Nat) (sp : Sp) : Prop := FnOk P w K mg base CX k (He.ga K "is_body") T.fd_is_body ["program", "at", "body", "within"] sp
noncomputable def Tx.fd_bodies_of : FuncData := Classical.choose T.d_bodies_of
theorem Tx.F_bodies_of : FunD K "bodies_of" "bodies_of" (defArgs s_bodies_of) (defBody s_bodies_of) (defScope s_bodies_of) [] [] (He.ga K "bodies_of") T.fd_bodies_of := Classical.choose_spec T.d_bodies_of
theorem Tx.k_bodies_of : PySem.W.keepIn K (.ref (He.ga K "bodies_of")) = true := T.F_bodies_of.kp
theorem Tx.bd_bodies_of : Binds K T.fd_bodies_of ["step"] [] := T.F_bodies_of.bindsN fun _ _ _ _ _ _ us hl => match us, hl with | [_], _ => rfl
abbrev Fn_bodies_of (P : Program) (w : World) (base : Heap) (CX : CXT) (k : Nat) (sp : Sp) : Prop := FnOk P w K mg base CX k (He.ga K "bodies_of") T.fd_bodies_of ["step"] sp
noncomputable def Tx.fd_count : FuncData := Classical.choose T.d_count
theorem Tx.F_count : FunD K "count" "count" (defArgs s_count) (defBody s_count) (defScope s_count) [] [] (He.ga K "count") T.fd_count := Classical.choose_spec T.d_count
theorem Tx.k_count : PySem.W.keepIn K (.ref (He.ga K "count")) = true := T.F_count.kp
theorem Tx.bd_count : Binds K T.fd_count ["body"] [] := T.F_count.bindsN fun _ _ _ _ _ _ us hl => match us, hl with | [_], _ => rfl
abbrev Fn_count (P : Program) (w : World) (base : Heap) (CX : CXT) (k : Nat) (sp : Sp) : Prop := FnOk P w K mg base CX k (He.ga K "count") T.fd_count ["body"] sp
noncomputable def Tx.fd_is_work : FuncData := Classical.choose T.d_is_work
theorem Tx.F_is_work : FunD K "is_work" "is_work" (defArgs s_is_work) (defBody s_is_work) (defScope s_is_work) [] [] (He.ga K "is_work") T.fd_is_work := Classical.choose_spec T.d_is_work
theorem Tx.k_is_work : PySem.W.keepIn K (.ref (He.ga K "is_work")) = true := T.F_is_work.kp
theorem Tx.bd_is_work : Binds K T.fd_is_work ["program", "at"] [] := T.F_is_work.bindsN fun _ _ _ _ _ _ us hl => match us, hl with | [_, _], _ => rfl
abbrev Fn_is_work (P : Program) (w : World) (base : Heap) (CX : CXT) (k : Nat) (sp : Sp) : Prop := FnOk P w K mg base CX k (He.ga K "is_work") T.fd_is_work ["program", "at"] sp
noncomputable def Tx.fd_need_program : FuncData := Classical.choose T.d_need_program
theorem Tx.F_need_program : FunD K "need_program" "need_program" (defArgs s_need_program) (defBody s_need_program) (defScope s_need_program) [] [] (He.ga K "need_program") T.fd_need_program := Classical.choose_spec T.d_need_program
theorem Tx.k_need_program : PySem.W.keepIn K (.ref (He.ga K "need_program")) = true := T.F_need_program.kp
theorem Tx.bd_need_program : Binds K T.fd_need_program ["program"] [] := T.F_need_program.bindsN fun _ _ _ _ _ _ us hl => match us, hl with | [_], _ => rfl
abbrev Fn_need_program (P : Program) (w : World) (base : Heap) (CX : CXT) (k : Nat) (sp : Sp) : Prop := FnOk P w K mg base CX k (He.ga K "need_program") T.fd_need_program ["program"] sp
noncomputable def Tx.fd_need_ways : FuncData := Classical.choose T.d_need_ways
theorem Tx.F_need_ways : FunD K "need_ways" "need_ways" (defArgs s_need_ways) (defBody s_need_ways) (defScope s_need_ways) [] [] (He.ga K "need_ways") T.fd_need_ways := Classical.choose_spec T.d_need_ways
theorem Tx.k_need_ways : PySem.W.keepIn K (.ref (He.ga K "need_ways")) = true := T.F_need_ways.kp
theorem Tx.bd_need_ways : Binds K T.fd_need_ways ["program", "ways"] [] := T.F_need_ways.bindsN fun _ _ _ _ _ _ us hl => match us, hl with | [_, _], _ => rfl
abbrev Fn_need_ways (P : Program) (w : World) (base : Heap) (CX : CXT) (k : Nat) (sp : Sp) : Prop := FnOk P w K mg base CX k (He.ga K "need_ways") T.fd_need_ways ["program", "ways"] sp
noncomputable def Tx.fd_Frame___init__ : FuncData := Classical.choose T.d_Frame___init__
theorem Tx.F_Frame___init__ : FunD K "__init__" "Frame.__init__" (defArgs s_Frame___init__) (defBody s_Frame___init__) (defScope s_Frame___init__) [] [] (He.ma K (He.ga K "Frame") "__init__") T.fd_Frame___init__ := Classical.choose_spec T.d_Frame___init__
theorem Tx.k_Frame___init__ : PySem.W.keepIn K (.ref (He.ma K (He.ga K "Frame") "__init__")) = true := T.F_Frame___init__.kp
theorem Tx.bd_Frame___init__ : Binds K T.fd_Frame___init__ ["self"] [] := T.F_Frame___init__.bindsN fun _ _ _ _ _ _ us hl => match us, hl with | [_], _ => rfl
abbrev Fn_Frame___init__ (P : Program) (w : World) (base : Heap) (CX : CXT) (k : Nat) (sp : Sp) : Prop := FnOk P w K mg base CX k (He.ma K (He.ga K "Frame") "__init__") T.fd_Frame___init__ ["self"] sp
noncomputable def Tx.fd_Lent___init__ : FuncData := Classical.choose T.d_Lent___init__
theorem Tx.F_Lent___init__ : FunD K "__init__" "Lent.__init__" (defArgs s_Lent___init__) (defBody s_Lent___init__) (defScope s_Lent___init__) [] [] (He.ma K (He.ga K "Lent") "__init__") T.fd_Lent___init__ := Classical.choose_spec T.d_Lent___init__
theorem Tx.k_Lent___init__ : PySem.W.keepIn K (.ref (He.ma K (He.ga K "Lent") "__init__")) = true := T.F_Lent___init__.kp
theorem Tx.bd_Lent___init__ : Binds K T.fd_Lent___init__ ["self", "place", "through", "thing", "frame"] [] := T.F_Lent___init__.bindsN fun _ _ _ _ _ _ us hl => match us, hl with | [_, _, _, _, _], _ => rfl
abbrev Fn_Lent___init__ (P : Program) (w : World) (base : Heap) (CX : CXT) (k : Nat) (sp : Sp) : Prop := FnOk P w K mg base CX k (He.ma K (He.ga K "Lent") "__init__") T.fd_Lent___init__ ["self", "place", "through", "thing", "frame"] sp
noncomputable def Tx.fd_Run___init__ : FuncData := Classical.choose T.d_Run___init__
theorem Tx.F_Run___init__ : FunD K "__init__" "Run.__init__" (defArgs s_Run___init__) (defBody s_Run___init__) (defScope s_Run___init__) [] [] (He.ma K (He.ga K "Run") "__init__") T.fd_Run___init__ := Classical.choose_spec T.d_Run___init__
theorem Tx.k_Run___init__ : PySem.W.keepIn K (.ref (He.ma K (He.ga K "Run") "__init__")) = true := T.F_Run___init__.kp
theorem Tx.bd_Run___init__ : Binds K T.fd_Run___init__ ["self", "program", "ways", "cells"] [] := T.F_Run___init__.bindsN fun _ _ _ _ _ _ us hl => match us, hl with | [_, _, _, _], _ => rfl
abbrev Fn_Run___init__ (P : Program) (w : World) (base : Heap) (CX : CXT) (k : Nat) (sp : Sp) : Prop := FnOk P w K mg base CX k (He.ma K (He.ga K "Run") "__init__") T.fd_Run___init__ ["self", "program", "ways", "cells"] sp
noncomputable def Tx.fd_Run_fresh : FuncData := Classical.choose T.d_Run_fresh
theorem Tx.F_Run_fresh : FunD K "fresh" "Run.fresh" (defArgs s_Run_fresh) (defBody s_Run_fresh) (defScope s_Run_fresh) [] [] (He.ma K (He.ga K "Run") "fresh") T.fd_Run_fresh := Classical.choose_spec T.d_Run_fresh
theorem Tx.k_Run_fresh : PySem.W.keepIn K (.ref (He.ma K (He.ga K "Run") "fresh")) = true := T.F_Run_fresh.kp
theorem Tx.bd_Run_fresh : Binds K T.fd_Run_fresh ["self", "number"] [] := T.F_Run_fresh.bindsN fun _ _ _ _ _ _ us hl => match us, hl with | [_, _], _ => rfl
abbrev Fn_Run_fresh (P : Program) (w : World) (base : Heap) (CX : CXT) (k : Nat) (sp : Sp) : Prop := FnOk P w K mg base CX k (He.ma K (He.ga K "Run") "fresh") T.fd_Run_fresh ["self", "number"] sp
noncomputable def Tx.fd_Run_come : FuncData := Classical.choose T.d_Run_come
theorem Tx.F_Run_come : FunD K "come" "Run.come" (defArgs s_Run_come) (defBody s_Run_come) (defScope s_Run_come) [] [] (He.ma K (He.ga K "Run") "come") T.fd_Run_come := Classical.choose_spec T.d_Run_come
theorem Tx.k_Run_come : PySem.W.keepIn K (.ref (He.ma K (He.ga K "Run") "come")) = true := T.F_Run_come.kp
theorem Tx.bd_Run_come : Binds K T.fd_Run_come ["self", "place", "through"] [] := T.F_Run_come.bindsN fun _ _ _ _ _ _ us hl => match us, hl with | [_, _, _], _ => rfl
abbrev Fn_Run_come (P : Program) (w : World) (base : Heap) (CX : CXT) (k : Nat) (sp : Sp) : Prop := FnOk P w K mg base CX k (He.ma K (He.ga K "Run") "come") T.fd_Run_come ["self", "place", "through"] sp
noncomputable def Tx.fd_Run_find : FuncData := Classical.choose T.d_Run_find
theorem Tx.F_Run_find : FunD K "find" "Run.find" (defArgs s_Run_find) (defBody s_Run_find) (defScope s_Run_find) [] [] (He.ma K (He.ga K "Run") "find") T.fd_Run_find := Classical.choose_spec T.d_Run_find
theorem Tx.k_Run_find : PySem.W.keepIn K (.ref (He.ma K (He.ga K "Run") "find")) = true := T.F_Run_find.kp
theorem Tx.bd_Run_find : Binds K T.fd_Run_find ["self", "thing", "frame"] [] := T.F_Run_find.bindsN fun _ _ _ _ _ _ us hl => match us, hl with | [_, _, _], _ => rfl
abbrev Fn_Run_find (P : Program) (w : World) (base : Heap) (CX : CXT) (k : Nat) (sp : Sp) : Prop := FnOk P w K mg base CX k (He.ma K (He.ga K "Run") "find") T.fd_Run_find ["self", "thing", "frame"] sp
noncomputable def Tx.fd_Run_number : FuncData := Classical.choose T.d_Run_number
theorem Tx.F_Run_number : FunD K "number" "Run.number" (defArgs s_Run_number) (defBody s_Run_number) (defScope s_Run_number) [] [] (He.ma K (He.ga K "Run") "number") T.fd_Run_number := Classical.choose_spec T.d_Run_number
theorem Tx.k_Run_number : PySem.W.keepIn K (.ref (He.ma K (He.ga K "Run") "number")) = true := T.F_Run_number.kp
theorem Tx.bd_Run_number : Binds K T.fd_Run_number ["self", "thing", "frame"] [] := T.F_Run_number.bindsN fun _ _ _ _ _ _ us hl => match us, hl with | [_, _, _], _ => rfl
abbrev Fn_Run_number (P : Program) (w : World) (base : Heap) (CX : CXT) (k : Nat) (sp : Sp) : Prop := FnOk P w K mg base CX k (He.ma K (He.ga K "Run") "number") T.fd_Run_number ["self", "thing", "frame"] sp
noncomputable def Tx.fd_Run_do : FuncData := Classical.choose T.d_Run_do
theorem Tx.F_Run_do : FunD K "do" "Run.do" (defArgs s_Run_do) (defBody s_Run_do) (defScope s_Run_do) [] [] (He.ma K (He.ga K "Run") "do") T.fd_Run_do := Classical.choose_spec T.d_Run_do
theorem Tx.k_Run_do : PySem.W.keepIn K (.ref (He.ma K (He.ga K "Run") "do")) = true := T.F_Run_do.kp
theorem Tx.bd_Run_do : Binds K T.fd_Run_do ["self", "at", "frame"] [] := T.F_Run_do.bindsN fun _ _ _ _ _ _ us hl => match us, hl with | [_, _, _], _ => rfl
abbrev Fn_Run_do (P : Program) (w : World) (base : Heap) (CX : CXT) (k : Nat) (sp : Sp) : Prop := FnOk P w K mg base CX k (He.ma K (He.ga K "Run") "do") T.fd_Run_do ["self", "at", "frame"] sp
noncomputable def Tx.fd_Run_steps : FuncData := Classical.choose T.d_Run_steps
theorem Tx.F_Run_steps : FunD K "steps" "Run.steps" (defArgs s_Run_steps) (defBody s_Run_steps) (defScope s_Run_steps) [] [] (He.ma K (He.ga K "Run") "steps") T.fd_Run_steps := Classical.choose_spec T.d_Run_steps
theorem Tx.k_Run_steps : PySem.W.keepIn K (.ref (He.ma K (He.ga K "Run") "steps")) = true := T.F_Run_steps.kp
theorem Tx.bd_Run_steps : Binds K T.fd_Run_steps ["self", "body", "frame"] [] := T.F_Run_steps.bindsN fun _ _ _ _ _ _ us hl => match us, hl with | [_, _, _], _ => rfl
abbrev Fn_Run_steps (P : Program) (w : World) (base : Heap) (CX : CXT) (k : Nat) (sp : Sp) : Prop := FnOk P w K mg base CX k (He.ma K (He.ga K "Run") "steps") T.fd_Run_steps ["self", "body", "frame"] sp
noncomputable def Tx.fd_Run_put : FuncData := Classical.choose T.d_Run_put
theorem Tx.F_Run_put : FunD K "put" "Run.put" (defArgs s_Run_put) (defBody s_Run_put) (defScope s_Run_put) [] [] (He.ma K (He.ga K "Run") "put") T.fd_Run_put := Classical.choose_spec T.d_Run_put
theorem Tx.k_Run_put : PySem.W.keepIn K (.ref (He.ma K (He.ga K "Run") "put")) = true := T.F_Run_put.kp
theorem Tx.bd_Run_put : Binds K T.fd_Run_put ["self", "thing", "number", "frame"] [] := T.F_Run_put.bindsN fun _ _ _ _ _ _ us hl => match us, hl with | [_, _, _, _], _ => rfl
abbrev Fn_Run_put (P : Program) (w : World) (base : Heap) (CX : CXT) (k : Nat) (sp : Sp) : Prop := FnOk P w K mg base CX k (He.ma K (He.ga K "Run") "put") T.fd_Run_put ["self", "thing", "number", "frame"] sp
noncomputable def Tx.fd_Run_call : FuncData := Classical.choose T.d_Run_call
theorem Tx.F_Run_call : FunD K "call" "Run.call" (defArgs s_Run_call) (defBody s_Run_call) (defScope s_Run_call) [] [] (He.ma K (He.ga K "Run") "call") T.fd_Run_call := Classical.choose_spec T.d_Run_call
theorem Tx.k_Run_call : PySem.W.keepIn K (.ref (He.ma K (He.ga K "Run") "call")) = true := T.F_Run_call.kp
theorem Tx.bd_Run_call : Binds K T.fd_Run_call ["self", "at", "things", "frame"] [] := T.F_Run_call.bindsN fun _ _ _ _ _ _ us hl => match us, hl with | [_, _, _, _], _ => rfl
abbrev Fn_Run_call (P : Program) (w : World) (base : Heap) (CX : CXT) (k : Nat) (sp : Sp) : Prop := FnOk P w K mg base CX k (He.ma K (He.ga K "Run") "call") T.fd_Run_call ["self", "at", "things", "frame"] sp
noncomputable def Tx.fd_out_of : FuncData := Classical.choose T.d_out_of
theorem Tx.F_out_of : FunD K "out_of" "out_of" (defArgs s_out_of) (defBody s_out_of) (defScope s_out_of) [] [] (He.ga K "out_of") T.fd_out_of := Classical.choose_spec T.d_out_of
theorem Tx.k_out_of : PySem.W.keepIn K (.ref (He.ga K "out_of")) = true := T.F_out_of.kp
theorem Tx.bd_out_of : Binds K T.fd_out_of ["program", "ways", "cells"] [] := T.F_out_of.bindsN fun _ _ _ _ _ _ us hl => match us, hl with | [_, _, _], _ => rfl
abbrev Fn_out_of (P : Program) (w : World) (base : Heap) (CX : CXT) (k : Nat) (sp : Sp) : Prop := FnOk P w K mg base CX k (He.ga K "out_of") T.fd_out_of ["program", "ways", "cells"] sp
noncomputable def Tx.fd_ran : FuncData := Classical.choose T.d_ran
theorem Tx.F_ran : FunD K "ran" "ran" (defArgs s_ran) (defBody s_ran) (defScope s_ran) [] [] (He.ga K "ran") T.fd_ran := Classical.choose_spec T.d_ran
theorem Tx.k_ran : PySem.W.keepIn K (.ref (He.ga K "ran")) = true := T.F_ran.kp
theorem Tx.bd_ran : Binds K T.fd_ran ["program", "ways", "cells"] [] := T.F_ran.bindsN fun _ _ _ _ _ _ us hl => match us, hl with | [_, _, _], _ => rfl
abbrev Fn_ran (P : Program) (w : World) (base : Heap) (CX : CXT) (k : Nat) (sp : Sp) : Prop := FnOk P w K mg base CX k (He.ga K "ran") T.fd_ran ["program", "ways", "cells"] sp
noncomputable def Tx.fd_all_cells : FuncData := Classical.choose T.d_all_cells
theorem Tx.F_all_cells : FunD K "all_cells" "all_cells" (defArgs s_all_cells) (defBody s_all_cells) (defScope s_all_cells) [] [] (He.ga K "all_cells") T.fd_all_cells := Classical.choose_spec T.d_all_cells
theorem Tx.k_all_cells : PySem.W.keepIn K (.ref (He.ga K "all_cells")) = true := T.F_all_cells.kp
theorem Tx.bd_all_cells : Binds K T.fd_all_cells [] [] := T.F_all_cells.bindsN fun _ _ _ _ _ _ us hl => match us, hl with | [], _ => rfl
abbrev Fn_all_cells (P : Program) (w : World) (base : Heap) (CX : CXT) (k : Nat) (sp : Sp) : Prop := FnOk P w K mg base CX k (He.ga K "all_cells") T.fd_all_cells [] sp
noncomputable def Tx.fd_parted : FuncData := Classical.choose T.d_parted
theorem Tx.F_parted : FunD K "parted" "parted" (defArgs s_parted) (defBody s_parted) (defScope s_parted) [] [] (He.ga K "parted") T.fd_parted := Classical.choose_spec T.d_parted
theorem Tx.k_parted : PySem.W.keepIn K (.ref (He.ga K "parted")) = true := T.F_parted.kp
theorem Tx.bd_parted : Binds K T.fd_parted ["program", "one", "other"] [] := T.F_parted.bindsN fun _ _ _ _ _ _ us hl => match us, hl with | [_, _, _], _ => rfl
abbrev Fn_parted (P : Program) (w : World) (base : Heap) (CX : CXT) (k : Nat) (sp : Sp) : Prop := FnOk P w K mg base CX k (He.ga K "parted") T.fd_parted ["program", "one", "other"] sp
noncomputable def Tx.fd_mixed : FuncData := Classical.choose T.d_mixed
theorem Tx.F_mixed : FunD K "mixed" "mixed" (defArgs s_mixed) (defBody s_mixed) (defScope s_mixed) [] [] (He.ga K "mixed") T.fd_mixed := Classical.choose_spec T.d_mixed
theorem Tx.k_mixed : PySem.W.keepIn K (.ref (He.ga K "mixed")) = true := T.F_mixed.kp
theorem Tx.bd_mixed : Binds K T.fd_mixed ["program", "ways"] [] := T.F_mixed.bindsN fun _ _ _ _ _ _ us hl => match us, hl with | [_, _], _ => rfl
abbrev Fn_mixed (P : Program) (w : World) (base : Heap) (CX : CXT) (k : Nat) (sp : Sp) : Prop := FnOk P w K mg base CX k (He.ga K "mixed") T.fd_mixed ["program", "ways"] sp
noncomputable def Tx.fd_all_ways : FuncData := Classical.choose T.d_all_ways
theorem Tx.F_all_ways : FunD K "all_ways" "all_ways" (defArgs s_all_ways) (defBody s_all_ways) (defScope s_all_ways) [] [] (He.ga K "all_ways") T.fd_all_ways := Classical.choose_spec T.d_all_ways
theorem Tx.k_all_ways : PySem.W.keepIn K (.ref (He.ga K "all_ways")) = true := T.F_all_ways.kp
theorem Tx.bd_all_ways : Binds K T.fd_all_ways ["program"] [] := T.F_all_ways.bindsN fun _ _ _ _ _ _ us hl => match us, hl with | [_], _ => rfl
abbrev Fn_all_ways (P : Program) (w : World) (base : Heap) (CX : CXT) (k : Nat) (sp : Sp) : Prop := FnOk P w K mg base CX k (He.ga K "all_ways") T.fd_all_ways ["program"] sp
noncomputable def Tx.fd_classes : FuncData := Classical.choose T.d_classes
theorem Tx.F_classes : FunD K "classes" "classes" (defArgs s_classes) (defBody s_classes) (defScope s_classes) [] [] (He.ga K "classes") T.fd_classes := Classical.choose_spec T.d_classes
theorem Tx.k_classes : PySem.W.keepIn K (.ref (He.ga K "classes")) = true := T.F_classes.kp
theorem Tx.bd_classes : Binds K T.fd_classes ["program"] [] := T.F_classes.bindsN fun _ _ _ _ _ _ us hl => match us, hl with | [_], _ => rfl
abbrev Fn_classes (P : Program) (w : World) (base : Heap) (CX : CXT) (k : Nat) (sp : Sp) : Prop := FnOk P w K mg base CX k (He.ga K "classes") T.fd_classes ["program"] sp
noncomputable def Tx.fd_need_small : FuncData := Classical.choose T.d_need_small
theorem Tx.F_need_small : FunD K "need_small" "need_small" (defArgs s_need_small) (defBody s_need_small) (defScope s_need_small) [] [] (He.ga K "need_small") T.fd_need_small := Classical.choose_spec T.d_need_small
theorem Tx.k_need_small : PySem.W.keepIn K (.ref (He.ga K "need_small")) = true := T.F_need_small.kp
theorem Tx.bd_need_small : Binds K T.fd_need_small ["program"] [] := T.F_need_small.bindsN fun _ _ _ _ _ _ us hl => match us, hl with | [_], _ => rfl
abbrev Fn_need_small (P : Program) (w : World) (base : Heap) (CX : CXT) (k : Nat) (sp : Sp) : Prop := FnOk P w K mg base CX k (He.ga K "need_small") T.fd_need_small ["program"] sp
noncomputable def Tx.fd_thing_anew : FuncData := Classical.choose T.d_thing_anew
theorem Tx.F_thing_anew : FunD K "thing_anew" "thing_anew" (defArgs s_thing_anew) (defBody s_thing_anew) (defScope s_thing_anew) [] [] (He.ga K "thing_anew") T.fd_thing_anew := Classical.choose_spec T.d_thing_anew
theorem Tx.k_thing_anew : PySem.W.keepIn K (.ref (He.ga K "thing_anew")) = true := T.F_thing_anew.kp
theorem Tx.bd_thing_anew : Binds K T.fd_thing_anew ["thing", "news"] [] := T.F_thing_anew.bindsN fun _ _ _ _ _ _ us hl => match us, hl with | [_, _], _ => rfl
abbrev Fn_thing_anew (P : Program) (w : World) (base : Heap) (CX : CXT) (k : Nat) (sp : Sp) : Prop := FnOk P w K mg base CX k (He.ga K "thing_anew") T.fd_thing_anew ["thing", "news"] sp
noncomputable def Tx.fd_Maker___init__ : FuncData := Classical.choose T.d_Maker___init__
theorem Tx.F_Maker___init__ : FunD K "__init__" "Maker.__init__" (defArgs s_Maker___init__) (defBody s_Maker___init__) (defScope s_Maker___init__) [] [] (He.ma K (He.ga K "Maker") "__init__") T.fd_Maker___init__ := Classical.choose_spec T.d_Maker___init__
theorem Tx.k_Maker___init__ : PySem.W.keepIn K (.ref (He.ma K (He.ga K "Maker") "__init__")) = true := T.F_Maker___init__.kp
theorem Tx.bd_Maker___init__ : Binds K T.fd_Maker___init__ ["self", "work", "at", "ways", "frozen"] [] := T.F_Maker___init__.bindsN fun _ _ _ _ _ _ us hl => match us, hl with | [_, _, _, _, _], _ => rfl
abbrev Fn_Maker___init__ (P : Program) (w : World) (base : Heap) (CX : CXT) (k : Nat) (sp : Sp) : Prop := FnOk P w K mg base CX k (He.ma K (He.ga K "Maker") "__init__") T.fd_Maker___init__ ["self", "work", "at", "ways", "frozen"] sp
noncomputable def Tx.fd_Maker_fresh : FuncData := Classical.choose T.d_Maker_fresh
theorem Tx.F_Maker_fresh : FunD K "fresh" "Maker.fresh" (defArgs s_Maker_fresh) (defBody s_Maker_fresh) (defScope s_Maker_fresh) [] [] (He.ma K (He.ga K "Maker") "fresh") T.fd_Maker_fresh := Classical.choose_spec T.d_Maker_fresh
theorem Tx.k_Maker_fresh : PySem.W.keepIn K (.ref (He.ma K (He.ga K "Maker") "fresh")) = true := T.F_Maker_fresh.kp
theorem Tx.bd_Maker_fresh : Binds K T.fd_Maker_fresh ["self"] [] := T.F_Maker_fresh.bindsN fun _ _ _ _ _ _ us hl => match us, hl with | [_], _ => rfl
abbrev Fn_Maker_fresh (P : Program) (w : World) (base : Heap) (CX : CXT) (k : Nat) (sp : Sp) : Prop := FnOk P w K mg base CX k (He.ma K (He.ga K "Maker") "fresh") T.fd_Maker_fresh ["self"] sp
noncomputable def Tx.fd_Maker_made : FuncData := Classical.choose T.d_Maker_made
theorem Tx.F_Maker_made : FunD K "made" "Maker.made" (defArgs s_Maker_made) (defBody s_Maker_made) (defScope s_Maker_made) [] [] (He.ma K (He.ga K "Maker") "made") T.fd_Maker_made := Classical.choose_spec T.d_Maker_made
theorem Tx.k_Maker_made : PySem.W.keepIn K (.ref (He.ma K (He.ga K "Maker") "made")) = true := T.F_Maker_made.kp
theorem Tx.bd_Maker_made : Binds K T.fd_Maker_made ["self"] [] := T.F_Maker_made.bindsN fun _ _ _ _ _ _ us hl => match us, hl with | [_], _ => rfl
abbrev Fn_Maker_made (P : Program) (w : World) (base : Heap) (CX : CXT) (k : Nat) (sp : Sp) : Prop := FnOk P w K mg base CX k (He.ma K (He.ga K "Maker") "made") T.fd_Maker_made ["self"] sp
noncomputable def Tx.fd_Maker_steps : FuncData := Classical.choose T.d_Maker_steps
theorem Tx.F_Maker_steps : FunD K "steps" "Maker.steps" (defArgs s_Maker_steps) (defBody s_Maker_steps) (defScope s_Maker_steps) [] [] (He.ma K (He.ga K "Maker") "steps") T.fd_Maker_steps := Classical.choose_spec T.d_Maker_steps
theorem Tx.k_Maker_steps : PySem.W.keepIn K (.ref (He.ma K (He.ga K "Maker") "steps")) = true := T.F_Maker_steps.kp
theorem Tx.bd_Maker_steps : Binds K T.fd_Maker_steps ["self", "body"] [] := T.F_Maker_steps.bindsN fun _ _ _ _ _ _ us hl => match us, hl with | [_, _], _ => rfl
abbrev Fn_Maker_steps (P : Program) (w : World) (base : Heap) (CX : CXT) (k : Nat) (sp : Sp) : Prop := FnOk P w K mg base CX k (He.ma K (He.ga K "Maker") "steps") T.fd_Maker_steps ["self", "body"] sp
noncomputable def Tx.fd_Maker_call : FuncData := Classical.choose T.d_Maker_call
theorem Tx.F_Maker_call : FunD K "call" "Maker.call" (defArgs s_Maker_call) (defBody s_Maker_call) (defScope s_Maker_call) [] [] (He.ma K (He.ga K "Maker") "call") T.fd_Maker_call := Classical.choose_spec T.d_Maker_call
theorem Tx.k_Maker_call : PySem.W.keepIn K (.ref (He.ma K (He.ga K "Maker") "call")) = true := T.F_Maker_call.kp
theorem Tx.bd_Maker_call : Binds K T.fd_Maker_call ["self", "step"] [] := T.F_Maker_call.bindsN fun _ _ _ _ _ _ us hl => match us, hl with | [_, _], _ => rfl
abbrev Fn_Maker_call (P : Program) (w : World) (base : Heap) (CX : CXT) (k : Nat) (sp : Sp) : Prop := FnOk P w K mg base CX k (He.ma K (He.ga K "Maker") "call") T.fd_Maker_call ["self", "step"] sp
noncomputable def Tx.fd_Maker_held : FuncData := Classical.choose T.d_Maker_held
theorem Tx.F_Maker_held : FunD K "held" "Maker.held" (defArgs s_Maker_held) (defBody s_Maker_held) (defScope s_Maker_held) [] [] (He.ma K (He.ga K "Maker") "held") T.fd_Maker_held := Classical.choose_spec T.d_Maker_held
theorem Tx.k_Maker_held : PySem.W.keepIn K (.ref (He.ma K (He.ga K "Maker") "held")) = true := T.F_Maker_held.kp
theorem Tx.bd_Maker_held : Binds K T.fd_Maker_held ["self", "thing", "ahead"] [] := T.F_Maker_held.bindsN fun _ _ _ _ _ _ us hl => match us, hl with | [_, _, _], _ => rfl
abbrev Fn_Maker_held (P : Program) (w : World) (base : Heap) (CX : CXT) (k : Nat) (sp : Sp) : Prop := FnOk P w K mg base CX k (He.ma K (He.ga K "Maker") "held") T.fd_Maker_held ["self", "thing", "ahead"] sp
noncomputable def Tx.fd_anew : FuncData := Classical.choose T.d_anew
theorem Tx.F_anew : FunD K "anew" "anew" (defArgs s_anew) (defBody s_anew) (defScope s_anew) [] [] (He.ga K "anew") T.fd_anew := Classical.choose_spec T.d_anew
theorem Tx.k_anew : PySem.W.keepIn K (.ref (He.ga K "anew")) = true := T.F_anew.kp
theorem Tx.bd_anew : Binds K T.fd_anew ["program", "ways", "frozen"] [] := T.F_anew.bindsN fun _ _ _ _ _ _ us hl => match us, hl with | [_, _, _], _ => rfl
abbrev Fn_anew (P : Program) (w : World) (base : Heap) (CX : CXT) (k : Nat) (sp : Sp) : Prop := FnOk P w K mg base CX k (He.ga K "anew") T.fd_anew ["program", "ways", "frozen"] sp
noncomputable def Tx.fd_placed : FuncData := Classical.choose T.d_placed
theorem Tx.F_placed : FunD K "placed" "placed" (defArgs s_placed) (defBody s_placed) (defScope s_placed) [] [] (He.ga K "placed") T.fd_placed := Classical.choose_spec T.d_placed
theorem Tx.k_placed : PySem.W.keepIn K (.ref (He.ga K "placed")) = true := T.F_placed.kp
theorem Tx.bd_placed : Binds K T.fd_placed ["program", "ways"] [] := T.F_placed.bindsN fun _ _ _ _ _ _ us hl => match us, hl with | [_, _], _ => rfl
abbrev Fn_placed (P : Program) (w : World) (base : Heap) (CX : CXT) (k : Nat) (sp : Sp) : Prop := FnOk P w K mg base CX k (He.ga K "placed") T.fd_placed ["program", "ways"] sp
noncomputable def Tx.fd_wanted : FuncData := Classical.choose T.d_wanted
theorem Tx.F_wanted : FunD K "wanted" "wanted" (defArgs s_wanted) (defBody s_wanted) (defScope s_wanted) [] [] (He.ga K "wanted") T.fd_wanted := Classical.choose_spec T.d_wanted
theorem Tx.k_wanted : PySem.W.keepIn K (.ref (He.ga K "wanted")) = true := T.F_wanted.kp
theorem Tx.bd_wanted : Binds K T.fd_wanted ["program", "ways"] [] := T.F_wanted.bindsN fun _ _ _ _ _ _ us hl => match us, hl with | [_, _], _ => rfl
abbrev Fn_wanted (P : Program) (w : World) (base : Heap) (CX : CXT) (k : Nat) (sp : Sp) : Prop := FnOk P w K mg base CX k (He.ga K "wanted") T.fd_wanted ["program", "ways"] sp
noncomputable def Tx.fd_thing_words : FuncData := Classical.choose T.d_thing_words
theorem Tx.F_thing_words : FunD K "thing_words" "thing_words" (defArgs s_thing_words) (defBody s_thing_words) (defScope s_thing_words) [] [] (He.ga K "thing_words") T.fd_thing_words := Classical.choose_spec T.d_thing_words
theorem Tx.k_thing_words : PySem.W.keepIn K (.ref (He.ga K "thing_words")) = true := T.F_thing_words.kp
theorem Tx.bd_thing_words : Binds K T.fd_thing_words ["thing"] [] := T.F_thing_words.bindsN fun _ _ _ _ _ _ us hl => match us, hl with | [_], _ => rfl
abbrev Fn_thing_words (P : Program) (w : World) (base : Heap) (CX : CXT) (k : Nat) (sp : Sp) : Prop := FnOk P w K mg base CX k (He.ga K "thing_words") T.fd_thing_words ["thing"] sp
noncomputable def Tx.fd_body_words : FuncData := Classical.choose T.d_body_words
theorem Tx.F_body_words : FunD K "body_words" "body_words" (defArgs s_body_words) (defBody s_body_words) (defScope s_body_words) [] [] (He.ga K "body_words") T.fd_body_words := Classical.choose_spec T.d_body_words
theorem Tx.k_body_words : PySem.W.keepIn K (.ref (He.ga K "body_words")) = true := T.F_body_words.kp
theorem Tx.bd_body_words : Binds K T.fd_body_words ["body"] [] := T.F_body_words.bindsN fun _ _ _ _ _ _ us hl => match us, hl with | [_], _ => rfl
abbrev Fn_body_words (P : Program) (w : World) (base : Heap) (CX : CXT) (k : Nat) (sp : Sp) : Prop := FnOk P w K mg base CX k (He.ga K "body_words") T.fd_body_words ["body"] sp
noncomputable def Tx.fd_written : FuncData := Classical.choose T.d_written
theorem Tx.F_written : FunD K "written" "written" (defArgs s_written) (defBody s_written) (defScope s_written) [] [] (He.ga K "written") T.fd_written := Classical.choose_spec T.d_written
theorem Tx.k_written : PySem.W.keepIn K (.ref (He.ga K "written")) = true := T.F_written.kp
theorem Tx.bd_written : Binds K T.fd_written ["program"] [] := T.F_written.bindsN fun _ _ _ _ _ _ us hl => match us, hl with | [_], _ => rfl
abbrev Fn_written (P : Program) (w : World) (base : Heap) (CX : CXT) (k : Nat) (sp : Sp) : Prop := FnOk P w K mg base CX k (He.ga K "written") T.fd_written ["program"] sp
noncomputable def Tx.fd_sets : FuncData := Classical.choose T.d_sets
theorem Tx.F_sets : FunD K "sets" "sets" (defArgs s_sets) (defBody s_sets) (defScope s_sets) [] [] (He.ga K "sets") T.fd_sets := Classical.choose_spec T.d_sets
theorem Tx.k_sets : PySem.W.keepIn K (.ref (He.ga K "sets")) = true := T.F_sets.kp
theorem Tx.bd_sets : Binds K T.fd_sets ["body", "param", "ways", "known"] [] := T.F_sets.bindsN fun _ _ _ _ _ _ us hl => match us, hl with | [_, _, _, _], _ => rfl
abbrev Fn_sets (P : Program) (w : World) (base : Heap) (CX : CXT) (k : Nat) (sp : Sp) : Prop := FnOk P w K mg base CX k (He.ga K "sets") T.fd_sets ["body", "param", "ways", "known"] sp
noncomputable def Tx.fd_may_set : FuncData := Classical.choose T.d_may_set
theorem Tx.F_may_set : FunD K "may_set" "may_set" (defArgs s_may_set) (defBody s_may_set) (defScope s_may_set) [] [] (He.ga K "may_set") T.fd_may_set := Classical.choose_spec T.d_may_set
theorem Tx.k_may_set : PySem.W.keepIn K (.ref (He.ga K "may_set")) = true := T.F_may_set.kp
theorem Tx.bd_may_set : Binds K T.fd_may_set ["program", "ways"] [] := T.F_may_set.bindsN fun _ _ _ _ _ _ us hl => match us, hl with | [_, _], _ => rfl
abbrev Fn_may_set (P : Program) (w : World) (base : Heap) (CX : CXT) (k : Nat) (sp : Sp) : Prop := FnOk P w K mg base CX k (He.ga K "may_set") T.fd_may_set ["program", "ways"] sp
noncomputable def Tx.fd__law_taken : FuncData := Classical.choose T.d__law_taken
theorem Tx.F__law_taken : FunD K "_law_taken" "_law_taken" (defArgs s__law_taken) (defBody s__law_taken) (defScope s__law_taken) [] [] (He.ga K "_law_taken") T.fd__law_taken := Classical.choose_spec T.d__law_taken
theorem Tx.k__law_taken : PySem.W.keepIn K (.ref (He.ga K "_law_taken")) = true := T.F__law_taken.kp
theorem Tx.bd__law_taken : Binds K T.fd__law_taken ["_law_row", "_law_many"] [] := T.F__law_taken.bindsN fun _ _ _ _ _ _ us hl => match us, hl with | [_, _], _ => rfl
abbrev Fn__law_taken (P : Program) (w : World) (base : Heap) (CX : CXT) (k : Nat) (sp : Sp) : Prop := FnOk P w K mg base CX k (He.ga K "_law_taken") T.fd__law_taken ["_law_row", "_law_many"] sp
noncomputable def Tx.fd__law_thing : FuncData := Classical.choose T.d__law_thing
theorem Tx.F__law_thing : FunD K "_law_thing" "_law_thing" (defArgs s__law_thing) (defBody s__law_thing) (defScope s__law_thing) [] [] (He.ga K "_law_thing") T.fd__law_thing := Classical.choose_spec T.d__law_thing
theorem Tx.k__law_thing : PySem.W.keepIn K (.ref (He.ga K "_law_thing")) = true := T.F__law_thing.kp
theorem Tx.bd__law_thing : Binds K T.fd__law_thing ["_law_row", "_law_sizes", "_law_within"] [] := T.F__law_thing.bindsN fun _ _ _ _ _ _ us hl => match us, hl with | [_, _, _], _ => rfl
abbrev Fn__law_thing (P : Program) (w : World) (base : Heap) (CX : CXT) (k : Nat) (sp : Sp) : Prop := FnOk P w K mg base CX k (He.ga K "_law_thing") T.fd__law_thing ["_law_row", "_law_sizes", "_law_within"] sp
noncomputable def Tx.fd__law_place : FuncData := Classical.choose T.d__law_place
theorem Tx.F__law_place : FunD K "_law_place" "_law_place" (defArgs s__law_place) (defBody s__law_place) (defScope s__law_place) [] [] (He.ga K "_law_place") T.fd__law_place := Classical.choose_spec T.d__law_place
theorem Tx.k__law_place : PySem.W.keepIn K (.ref (He.ga K "_law_place")) = true := T.F__law_place.kp
theorem Tx.bd__law_place : Binds K T.fd__law_place ["_law_row", "_law_sizes", "_law_within"] [] := T.F__law_place.bindsN fun _ _ _ _ _ _ us hl => match us, hl with | [_, _, _], _ => rfl
abbrev Fn__law_place (P : Program) (w : World) (base : Heap) (CX : CXT) (k : Nat) (sp : Sp) : Prop := FnOk P w K mg base CX k (He.ga K "_law_place") T.fd__law_place ["_law_row", "_law_sizes", "_law_within"] sp
noncomputable def Tx.fd__law_step : FuncData := Classical.choose T.d__law_step
theorem Tx.F__law_step : FunD K "_law_step" "_law_step" (defArgs s__law_step) (defBody s__law_step) (defScope s__law_step) [] [] (He.ga K "_law_step") T.fd__law_step := Classical.choose_spec T.d__law_step
theorem Tx.k__law_step : PySem.W.keepIn K (.ref (He.ga K "_law_step")) = true := T.F__law_step.kp
theorem Tx.bd__law_step : Binds K T.fd__law_step ["_law_row", "_law_shapes", "_law_at", "_law_left", "_law_within"] [] := T.F__law_step.bindsN fun _ _ _ _ _ _ us hl => match us, hl with | [_, _, _, _, _], _ => rfl
abbrev Fn__law_step (P : Program) (w : World) (base : Heap) (CX : CXT) (k : Nat) (sp : Sp) : Prop := FnOk P w K mg base CX k (He.ga K "_law_step") T.fd__law_step ["_law_row", "_law_shapes", "_law_at", "_law_left", "_law_within"] sp
noncomputable def Tx.fd__law_body : FuncData := Classical.choose T.d__law_body
theorem Tx.F__law_body : FunD K "_law_body" "_law_body" (defArgs s__law_body) (defBody s__law_body) (defScope s__law_body) [] [] (He.ga K "_law_body") T.fd__law_body := Classical.choose_spec T.d__law_body
theorem Tx.k__law_body : PySem.W.keepIn K (.ref (He.ga K "_law_body")) = true := T.F__law_body.kp
theorem Tx.bd__law_body : Binds K T.fd__law_body ["_law_row", "_law_shapes", "_law_at", "_law_left", "_law_within"] [] := T.F__law_body.bindsN fun _ _ _ _ _ _ us hl => match us, hl with | [_, _, _, _, _], _ => rfl
abbrev Fn__law_body (P : Program) (w : World) (base : Heap) (CX : CXT) (k : Nat) (sp : Sp) : Prop := FnOk P w K mg base CX k (He.ga K "_law_body") T.fd__law_body ["_law_row", "_law_shapes", "_law_at", "_law_left", "_law_within"] sp
noncomputable def Tx.fd__law_program : FuncData := Classical.choose T.d__law_program
theorem Tx.F__law_program : FunD K "_law_program" "_law_program" (defArgs s__law_program) (defBody s__law_program) (defScope s__law_program) [] [] (He.ga K "_law_program") T.fd__law_program := Classical.choose_spec T.d__law_program
theorem Tx.k__law_program : PySem.W.keepIn K (.ref (He.ga K "_law_program")) = true := T.F__law_program.kp
theorem Tx.bd__law_program : Binds K T.fd__law_program ["_law_row", "_law_most"] [] := T.F__law_program.bindsN fun _ _ _ _ _ _ us hl => match us, hl with | [_, _], _ => rfl
abbrev Fn__law_program (P : Program) (w : World) (base : Heap) (CX : CXT) (k : Nat) (sp : Sp) : Prop := FnOk P w K mg base CX k (He.ga K "_law_program") T.fd__law_program ["_law_row", "_law_most"] sp
noncomputable def Tx.fd__law_ways : FuncData := Classical.choose T.d__law_ways
theorem Tx.F__law_ways : FunD K "_law_ways" "_law_ways" (defArgs s__law_ways) (defBody s__law_ways) (defScope s__law_ways) [] [] (He.ga K "_law_ways") T.fd__law_ways := Classical.choose_spec T.d__law_ways
theorem Tx.k__law_ways : PySem.W.keepIn K (.ref (He.ga K "_law_ways")) = true := T.F__law_ways.kp
theorem Tx.bd__law_ways : Binds K T.fd__law_ways ["_law_row", "_law_program_here", "_law_some"] [] := T.F__law_ways.bindsN fun _ _ _ _ _ _ us hl => match us, hl with | [_, _, _], _ => rfl
abbrev Fn__law_ways (P : Program) (w : World) (base : Heap) (CX : CXT) (k : Nat) (sp : Sp) : Prop := FnOk P w K mg base CX k (He.ga K "_law_ways") T.fd__law_ways ["_law_row", "_law_program_here", "_law_some"] sp
noncomputable def Tx.fd__law_cells : FuncData := Classical.choose T.d__law_cells
theorem Tx.F__law_cells : FunD K "_law_cells" "_law_cells" (defArgs s__law_cells) (defBody s__law_cells) (defScope s__law_cells) [] [] (He.ga K "_law_cells") T.fd__law_cells := Classical.choose_spec T.d__law_cells
theorem Tx.k__law_cells : PySem.W.keepIn K (.ref (He.ga K "_law_cells")) = true := T.F__law_cells.kp
theorem Tx.bd__law_cells : Binds K T.fd__law_cells [] [] := T.F__law_cells.bindsN fun _ _ _ _ _ _ us hl => match us, hl with | [], _ => rfl
abbrev Fn__law_cells (P : Program) (w : World) (base : Heap) (CX : CXT) (k : Nat) (sp : Sp) : Prop := FnOk P w K mg base CX k (He.ga K "_law_cells") T.fd__law_cells [] sp
noncomputable def Tx.fd__law_is_number : FuncData := Classical.choose T.d__law_is_number
theorem Tx.F__law_is_number : FunD K "_law_is_number" "_law_is_number" (defArgs s__law_is_number) (defBody s__law_is_number) (defScope s__law_is_number) [] [] (He.ga K "_law_is_number") T.fd__law_is_number := Classical.choose_spec T.d__law_is_number
theorem Tx.k__law_is_number : PySem.W.keepIn K (.ref (He.ga K "_law_is_number")) = true := T.F__law_is_number.kp
theorem Tx.bd__law_is_number : Binds K T.fd__law_is_number ["_law_part", "_law_below"] [] := T.F__law_is_number.bindsN fun _ _ _ _ _ _ us hl => match us, hl with | [_, _], _ => rfl
abbrev Fn__law_is_number (P : Program) (w : World) (base : Heap) (CX : CXT) (k : Nat) (sp : Sp) : Prop := FnOk P w K mg base CX k (He.ga K "_law_is_number") T.fd__law_is_number ["_law_part", "_law_below"] sp
noncomputable def Tx.fd__law_is_thing : FuncData := Classical.choose T.d__law_is_thing
theorem Tx.F__law_is_thing : FunD K "_law_is_thing" "_law_is_thing" (defArgs s__law_is_thing) (defBody s__law_is_thing) (defScope s__law_is_thing) [] [] (He.ga K "_law_is_thing") T.fd__law_is_thing := Classical.choose_spec T.d__law_is_thing
theorem Tx.k__law_is_thing : PySem.W.keepIn K (.ref (He.ga K "_law_is_thing")) = true := T.F__law_is_thing.kp
theorem Tx.bd__law_is_thing : Binds K T.fd__law_is_thing ["_law_thing_here", "_law_sizes", "_law_within"] [] := T.F__law_is_thing.bindsN fun _ _ _ _ _ _ us hl => match us, hl with | [_, _, _], _ => rfl
abbrev Fn__law_is_thing (P : Program) (w : World) (base : Heap) (CX : CXT) (k : Nat) (sp : Sp) : Prop := FnOk P w K mg base CX k (He.ga K "_law_is_thing") T.fd__law_is_thing ["_law_thing_here", "_law_sizes", "_law_within"] sp
noncomputable def Tx.fd__law_is_step : FuncData := Classical.choose T.d__law_is_step
theorem Tx.F__law_is_step : FunD K "_law_is_step" "_law_is_step" (defArgs s__law_is_step) (defBody s__law_is_step) (defScope s__law_is_step) [] [] (He.ga K "_law_is_step") T.fd__law_is_step := Classical.choose_spec T.d__law_is_step
theorem Tx.k__law_is_step : PySem.W.keepIn K (.ref (He.ga K "_law_is_step")) = true := T.F__law_is_step.kp
theorem Tx.bd__law_is_step : Binds K T.fd__law_is_step ["_law_shapes", "_law_at", "_law_step_here", "_law_within"] [] := T.F__law_is_step.bindsN fun _ _ _ _ _ _ us hl => match us, hl with | [_, _, _, _], _ => rfl
abbrev Fn__law_is_step (P : Program) (w : World) (base : Heap) (CX : CXT) (k : Nat) (sp : Sp) : Prop := FnOk P w K mg base CX k (He.ga K "_law_is_step") T.fd__law_is_step ["_law_shapes", "_law_at", "_law_step_here", "_law_within"] sp
noncomputable def Tx.fd__law_is_body : FuncData := Classical.choose T.d__law_is_body
theorem Tx.F__law_is_body : FunD K "_law_is_body" "_law_is_body" (defArgs s__law_is_body) (defBody s__law_is_body) (defScope s__law_is_body) [] [] (He.ga K "_law_is_body") T.fd__law_is_body := Classical.choose_spec T.d__law_is_body
theorem Tx.k__law_is_body : PySem.W.keepIn K (.ref (He.ga K "_law_is_body")) = true := T.F__law_is_body.kp
theorem Tx.bd__law_is_body : Binds K T.fd__law_is_body ["_law_shapes", "_law_at", "_law_body_here", "_law_within"] [] := T.F__law_is_body.bindsN fun _ _ _ _ _ _ us hl => match us, hl with | [_, _, _, _], _ => rfl
abbrev Fn__law_is_body (P : Program) (w : World) (base : Heap) (CX : CXT) (k : Nat) (sp : Sp) : Prop := FnOk P w K mg base CX k (He.ga K "_law_is_body") T.fd__law_is_body ["_law_shapes", "_law_at", "_law_body_here", "_law_within"] sp
noncomputable def Tx.fd__law_count : FuncData := Classical.choose T.d__law_count
theorem Tx.F__law_count : FunD K "_law_count" "_law_count" (defArgs s__law_count) (defBody s__law_count) (defScope s__law_count) [] [] (He.ga K "_law_count") T.fd__law_count := Classical.choose_spec T.d__law_count
theorem Tx.k__law_count : PySem.W.keepIn K (.ref (He.ga K "_law_count")) = true := T.F__law_count.kp
theorem Tx.bd__law_count : Binds K T.fd__law_count ["_law_body_here"] [] := T.F__law_count.bindsN fun _ _ _ _ _ _ us hl => match us, hl with | [_], _ => rfl
abbrev Fn__law_count (P : Program) (w : World) (base : Heap) (CX : CXT) (k : Nat) (sp : Sp) : Prop := FnOk P w K mg base CX k (He.ga K "_law_count") T.fd__law_count ["_law_body_here"] sp
noncomputable def Tx.fd__law_is_program : FuncData := Classical.choose T.d__law_is_program
theorem Tx.F__law_is_program : FunD K "_law_is_program" "_law_is_program" (defArgs s__law_is_program) (defBody s__law_is_program) (defScope s__law_is_program) [] [] (He.ga K "_law_is_program") T.fd__law_is_program := Classical.choose_spec T.d__law_is_program
theorem Tx.k__law_is_program : PySem.W.keepIn K (.ref (He.ga K "_law_is_program")) = true := T.F__law_is_program.kp
theorem Tx.bd__law_is_program : Binds K T.fd__law_is_program ["_law_program_here"] [] := T.F__law_is_program.bindsN fun _ _ _ _ _ _ us hl => match us, hl with | [_], _ => rfl
abbrev Fn__law_is_program (P : Program) (w : World) (base : Heap) (CX : CXT) (k : Nat) (sp : Sp) : Prop := FnOk P w K mg base CX k (He.ga K "_law_is_program") T.fd__law_is_program ["_law_program_here"] sp
noncomputable def Tx.fd__law_deep : FuncData := Classical.choose T.d__law_deep
theorem Tx.F__law_deep : FunD K "_law_deep" "_law_deep" (defArgs s__law_deep) (defBody s__law_deep) (defScope s__law_deep) [] [] (He.ga K "_law_deep") T.fd__law_deep := Classical.choose_spec T.d__law_deep
theorem Tx.k__law_deep : PySem.W.keepIn K (.ref (He.ga K "_law_deep")) = true := T.F__law_deep.kp
theorem Tx.bd__law_deep : Binds K T.fd__law_deep ["_law_row", "_law_thing_here", "_law_many"] [] := T.F__law_deep.bindsN fun _ _ _ _ _ _ us hl => match us, hl with | [_, _, _], _ => rfl
abbrev Fn__law_deep (P : Program) (w : World) (base : Heap) (CX : CXT) (k : Nat) (sp : Sp) : Prop := FnOk P w K mg base CX k (He.ga K "_law_deep") T.fd__law_deep ["_law_row", "_law_thing_here", "_law_many"] sp
noncomputable def Tx.fd__law_around : FuncData := Classical.choose T.d__law_around
theorem Tx.F__law_around : FunD K "_law_around" "_law_around" (defArgs s__law_around) (defBody s__law_around) (defScope s__law_around) [] [] (He.ga K "_law_around") T.fd__law_around := Classical.choose_spec T.d__law_around
theorem Tx.k__law_around : PySem.W.keepIn K (.ref (He.ga K "_law_around")) = true := T.F__law_around.kp
theorem Tx.bd__law_around : Binds K T.fd__law_around ["_law_row", "_law_step_here", "_law_many"] [] := T.F__law_around.bindsN fun _ _ _ _ _ _ us hl => match us, hl with | [_, _, _], _ => rfl
abbrev Fn__law_around (P : Program) (w : World) (base : Heap) (CX : CXT) (k : Nat) (sp : Sp) : Prop := FnOk P w K mg base CX k (He.ga K "_law_around") T.fd__law_around ["_law_row", "_law_step_here", "_law_many"] sp
noncomputable def Tx.fd__law_odd_step : FuncData := Classical.choose T.d__law_odd_step
theorem Tx.F__law_odd_step : FunD K "_law_odd_step" "_law_odd_step" (defArgs s__law_odd_step) (defBody s__law_odd_step) (defScope s__law_odd_step) [] [] (He.ga K "_law_odd_step") T.fd__law_odd_step := Classical.choose_spec T.d__law_odd_step
theorem Tx.k__law_odd_step : PySem.W.keepIn K (.ref (He.ga K "_law_odd_step")) = true := T.F__law_odd_step.kp
theorem Tx.bd__law_odd_step : Binds K T.fd__law_odd_step ["_law_row"] [] := T.F__law_odd_step.bindsN fun _ _ _ _ _ _ us hl => match us, hl with | [_], _ => rfl
abbrev Fn__law_odd_step (P : Program) (w : World) (base : Heap) (CX : CXT) (k : Nat) (sp : Sp) : Prop := FnOk P w K mg base CX k (He.ga K "_law_odd_step") T.fd__law_odd_step ["_law_row"] sp
noncomputable def Tx.fd__law_spoilt : FuncData := Classical.choose T.d__law_spoilt
theorem Tx.F__law_spoilt : FunD K "_law_spoilt" "_law_spoilt" (defArgs s__law_spoilt) (defBody s__law_spoilt) (defScope s__law_spoilt) [] [] (He.ga K "_law_spoilt") T.fd__law_spoilt := Classical.choose_spec T.d__law_spoilt
theorem Tx.k__law_spoilt : PySem.W.keepIn K (.ref (He.ga K "_law_spoilt")) = true := T.F__law_spoilt.kp
theorem Tx.bd__law_spoilt : Binds K T.fd__law_spoilt ["_law_row", "_law_program_here"] [] := T.F__law_spoilt.bindsN fun _ _ _ _ _ _ us hl => match us, hl with | [_, _], _ => rfl
abbrev Fn__law_spoilt (P : Program) (w : World) (base : Heap) (CX : CXT) (k : Nat) (sp : Sp) : Prop := FnOk P w K mg base CX k (He.ga K "_law_spoilt") T.fd__law_spoilt ["_law_row", "_law_program_here"] sp
noncomputable def Tx.fd__law_works : FuncData := Classical.choose T.d__law_works
theorem Tx.F__law_works : FunD K "_law_works" "_law_works" (defArgs s__law_works) (defBody s__law_works) (defScope s__law_works) [] [] (He.ga K "_law_works") T.fd__law_works := Classical.choose_spec T.d__law_works
theorem Tx.k__law_works : PySem.W.keepIn K (.ref (He.ga K "_law_works")) = true := T.F__law_works.kp
theorem Tx.bd__law_works : Binds K T.fd__law_works ["_law_program_here", "_law_ways_here", "_law_cells_here"] [] := T.F__law_works.bindsN fun _ _ _ _ _ _ us hl => match us, hl with | [_, _, _], _ => rfl
abbrev Fn__law_works (P : Program) (w : World) (base : Heap) (CX : CXT) (k : Nat) (sp : Sp) : Prop := FnOk P w K mg base CX k (He.ga K "_law_works") T.fd__law_works ["_law_program_here", "_law_ways_here", "_law_cells_here"] sp
noncomputable def Tx.fd__law_others : FuncData := Classical.choose T.d__law_others
theorem Tx.F__law_others : FunD K "_law_others" "_law_others" (defArgs s__law_others) (defBody s__law_others) (defScope s__law_others) [] [] (He.ga K "_law_others") T.fd__law_others := Classical.choose_spec T.d__law_others
theorem Tx.k__law_others : PySem.W.keepIn K (.ref (He.ga K "_law_others")) = true := T.F__law_others.kp
theorem Tx.bd__law_others : Binds K T.fd__law_others ["_law_program_here"] [] := T.F__law_others.bindsN fun _ _ _ _ _ _ us hl => match us, hl with | [_], _ => rfl
abbrev Fn__law_others (P : Program) (w : World) (base : Heap) (CX : CXT) (k : Nat) (sp : Sp) : Prop := FnOk P w K mg base CX k (He.ga K "_law_others") T.fd__law_others ["_law_program_here"] sp
noncomputable def Tx.fd__law_word : FuncData := Classical.choose T.d__law_word
theorem Tx.F__law_word : FunD K "_law_word" "_law_word" (defArgs s__law_word) (defBody s__law_word) (defScope s__law_word) [] [] (He.ga K "_law_word") T.fd__law_word := Classical.choose_spec T.d__law_word
theorem Tx.k__law_word : PySem.W.keepIn K (.ref (He.ga K "_law_word")) = true := T.F__law_word.kp
theorem Tx.bd__law_word : Binds K T.fd__law_word ["_law_work"] [] := T.F__law_word.bindsN fun _ _ _ _ _ _ us hl => match us, hl with | [_], _ => rfl
abbrev Fn__law_word (P : Program) (w : World) (base : Heap) (CX : CXT) (k : Nat) (sp : Sp) : Prop := FnOk P w K mg base CX k (He.ga K "_law_word") T.fd__law_word ["_law_work"] sp
noncomputable def Tx.fd_law : FuncData := Classical.choose T.d_law
theorem Tx.F_law : FunD K "law" "law" (defArgs s_law) (defBody s_law) (defScope s_law) [] [] (He.ga K "law") T.fd_law := Classical.choose_spec T.d_law
theorem Tx.k_law : PySem.W.keepIn K (.ref (He.ga K "law")) = true := T.F_law.kp
theorem Tx.bd_law : Binds K T.fd_law ["_law_script"] [] := T.F_law.bindsN fun _ _ _ _ _ _ us hl => match us, hl with | [_], _ => rfl
abbrev Fn_law (P : Program) (w : World) (base : Heap) (CX : CXT) (k : Nat) (sp : Sp) : Prop := FnOk P w K mg base CX k (He.ga K "law") T.fd_law ["_law_script"] sp
end
end Hw
set_option maxRecDepth 100000
set_option maxHeartbeats 4000000
/-! PC1: the program's own look at numbers and things -/
namespace Hw
open PySem PySem.Spec PyProof.Rows L2 Evl
local macro_rules | `(tactic| walk_at "dd") => `(tactic| first | rfl | decide | (simp; done) | omega)
local macro_rules | `(tactic| walk_at "td") => `(tactic| first | assumption | exact Td.int _ | exact Td.bl _ | exact Td.str _ | exact Td.non | exact Td.tup (by assumption) (by assumption))
local macro_rules | `(tactic| walk_at "ev") => `(tactic| first
  | exact ed_ci | exact ed_cs | exact ed_cb | exact ed_cn
  | (apply ed_cg; assumption)
  | (apply ed_var; (rfl); (walk_at "td"))
  | (apply ed_ixT; (walk_at "ev"); (walk_at "ev"); (first | rfl | assumption))
  | (apply ed_rowI; (rfl); (assumption); (walk_at "ev"); (rfl))
  | (apply ed_ixL; (apply EvDL.rd; walk_at "edl"); (walk_at "ev"); (rfl))
  | (apply ed_intb; (walk_at "ev"))
  | (apply ed_len; walk_at "ev")
  | (apply ed_lenV; (apply ev_rowR; (rfl); (assumption); (walk_at "ev"); (rfl)); (assumption))
  | (apply ed_Ii; (walk_at "ev"); (walk_at "ev"); (walk_at "cc"))
  | (apply ed_isi; (walk_at "ev"); (rfl))
  | (apply ed_I0i; (walk_at "ev"); (walk_at "ev"))
  | (apply ed_I0b; (walk_at "ev"); (walk_at "ev"))
  | (apply ed_eqi; (walk_at "ev"); (walk_at "ev"))
  | (apply ed_nei; (walk_at "ev"); (walk_at "ev"))
  | (apply ed_andF; walk_at "ev")
  | (apply ed_andV; (walk_at "ev"); (intro _; walk_at "ev"))
  | (apply ed_orT; walk_at "ev")
  | (apply ed_orV; (walk_at "ev"); (intro _; walk_at "ev"))
  | (apply ed_notT; walk_at "ev")
  | (apply ed_notF; walk_at "ev")
  | (apply ed_notV; walk_at "ev")
  | (apply ed_chain; (walk_at "ev"); (walk_at "ev"); (intro _; walk_at "ev"))
  | (apply ed_eqS; (walk_at "ev"); (walk_at "ev"); (walk_at "bb"); (walk_at "bb"))
  | (apply ed_neS; (walk_at "ev"); (walk_at "ev"); (walk_at "bb"); (walk_at "bb"))
  | (apply ed_inT; (walk_at "ev"); (walk_at "ev"); (rfl); (rfl))
  | (apply ed_niT; (walk_at "ev"); (walk_at "ev"); (rfl); (rfl))
  | (apply ed_tup; (walk_at "eva"); (walk_at "bb"))
  | (apply ed_sl; (walk_at "ev"); (walk_at "evo"); (walk_at "evo"))
  | (apply ed_eqN; (apply EvDL.rd; walk_at "edl"); (walk_at "edl"); (walk_at "bb"))
  | (apply ed_neN; (apply EvDL.rd; walk_at "edl"); (walk_at "edl"); (walk_at "bb"))
  | (apply ed_ixL; (apply edr_var; (rfl); (assumption); (assumption)); (walk_at "ev"); (first | rfl | assumption))
  | (apply ed_lenL; (apply edr_var; (rfl); (assumption); (assumption)))
  | (apply ed_call; (walk_at "eva"); (walk_at "post")))
local macro_rules | `(tactic| walk_at "edl") => `(tactic| first
  | assumption
  | (apply edl_lst; (walk_at "eva"); (walk_at "bb")))
local macro_rules | `(tactic| walk_at "eva") => `(tactic| first
  | exact eda_nil
  | (apply eda_cons; (walk_at "ev"); (walk_at "eva")))
local macro_rules | `(tactic| walk_at "evo") => `(tactic| first
  | exact eok_none
  | (apply eok_some; walk_at "ev"))
local macro_rules | `(tactic| walk_at "bb") => `(tactic| first | rfl | assumption | (simp; done) | (simp; omega) | decide +kernel)
local macro_rules | `(tactic| walk_at "et") => `(tactic| first
  | exact tk_yes
  | (apply tk_andF; walk_at "et")
  | (apply tk_and; (walk_at "et"); (intro _; walk_at "et"))
  | (apply tk_orT; walk_at "et")
  | (apply tk_or; (walk_at "et"); (intro _; walk_at "et"))
  | (apply tk_notT; walk_at "et")
  | (apply tk_notF; walk_at "et")
  | (apply tk_not; walk_at "et")
  | (apply tk_v; walk_at "ev")
  | (apply tk_vB; walk_at "ev"))
local macro_rules | `(tactic| walk_at "if") => `(tactic| first
  | (apply pst_whenF; (walk_at "et"); (walk_at "bb"))
  | (apply pst_whenT; (walk_at "et"); (walk_at "bb")))
local macro_rules | `(tactic| walk_at "post") => `(tactic| first | assumption | exact ⟨_, _, rfl, rfl⟩ | exact ⟨_, _, _, _, rfl, by omega, by omega, rfl⟩ | exact ⟨_, _, _, 0, rfl, by omega, by omega, rfl⟩)
local macro_rules | `(tactic| walk_at "cc") => `(tactic| first | assumption | decide | omega | (refine ⟨?_, ?_⟩ <;> first | decide | omega) | (exact Or.inl (by constructor <;> omega)))

section
variable {P : Program} {w : World} {K : PySem.W.Frag} {mg : Str → Option Value} {base : Heap} (T : Tx K mg)
include T
def isNumD : PyData → Int → Bool
  | .int i, b => decide (0 ≤ i) && decide (i < b)
  | _, _ => false
def pNumber (ds : List PyData) (d : PyData) : Prop := ∃ x b, ds = [x, .int b] ∧ d = .bool (isNumD x b)
theorem ok_is_number : Fn_is_number T P w base CX0 1 (spF K pNumber) := by
  refine T.F_is_number.ok sc_is_number (spF_len fun ds d h => by obtain ⟨x, b, rfl, _⟩ := h; rfl) fun cdv A outer s H vs Q E hr h => ?_
  obtain ⟨ds, d, ht, ⟨x, b, rfl, rfl⟩, k⟩ := h
  obtain _ | ⟨t1, _ | ⟨t2, _ | _⟩⟩ := ht
  refine ⟨_, (pss_one (ps_ret (pe_and (pe_callB (kc_isi K) rfl T.b_isinstance (by decide +kernel) (pa_cons (pv 0) (pa_cons (pe_bltn (v := .ty "int") rfl T.b_int (by decide +kernel) rfl) pa_nil))) (pe_and (pe_not (pe_callB (kc_isi K) rfl T.b_isinstance (by decide +kernel) (pa_cons (pv 0) (pa_cons (pe_bltn (v := .ty "bool") rfl T.b_bool (by decide +kernel) rfl) pa_nil)))) (pe_one (pe_chain op_le op_lt pe_int (pv 0) (pv 1))))))), ?_⟩
  cases t2
  cases x with
  | list _ => cases t1
  | dict _ => cases t1
  | _ =>
    (try cases t1)
    refine sd_ret ?_ k
    apply ed_is
    · walk_at "ev"
    · first | rfl | simp [isNumD]
/-- is_thing: 6 - n within at most -/
def pThing (n : Nat) (ds : List PyData) (d : PyData) : Prop := ∃ (t : Th) (ps os w : Nat), ds = [encT t, .tuple [.int (ps : Int), .int (os : Int)], .int (w : Int)] ∧ w ≤ 5 ∧ 6 ≤ w + n ∧ d = .bool (okT ps os t w)
theorem ok_is_thing (GN : Fn_is_number T P w base CX0 1 (spF K pNumber)) : ∀ n : Nat, Fn_is_thing T P w base CX0 (n + 2) (spF K (pThing n)) := by
  intro n
  induction n with
  | zero => exact fn_vac fun vs H Q E ⟨ds, d, _, ⟨t, ps, os, w, _, h1, h2, _⟩, _⟩ => by omega
  | succ n ih =>
    have G_is_number := GN
    have G_is_thing := ih
    refine T.F_is_thing.ok sc_is_thing (spF_len fun ds d h => by obtain ⟨t, ps, os, w, rfl, _⟩ := h; rfl) fun cdv A outer s H vs Q E hr h => ?_
    obtain ⟨ds, d, ht, ⟨t, ps, os, w, rfl, hw5, hw, rfl⟩, k⟩ := h
    obtain _ | ⟨t1, _ | ⟨t2, _ | ⟨t3, _ | _⟩⟩⟩ := ht
    refine ⟨_, (pss_cons (ps_if (PW.pt (pw_or (pt_not (pt_val (pe_callB (kc_isi K) rfl T.b_isinstance (by decide +kernel) (pa_cons (pv 0) (pa_cons (pe_bltn (v := .ty "tuple") rfl T.b_tuple (by decide +kernel) rfl) pa_nil))))) (pw_or (pt_cmpR op_lt (pe_callB (kc_len K) rfl T.b_len PySem.boot_len (pa_cons (pv 0) pa_nil)) pe_int (nomark _)) (pw_or1 (pt_cmpR op_gt (pv 2) (pe_gint rfl T.g_MOST_WITHIN) (nomark _))))))
    (pss_one (ps_ret pe_bl))
    pss_nil)
  (pss_cons (ps_set (i := 3) sc_is_thing.nd rfl (Or.inl rfl) (pe_ix (kix_tup K) (pv 0) pe_int (fun _ _ => rfl)))
  (pss_cons (ps_if (pt_cmpR (kop_eq K hr.units) (pv 3) pe_str (nomark _))
    (pss_one (ps_ret (pe_and (pe_cmpR op_eq (pe_callB (kc_len K) rfl T.b_len PySem.boot_len (pa_cons (pv 0) pa_nil)) pe_int (nomark _)) (pe_and (pe_call G_is_thing (hr.mono (by omega)) (by rfl) T.g_is_thing T.k_is_thing T.bd_is_thing .nil pass0 (pa_cons (pe_ix (kix_tup K) (pv 0) pe_int (fun _ _ => rfl)) (pa_cons (pv 1) (pa_cons (pe_op op_add (pv 2) pe_int) pa_nil)))) (pe_one (pe_call G_is_thing (hr.mono (by omega)) (by rfl) T.g_is_thing T.k_is_thing T.bd_is_thing .nil pass0 (pa_cons (pe_ix (kix_tup K) (pv 0) pe_int (fun _ _ => rfl)) (pa_cons (pv 1) (pa_cons (pe_op op_add (pv 2) pe_int) pa_nil)))))))))
    pss_nil)
  (pss_cons (ps_if (pt_cmpR (kop_eq K hr.units) (pv 3) pe_str (nomark _))
    (pss_one (ps_ret (pe_and (pe_cmpR op_eq (pe_callB (kc_len K) rfl T.b_len PySem.boot_len (pa_cons (pv 0) pa_nil)) pe_int (nomark _)) (pe_one (pe_call G_is_thing (hr.mono (by omega)) (by rfl) T.g_is_thing T.k_is_thing T.bd_is_thing .nil pass0 (pa_cons (pe_ix (kix_tup K) (pv 0) pe_int (fun _ _ => rfl)) (pa_cons (pv 1) (pa_cons (pe_op op_add (pv 2) pe_int) pa_nil))))))))
    pss_nil)
  (pss_cons (ps_set (i := 4) sc_is_thing.nd rfl (Or.inl rfl) (pe_disp (pps_cons pe_str (pe_gint rfl T.g_NUMBERS) (pps_cons pe_str (pe_ix (kix_tup K) (pv 1) pe_int (fun _ _ => rfl)) (pps_cons pe_str (pe_ix (kix_tup K) (pv 1) pe_int (fun _ _ => rfl)) pps_nil))) (by rfl) (by rfl) (fun z => by cases z) (by decide)))
  (pss_one (ps_ret (pe_and (pe_cmpR (kop_in K) (pv 3) (pe_tup (pa_cons pe_str (pa_cons pe_str (pa_cons pe_str pa_nil)))) rfl) (pe_and (pe_cmpR op_eq (pe_callB (kc_len K) rfl T.b_len PySem.boot_len (pa_cons (pv 0) pa_nil)) pe_int (nomark _)) (pe_one (pe_call G_is_number (hr.mono (by omega)) (by rfl) T.g_is_number T.k_is_number T.bd_is_number .nil pass0 (pa_cons (pe_ix (kix_tup K) (pv 0) pe_int (fun _ _ => rfl)) (pa_cons (pe_dget (hu_of hr) (pv 4) (pv 3) (fun _ _ => rfl)) pa_nil))))))))))))), ?_⟩
    cases t3
    refine Pst.go (K := K) ?_
    by_cases h4 : w ≤ 4
    · cases t with
      | num m =>
        walk_at "if"
        apply pst_asg
        · walk_at "ev"
        intro v3 H1 e1 t5
        cases t5
        replace t1 := t1.ex e1
        replace t2 := t2.ex e1
        replace k := fun v H' (e : Ex H1 H') => k v H' (e1.trans e)
        clear e1
        walk_at "if"
        walk_at "if"
        apply pst_disp [(Sum.inr "num", .int 3), (Sum.inr "par", .int (ps : Int)), (Sum.inr "own", .int (os : Int))]
        · apply eps_cons
          · exact ev_c
          · exact ev_c
          · apply eps_cons
            · exact ev_c
            · refine EvD.iv (K := K) (i := _) ?_
              walk_at "ev"
            · apply eps_cons
              · exact ev_c
              · refine EvD.iv (K := K) (i := _) ?_
                walk_at "ev"
              · exact eps_nil
        · exact (by decide : 3 ≤ 15)
        intro p H2 hp e2 hD
        replace t1 := t1.ex e2
        replace t2 := t2.ex e2
        replace k := fun v H' (e : Ex H2 H') => k v H' (e2.trans e)
        apply pst_ret _ k
        apply ed_is
        · apply ed_andV
          · walk_at "ev"
          intro _
          apply ed_andV
          · walk_at "ev"
          intro _
          apply ed_call
          · apply eda_cons
            · walk_at "ev"
            · apply eda_cons
              · apply ed_i
                apply ev_dget (p := p) (s := "num")
                · rfl
                · exact hD
                · refine EvD.sv (K := K) ?_
                  walk_at "ev"
                · rfl
              · exact eda_nil
          · exact ⟨_, _, rfl, rfl⟩
        · simp [okT, isNumD, h4] <;> omega
      | own m =>
        walk_at "if"
        apply pst_asg
        · walk_at "ev"
        intro v3 H1 e1 t5
        cases t5
        replace t1 := t1.ex e1
        replace t2 := t2.ex e1
        replace k := fun v H' (e : Ex H1 H') => k v H' (e1.trans e)
        clear e1
        walk_at "if"
        walk_at "if"
        apply pst_disp [(Sum.inr "num", .int 3), (Sum.inr "par", .int (ps : Int)), (Sum.inr "own", .int (os : Int))]
        · apply eps_cons
          · exact ev_c
          · exact ev_c
          · apply eps_cons
            · exact ev_c
            · refine EvD.iv (K := K) (i := _) ?_
              walk_at "ev"
            · apply eps_cons
              · exact ev_c
              · refine EvD.iv (K := K) (i := _) ?_
                walk_at "ev"
              · exact eps_nil
        · exact (by decide : 3 ≤ 15)
        intro p H2 hp e2 hD
        replace t1 := t1.ex e2
        replace t2 := t2.ex e2
        replace k := fun v H' (e : Ex H2 H') => k v H' (e2.trans e)
        apply pst_ret _ k
        apply ed_is
        · apply ed_andV
          · walk_at "ev"
          intro _
          apply ed_andV
          · walk_at "ev"
          intro _
          apply ed_call
          · apply eda_cons
            · walk_at "ev"
            · apply eda_cons
              · apply ed_i
                apply ev_dget (p := p) (s := "own")
                · rfl
                · exact hD
                · refine EvD.sv (K := K) ?_
                  walk_at "ev"
                · rfl
              · exact eda_nil
          · exact ⟨_, _, rfl, rfl⟩
        · simp [okT, isNumD, h4] <;> omega
      | par m =>
        walk_at "if"
        apply pst_asg
        · walk_at "ev"
        intro v3 H1 e1 t5
        cases t5
        replace t1 := t1.ex e1
        replace t2 := t2.ex e1
        replace k := fun v H' (e : Ex H1 H') => k v H' (e1.trans e)
        clear e1
        walk_at "if"
        walk_at "if"
        apply pst_disp [(Sum.inr "num", .int 3), (Sum.inr "par", .int (ps : Int)), (Sum.inr "own", .int (os : Int))]
        · apply eps_cons
          · exact ev_c
          · exact ev_c
          · apply eps_cons
            · exact ev_c
            · refine EvD.iv (K := K) (i := _) ?_
              walk_at "ev"
            · apply eps_cons
              · exact ev_c
              · refine EvD.iv (K := K) (i := _) ?_
                walk_at "ev"
              · exact eps_nil
        · exact (by decide : 3 ≤ 15)
        intro p H2 hp e2 hD
        replace t1 := t1.ex e2
        replace t2 := t2.ex e2
        replace k := fun v H' (e : Ex H2 H') => k v H' (e2.trans e)
        apply pst_ret _ k
        apply ed_is
        · apply ed_andV
          · walk_at "ev"
          intro _
          apply ed_andV
          · walk_at "ev"
          intro _
          apply ed_call
          · apply eda_cons
            · walk_at "ev"
            · apply eda_cons
              · apply ed_i
                apply ev_dget (p := p) (s := "par")
                · rfl
                · exact hD
                · refine EvD.sv (K := K) ?_
                  walk_at "ev"
                · rfl
              · exact eda_nil
          · exact ⟨_, _, rfl, rfl⟩
        · simp [okT, isNumD, h4] <;> omega
      | cell t' => 
        walk_at "if"
        apply pst_asg
        · walk_at "ev"
        intro v3 H1 e1 t5
        cases t5
        replace t1 := t1.ex e1
        replace t2 := t2.ex e1
        replace k := fun v H' (e : Ex H1 H') => k v H' (e1.trans e)
        clear e1
        walk_at "if"
        walk_at "if"
        apply pst_ret _ k
        apply ed_is
        · apply ed_andV
          · walk_at "ev"
          intro _
          apply ed_call
          · walk_at "eva"
          · exact ⟨t', ps, os, w + 1, rfl, by omega, by omega, rfl⟩
        · simp [okT, h4]
      | sum ta tb =>
        walk_at "if"
        apply pst_asg
        · walk_at "ev"
        intro v3 H1 e1 t5
        cases t5
        replace t1 := t1.ex e1
        replace t2 := t2.ex e1
        replace k := fun v H' (e : Ex H1 H') => k v H' (e1.trans e)
        clear e1
        walk_at "if"
        apply pst_ret _ k
        apply ed_is
        · apply ed_andV
          · walk_at "ev"
          intro _
          apply ed_andV
          · apply ed_call
            · walk_at "eva"
            · exact ⟨ta, ps, os, w + 1, rfl, by omega, by omega, rfl⟩
          · intro _
            apply ed_call
            · walk_at "eva"
            · exact ⟨tb, ps, os, w + 1, rfl, by omega, by omega, rfl⟩
        · simp [okT, h4]
    · have h5 : okT ps os t w = false := by cases t <;> simp [okT, h4]
      obtain ⟨x, xs, e⟩ : ∃ x xs, encT t = .tuple (x :: xs) := by cases t <;> exact ⟨_, _, rfl⟩
      have t1' := t1
      rw [e] at t1'
      walk_at "if"
      apply pst_ret _ k
      rw [h5]
      exact ed_cb
end
end Hw

set_option maxRecDepth 100000
set_option maxHeartbeats 4000000
/-! PC2: calls, steps, bodies -/
namespace Hw
open PySem PySem.Spec PyProof.Rows L2 Evl
local macro_rules | `(tactic| walk_at "dd") => `(tactic| first | rfl | decide | (simp; done) | omega)
local macro_rules | `(tactic| walk_at "td") => `(tactic| first | assumption | exact Td.int _ | exact Td.bl _ | exact Td.str _ | exact Td.non | exact Td.tup (by assumption) (by assumption))
local macro_rules | `(tactic| walk_at "ev") => `(tactic| first
  | exact ed_ci | exact ed_cs | exact ed_cb | exact ed_cn
  | (apply ed_cg; assumption)
  | (apply ed_var; (rfl); (walk_at "td"))
  | (apply ed_ixT; (walk_at "ev"); (walk_at "ev"); (first | rfl | assumption))
  | (apply ed_rowI; (rfl); (assumption); (walk_at "ev"); (rfl))
  | (apply ed_ixL; (apply EvDL.rd; walk_at "edl"); (walk_at "ev"); (rfl))
  | (apply ed_intb; (walk_at "ev"))
  | (apply ed_len; walk_at "ev")
  | (apply ed_lenV; (apply ev_rowR; (rfl); (assumption); (walk_at "ev"); (rfl)); (assumption))
  | (apply ed_Ii; (walk_at "ev"); (walk_at "ev"); (walk_at "cc"))
  | (apply ed_isi; (walk_at "ev"); (rfl))
  | (apply ed_I0i; (walk_at "ev"); (walk_at "ev"))
  | (apply ed_I0b; (walk_at "ev"); (walk_at "ev"))
  | (apply ed_eqi; (walk_at "ev"); (walk_at "ev"))
  | (apply ed_nei; (walk_at "ev"); (walk_at "ev"))
  | (apply ed_andF; walk_at "ev")
  | (apply ed_andV; (walk_at "ev"); (intro _; walk_at "ev"))
  | (apply ed_orT; walk_at "ev")
  | (apply ed_orV; (walk_at "ev"); (intro _; walk_at "ev"))
  | (apply ed_notT; walk_at "ev")
  | (apply ed_notF; walk_at "ev")
  | (apply ed_notV; walk_at "ev")
  | (apply ed_chain; (walk_at "ev"); (walk_at "ev"); (intro _; walk_at "ev"))
  | (apply ed_eqS; (walk_at "ev"); (walk_at "ev"); (walk_at "bb"); (walk_at "bb"))
  | (apply ed_neS; (walk_at "ev"); (walk_at "ev"); (walk_at "bb"); (walk_at "bb"))
  | (apply ed_inT; (walk_at "ev"); (walk_at "ev"); (rfl); (rfl))
  | (apply ed_niT; (walk_at "ev"); (walk_at "ev"); (rfl); (rfl))
  | (apply ed_tup; (walk_at "eva"); (walk_at "bb"))
  | (apply ed_sl; (walk_at "ev"); (walk_at "evo"); (walk_at "evo"))
  | (apply ed_eqN; (apply EvDL.rd; walk_at "edl"); (walk_at "edl"); (walk_at "bb"))
  | (apply ed_neN; (apply EvDL.rd; walk_at "edl"); (walk_at "edl"); (walk_at "bb"))
  | (apply ed_ixL; (apply edr_var; (rfl); (assumption); (assumption)); (walk_at "ev"); (first | rfl | assumption))
  | (apply ed_lenL; (apply edr_var; (rfl); (assumption); (assumption)))
  | (apply ed_call; (walk_at "eva"); (walk_at "post")))
local macro_rules | `(tactic| walk_at "edl") => `(tactic| first
  | assumption
  | (apply edl_lst; (walk_at "eva"); (walk_at "bb")))
local macro_rules | `(tactic| walk_at "eva") => `(tactic| first
  | exact eda_nil
  | (apply eda_cons; (walk_at "ev"); (walk_at "eva")))
local macro_rules | `(tactic| walk_at "evo") => `(tactic| first
  | exact eok_none
  | (apply eok_some; walk_at "ev"))
local macro_rules | `(tactic| walk_at "bb") => `(tactic| first | rfl | assumption | (simp; done) | (simp; omega) | decide +kernel)
local macro_rules | `(tactic| walk_at "et") => `(tactic| first
  | exact tk_yes
  | (apply tk_andF; walk_at "et")
  | (apply tk_and; (walk_at "et"); (intro _; walk_at "et"))
  | (apply tk_orT; walk_at "et")
  | (apply tk_or; (walk_at "et"); (intro _; walk_at "et"))
  | (apply tk_notT; walk_at "et")
  | (apply tk_notF; walk_at "et")
  | (apply tk_not; walk_at "et")
  | (apply tk_v; walk_at "ev")
  | (apply tk_vB; walk_at "ev"))
local macro_rules | `(tactic| walk_at "if") => `(tactic| first
  | (apply pst_whenF; (walk_at "et"); (walk_at "bb"))
  | (apply pst_whenT; (walk_at "et"); (walk_at "bb")))
local macro_rules | `(tactic| walk_at "post") => `(tactic| first | assumption | exact ⟨_, _, rfl, rfl⟩ | exact ⟨_, _, _, _, rfl, by omega, by omega, rfl⟩ | exact ⟨_, _, _, 0, rfl, by omega, by omega, rfl⟩)
local macro_rules | `(tactic| walk_at "cc") => `(tactic| first | assumption | decide | omega | (refine ⟨?_, ?_⟩ <;> first | decide | omega) | (exact Or.inl (by constructor <;> omega)))

theorem atI_enc {α : Type} {xs : List α} {f : α → PyData} {i : Nat} {x : α} (h : xs[i]? = some x) : atI (xs.map f) (i : Int) = some (f x) := atI_nat (by rw [List.getElem?_map, h] <;> rfl)
theorem shP_get {p : List Wk} {i : Nat} {x : Wk} (h : p[i]? = some x) : shP (shapes p) i = x.params := by simp [shP, shapes, h]
theorem shO_get {p : List Wk} {i : Nat} {x : Wk} (h : p[i]? = some x) : shO (shapes p) i = x.owns := by simp [shO, shapes, h]
section
variable {P : Program} {w : World} {K : PySem.W.Frag} {mg : Str → Option Value} {base : Heap} (T : Tx K mg)
include T
def pCall (ds : List PyData) (d : PyData) : Prop := ∃ (p : List Wk) (at_ c : Nat) (ts : List Th) (ps os : Nat), ds = [encP p, .int (at_ : Int), encS (.call c ts), .tuple [.int (ps : Int), .int (os : Int)]] ∧ ts.length ≤ 40000 ∧
  d = .bool (decide (c < p.length) && (decide (at_ < c) && (decide (ts.length = shP (shapes p) c) && ts.all fun t => okT ps os t 0)))
theorem ok_is_call {k : Nat} (hk : 8 ≤ k) (G_is_number : Fn_is_number T P w base CX0 1 (spF K pNumber)) (G_is_thing : Fn_is_thing T P w base CX0 8 (spF K (pThing 6))) : Fn_is_call T P w base CX0 (k + 1) (spF K pCall) := by
  refine T.F_is_call.ok sc_is_call (spF_len fun ds d h => by obtain ⟨p, at_, c, ts, ps, os, rfl, _⟩ := h; rfl) fun cdv A outer s H vs Q E hr h => ?_
  obtain ⟨ds, d, ht, ⟨p, at_, c, ts, ps, os, rfl, hz, rfl⟩, k⟩ := h
  obtain _ | ⟨t1, _ | ⟨t2, _ | ⟨t3, _ | ⟨t4, _ | _⟩⟩⟩⟩ := ht
  refine ⟨_, (pss_cons (ps_if (PW.pt (pw_or (pt_cmpR op_ne (pe_callB (kc_len K) rfl T.b_len PySem.boot_len (pa_cons (pv 2) pa_nil)) pe_int (nomark _)) (pw_or (pt_not (pt_val (pe_call G_is_number (hr.mono (by omega)) (by rfl) T.g_is_number T.k_is_number T.bd_is_number .nil pass0 (pa_cons (pe_ix (kix_tup K) (pv 2) pe_int (fun _ _ => rfl)) (pa_cons (pe_callB (kc_len K) rfl T.b_len PySem.boot_len (pa_cons (pv 0) pa_nil)) pa_nil))))) (pw_or (pt_cmpR op_le (pe_ix (kix_tup K) (pv 2) pe_int (fun _ _ => rfl)) (pv 1) (nomark _)) (pw_or1 (pt_not (pt_val (pe_callB (kc_isi K) rfl T.b_isinstance (by decide +kernel) (pa_cons (pe_ix (kix_tup K) (pv 2) pe_int (fun _ _ => rfl)) (pa_cons (pe_bltn (v := .ty "tuple") rfl T.b_tuple (by decide +kernel) rfl) pa_nil))))))))))
    (pss_one (ps_ret pe_bl))
    pss_nil)
  (pss_cons (ps_if (pt_cmpR op_ne (pe_callB (kc_len K) rfl T.b_len PySem.boot_len (pa_cons (pe_ix (kix_tup K) (pv 2) pe_int (fun _ _ => rfl)) pa_nil)) (pe_ix (kix_tup K) (pe_ix (kix_tup K) (pv 0) (pe_ix (kix_tup K) (pv 2) pe_int (fun _ _ => rfl)) (fun _ _ => rfl)) pe_int (fun _ _ => rfl)) (nomark _))
    (pss_one (ps_ret pe_bl))
    pss_nil)
  (pss_one (ps_ret (pe_cmpR (kop_eq K hr.units) (pe_lc (own := [("thing", 4)]) (g := gName 4) (tt := _) rfl sc_is_call.nd (kpi_tup K (pe_ix (kix_tup K) (pv 2) pe_int (fun _ _ => rfl))) (blkOk_by (N := ["program", "at", "step", "sizes", "thing"]) (sc := defScope s_is_call) (by decide +kernel)) (fun _ _ _ _ _ => (pg_name (i := 4) sc_is_call.nd rfl (Or.inl rfl))) (fun _ _ _ _ _ => (pts_one (pt_not (pt_val (pe_call G_is_thing (hr.mono (by omega)) (by rfl) T.g_is_thing T.k_is_thing T.bd_is_thing .nil pass0 (pa_cons (pv 4) (pa_cons (pv 3) (pa_cons pe_int pa_nil)))))))) (fun _ _ _ _ _ => (pv 4))) (pe_lst pa_nil) (nomark _)))))), ?_⟩
  cases t2
  refine Pst.go (K := K) ?_
  by_cases h12 : c < p.length ∧ at_ < c
  · obtain ⟨h1, h2⟩ := h12
    have hwk : p[c]? = some p[c] := List.getElem?_eq_getElem h1
    have hat : atI (p.map encW) (c : Int) = some (encW p[c]) := atI_enc hwk
    have hsh : shP (shapes p) c = p[c].params := shP_get hwk
    apply pst_whenF
    · walk_at "et"
    · simp [isNumD]
      omega
    apply pst_when
    · apply tk_v
      apply ed_nei
      · walk_at "ev"
      · apply ed_ixT
        · apply ed_ixT
          · walk_at "ev"
          · walk_at "ev"
          · exact hat
        · walk_at "ev"
        · rfl
    · intro hb
      have e : ¬ ts.length = p[c].params := by
        simp at hb
        omega
      apply pst_ret _ k
      apply ed_is
      · walk_at "ev"
      · simp [hsh, e]
    · intro hb
      have e : ts.length = p[c].params := by
        simp at hb
        omega
      apply pst_ret _ k
      apply ed_is
      · apply ed_eqN
        · apply EvDL.rd
          apply edl_lcM (xs := ts) (f := encT) (p := fun t => !okT ps os t 0) (g := encT)
          · walk_at "ev"
          · rfl
          · exact hz
          · intro x
            rfl
          · intro x v H1 e1 hx tx
            replace t4 := t4.ex e1
            walk_at "et"
          · intro x v H1 e1 hx _ tx
            walk_at "ev"
        · walk_at "edl"
        · exact encTs_lay _
      · simp [hsh, e, h1, h2]
        exact filter_not_isEmpty _
  · apply pst_whenT
    · walk_at "et"
    · simp [isNumD]
      omega
    apply pst_ret _ k
    apply ed_is
    · walk_at "ev"
    · simp
      omega
end
end Hw

set_option maxRecDepth 100000
set_option maxHeartbeats 4000000
/-! PC3: steps and bodies -/
namespace Hw
open PySem PySem.Spec PyProof.Rows L2 Evl
local macro_rules | `(tactic| walk_at "dd") => `(tactic| first | rfl | decide | (simp; done) | omega)
local macro_rules | `(tactic| walk_at "td") => `(tactic| first | assumption | exact Td.int _ | exact Td.bl _ | exact Td.str _ | exact Td.non | exact Td.tup (by assumption) (by assumption))
local macro_rules | `(tactic| walk_at "ev") => `(tactic| first
  | exact ed_ci | exact ed_cs | exact ed_cb | exact ed_cn
  | (apply ed_cg; assumption)
  | (apply ed_var; (rfl); (walk_at "td"))
  | (apply ed_ixT; (walk_at "ev"); (walk_at "ev"); (first | rfl | assumption))
  | (apply ed_rowI; (rfl); (assumption); (walk_at "ev"); (rfl))
  | (apply ed_ixL; (apply EvDL.rd; walk_at "edl"); (walk_at "ev"); (rfl))
  | (apply ed_intb; (walk_at "ev"))
  | (apply ed_len; walk_at "ev")
  | (apply ed_lenV; (apply ev_rowR; (rfl); (assumption); (walk_at "ev"); (rfl)); (assumption))
  | (apply ed_Ii; (walk_at "ev"); (walk_at "ev"); (walk_at "cc"))
  | (apply ed_isi; (walk_at "ev"); (rfl))
  | (apply ed_I0i; (walk_at "ev"); (walk_at "ev"))
  | (apply ed_I0b; (walk_at "ev"); (walk_at "ev"))
  | (apply ed_eqi; (walk_at "ev"); (walk_at "ev"))
  | (apply ed_nei; (walk_at "ev"); (walk_at "ev"))
  | (apply ed_andF; walk_at "ev")
  | (apply ed_andV; (walk_at "ev"); (intro _; walk_at "ev"))
  | (apply ed_orT; walk_at "ev")
  | (apply ed_orV; (walk_at "ev"); (intro _; walk_at "ev"))
  | (apply ed_notT; walk_at "ev")
  | (apply ed_notF; walk_at "ev")
  | (apply ed_notV; walk_at "ev")
  | (apply ed_chain; (walk_at "ev"); (walk_at "ev"); (intro _; walk_at "ev"))
  | (apply ed_eqS; (walk_at "ev"); (walk_at "ev"); (walk_at "bb"); (walk_at "bb"))
  | (apply ed_neS; (walk_at "ev"); (walk_at "ev"); (walk_at "bb"); (walk_at "bb"))
  | (apply ed_inT; (walk_at "ev"); (walk_at "ev"); (rfl); (rfl))
  | (apply ed_niT; (walk_at "ev"); (walk_at "ev"); (rfl); (rfl))
  | (apply ed_tup; (walk_at "eva"); (walk_at "bb"))
  | (apply ed_sl; (walk_at "ev"); (walk_at "evo"); (walk_at "evo"))
  | (apply ed_eqN; (apply EvDL.rd; walk_at "edl"); (walk_at "edl"); (walk_at "bb"))
  | (apply ed_neN; (apply EvDL.rd; walk_at "edl"); (walk_at "edl"); (walk_at "bb"))
  | (apply ed_ixL; (apply edr_var; (rfl); (assumption); (assumption)); (walk_at "ev"); (first | rfl | assumption))
  | (apply ed_lenL; (apply edr_var; (rfl); (assumption); (assumption)))
  | (apply ed_call; (walk_at "eva"); (walk_at "post")))
local macro_rules | `(tactic| walk_at "edl") => `(tactic| first
  | assumption
  | (apply edl_lst; (walk_at "eva"); (walk_at "bb")))
local macro_rules | `(tactic| walk_at "eva") => `(tactic| first
  | exact eda_nil
  | (apply eda_cons; (walk_at "ev"); (walk_at "eva")))
local macro_rules | `(tactic| walk_at "evo") => `(tactic| first
  | exact eok_none
  | (apply eok_some; walk_at "ev"))
local macro_rules | `(tactic| walk_at "bb") => `(tactic| first | rfl | assumption | (simp; done) | (simp; omega) | decide +kernel)
local macro_rules | `(tactic| walk_at "et") => `(tactic| first
  | exact tk_yes
  | (apply tk_andF; walk_at "et")
  | (apply tk_and; (walk_at "et"); (intro _; walk_at "et"))
  | (apply tk_orT; walk_at "et")
  | (apply tk_or; (walk_at "et"); (intro _; walk_at "et"))
  | (apply tk_notT; walk_at "et")
  | (apply tk_notF; walk_at "et")
  | (apply tk_not; walk_at "et")
  | (apply tk_v; walk_at "ev")
  | (apply tk_vB; walk_at "ev"))
local macro_rules | `(tactic| walk_at "if") => `(tactic| first
  | (apply pst_whenF; (walk_at "et"); (walk_at "bb"))
  | (apply pst_whenT; (walk_at "et"); (walk_at "bb")))
local macro_rules | `(tactic| walk_at "post") => `(tactic| first | assumption | exact ⟨_, _, rfl, rfl⟩ | exact ⟨_, _, _, _, rfl, by omega, by omega, rfl⟩ | exact ⟨_, _, _, 0, rfl, by omega, by omega, rfl⟩)
local macro_rules | `(tactic| walk_at "cc") => `(tactic| first | assumption | decide | omega | (refine ⟨?_, ?_⟩ <;> first | decide | omega) | (exact Or.inl (by constructor <;> omega)))

def pStep (n : Nat) (ds : List PyData) (d : PyData) : Prop := ∃ (p : List Wk) (at_ : Nat) (s : Stm) (w : Nat), ds = [encP p, .int (at_ : Int), encS s, .int (w : Int)] ∧ at_ < p.length ∧ smS s = true ∧ w ≤ 5 ∧ 6 ≤ w + n ∧ d = .bool (okS (shapes p) at_ s w)
def pBody (n : Nat) (ds : List PyData) (d : PyData) : Prop := ∃ (p : List Wk) (at_ : Nat) (b : List Stm) (w : Nat), ds = [encP p, .int (at_ : Int), .tuple (encB b), .int (w : Int)] ∧ at_ < p.length ∧ b.length ≤ 20000 ∧ smB b = true ∧ w ≤ 5 ∧ 6 ≤ w + n ∧ d = .bool (okB (shapes p) at_ b w)
section
variable {P : Program} {w : World} {K : PySem.W.Frag} {mg : Str → Option Value} {base : Heap} (T : Tx K mg)
include T
theorem ok_is_body {k n : Nat} (G_is_step : Fn_is_step T P w base CX0 k (spF K (pStep n))) : Fn_is_body T P w base CX0 (k + 1) (spF K (pBody n)) := by
  refine T.F_is_body.ok sc_is_body (spF_len fun ds d h => by obtain ⟨p, at_, s, w, rfl, _⟩ := h; rfl) fun cdv A outer s H vs Q E hr h => ?_
  obtain ⟨ds, d, ht, ⟨p, at_, b, w, rfl, hat, hl, hs, hw5, hw, rfl⟩, k⟩ := h
  obtain _ | ⟨t1, _ | ⟨t2, _ | ⟨t3, _ | ⟨t4, _ | _⟩⟩⟩⟩ := ht
  refine ⟨_, (pss_one (ps_ret (pe_and (pe_callB (kc_isi K) rfl T.b_isinstance (by decide +kernel) (pa_cons (pv 2) (pa_cons (pe_bltn (v := .ty "tuple") rfl T.b_tuple (by decide +kernel) rfl) pa_nil))) (pe_one (pe_cmpR (kop_eq K hr.units) (pe_lc (own := [("step", 4)]) (g := gName 4) (tt := _) rfl sc_is_body.nd (kpi_tup K (pv 2)) (blkOk_by (N := ["program", "at", "body", "within", "step"]) (sc := defScope s_is_body) (by decide +kernel)) (fun _ _ _ _ _ => (pg_name (i := 4) sc_is_body.nd rfl (Or.inl rfl))) (fun _ _ _ _ _ => (pts_one (pt_not (pt_val (pe_call G_is_step (hr.mono (by omega)) (by rfl) T.g_is_step T.k_is_step T.bd_is_step .nil pass0 (pa_cons (pv 0) (pa_cons (pv 1) (pa_cons (pv 4) (pa_cons (pv 3) pa_nil))))))))) (fun _ _ _ _ _ => (pv 4))) (pe_lst pa_nil) (nomark _)))))), ?_⟩
  cases t2
  cases t4
  refine Pst.go (K := K) ?_
  apply pst_ret _ k
  apply ed_is
  · apply ed_andV
    · walk_at "ev"
    intro _
    apply ed_eqN
    · apply EvDL.rd
      apply edl_lcM (xs := b) (f := encS) (p := fun s => !okS (shapes p) at_ s w) (g := encS)
      · walk_at "ev"
      · exact encB_map b
      · omega
      · intro x
        rfl
      · intro x v H1 e1 hx tx
        replace t1 := t1.ex e1
        apply tk_not
        apply tk_vB
        apply ed_call
        · walk_at "eva"
        · exact ⟨p, at_, x, w, rfl, hat, smB_mem hs hx, hw5, hw, rfl⟩
      · intro x v H1 e1 hx _ tx
        walk_at "ev"
    · walk_at "edl"
    · rw [← encB_map]
      exact encB_lay _
  · rw [okB_all]
    simp
    exact filter_not_isEmpty _
theorem ok_is_step {k n : Nat} (hk : 9 ≤ k) (G_is_thing : Fn_is_thing T P w base CX0 8 (spF K (pThing 6))) (G_is_call : Fn_is_call T P w base CX0 9 (spF K pCall)) (G_is_body : Fn_is_body T P w base CX0 k (spF K (pBody n))) : Fn_is_step T P w base CX0 (k + 1) (spF K (pStep (n + 1))) := by
  refine T.F_is_step.ok sc_is_step (spF_len fun ds d h => by obtain ⟨p, at_, s, w, rfl, _⟩ := h; rfl) fun cdv A outer s H vs Q E hr h => ?_
  obtain ⟨ds, d, ht, ⟨p, at_, st, w, rfl, hat, hs, hw5, hw, rfl⟩, k⟩ := h
  obtain _ | ⟨t1, _ | ⟨t2, _ | ⟨t3, _ | ⟨t4, _ | _⟩⟩⟩⟩ := ht
  refine ⟨_, (pss_cons (ps_if (PW.pt (pw_or (pt_not (pt_val (pe_callB (kc_isi K) rfl T.b_isinstance (by decide +kernel) (pa_cons (pv 2) (pa_cons (pe_bltn (v := .ty "tuple") rfl T.b_tuple (by decide +kernel) rfl) pa_nil))))) (pw_or (pt_cmpR op_lt (pe_callB (kc_len K) rfl T.b_len PySem.boot_len (pa_cons (pv 2) pa_nil)) pe_int (nomark _)) (pw_or1 (pt_cmpR op_gt (pv 3) (pe_gint rfl T.g_MOST_WITHIN) (nomark _))))))
    (pss_one (ps_ret pe_bl))
    pss_nil)
  (pss_cons (ps_set (i := 4) sc_is_step.nd rfl (Or.inl rfl) (pe_slice (ksl_tup K) (pe_ix (kix_tup K) (pv 0) (pv 1) (fun _ _ => rfl)) po_none (po_some pe_int)))
  (pss_cons (ps_if (pt_cmpR (kop_eq K hr.units) (pe_ix (kix_tup K) (pv 2) pe_int (fun _ _ => rfl)) pe_str (nomark _))
    (pss_one (ps_ret (pe_call G_is_call (hr.mono (by omega)) (by rfl) T.g_is_call T.k_is_call T.bd_is_call .nil pass0 (pa_cons (pv 0) (pa_cons (pv 1) (pa_cons (pv 2) (pa_cons (pv 4) pa_nil)))))))
    pss_nil)
  (pss_cons (ps_if (pt_not (pt_val (pe_call G_is_thing (hr.mono (by omega)) (by rfl) T.g_is_thing T.k_is_thing T.bd_is_thing .nil pass0 (pa_cons (pe_ix (kix_tup K) (pv 2) pe_int (fun _ _ => rfl)) (pa_cons (pv 4) (pa_cons pe_int pa_nil))))))
    (pss_one (ps_ret pe_bl))
    pss_nil)
  (pss_cons (ps_if (pt_cmpR (kop_eq K hr.units) (pe_ix (kix_tup K) (pv 2) pe_int (fun _ _ => rfl)) pe_str (nomark _))
    (pss_one (ps_ret (pe_and (pe_cmpR op_eq (pe_callB (kc_len K) rfl T.b_len PySem.boot_len (pa_cons (pv 2) pa_nil)) pe_int (nomark _)) (pe_and (pe_cmpR (kop_in K) (pe_ix (kix_tup K) (pe_ix (kix_tup K) (pv 2) pe_int (fun _ _ => rfl)) pe_int (fun _ _ => rfl)) (pe_glob (v := .ref _) rfl T.g_PLACES rfl) rfl) (pe_one (pe_call G_is_thing (hr.mono (by omega)) (by rfl) T.g_is_thing T.k_is_thing T.bd_is_thing .nil pass0 (pa_cons (pe_ix (kix_tup K) (pv 2) pe_int (fun _ _ => rfl)) (pa_cons (pv 4) (pa_cons pe_int pa_nil)))))))))
    pss_nil)
  (pss_cons (ps_if (pt_cmpR (kop_eq K hr.units) (pe_ix (kix_tup K) (pv 2) pe_int (fun _ _ => rfl)) pe_str (nomark _))
    (pss_one (ps_ret (pe_and (pe_cmpR op_eq (pe_callB (kc_len K) rfl T.b_len PySem.boot_len (pa_cons (pv 2) pa_nil)) pe_int (nomark _)) (pe_one (pe_cmpR (kop_eq K hr.units) (pe_lc (own := [("body", 5)]) (g := gName 5) (tt := _) rfl sc_is_step.nd (kpi_tup K (pe_slice (ksl_tup K) (pv 2) (po_some pe_int) po_none)) (blkOk_by (N := ["program", "at", "step", "within", "sizes", "body"]) (sc := defScope s_is_step) (by decide +kernel)) (fun _ _ _ _ _ => (pg_name (i := 5) sc_is_step.nd rfl (Or.inl rfl))) (fun _ _ _ _ _ => (pts_one (pt_not (pt_val (pe_call G_is_body (hr.mono (by omega)) (by rfl) T.g_is_body T.k_is_body T.bd_is_body .nil pass0 (pa_cons (pv 0) (pa_cons (pv 1) (pa_cons (pv 5) (pa_cons (pe_op op_add (pv 3) pe_int) pa_nil))))))))) (fun _ _ _ _ _ => (pv 5))) (pe_lst pa_nil) (nomark _))))))
    pss_nil)
  (pss_one (ps_ret (pe_and (pe_cmpR (kop_eq K hr.units) (pe_ix (kix_tup K) (pv 2) pe_int (fun _ _ => rfl)) pe_str (nomark _)) (pe_one (pe_cmpR op_eq (pe_callB (kc_len K) rfl T.b_len PySem.boot_len (pa_cons (pv 2) pa_nil)) pe_int (nomark _)))))))))))), ?_⟩
  cases t2
  cases t4
  refine Pst.go (K := K) ?_
  have hwk : p[at_]? = some p[at_] := List.getElem?_eq_getElem hat
  have hix : atI (p.map encW) (at_ : Int) = some (encW p[at_]) := atI_enc hwk
  have hp : shP (shapes p) at_ = p[at_].params := shP_get hwk
  have ho : shO (shapes p) at_ = p[at_].owns := shO_get hwk
  have hPl : ∀ H, Td K H (.ref (He.ga K "PLACES")) (.tuple [.str "cell", .str "own", .str "par"]) := fun H => .tup (T.t_PLACES H) (.cons (.str _) (.cons (.str _) (.cons (.str _) .nil)))
  by_cases h4 : w ≤ 4
  · cases st with
    | set pl t =>
      walk_at "if"
      refine pst_asg (d := .tuple [.int (p[at_].params : Int), .int (p[at_].owns : Int)]) ?_ ?_
      · apply ed_is
        · walk_at "ev"
        · rfl
      intro v5 H1 e1 t5
      replace t1 := t1.ex e1
      replace t3 := t3.ex e1
      replace k := fun v H' (e : Ex H1 H') => k v H' (e1.trans e)
      clear e1
      walk_at "if"
      apply pst_when
      · walk_at "et"
      · intro hb
        apply pst_ret _ k
        apply ed_is
        · walk_at "ev"
        · simp at hb
          simp [okS, hp, ho, hb]
      intro hb
      simp at hb
      walk_at "if"
      apply pst_ret _ k
      apply ed_is
      · apply ed_andV
        · walk_at "ev"
        intro _
        refine ed_andV (a := isPlace pl) (b := okT p[at_].params p[at_].owns t 0) ?_ ?_
        · cases pl <;> (apply ed_is; (walk_at "ev"); (simp [isPlace]))
        intro _
        walk_at "ev"
      · simp [okS, hp, ho, hb, h4]
    | say t =>
      walk_at "if"
      refine pst_asg (d := .tuple [.int (p[at_].params : Int), .int (p[at_].owns : Int)]) ?_ ?_
      · apply ed_is
        · walk_at "ev"
        · rfl
      intro v5 H1 e1 t5
      replace t1 := t1.ex e1
      replace t3 := t3.ex e1
      replace k := fun v H' (e : Ex H1 H') => k v H' (e1.trans e)
      clear e1
      walk_at "if"
      apply pst_when
      · walk_at "et"
      · intro hb
        apply pst_ret _ k
        apply ed_is
        · walk_at "ev"
        · simp at hb
          simp [okS, hp, ho, hb]
      intro hb
      simp at hb
      walk_at "if"
      walk_at "if"
      apply pst_ret _ k
      apply ed_is
      · walk_at "ev"
      · simp [okS, hp, ho, hb, h4]
    | ite t a b =>
      walk_at "if"
      refine pst_asg (d := .tuple [.int (p[at_].params : Int), .int (p[at_].owns : Int)]) ?_ ?_
      · apply ed_is
        · walk_at "ev"
        · rfl
      intro v5 H1 e1 t5
      replace t1 := t1.ex e1
      replace t3 := t3.ex e1
      replace k := fun v H' (e : Ex H1 H') => k v H' (e1.trans e)
      clear e1
      walk_at "if"
      apply pst_when
      · walk_at "et"
      · intro hb
        apply pst_ret _ k
        apply ed_is
        · walk_at "ev"
        · simp at hb
          simp [okS, hp, ho, hb]
      intro hb
      simp at hb
      walk_at "if"
      walk_at "if"
      simp only [smS, Bool.and_eq_true, decide_eq_true_eq] at hs
      apply pst_ret _ k
      apply ed_is
      · apply ed_andV
        · walk_at "ev"
        intro _
        apply ed_eqN
        · apply EvDL.rd
          apply edl_lcM (xs := [a, b]) (f := fun b => .tuple (encB b)) (p := fun b => !okB (shapes p) at_ b (w + 1)) (g := fun b => .tuple (encB b))
          · walk_at "ev"
          · rfl
          · exact (by decide : 2 ≤ 40000)
          · intro x
            rfl
          · intro x v H2 e2 hx tx
            replace t1 := t1.ex e2
            have hx2 : x.length ≤ 20000 ∧ smB x = true := by
              simp at hx
              rcases hx with e | e <;> subst e <;> simp [hs]
            apply tk_not
            apply tk_vB
            apply ed_call
            · walk_at "eva"
            · exact ⟨p, at_, x, w + 1, rfl, hat, hx2.1, hx2.2, by omega, by omega, rfl⟩
          · intro x v H2 e2 hx _ tx
            walk_at "ev"
        · walk_at "edl"
        · simp only [List.filter_cons, List.filter_nil]
          split <;> split <;> simp [PyData.canLayAll0, PyData.canLay0, encB_lay]
      · simp only [okS, hp, ho, hb, h4]
        have := filter_not_isEmpty (f := fun b => okB (shapes p) at_ b (w + 1)) [a, b]
        simp at this
        simp [this]
    | call c ts =>
      walk_at "if"
      refine pst_asg (d := .tuple [.int (p[at_].params : Int), .int (p[at_].owns : Int)]) ?_ ?_
      · apply ed_is
        · walk_at "ev"
        · rfl
      intro v5 H1 e1 t5
      replace t1 := t1.ex e1
      replace t3 := t3.ex e1
      replace k := fun v H' (e : Ex H1 H') => k v H' (e1.trans e)
      clear e1
      walk_at "if"
      simp only [smS, decide_eq_true_eq] at hs
      apply pst_ret _ k
      apply ed_is
      · apply ed_call
        · walk_at "eva"
        · exact ⟨p, at_, c, ts, _, _, rfl, by omega, rfl⟩
      · have hl : (shapes p).length = p.length := by simp [shapes]
        simp [okS, hp, ho, h4, hl]
  · have h5 : okS (shapes p) at_ st w = false := by cases st <;> simp [okS, h4]
    obtain ⟨x, y, xs, e⟩ : ∃ x y xs, encS st = .tuple (x :: y :: xs) := by cases st <;> exact ⟨_, _, _, rfl⟩
    rw [e] at t3
    walk_at "if"
    apply pst_ret _ k
    rw [h5]
    exact ed_cb
end
end Hw

set_option maxRecDepth 100000
set_option maxHeartbeats 4000000
/-! PC4: bodies within, counts, works -/
namespace Hw
open PySem PySem.Spec PyProof.Rows L2 Evl
local macro_rules | `(tactic| walk_at "dd") => `(tactic| first | rfl | decide | (simp; done) | omega)
local macro_rules | `(tactic| walk_at "td") => `(tactic| first | assumption | exact Td.int _ | exact Td.bl _ | exact Td.str _ | exact Td.non | exact Td.tup (by assumption) (by assumption))
local macro_rules | `(tactic| walk_at "ev") => `(tactic| first
  | exact ed_ci | exact ed_cs | exact ed_cb | exact ed_cn
  | (apply ed_cg; assumption)
  | (apply ed_var; (rfl); (walk_at "td"))
  | (apply ed_ixT; (walk_at "ev"); (walk_at "ev"); (first | rfl | assumption))
  | (apply ed_rowI; (rfl); (assumption); (walk_at "ev"); (rfl))
  | (apply ed_ixL; (apply EvDL.rd; walk_at "edl"); (walk_at "ev"); (rfl))
  | (apply ed_intb; (walk_at "ev"))
  | (apply ed_len; walk_at "ev")
  | (apply ed_lenV; (apply ev_rowR; (rfl); (assumption); (walk_at "ev"); (rfl)); (assumption))
  | (apply ed_Ii; (walk_at "ev"); (walk_at "ev"); (walk_at "cc"))
  | (apply ed_isi; (walk_at "ev"); (rfl))
  | (apply ed_I0i; (walk_at "ev"); (walk_at "ev"))
  | (apply ed_I0b; (walk_at "ev"); (walk_at "ev"))
  | (apply ed_eqi; (walk_at "ev"); (walk_at "ev"))
  | (apply ed_nei; (walk_at "ev"); (walk_at "ev"))
  | (apply ed_andF; walk_at "ev")
  | (apply ed_andV; (walk_at "ev"); (intro _; walk_at "ev"))
  | (apply ed_orT; walk_at "ev")
  | (apply ed_orV; (walk_at "ev"); (intro _; walk_at "ev"))
  | (apply ed_notT; walk_at "ev")
  | (apply ed_notF; walk_at "ev")
  | (apply ed_notV; walk_at "ev")
  | (apply ed_chain; (walk_at "ev"); (walk_at "ev"); (intro _; walk_at "ev"))
  | (apply ed_eqS; (walk_at "ev"); (walk_at "ev"); (walk_at "bb"); (walk_at "bb"))
  | (apply ed_neS; (walk_at "ev"); (walk_at "ev"); (walk_at "bb"); (walk_at "bb"))
  | (apply ed_inT; (walk_at "ev"); (walk_at "ev"); (rfl); (rfl))
  | (apply ed_niT; (walk_at "ev"); (walk_at "ev"); (rfl); (rfl))
  | (apply ed_tup; (walk_at "eva"); (walk_at "bb"))
  | (apply ed_sl; (walk_at "ev"); (walk_at "evo"); (walk_at "evo"))
  | (apply ed_eqN; (apply EvDL.rd; walk_at "edl"); (walk_at "edl"); (walk_at "bb"))
  | (apply ed_neN; (apply EvDL.rd; walk_at "edl"); (walk_at "edl"); (walk_at "bb"))
  | (apply ed_ixL; (apply edr_var; (rfl); (assumption); (assumption)); (walk_at "ev"); (first | rfl | assumption))
  | (apply ed_lenL; (apply edr_var; (rfl); (assumption); (assumption)))
  | (apply ed_call; (walk_at "eva"); (walk_at "post")))
local macro_rules | `(tactic| walk_at "edl") => `(tactic| first
  | assumption
  | (apply edl_lst; (walk_at "eva"); (walk_at "bb")))
local macro_rules | `(tactic| walk_at "eva") => `(tactic| first
  | exact eda_nil
  | (apply eda_cons; (walk_at "ev"); (walk_at "eva")))
local macro_rules | `(tactic| walk_at "evo") => `(tactic| first
  | exact eok_none
  | (apply eok_some; walk_at "ev"))
local macro_rules | `(tactic| walk_at "bb") => `(tactic| first | rfl | assumption | (simp; done) | (simp; omega) | decide +kernel)
local macro_rules | `(tactic| walk_at "et") => `(tactic| first
  | exact tk_yes
  | (apply tk_andF; walk_at "et")
  | (apply tk_and; (walk_at "et"); (intro _; walk_at "et"))
  | (apply tk_orT; walk_at "et")
  | (apply tk_or; (walk_at "et"); (intro _; walk_at "et"))
  | (apply tk_notT; walk_at "et")
  | (apply tk_notF; walk_at "et")
  | (apply tk_not; walk_at "et")
  | (apply tk_v; walk_at "ev")
  | (apply tk_vB; walk_at "ev"))
local macro_rules | `(tactic| walk_at "if") => `(tactic| first
  | (apply pst_whenF; (walk_at "et"); (walk_at "bb"))
  | (apply pst_whenT; (walk_at "et"); (walk_at "bb")))
local macro_rules | `(tactic| walk_at "post") => `(tactic| first | assumption | exact ⟨_, _, rfl, rfl⟩ | exact ⟨_, _, _, _, rfl, by omega, by omega, rfl⟩ | exact ⟨_, _, _, 0, rfl, by omega, by omega, rfl⟩)
local macro_rules | `(tactic| walk_at "cc") => `(tactic| first | assumption | decide | omega | (refine ⟨?_, ?_⟩ <;> first | decide | omega) | (exact Or.inl (by constructor <;> omega)))

def pBods (ds : List PyData) (d : PyData) : Prop := ∃ s : Stm, ds = [encS s] ∧ d = .tuple ((bods s).map fun b => .tuple (encB b))
def pCount (n : Nat) (ds : List PyData) (d : PyData) : Prop := ∃ b : List Stm, ds = [.tuple (encB b)] ∧ b.length ≤ 20000 ∧ smB b = true ∧ dpB b + 1 ≤ n ∧ d = .int (cntB b : Int)
theorem filter_yes {α : Type} (xs : List α) : xs.filter (fun _ => true) = xs := List.filter_eq_self.mpr fun _ _ => rfl
theorem sum_cast : ∀ xs : List Nat, (xs.map fun n => ((n : Nat) : Int)).sum = ((xs.sum : Nat) : Int)
  | [] => rfl
  | x :: r => by simp [sum_cast r]
section
variable {P : Program} {w : World} {K : PySem.W.Frag} {mg : Str → Option Value} {base : Heap} (T : Tx K mg)
include T
theorem ok_bodyN (GT : Fn_is_thing T P w base CX0 8 (spF K (pThing 6))) (GC : Fn_is_call T P w base CX0 9 (spF K pCall)) : ∀ n : Nat, Fn_is_body T P w base CX0 (10 + 2 * n) (spF K (pBody n)) := by
  intro n
  induction n with
  | zero => exact fn_vac fun vs H Q E ⟨ds, d, _, ⟨_, _, _, w, _, _, _, _, h1, h2, _⟩, _⟩ => by omega
  | succ n ih => exact ok_is_body T (ok_is_step (k := 10 + 2 * n) T (by omega) GT GC ih)
theorem ok_bodies_of {k : Nat} : Fn_bodies_of T P w base CX0 (k + 1) (spF K pBods) := by
  refine T.F_bodies_of.ok sc_bodies_of (spF_len fun ds d h => by obtain ⟨s, rfl, _⟩ := h; rfl) fun cdv A outer s H vs Q E hr h => ?_
  obtain ⟨ds, d, ht, ⟨st, rfl, rfl⟩, k⟩ := h
  obtain _ | ⟨t1, _ | _⟩ := ht
  refine ⟨_, (pss_one (ps_ret (pe_ifExp (pt_cmpR (kop_eq K hr.units) (pe_ix (kix_tup K) (pv 0) pe_int (fun _ _ => rfl)) pe_str (nomark _)) (pe_slice (ksl_tup K) (pv 0) (po_some pe_int) po_none) (pe_tup pa_nil)))), ?_⟩
  refine Pst.go (K := K) ?_
  apply pst_ret _ k
  cases st with
  | ite t a b =>
    apply ed_ifT
    · apply tk_is
      · walk_at "et"
      · walk_at "bb"
    · apply ed_is
      · walk_at "ev"
      · rfl
  | _ =>
    apply ed_ifF
    · apply tk_is
      · walk_at "et"
      · walk_at "bb"
    · apply ed_is
      · walk_at "ev"
      · rfl
theorem ok_count (GB : Fn_bodies_of T P w base CX0 1 (spF K pBods)) : ∀ n : Nat, Fn_count T P w base CX0 (n + 1) (spF K (pCount n)) := by
  intro n
  induction n with
  | zero => exact fn_vac fun vs H Q E ⟨ds, d, _, ⟨_, _, _, _, h2, _⟩, _⟩ => by omega
  | succ n ih =>
    have G_bodies_of := GB
    have G_count := ih
    refine T.F_count.ok sc_count (spF_len fun ds d h => by obtain ⟨s, rfl, _⟩ := h; rfl) fun cdv A outer s H vs Q E hr h => ?_
    obtain ⟨ds, d, ht, ⟨b, rfl, hl, hs, hn, rfl⟩, k⟩ := h
    obtain _ | ⟨t1, _ | _⟩ := ht
    refine ⟨_, (pss_one (ps_ret (pe_callB (kc_sum K) rfl T.b_sum (by decide +kernel) (pa_cons (pe_lc (own := [("step", 1)]) (g := gName 1) (tt := tYes) rfl sc_count.nd (kpi_tup K (pv 0)) (blkOk_by (N := ["body", "step", "inner"]) (sc := defScope s_count) (by decide +kernel)) (fun _ _ _ _ _ => (pg_name (i := 1) sc_count.nd rfl (Or.inl rfl))) (fun _ _ _ _ _ => pts_nil) (fun _ _ _ _ _ => (pe_op op_add pe_int (pe_callB (kc_sum K) rfl T.b_sum (by decide +kernel) (pa_cons (pe_lc (own := [("inner", 2)]) (g := gName 2) (tt := tYes) rfl sc_count.nd (kpi_tup K (pe_call G_bodies_of (hr.mono (by omega)) (by rfl) T.g_bodies_of T.k_bodies_of T.bd_bodies_of .nil pass0 (pa_cons (pv 1) pa_nil))) (blkOk_by (N := ["body", "step", "inner"]) (sc := relS _ (defScope s_count)) (by decide +kernel)) (fun _ _ _ _ _ => (pg_name (i := 2) sc_count.nd rfl (Or.inl rfl))) (fun _ _ _ _ _ => pts_nil) (fun _ _ _ _ _ => (pe_call G_count (hr.mono (by omega)) (by rfl) T.g_count T.k_count T.bd_count .nil pass0 (pa_cons (pv 2) pa_nil)))) pa_nil))))) pa_nil)))), ?_⟩
    refine Pst.go (K := K) ?_
    apply pst_ret _ k
    apply ed_is
    · refine ed_sum (ns := b.map fun s => (cntS s : Int)) ?_
      apply EvDL.rd
      apply edl_is
      · apply edl_lcM (xs := b) (f := encS) (p := fun _ => true) (g := fun s => .int (cntS s : Int))
        · walk_at "ev"
        · exact encB_map b
        · omega
        · intro x
          rfl
        · intro x v H1 e1 hx tx
          exact tk_yes
        · intro x v H1 e1 hx _ tx
          apply ed_is
          · apply ed_I0i
            · exact ed_ci
            · refine ed_sum (ns := (bods x).map fun b => (cntB b : Int)) ?_
              apply EvDL.rd
              apply edl_is
              · apply edl_lcM (xs := bods x) (f := fun b => .tuple (encB b)) (p := fun _ => true) (g := fun b => .int (cntB b : Int))
                · apply ed_call
                  · walk_at "eva"
                  · exact ⟨x, rfl, rfl⟩
                · rfl
                · cases x <;> simp [bods]
                · intro x
                  rfl
                · intro x v H1 e1 hx tx
                  exact tk_yes
                · intro y v H1 e1 hy _ ty
                  have hy2 := bods_sm (smB_mem hs hx) hy
                  have hy3 := bods_dp hy
                  have hx3 := dpB_mem hx
                  apply ed_call
                  · walk_at "eva"
                  · exact ⟨y, rfl, hy2.1, hy2.2, by omega, rfl⟩
              · rw [filter_yes, List.map_map]
                rfl
          · rw [cntS_bods]
            have := sum_cast ((bods x).map cntB)
            rw [List.map_map] at this
            show PyData.int (1 + ((bods x).map fun b => (cntB b : Int)).sum) = _
            rw [show ((bods x).map fun b => (cntB b : Int)) = (bods x).map ((fun n : Nat => (n : Int)) ∘ cntB) from rfl, this]
            rfl
      · rw [filter_yes, List.map_map]
        rfl
    · have := sum_cast (b.map cntS)
      rw [List.map_map] at this
      rw [show (b.map fun s => (cntS s : Int)) = b.map ((fun n : Nat => (n : Int)) ∘ cntS) from rfl, this, cntB_sum]
end
end Hw

set_option maxRecDepth 100000
set_option maxHeartbeats 4000000
/-! PC5: works, programs, ways -/
namespace Hw
open PySem PySem.Spec PyProof.Rows L2 Evl
local macro_rules | `(tactic| walk_at "dd") => `(tactic| first | rfl | decide | (simp; done) | omega)
local macro_rules | `(tactic| walk_at "td") => `(tactic| first | assumption | exact Td.int _ | exact Td.bl _ | exact Td.str _ | exact Td.non | exact Td.tup (by assumption) (by assumption))
local macro_rules | `(tactic| walk_at "ev") => `(tactic| first
  | exact ed_ci | exact ed_cs | exact ed_cb | exact ed_cn
  | (apply ed_cg; assumption)
  | (apply ed_var; (rfl); (walk_at "td"))
  | (apply ed_ixT; (walk_at "ev"); (walk_at "ev"); (first | rfl | assumption))
  | (apply ed_rowI; (rfl); (assumption); (walk_at "ev"); (rfl))
  | (apply ed_ixL; (apply EvDL.rd; walk_at "edl"); (walk_at "ev"); (rfl))
  | (apply ed_intb; (walk_at "ev"))
  | (apply ed_len; walk_at "ev")
  | (apply ed_lenV; (apply ev_rowR; (rfl); (assumption); (walk_at "ev"); (rfl)); (assumption))
  | (apply ed_Ii; (walk_at "ev"); (walk_at "ev"); (walk_at "cc"))
  | (apply ed_isi; (walk_at "ev"); (rfl))
  | (apply ed_I0i; (walk_at "ev"); (walk_at "ev"))
  | (apply ed_I0b; (walk_at "ev"); (walk_at "ev"))
  | (apply ed_eqi; (walk_at "ev"); (walk_at "ev"))
  | (apply ed_nei; (walk_at "ev"); (walk_at "ev"))
  | (apply ed_andF; walk_at "ev")
  | (apply ed_andV; (walk_at "ev"); (intro _; walk_at "ev"))
  | (apply ed_orT; walk_at "ev")
  | (apply ed_orV; (walk_at "ev"); (intro _; walk_at "ev"))
  | (apply ed_notT; walk_at "ev")
  | (apply ed_notF; walk_at "ev")
  | (apply ed_notV; walk_at "ev")
  | (apply ed_chain; (walk_at "ev"); (walk_at "ev"); (intro _; walk_at "ev"))
  | (apply ed_eqS; (walk_at "ev"); (walk_at "ev"); (walk_at "bb"); (walk_at "bb"))
  | (apply ed_neS; (walk_at "ev"); (walk_at "ev"); (walk_at "bb"); (walk_at "bb"))
  | (apply ed_inT; (walk_at "ev"); (walk_at "ev"); (rfl); (rfl))
  | (apply ed_niT; (walk_at "ev"); (walk_at "ev"); (rfl); (rfl))
  | (apply ed_tup; (walk_at "eva"); (walk_at "bb"))
  | (apply ed_sl; (walk_at "ev"); (walk_at "evo"); (walk_at "evo"))
  | (apply ed_eqN; (apply EvDL.rd; walk_at "edl"); (walk_at "edl"); (walk_at "bb"))
  | (apply ed_neN; (apply EvDL.rd; walk_at "edl"); (walk_at "edl"); (walk_at "bb"))
  | (apply ed_ixL; (apply edr_var; (rfl); (assumption); (assumption)); (walk_at "ev"); (first | rfl | assumption))
  | (apply ed_lenL; (apply edr_var; (rfl); (assumption); (assumption)))
  | (apply ed_call; (walk_at "eva"); (walk_at "post")))
local macro_rules | `(tactic| walk_at "edl") => `(tactic| first
  | assumption
  | (apply edl_lst; (walk_at "eva"); (walk_at "bb")))
local macro_rules | `(tactic| walk_at "eva") => `(tactic| first
  | exact eda_nil
  | (apply eda_cons; (walk_at "ev"); (walk_at "eva")))
local macro_rules | `(tactic| walk_at "evo") => `(tactic| first
  | exact eok_none
  | (apply eok_some; walk_at "ev"))
local macro_rules | `(tactic| walk_at "bb") => `(tactic| first | rfl | assumption | (simp; done) | (simp; omega) | decide +kernel)
local macro_rules | `(tactic| walk_at "et") => `(tactic| first
  | exact tk_yes
  | (apply tk_andF; walk_at "et")
  | (apply tk_and; (walk_at "et"); (intro _; walk_at "et"))
  | (apply tk_orT; walk_at "et")
  | (apply tk_or; (walk_at "et"); (intro _; walk_at "et"))
  | (apply tk_notT; walk_at "et")
  | (apply tk_notF; walk_at "et")
  | (apply tk_not; walk_at "et")
  | (apply tk_v; walk_at "ev")
  | (apply tk_vB; walk_at "ev"))
local macro_rules | `(tactic| walk_at "if") => `(tactic| first
  | (apply pst_whenF; (walk_at "et"); (walk_at "bb"))
  | (apply pst_whenT; (walk_at "et"); (walk_at "bb")))
local macro_rules | `(tactic| walk_at "post") => `(tactic| first | assumption | exact ⟨_, _, rfl, rfl⟩ | exact ⟨_, _, _, _, rfl, by omega, by omega, rfl⟩ | exact ⟨_, _, _, 0, rfl, by omega, by omega, rfl⟩)
local macro_rules | `(tactic| walk_at "cc") => `(tactic| first | assumption | decide | omega | (refine ⟨?_, ?_⟩ <;> first | decide | omega) | (exact Or.inl (by constructor <;> omega)))

def smP (p : List Wk) : Prop := p.length ≤ 1000 ∧ ∀ w ∈ p, w.body.length ≤ 20000 ∧ smB w.body = true
theorem ints_lay (f : Nat → Int) : ∀ xs : List Nat, PyData.canLayAll0 (xs.map fun i => PyData.int (f i)) = true
  | [] => by simp [PyData.canLayAll0]
  | x :: r => by simp [PyData.canLayAll0, PyData.canLay0, ints_lay f r]
theorem strs_lay : ∀ xs : List Str, (∀ s ∈ xs, (PyData.str s).canLay0 = true) → PyData.canLayAll0 (xs.map PyData.str) = true
  | [], _ => by simp [PyData.canLayAll0]
  | x :: r, h => by
    simp only [List.map_cons, PyData.canLayAll0, Bool.and_eq_true]
    exact ⟨h x List.mem_cons_self, strs_lay r fun s hs => h s (List.mem_cons_of_mem _ hs)⟩
def pWork (ds : List PyData) (d : PyData) : Prop := ∃ (p : List Wk) (at_ : Nat), ds = [encP p, .int (at_ : Int)] ∧ smP p ∧ at_ < p.length ∧ d = .bool (okW p at_)
/-- need_program(program) as a statement -/
theorem pst_callNP {K : PySem.W.Frag} {σ : L2.St} {H : Hp} {D : Ends} {tz : TS} {E : XK} {n : Nat} {v : V} {spNP : Sp} (h : σ[n]? = some (some v)) (hsp : ∀ H1, Ex H H1 → ∀ Q : VK, (∀ H', Ex H1 H' → Q .non H') → spNP [v] H1 Q E)
    (k : Pst K tz D σ H) : Pst K (tSeq (tDrop (tCall spNP [] E (tCons (tVar n) tNil))) tz) D σ H := fun H1 a => ⟨v, h, hsp H1 a _ fun H' e => k H' (a.trans e)⟩
section
variable {P : Program} {w : World} {K : PySem.W.Frag} {mg : Str → Option Value} {base : Heap} (T : Tx K mg)
include T
theorem ok_is_work (G_is_body : Fn_is_body T P w base CX0 22 (spF K (pBody 6))) (G_count : Fn_count T P w base CX0 8 (spF K (pCount 7))) : Fn_is_work T P w base CX0 23 (spF K pWork) := by
  refine T.F_is_work.ok sc_is_work (spF_len fun ds d h => by obtain ⟨s, _, rfl, _⟩ := h; rfl) fun cdv A outer s H vs Q E hr h => ?_
  obtain ⟨ds, d, ht, ⟨p, at_, rfl, hs, hat, rfl⟩, k⟩ := h
  obtain _ | ⟨t1, _ | ⟨t2, _ | _⟩⟩ := ht
  refine ⟨_, (pss_cons (ps_asg (pe_ix (kix_tup K) (pv 0) (pv 1) (fun _ _ => rfl)) (kpg_tup K rfl (pgs_cons (pg_name (i := 2) sc_is_work.nd rfl (Or.inl rfl)) (pgs_cons (pg_name (i := 3) sc_is_work.nd rfl (Or.inl rfl)) (pgs_cons (pg_name (i := 4) sc_is_work.nd rfl (Or.inl rfl)) pgs_nil)))))
  (pss_cons (ps_if (PW.pt (pw_or (pt_not (pt_chain op_le op_le pe_int (pv 2) (pe_gint rfl T.g_MOST_PARAMS))) (pw_or (pt_not (pt_chain op_le op_le pe_int (pv 3) (pe_gint rfl T.g_MOST_OWNS_programs))) (pw_or1 (PW.pt (pw_and (pt_cmpR op_eq (pv 1) pe_int (nomark _)) (pw_and1 (pt_cmpR op_gt (pv 2) pe_int (nomark _)))))))))
    (pss_one (ps_ret pe_bl))
    pss_nil)
  (pss_one (ps_ret (pe_and (pe_call G_is_body (hr.mono (by omega)) (by rfl) T.g_is_body T.k_is_body T.bd_is_body .nil pass0 (pa_cons (pv 0) (pa_cons (pv 1) (pa_cons (pv 4) (pa_cons pe_int pa_nil))))) (pe_one (pe_cmpR op_le (pe_call G_count (hr.mono (by omega)) (by rfl) T.g_count T.k_count T.bd_count .nil pass0 (pa_cons (pv 4) pa_nil)) (pe_gint rfl T.g_MOST_STEPS_programs) (nomark _)))))))), ?_⟩
  cases t2
  have hwk : p[at_]? = some p[at_] := List.getElem?_eq_getElem hat
  have hix : atI (p.map encW) (at_ : Int) = some (encW p[at_]) := atI_enc hwk
  have hsm := hs.2 p[at_] (List.getElem_mem hat)
  refine Pst.go (K := K) ?_
  refine pst_unp3 (d1 := .int (p[at_].params : Int)) (d2 := .int (p[at_].owns : Int)) (d3 := .tuple (encB p[at_].body)) ?_ ?_
  · apply ed_is
    · walk_at "ev"
    · rfl
  intro v1 v2 v3 H1 e1 u1 u2 u3
  cases u1
  cases u2
  replace t1 := t1.ex e1
  replace k := fun v H' (e : Ex H1 H') => k v H' (e1.trans e)
  apply pst_when
  · walk_at "et"
  · intro hb
    apply pst_ret _ k
    apply ed_is
    · walk_at "ev"
    · simp only [okW, hwk]
      simp at hb ⊢
      intros
      exfalso
      omega
  · intro hb
    apply pst_ret _ k
    apply ed_is
    · apply ed_andV
      · apply ed_call
        · walk_at "eva"
        · exact ⟨p, at_, p[at_].body, 0, rfl, hat, hsm.1, hsm.2, by omega, by omega, rfl⟩
      · intro hok
        apply ed_I0b
        · apply ed_call
          · walk_at "eva"
          · exact ⟨p[at_].body, rfl, hsm.1, hsm.2, by have := okB_dp _ _ hok; omega, rfl⟩
        · walk_at "ev"
    · simp only [okW, hwk]
      simp at hb
      have h1 : p[at_].params ≤ 3 := by omega
      have h2 : p[at_].owns ≤ 99 := by omega
      have h3 : at_ = 0 → p[at_].params = 0 := by omega
      have h4 : (decide (at_ ≠ 0) || decide (p[at_].params = 0)) = true := by
        by_cases e : at_ = 0
        · simp [h3 e]
        · simp [e]
      rw [h4]
      simp [h1, h2]
      congr 1
      exact decide_eq_decide.mpr (by omega)
/-- refused, or let by -/
def spNP (K : PySem.W.Frag) : Sp := fun vs H Q E => ∃ p, TdAll K H vs [encP p] ∧ smP p ∧ (okP p = true → ∀ H', Ex H H' → Q .non H') ∧ (okP p = false → ∀ H', Ex H H' → E (.ref (He.ga K "BadProgram")) none H')
theorem ok_need_program (G_is_work : Fn_is_work T P w base CX0 23 (spF K pWork)) : Fn_need_program T P w base (L2.CX P w) 24 (spNP K) := by
  refine T.F_need_program.ok sc_need_program (fun vs H Q E h => by obtain ⟨p, ht, _⟩ := h; exact ht.length) fun cdv A outer s H vs Q E hr h => ?_
  obtain ⟨p, ht, hs, kq, ke⟩ := h
  obtain _ | ⟨t1, _ | _⟩ := ht
  refine ⟨_, (pss_cons (ps_if (pt_not (pt_chain op_le op_le pe_int (pe_callB (kc_len K) rfl T.b_len PySem.boot_len (pa_cons (pv 0) pa_nil)) (pe_gint rfl T.g_MOST_WORKS)))
    (pss_one (ps_raise rfl (takes_of rfl rfl rfl rfl) (pmk_own PySem.F.excBase_ValueError T.x_BadProgram T.g_BadProgram T.k_BadProgram (raises_own T.be_BadProgram T.ty_BadProgram) (by exact rfl))))
    pss_nil)
  (pss_one (ps_if (pt_cmpR (kop_ne K hr.units) (pe_lc (own := [("at", 1)]) (g := gName 1) (tt := _) rfl sc_need_program.nd (pi_range1 rfl T.b_range (pa_cons (pe_callB (kc_len K) rfl T.b_len PySem.boot_len (pa_cons (pv 0) pa_nil)) pa_nil)) (blkOk_by (N := ["program", "at"]) (sc := defScope s_need_program) (by decide +kernel)) (fun _ _ _ _ _ => (pg_name (i := 1) sc_need_program.nd rfl (Or.inl rfl))) (fun _ _ _ _ _ => (pts_one (pt_not (pt_val (pe_call G_is_work (hr.mono (by omega)) (by rfl) T.g_is_work T.k_is_work T.bd_is_work .nil pass0 (pa_cons (pv 0) (pa_cons (pv 1) pa_nil))))))) (fun _ _ _ _ _ => (pv 1))) (pe_lst pa_nil) (nomark _))
    (pss_one (ps_raise rfl (takes_of rfl rfl rfl rfl) (pmk_own PySem.F.excBase_ValueError T.x_BadProgram T.g_BadProgram T.k_BadProgram (raises_own T.be_BadProgram T.ty_BadProgram) (by exact rfl))))
    pss_nil))), ?_⟩
  refine Pst.go (K := K) ?_
  apply pst_when
  · walk_at "et"
  · intro hb H1 e1
    refine ke ?_ H1 e1
    simp [encP] at hb
    simp [okP]
    omega
  intro hb
  simp at hb
  apply pst_if (b := !((List.range p.length).all (okW p)))
  · apply tk_v
    apply ed_is
    · apply ed_neN
      · apply EvDL.rd
        apply edl_lcR (n := p.length) (p := fun i => !okW p i) (g := fun i => .int (i : Int))
        · apply eda_cons
          · apply ed_is
            · walk_at "ev"
            · simp
          · exact eda_nil
        · have := hs.1
          omega
        · intro x
          rfl
        · intro i H1 e1 hi
          replace t1 := t1.ex e1
          apply tk_not
          apply tk_vB
          apply ed_call
          · walk_at "eva"
          · exact ⟨p, i, rfl, hs, hi, rfl⟩
        · intro i H1 e1 hi _
          walk_at "ev"
      · walk_at "edl"
      · exact ints_lay _ _
    · rw [List.isEmpty_map, filter_not_isEmpty]
  · intro hb2 H1 e1
    refine ke ?_ H1 e1
    simp only [okP]
    simp at hb2
    simp
    intros
    obtain ⟨x, h1, h2⟩ := hb2
    exact ⟨x, h1, h2⟩
  · intro hb2 H1 e1
    refine kq ?_ H1 e1
    simp only [okP]
    simp at hb2
    simp
    refine ⟨by omega, by omega, hb2⟩
def spNY (K : PySem.W.Frag) : Sp := fun vs H Q E => ∃ p ys, TdAll K H vs [encP p, encY ys] ∧ smP p ∧ smY ys ∧ (okP p = true → okY p ys = true → ∀ H', Ex H H' → Q .non H') ∧ (okP p = false → ∀ H', Ex H H' → E (.ref (He.ga K "BadProgram")) none H') ∧
  (okP p = true → okY p ys = false → ∀ H', Ex H H' → E (.ref (He.ga K "BadWays")) none H')
theorem ok_need_ways (G_need_program : Fn_need_program T P w base (L2.CX P w) 24 (spNP K)) : Fn_need_ways T P w base (L2.CX P w) 25 (spNY K) := by
  refine T.F_need_ways.ok sc_need_ways (fun vs H Q E h => by obtain ⟨p, _, ht, _⟩ := h; exact ht.length) fun cdv A outer s H vs Q E hr h => ?_
  obtain ⟨p, ys, ht, hs, hy, kq, ke, kw⟩ := h
  obtain _ | ⟨t1, _ | ⟨t2, _ | _⟩⟩ := ht
  refine ⟨_, (pss_cons (ps_expr (pe_call G_need_program (hr.mono (by omega)) (by rfl) T.g_need_program T.k_need_program T.bd_need_program .nil (passes_call (takes_of rfl rfl rfl rfl) (fun _ _ _ _ h => h)) (pa_cons (pv 0) pa_nil)))
  (pss_cons (ps_if (pt_cmpR op_ne (pe_callB (kc_len K) rfl T.b_len PySem.boot_len (pa_cons (pv 1) pa_nil)) (pe_callB (kc_len K) rfl T.b_len PySem.boot_len (pa_cons (pv 0) pa_nil)) (nomark _))
    (pss_one (ps_raise rfl (takes_of rfl rfl rfl rfl) (pmk_own PySem.F.excBase_ValueError T.x_BadWays T.g_BadWays T.k_BadWays (raises_own T.be_BadWays T.ty_BadWays) (by exact rfl))))
    pss_nil)
  (pss_one (ps_for (passes_of rfl) rfl (kpi_zip K (by rfl) T.b_zip (pa_cons (pv 0) (pa_cons (pv 1) pa_nil))) (kpg_tup K rfl (pgs_cons (pg_name (i := 2) sc_need_ways.nd rfl (Or.inl rfl)) (pgs_cons (pg_name (i := 3) sc_need_ways.nd rfl (Or.inl rfl)) pgs_nil)))
    (pss_one (ps_if (PW.pt (pw_or (pt_cmpR op_ne (pe_callB (kc_len K) rfl T.b_len PySem.boot_len (pa_cons (pv 3) pa_nil)) (pe_ix (kix_tup K) (pv 2) pe_int (fun _ _ => rfl)) (nomark _)) (pw_or1 (pt_cmpR (kop_ne K hr.units) (pe_lc (own := [("way", 4)]) (g := gName 4) (tt := _) rfl sc_need_ways.nd (kpi_tup K (pv 3)) (blkOk_by (N := ["program", "ways", "work", "some", "way"]) (sc := defScope s_need_ways) (by decide +kernel)) (fun _ _ _ _ _ => (pg_name (i := 4) sc_need_ways.nd rfl (Or.inl rfl))) (fun _ _ _ _ _ => (pts_one (pt_cmpR (kop_ni K) (pv 4) (pe_glob (v := .ref _) rfl T.g_WAYS rfl) rfl))) (fun _ _ _ _ _ => (pv 4))) (pe_lst pa_nil) (nomark _)))))
      (pss_one (ps_raise rfl (takes_of rfl rfl rfl rfl) (pmk_own PySem.F.excBase_ValueError T.x_BadWays T.g_BadWays T.k_BadWays (raises_own T.be_BadWays T.ty_BadWays) (by exact rfl))))
      pss_nil)))))), ?_⟩
  refine Pst.go (K := K) ?_
  cases hok : okP p with
  | false =>
    intro H1 e1
    exact ⟨_, rfl, p, .cons (t1.ex e1) .nil, hs, (fun e => by rw [hok] at e; cases e), fun _ H' e => ke hok H' (e1.trans e)⟩
  | true =>
    refine pst_callNP (v := _) rfl (fun H1 e1 Q kQ => ⟨p, .cons (t1.ex e1) .nil, hs, fun _ => kQ, (fun e => by rw [hok] at e; cases e)⟩) ?_
    have hW : ∀ H, Td K H (.ref (He.ga K "WAYS")) (.tuple [.str "back", .str "copy", .str "place", .str "want"]) := fun H => .tup (T.t_WAYS H) (.cons (.str _) (.cons (.str _) (.cons (.str _) (.cons (.str _) .nil))))
    apply pst_when
    · walk_at "et"
    · intro hb H1 e1
      refine kw hok ?_ H1 e1
      simp at hb
      have hb2 : ¬ ys.length = p.length := by omega
      simp [okY, hb2]
    intro hb
    simp at hb
    have hlen : ys.length = p.length := by omega
    refine pst_forZ p ys encW (fun y => .tuple (y.map PyData.str)) ?_ hlen.symm (fun i σ' _ => ∃ a b, σ' = [some _, some _, a, b, none] ∧ ∀ j, j < i → (decide ((ys.getD j []).length = shP (shapes p) j) && (ys.getD j []).all isWay) = true) (fun _ _ _ _ _ h => h) ⟨none, none, rfl, fun j hj => by omega⟩ ?_ ?_
    · walk_at "eva"
    · rintro i x y v u σ' H1 hx hyi e1 tv tu ⟨a, b, rfl, hall⟩ N hN
      have hym := hy.2 y (List.mem_of_getElem? hyi)
      have hgd : ys.getD i [] = y := by simp [hyi]
      apply pst_if (b := !(decide (y.length = x.params) && y.all isWay))
      · apply tk_is
        · apply tk_or
          · apply tk_v
            apply ed_nei
            · walk_at "ev"
            · walk_at "ev"
          intro _
          apply tk_v
          apply ed_neN
          · apply EvDL.rd
            apply edl_lcM (xs := y) (f := PyData.str) (p := fun s => !isWay s) (g := PyData.str)
            · walk_at "ev"
            · rfl
            · omega
            · intro x
              rfl
            · intro s v H2 e2 _ ts
              apply tk_is
              · walk_at "et"
              · rfl
            · intro s v H2 e2 _ _ ts
              walk_at "ev"
          · walk_at "edl"
          · exact strs_lay (y.filter fun s => !isWay s) fun s hs2 => hym.2 s (List.mem_filter.mp hs2).1
        · rw [List.isEmpty_map, filter_not_isEmpty]
          have e : ((y.length : Int) = (x.params : Int)) ↔ y.length = x.params := by omega
          simp [e]
      · intro hb2 H2 e2
        refine kw hok ?_ H2 (e1.trans e2)
        have hi : i < p.length := (List.getElem?_eq_some_iff.mp hx).1
        have : (List.range p.length).all (fun i => decide ((ys.getD i []).length = shP (shapes p) i) && (ys.getD i []).all isWay) = false := by
          rw [List.all_eq_false]
          refine ⟨i, List.mem_range.mpr hi, ?_⟩
          rw [hgd, shP_get hx]
          intro e
          rw [e] at hb2
          cases hb2
        unfold okY
        rw [this, Bool.and_false]
      · intro hb2 H2 e2
        refine hN _ _ ⟨_, _, rfl, fun j hj => ?_⟩ e2
        by_cases e : j = i
        · subst e
          rw [hgd, shP_get hx]
          simpa using hb2
        · exact hall j (by omega)
    · rintro σ' H1 e1 ⟨a, b, rfl, hall⟩
      refine kq hok ?_ H1 e1
      simp only [okY, hlen]
      simp only [decide_true, Bool.true_and, List.all_eq_true]
      intro j hj
      exact hall j (List.mem_range.mp hj)
end
end Hw

set_option maxRecDepth 100000
set_option maxHeartbeats 4000000
/-! W4: more rules: int(a truth), steps with effects -/
namespace Hw
open PySem PySem.Spec PyProof.Rows L2 Evl
section
variable {K : PySem.W.Frag} {σ : L2.St} {H H' : Hp} {D : Ends} {tu tz tw : TS} {ds es : List PyData} {ta tr : TA} {tb te tx : TE} {t : TT} {d : PyData} {v : V} {i j : Int} {Q : VK}
/-! one step at a time, whatever it does -/
theorem w_d (h : EvD K te σ H d) (k : ∀ v H1, Ex H H1 → Td K H1 v d → Q v H1) : te σ H Q := h H (Ex.refl H) Q k
theorem w_t {b : Bool} {Q : Bool → Hp → Prop} (h : EvTK K t σ H b) (k : ∀ H1, Ex H H1 → Q b H1) : t σ H Q := h H (Ex.refl H) Q k
theorem w_dl (h : EvDL K te σ H ds) (k : ∀ p xs H1, H p = none → Ex H H1 → H1 p = some (.lst xs) → TdAll K H1 xs ds → Q (.ref p) H1) : te σ H Q := h H (Ex.refl H) Q k
theorem w_ret (h : te σ H D.rt) : tRet te D σ H := h
theorem w_cons {Q : List V → Hp → Prop} (h : te σ H fun x H1 => tr σ H1 fun xs H2 => Q (x :: xs) H2) : tCons te tr σ H Q := h
theorem w_nil {Q : List V → Hp → Prop} (h : Q [] H) : tNil σ H Q := h
theorem w_c (h : Q v H) : tC v σ H Q := h
theorem w_v {n : Nat} (hs : σ[n]? = some (some v)) (h : Q v H) : tVar n σ H Q := ⟨v, hs, h⟩
theorem w_tup (h : ta σ H fun xs H1 => xs.length ≤ sizeLine ∧ ∀ p, H1 p = none → Q (.ref p) (upd H1 p (.tup xs))) : tTup ta σ H Q := h
theorem w_asg {n : Nat} (h : te σ H fun x H1 => D.nx (σ.set n (some x)) H1) : tAsg te (gName n) D σ H := h
theorem w_seq (h : tu { D with nx := tz D } σ H) : tSeq tu tz D σ H := h
theorem w_call {sp : Sp} {E : XK} (h : ta σ H fun vs H1 => sp (vs ++ []) H1 Q E) : tCall sp [] E ta σ H Q := h
theorem w_op {r : R2} (h : tb σ H fun x H1 => te σ H1 fun y H2 => r x y H2 Q) : tOp r tb te σ H Q := h
theorem w_if (h : t σ H fun c H1 => if c = true then tb σ H1 Q else te σ H1 Q) : tIf t tb te σ H Q := h
theorem w_ifs (h : t σ H fun b H1 => if b = true then tu D σ H1 else tw D σ H1) : tIfS t tu tw D σ H := h
theorem w_test {Q : Bool → Hp → Prop} (h : te σ H fun x H' => ∃ k, x = .bl k ∧ Q k H') : tTest te σ H Q := h
theorem w_and {u : TT} {Q : Bool → Hp → Prop} (h : t σ H fun c H1 => if c = true then u σ H1 Q else Q false H1) : tAnd t u σ H Q := h
theorem w_drop (h : te σ H fun _ H1 => D.nx σ H1) : tDrop te D σ H := h
/-- xs.append(e), by what e is worth -/
theorem w_app {l : Addr} {n : Nat} {ys : List V} (hs : σ[n]? = some (some (.ref l))) (hl : H l = some (.lst ys)) (h : te σ H fun x H1 => ∃ xs, H1 l = some (.lst xs) ∧ xs.length < sizeLine ∧ D.nx σ (upd H1 l (.lst (xs ++ [x])))) :
    tDrop (tBM K "list" rAppend (tVar n) (tCons te tNil)) D σ H := ⟨.ref l, hs, .inl ⟨rfl, ys, SqL.of hl⟩, by
    show te σ H fun x H1 => rAppend (.ref l) [x] H1 fun _ H2 => D.nx σ H2
    have e : (fun (x : V) (H1 : Hp) => rAppend (.ref l) [x] H1 fun _ H2 => D.nx σ H2) = fun x H1 => ∃ xs, H1 l = some (.lst xs) ∧ xs.length < sizeLine ∧ D.nx σ (upd H1 l (.lst (xs ++ [x]))) := by
      funext x H1
      refine propext ⟨fun ⟨l2, xs, y, e1, e2, e3, e4, e5⟩ => ?_, fun ⟨xs, e3, e4, e5⟩ => ⟨l, xs, x, rfl, rfl, e3, e4, e5⟩⟩
      cases e1
      cases e2
      exact ⟨xs, e3, e4, e5⟩
    rw [e]
    exact h⟩
theorem tdall2 {v1 v2 : V} {d1 d2 : PyData} (h1 : Td K H v1 d1) (h2 : Td K H v2 d2) : TdAll K H [v1, v2] [d1, d2] := .cons h1 (.cons h2 .nil)
theorem tdall3 {v1 v2 v3 : V} {d1 d2 d3 : PyData} (h1 : Td K H v1 d1) (h2 : Td K H v2 d2) (h3 : Td K H v3 d3) : TdAll K H [v1, v2, v3] [d1, d2, d3] := .cons h1 (.cons h2 (.cons h3 .nil))
/-- a new tuple -/
theorem td_new {p : Addr} {xs : List V} (hp : H p = none) (h : TdAll K H xs ds) : Td K (upd H p (.tup xs)) (.ref p) (.tuple ds) := .tup (SqT.of upd_same) (h.ex (Ex.new hp))
end
end Hw

set_option maxRecDepth 100000
set_option maxHeartbeats 4000000
/-! PG1: what the law takes of the script -/
namespace Hw
open PySem PySem.Spec PyProof.Rows L2 Evl
local macro_rules | `(tactic| walk_at "dd") => `(tactic| first | rfl | decide | (simp; done) | omega)
local macro_rules | `(tactic| walk_at "td") => `(tactic| first | assumption | exact Td.int _ | exact Td.bl _ | exact Td.str _ | exact Td.non | exact Td.tup (by assumption) (by assumption))
local macro_rules | `(tactic| walk_at "ev") => `(tactic| first
  | exact ed_ci | exact ed_cs | exact ed_cb | exact ed_cn
  | (apply ed_cg; assumption)
  | (apply ed_var; (rfl); (walk_at "td"))
  | (apply ed_ixT; (walk_at "ev"); (walk_at "ev"); (first | rfl | assumption))
  | (apply ed_rowI; (rfl); (assumption); (walk_at "ev"); (rfl))
  | (apply ed_ixL; (apply EvDL.rd; walk_at "edl"); (walk_at "ev"); (rfl))
  | (apply ed_intb; (walk_at "ev"))
  | (apply ed_len; walk_at "ev")
  | (apply ed_lenV; (apply ev_rowR; (rfl); (assumption); (walk_at "ev"); (rfl)); (assumption))
  | (apply ed_Ii; (walk_at "ev"); (walk_at "ev"); (walk_at "cc"))
  | (apply ed_isi; (walk_at "ev"); (rfl))
  | (apply ed_I0i; (walk_at "ev"); (walk_at "ev"))
  | (apply ed_I0b; (walk_at "ev"); (walk_at "ev"))
  | (apply ed_eqi; (walk_at "ev"); (walk_at "ev"))
  | (apply ed_nei; (walk_at "ev"); (walk_at "ev"))
  | (apply ed_andF; walk_at "ev")
  | (apply ed_andV; (walk_at "ev"); (intro _; walk_at "ev"))
  | (apply ed_orT; walk_at "ev")
  | (apply ed_orV; (walk_at "ev"); (intro _; walk_at "ev"))
  | (apply ed_notT; walk_at "ev")
  | (apply ed_notF; walk_at "ev")
  | (apply ed_notV; walk_at "ev")
  | (apply ed_chain; (walk_at "ev"); (walk_at "ev"); (intro _; walk_at "ev"))
  | (apply ed_eqS; (walk_at "ev"); (walk_at "ev"); (walk_at "bb"); (walk_at "bb"))
  | (apply ed_neS; (walk_at "ev"); (walk_at "ev"); (walk_at "bb"); (walk_at "bb"))
  | (apply ed_inT; (walk_at "ev"); (walk_at "ev"); (rfl); (rfl))
  | (apply ed_niT; (walk_at "ev"); (walk_at "ev"); (rfl); (rfl))
  | (apply ed_tup; (walk_at "eva"); (walk_at "bb"))
  | (apply ed_sl; (walk_at "ev"); (walk_at "evo"); (walk_at "evo"))
  | (apply ed_eqN; (apply EvDL.rd; walk_at "edl"); (walk_at "edl"); (walk_at "bb"))
  | (apply ed_neN; (apply EvDL.rd; walk_at "edl"); (walk_at "edl"); (walk_at "bb"))
  | (apply ed_ixL; (apply edr_var; (rfl); (assumption); (assumption)); (walk_at "ev"); (first | rfl | assumption))
  | (apply ed_lenL; (apply edr_var; (rfl); (assumption); (assumption)))
  | (apply ed_call; (walk_at "eva"); (walk_at "post")))
local macro_rules | `(tactic| walk_at "edl") => `(tactic| first
  | assumption
  | (apply edl_lst; (walk_at "eva"); (walk_at "bb")))
local macro_rules | `(tactic| walk_at "eva") => `(tactic| first
  | exact eda_nil
  | (apply eda_cons; (walk_at "ev"); (walk_at "eva")))
local macro_rules | `(tactic| walk_at "evo") => `(tactic| first
  | exact eok_none
  | (apply eok_some; walk_at "ev"))
local macro_rules | `(tactic| walk_at "bb") => `(tactic| first | rfl | assumption | (simp; done) | (simp; omega) | decide +kernel)
local macro_rules | `(tactic| walk_at "et") => `(tactic| first
  | exact tk_yes
  | (apply tk_andF; walk_at "et")
  | (apply tk_and; (walk_at "et"); (intro _; walk_at "et"))
  | (apply tk_orT; walk_at "et")
  | (apply tk_or; (walk_at "et"); (intro _; walk_at "et"))
  | (apply tk_notT; walk_at "et")
  | (apply tk_notF; walk_at "et")
  | (apply tk_not; walk_at "et")
  | (apply tk_v; walk_at "ev")
  | (apply tk_vB; walk_at "ev"))
local macro_rules | `(tactic| walk_at "if") => `(tactic| first
  | (apply pst_whenF; (walk_at "et"); (walk_at "bb"))
  | (apply pst_whenT; (walk_at "et"); (walk_at "bb")))
local macro_rules | `(tactic| walk_at "post") => `(tactic| first | assumption | exact ⟨_, _, rfl, rfl⟩ | exact ⟨_, _, _, _, rfl, by omega, by omega, rfl⟩ | exact ⟨_, _, _, 0, rfl, by omega, by omega, rfl⟩)
local macro_rules | `(tactic| walk_at "cc") => `(tactic| first | assumption | decide | omega | (refine ⟨?_, ?_⟩ <;> first | decide | omega) | (exact Or.inl (by constructor <;> omega)))

/-- the law's row stands at r, over the script at s -/
def RowAt (K : PySem.W.Frag) (s : Addr) (ns : List Int) (H : Hp) (r : Addr) : Prop := ∃ a b c : Int, H r = some (.lst [.ref s, .int a, .int b, .int c]) ∧ SqL K H s (ns.map V.int) ∧ 0 ≤ a ∧ 0 ≤ b ∧ b < 2147483647 ∧ 0 ≤ c
theorem seq_upd {K : PySem.W.Frag} {H : Hp} {s r a : Addr} {ns : List Int} {xs ys : List V} (hr : H r = some (.lst (.ref a :: xs))) (h : SqL K H s (ns.map V.int)) : SqL K (upd H r (.lst ys)) s (ns.map V.int) := by
  rcases h with (h | ⟨o, h⟩) | h
  · refine .inl (.inl ?_)
    rw [upd_ne]
    · exact h
    · intro e
      subst e
      rw [h] at hr
      cases ns <;> simp at hr
  · refine .inl (.inr ⟨o, ?_⟩)
    rw [upd_ne]
    · exact h
    · intro e
      subst e
      rw [h] at hr
      cases hr
  · exact .inr h
theorem RowAt.ex {K : PySem.W.Frag} {s : Addr} {ns : List Int} {H H' : Hp} {r : Addr} (h : RowAt K s ns H r) (e : Ex H H') : RowAt K s ns H' r := by
  obtain ⟨a, b, c, h1, h2, h3⟩ := h
  exact ⟨a, b, c, e _ _ h1, ex_l e h2, h3⟩
theorem RowAt.mu {K : PySem.W.Frag} {s : Addr} {ns : List Int} {H : Hp} {r : Addr} (h : RowAt K s ns H r) : ∃ u, H r = some u ∧ Mut (some u) := by
  obtain ⟨a, b, c, h1, _⟩ := h
  exact ⟨_, h1, True.intro⟩
theorem RowAt.upd {K : PySem.W.Frag} {s : Addr} {ns : List Int} {H : Hp} {r : Addr} {xs : List V} {a b c : Int} (hr : H r = some (.lst (.ref s :: xs))) (h : SqL K H s (ns.map V.int)) (h1 : 0 ≤ a) (h2 : 0 ≤ b) (h3 : b < 2147483647) (h4 : 0 ≤ c) : RowAt K s ns (upd H r (.lst [.ref s, .int a, .int b, .int c])) r :=
  ⟨a, b, c, upd_same, seq_upd hr h, h1, h2, h3, h4⟩
theorem fm_nat {m : Int} (hm : 0 < m) (x : Int) : ∃ k : Nat, x.fmod m = (k : Int) ∧ (k : Int) < m := by
  have h1 : x.fmod m = x % m := Int.fmod_eq_emod_of_nonneg x (by omega)
  have h2 := Int.emod_nonneg x (show m ≠ 0 by omega)
  have h3 := Int.emod_lt_of_pos x hm
  exact ⟨(x % m).toNat, by omega, by omega⟩
theorem fd_nn {m c : Int} (hm : 0 < m) (hc : 0 ≤ c) : 0 ≤ c.fdiv m := by
  rw [Int.fdiv_eq_ediv_of_nonneg c (by omega)]
  exact Int.ediv_nonneg hc (by omega)
/-- a number below many -/
def spTaken (K : PySem.W.Frag) : Sp := fun vs H Q _ => ∃ (r s : Addr) (ns : List Int) (m : Int), vs = [.ref r, .int m] ∧ RowAt K s ns H r ∧ ns.length ≤ 63 ∧ 0 < m ∧ m < 1000001 ∧ ∀ (k : Nat) H', (k : Int) < m → Fr [r] H H' → RowAt K s ns H' r → Q (.int (k : Int)) H'
section
variable {P : Program} {w : World} {K : PySem.W.Frag} {mg : Str → Option Value} {base : Heap} (T : Tx K mg)
include T
theorem ok_taken : Fn__law_taken T P w base CX0 1 (spTaken K) := by
  refine T.F__law_taken.ok sc__law_taken (fun vs H Q E h => by obtain ⟨r, s, ns, m, rfl, _⟩ := h; rfl) fun cdv A outer s0 H vs Q E hr h => ?_
  obtain ⟨r, s, ns, m, rfl, ⟨a, b, c, hrow, hscr, ha, hb, hb2, hc⟩, hn, hm, hm2, k⟩ := h
  refine ⟨_, (pss_cons (ps_if (pt_cmpR op_gt (pe_ix (kix_list K) (pv 0) pe_int (fun _ _ => rfl)) pe_int (nomark _))
    (pss_cons (ps_set (i := 2) sc__law_taken.nd rfl (Or.inl rfl) (pe_op op_modN (pe_ix (kix_list K) (pv 0) pe_int (fun _ _ => rfl)) (pv 1)))
    (pss_cons (ps_asg (pe_op op_fdivN (pe_ix (kix_list K) (pv 0) pe_int (fun _ _ => rfl)) (pv 1)) (pg_sub (pv 0) pe_int set_list))
    (pss_one (ps_ret (pv 2)))))
    pss_nil)
  (pss_cons (ps_asg (pe_op op_add (pe_ix (kix_list K) (pv 0) pe_int (fun _ _ => rfl)) pe_int) (pg_sub (pv 0) pe_int set_list))
  (pss_cons (ps_if (pt_cmpR op_gt (pe_ix (kix_list K) (pv 0) pe_int (fun _ _ => rfl)) (pe_callB (kc_len K) rfl T.b_len PySem.boot_len (pa_cons (pe_ix (kix_list K) (pv 0) pe_int (fun _ _ => rfl)) pa_nil)) (nomark _))
    (pss_cons (ps_asg (pe_op op_modN (pe_op op_add (pe_op op_mul (pe_ix (kix_list K) (pv 0) pe_int (fun _ _ => rfl)) pe_int) pe_int) pe_int) (pg_sub (pv 0) pe_int set_list))
    (pss_one (ps_ret (pe_op op_modN (pe_op op_fdivN (pe_ix (kix_list K) (pv 0) pe_int (fun _ _ => rfl)) pe_int) (pv 1)))))
    pss_nil)
  (pss_cons (ps_set (i := 3) sc__law_taken.nd rfl (Or.inl rfl) (pe_ix (kix_list K) (pe_ix (kix_list K) (pv 0) pe_int (fun _ _ => rfl)) (pe_op op_sub (pe_ix (kix_list K) (pv 0) pe_int (fun _ _ => rfl)) pe_int) (fun _ _ => rfl)))
  (pss_cons (ps_asg (pe_op op_modN (pe_op op_add (pe_op op_add (pe_op op_mul (pe_ix (kix_list K) (pv 0) pe_int (fun _ _ => rfl)) pe_int) (pv 3)) pe_int) pe_int) (pg_sub (pv 0) pe_int set_list))
  (pss_cons (ps_if (pt_cmpR op_ge (pv 3) (pe_op op_pow pe_int pe_int) (nomark _))
    (pss_one (ps_asg (pe_op op_fdivN (pv 3) (pv 1)) (pg_sub (pv 0) pe_int set_list)))
    pss_nil)
  (pss_one (ps_ret (pe_op op_modN (pv 3) (pv 1)))))))))), ?_⟩
  have hmn : m ≠ 0 := by omega
  have hdv : CDivN c m := ⟨hmn, by omega⟩
  have hrow2 : SqL K H r [.ref s, .int a, .int b, .int c] := SqL.of hrow
  refine Pst.go (K := K) ?_
  apply pst_when
  · walk_at "et"
  · intro hb1
    apply pst_asg
    · walk_at "ev"
    intro v H1 e1 t1
    cases t1
    have hrow3 : SqL K H1 r [.ref s, .int a, .int b, .int c] := ex_l e1 hrow2
    apply pst_setI
    · rfl
    · exact e1 _ _ hrow
    · walk_at "ev"
    · walk_at "ev"
    · rfl
    intro H2 e2
    obtain ⟨kk, ek, hk⟩ := fm_nat hm c
    have hd := fd_nn hm hc
    apply pst_ret
    · rw [ek]
      walk_at "ev"
    intro v H3 e3 t3
    cases t3
    have hr2 : H2 r = some (.lst [.ref s, .int a, .int b, .int c]) := e2 _ _ (e1 _ _ hrow)
    exact k kk H3 hk (((Fr.of (e1.trans e2)).trans (Fr.upd (List.mem_cons_self))).trans (Fr.of e3)) ((RowAt.upd hr2 (ex_l (e1.trans e2) hscr) ha hb hb2 hd).ex e3)
  · intro hb1
    apply pst_setI
    · rfl
    · exact hrow
    · walk_at "ev"
    · walk_at "ev"
    · rfl
    intro H1 e1
    have hr1 := e1 _ _ hrow
    have hs1 := seq_upd (ys := [.ref s, .int (a + 1), .int b, .int c]) hr1 (ex_l e1 hscr)
    have hR1 : RowAt K s ns (upd H1 r (.lst [.ref s, .int (a + 1), .int b, .int c])) r := RowAt.upd hr1 (ex_l e1 hscr) (by omega) hb hb2 hc
    have hF1 : Fr [r] H (upd H1 r (.lst [.ref s, .int (a + 1), .int b, .int c])) := (Fr.of e1).trans (Fr.upd (List.mem_cons_self))
    have hq1 : upd H1 r (.lst [.ref s, .int (a + 1), .int b, .int c]) r = some (.lst [.ref s, .int (a + 1), .int b, .int c]) := upd_same
    show Pst K _ _ _ (upd H1 r (.lst [.ref s, .int (a + 1), .int b, .int c]))
    generalize upd H1 r (.lst [.ref s, .int (a + 1), .int b, .int c]) = H2 at *
    have hl2 : SqL K H2 r [.ref s, .int (a + 1), .int b, .int c] := SqL.of hq1
    apply pst_when
    · walk_at "et"
    · intro hb3
      apply pst_setI
      · rfl
      · exact hq1
      · walk_at "ev"
      · walk_at "ev"
      · rfl
      intro H3 e3
      obtain ⟨bb, eb, hbb⟩ := fm_nat (m := 2147483647) (by decide) (b * 48271 + 11)
      have hr3 := e3 _ _ hq1
      have hR3 : RowAt K s ns (upd H3 r (.lst [.ref s, .int (a + 1), .int (bb : Int), .int c])) r := RowAt.upd hr3 (ex_l e3 hs1) (by omega) (by omega) hbb hc
      have hF3 : Fr [r] H (upd H3 r (.lst [.ref s, .int (a + 1), .int (bb : Int), .int c])) := (hF1.trans (Fr.of e3)).trans (Fr.upd (List.mem_cons_self))
      rw [eb]
      have hq3 : upd H3 r (.lst [.ref s, .int (a + 1), .int (bb : Int), .int c]) r = some (.lst [.ref s, .int (a + 1), .int (bb : Int), .int c]) := upd_same
      show Pst K _ _ _ (upd H3 r (.lst [.ref s, .int (a + 1), .int (bb : Int), .int c]))
      generalize upd H3 r (.lst [.ref s, .int (a + 1), .int (bb : Int), .int c]) = H4 at *
      have hl4 : SqL K H4 r [.ref s, .int (a + 1), .int (bb : Int), .int c] := SqL.of hq3
      have h7 : CDivN (bb : Int) 7 := ⟨by decide, by decide⟩
      obtain ⟨kk, ek, hk⟩ := fm_nat hm ((bb : Int).fdiv 7)
      apply pst_ret (d := .int (kk : Int))
      · rw [← ek]
        walk_at "ev"
      intro v H5 e5 t5
      cases t5
      exact k kk H5 hk (hF3.trans (Fr.of e5)) (hR3.ex e5)
    · intro hb3
      simp at hb3
      obtain ⟨x, hx⟩ : ∃ x, ns[a.toNat]? = some x := by
        have : a.toNat < ns.length := by omega
        exact ⟨ns[a.toNat], List.getElem?_eq_getElem this⟩
      have hat : atI (ns.map V.int) (a + 1 - 1) = some (.int x) := by
        have e : (a + 1 - 1 : Int) = ((a.toNat : Nat) : Int) := by omega
        rw [e]
        exact atI_nat (by rw [List.getElem?_map, hx] <;> rfl)
      apply pst_asg (d := .int x)
      · apply ed_i
        refine ev_op (ev_rowR (K := K) (i := 0) rfl hl2 ?_ rfl) (EvD.iv (K := K) (i := a + 1 - 1) ?_) (rv_ixL hs1 hat)
        · walk_at "ev"
        · walk_at "ev"
      intro v H3 e3 t3
      cases t3
      have hl3 : SqL K H3 r [.ref s, .int (a + 1), .int b, .int c] := ex_l e3 hl2
      apply pst_setI
      · rfl
      · exact e3 _ _ hq1
      · walk_at "ev"
      · walk_at "ev"
      · rfl
      intro H4 e4
      obtain ⟨bb, eb, hbb⟩ := fm_nat (m := 2147483647) (by decide) (b * 48271 + x + 11)
      have hr4 := e4 _ _ (e3 _ _ hq1)
      rw [eb]
      have hs4 := seq_upd (ys := [.ref s, .int (a + 1), .int (bb : Int), .int c]) hr4 (ex_l (e3.trans e4) hs1)
      have hR4 : RowAt K s ns (upd H4 r (.lst [.ref s, .int (a + 1), .int (bb : Int), .int c])) r := RowAt.upd hr4 (ex_l (e3.trans e4) hs1) (by omega) (by omega) hbb hc
      have hF4 : Fr [r] H (upd H4 r (.lst [.ref s, .int (a + 1), .int (bb : Int), .int c])) := (hF1.trans (Fr.of (e3.trans e4))).trans (Fr.upd (List.mem_cons_self))
      have hq4 : upd H4 r (.lst [.ref s, .int (a + 1), .int (bb : Int), .int c]) r = some (.lst [.ref s, .int (a + 1), .int (bb : Int), .int c]) := upd_same
      show Pst K _ _ _ (upd H4 r (.lst [.ref s, .int (a + 1), .int (bb : Int), .int c]))
      generalize upd H4 r (.lst [.ref s, .int (a + 1), .int (bb : Int), .int c]) = H5 at *
      have h18 : CPow 10 18 := ⟨by decide, by decide, by decide⟩
      have hdx : CDivN x m := ⟨hmn, by omega⟩
      obtain ⟨kk, ek, hk⟩ := fm_nat hm x
      apply pst_when
      · walk_at "et"
      · intro hb4
        simp at hb4
        apply pst_setI1
        · rfl
        · exact hq4
        · walk_at "ev"
        · walk_at "ev"
        · rfl
        intro H6 e6
        have hd := fd_nn (c := x) hm (by omega)
        dsimp only
        refine Pst.go (K := K) ?_
        have hR6 : RowAt K s ns (upd H6 r (.lst [.ref s, .int (a + 1), .int (bb : Int), .int (x.fdiv m)])) r := RowAt.upd (e6 _ _ hq4) (ex_l e6 hs4) (by omega) (by omega) hbb hd
        have hF6 : Fr [r] H (upd H6 r (.lst [.ref s, .int (a + 1), .int (bb : Int), .int (x.fdiv m)])) := (hF4.trans (Fr.of e6)).trans (Fr.upd (List.mem_cons_self))
        apply pst_ret (d := .int (kk : Int))
        · rw [← ek]
          walk_at "ev"
        intro v H7 e7 t7
        cases t7
        exact k kk H7 hk (hF6.trans (Fr.of e7)) (hR6.ex e7)
      · intro hb4
        apply pst_ret (d := .int (kk : Int))
        · rw [← ek]
          walk_at "ev"
        intro v H7 e7 t7
        cases t7
        exact k kk H7 hk (hF4.trans (Fr.of e7)) (hR4.ex e7)
end
end Hw

set_option maxRecDepth 100000
set_option maxHeartbeats 4000000
/-! PG2: drawn things and places -/
namespace Hw
open PySem PySem.Spec PyProof.Rows L2 Evl
local macro_rules | `(tactic| walk_at "dd") => `(tactic| first | rfl | decide | (simp; done) | omega)
local macro_rules | `(tactic| walk_at "td") => `(tactic| first | assumption | exact Td.int _ | exact Td.bl _ | exact Td.str _ | exact Td.non | exact Td.tup (by assumption) (by assumption))
local macro_rules | `(tactic| walk_at "ev") => `(tactic| first
  | exact ed_ci | exact ed_cs | exact ed_cb | exact ed_cn
  | (apply ed_cg; assumption)
  | (apply ed_var; (rfl); (walk_at "td"))
  | (apply ed_ixT; (walk_at "ev"); (walk_at "ev"); (first | rfl | assumption))
  | (apply ed_rowI; (rfl); (assumption); (walk_at "ev"); (rfl))
  | (apply ed_ixL; (apply EvDL.rd; walk_at "edl"); (walk_at "ev"); (rfl))
  | (apply ed_intb; (walk_at "ev"))
  | (apply ed_len; walk_at "ev")
  | (apply ed_lenV; (apply ev_rowR; (rfl); (assumption); (walk_at "ev"); (rfl)); (assumption))
  | (apply ed_Ii; (walk_at "ev"); (walk_at "ev"); (walk_at "cc"))
  | (apply ed_isi; (walk_at "ev"); (rfl))
  | (apply ed_I0i; (walk_at "ev"); (walk_at "ev"))
  | (apply ed_I0b; (walk_at "ev"); (walk_at "ev"))
  | (apply ed_eqi; (walk_at "ev"); (walk_at "ev"))
  | (apply ed_nei; (walk_at "ev"); (walk_at "ev"))
  | (apply ed_andF; walk_at "ev")
  | (apply ed_andV; (walk_at "ev"); (intro _; walk_at "ev"))
  | (apply ed_orT; walk_at "ev")
  | (apply ed_orV; (walk_at "ev"); (intro _; walk_at "ev"))
  | (apply ed_notT; walk_at "ev")
  | (apply ed_notF; walk_at "ev")
  | (apply ed_notV; walk_at "ev")
  | (apply ed_chain; (walk_at "ev"); (walk_at "ev"); (intro _; walk_at "ev"))
  | (apply ed_eqS; (walk_at "ev"); (walk_at "ev"); (walk_at "bb"); (walk_at "bb"))
  | (apply ed_neS; (walk_at "ev"); (walk_at "ev"); (walk_at "bb"); (walk_at "bb"))
  | (apply ed_inT; (walk_at "ev"); (walk_at "ev"); (rfl); (rfl))
  | (apply ed_niT; (walk_at "ev"); (walk_at "ev"); (rfl); (rfl))
  | (apply ed_tup; (walk_at "eva"); (walk_at "bb"))
  | (apply ed_sl; (walk_at "ev"); (walk_at "evo"); (walk_at "evo"))
  | (apply ed_eqN; (apply EvDL.rd; walk_at "edl"); (walk_at "edl"); (walk_at "bb"))
  | (apply ed_neN; (apply EvDL.rd; walk_at "edl"); (walk_at "edl"); (walk_at "bb"))
  | (apply ed_ixL; (apply edr_var; (rfl); (assumption); (assumption)); (walk_at "ev"); (first | rfl | assumption))
  | (apply ed_lenL; (apply edr_var; (rfl); (assumption); (assumption)))
  | (apply ed_call; (walk_at "eva"); (walk_at "post")))
local macro_rules | `(tactic| walk_at "edl") => `(tactic| first
  | assumption
  | (apply edl_lst; (walk_at "eva"); (walk_at "bb")))
local macro_rules | `(tactic| walk_at "eva") => `(tactic| first
  | exact eda_nil
  | (apply eda_cons; (walk_at "ev"); (walk_at "eva")))
local macro_rules | `(tactic| walk_at "evo") => `(tactic| first
  | exact eok_none
  | (apply eok_some; walk_at "ev"))
local macro_rules | `(tactic| walk_at "bb") => `(tactic| first | rfl | assumption | (simp; done) | (simp; omega) | decide +kernel)
local macro_rules | `(tactic| walk_at "et") => `(tactic| first
  | exact tk_yes
  | (apply tk_andF; walk_at "et")
  | (apply tk_and; (walk_at "et"); (intro _; walk_at "et"))
  | (apply tk_orT; walk_at "et")
  | (apply tk_or; (walk_at "et"); (intro _; walk_at "et"))
  | (apply tk_notT; walk_at "et")
  | (apply tk_notF; walk_at "et")
  | (apply tk_not; walk_at "et")
  | (apply tk_v; walk_at "ev")
  | (apply tk_vB; walk_at "ev"))
local macro_rules | `(tactic| walk_at "if") => `(tactic| first
  | (apply pst_whenF; (walk_at "et"); (walk_at "bb"))
  | (apply pst_whenT; (walk_at "et"); (walk_at "bb")))
local macro_rules | `(tactic| walk_at "post") => `(tactic| first | assumption | exact ⟨_, _, rfl, rfl⟩ | exact ⟨_, _, _, _, rfl, by omega, by omega, rfl⟩ | exact ⟨_, _, _, 0, rfl, by omega, by omega, rfl⟩)
local macro_rules | `(tactic| walk_at "cc") => `(tactic| first | assumption | decide | omega | (refine ⟨?_, ?_⟩ <;> first | decide | omega) | (exact Or.inl (by constructor <;> omega)))

def dpT : Th → Nat
  | .cell t => dpT t + 1
  | .sum a b => max (dpT a) (dpT b) + 1
  | _ => 0
def wfT (ps os : Nat) : Th → Bool
  | .num n => decide (n < 3)
  | .own k => decide (k < os)
  | .par k => decide (k < ps)
  | .cell t => wfT ps os t
  | .sum a b => wfT ps os a && wfT ps os b
theorem okT_of {ps os : Nat} : ∀ (t : Th) (j : Nat), wfT ps os t = true → dpT t + j ≤ 4 → okT ps os t j = true
  | .num n, j, h, hd => by simp [wfT] at h; simp [dpT] at hd; simp [okT]; omega
  | .own n, j, h, hd => by simp [wfT] at h; simp [dpT] at hd; simp [okT]; omega
  | .par n, j, h, hd => by simp [wfT] at h; simp [dpT] at hd; simp [okT]; omega
  | .cell t, j, h, hd => by
    simp only [wfT] at h
    simp only [dpT] at hd
    simp only [okT, okT_of t (j + 1) h (by omega), Bool.and_true, decide_eq_true_eq]
    omega
  | .sum a b, j, h, hd => by
    simp only [wfT, Bool.and_eq_true] at h
    simp only [dpT] at hd
    simp only [okT, okT_of a (j + 1) h.1 (by omega), okT_of b (j + 1) h.2 (by omega), Bool.and_true, decide_eq_true_eq]
    omega
def szD (ps os : Nat) : PyData := .tuple [.int (ps : Int), .int (os : Int)]
def spThing (K : PySem.W.Frag) (n : Nat) : Sp := fun vs H Q _ => ∃ (r s : Addr) (ns : List Int) (v : V) (ps os : Nat), vs = [.ref r, v, .int (n : Int)] ∧ RowAt K s ns H r ∧ ns.length ≤ 63 ∧ Td K H v (szD ps os) ∧ ps ≤ 99 ∧ os ≤ 99 ∧
  ∀ t x H', wfT ps os t = true → dpT t ≤ n + 1 → Fr [r] H H' → RowAt K s ns H' r → Td K H' x (encT t) → Q x H'
def spPlace (K : PySem.W.Frag) (n : Nat) : Sp := fun vs H Q _ => ∃ (r s : Addr) (ns : List Int) (v : V) (ps os : Nat), vs = [.ref r, v, .int (n : Int)] ∧ RowAt K s ns H r ∧ ns.length ≤ 63 ∧ Td K H v (szD ps os) ∧ ps ≤ 99 ∧ os ≤ 99 ∧
  ∀ t x H', wfT ps os t = true → isPlace t = true → dpT t ≤ n + 2 → Fr [r] H H' → RowAt K s ns H' r → Td K H' x (encT t) → Q x H'
section
variable {K : PySem.W.Frag} {σ : L2.St} {H H' : Hp} {te tx : TE} {Q : VK} {r s : Addr} {ns : List Int} {E : XK} {n i : Nat}
theorem RowAt.keep (h : RowAt K s ns H r) (f : Fr [r] H H') : Keep K H H' := f.keep fun a ha => by
  have e : a = r := by simpa using ha
  rw [e]
  exact h.mu
theorem w_taken {m : Int} (hs : σ[n]? = some (some (.ref r))) (hR : RowAt K s ns H r) (hn : ns.length ≤ 63) (hm : EvD K te σ H (.int m)) (h0 : 0 < m) (h1 : m < 1000001)
    (k : ∀ (k : Nat) H', (k : Int) < m → Fr [r] H H' → RowAt K s ns H' r → Q (.int (k : Int)) H') : tCall (spTaken K) [] E (tCons (tVar n) (tCons te tNil)) σ H Q :=
  ⟨.ref r, hs, hm.iv H (Ex.refl H) _ fun H1 e1 => ⟨r, s, ns, m, rfl, hR.ex e1, hn, h0, h1, fun j H' hj hf hR' => k j H' hj ((Fr.of e1).trans hf) hR'⟩⟩
theorem w_thing {m ps os : Nat} (hs : σ[n]? = some (some (.ref r))) (hR : RowAt K s ns H r) (hn : ns.length ≤ 63) (hz : EvD K tx σ H (szD ps os)) (hp : ps ≤ 99) (ho : os ≤ 99) (hm : EvD K te σ H (.int (m : Int)))
    (k : ∀ t x H', wfT ps os t = true → dpT t ≤ m + 1 → Fr [r] H H' → RowAt K s ns H' r → Td K H' x (encT t) → Q x H') : tCall (spThing K m) [] E (tCons (tVar n) (tCons tx (tCons te tNil))) σ H Q :=
  ⟨.ref r, hs, hz H (Ex.refl H) _ fun v H1 e1 tv => hm.iv H1 e1 _ fun H2 e2 => ⟨r, s, ns, v, ps, os, rfl, hR.ex (e1.trans e2), hn, tv.ex e2, hp, ho, fun t x H' h1 h2 hf hR' td => k t x H' h1 h2 ((Fr.of (e1.trans e2)).trans hf) hR' td⟩⟩
theorem w_place {m ps os : Nat} (hs : σ[n]? = some (some (.ref r))) (hR : RowAt K s ns H r) (hn : ns.length ≤ 63) (hz : EvD K tx σ H (szD ps os)) (hp : ps ≤ 99) (ho : os ≤ 99) (hm : EvD K te σ H (.int (m : Int)))
    (k : ∀ t x H', wfT ps os t = true → isPlace t = true → dpT t ≤ m + 2 → Fr [r] H H' → RowAt K s ns H' r → Td K H' x (encT t) → Q x H') : tCall (spPlace K m) [] E (tCons (tVar n) (tCons tx (tCons te tNil))) σ H Q :=
  ⟨.ref r, hs, hz H (Ex.refl H) _ fun v H1 e1 tv => hm.iv H1 e1 _ fun H2 e2 => ⟨r, s, ns, v, ps, os, rfl, hR.ex (e1.trans e2), hn, tv.ex e2, hp, ho, fun t x H' h1 h2 h3 hf hR' td => k t x H' h1 h2 h3 ((Fr.of (e1.trans e2)).trans hf) hR' td⟩⟩
end
theorem pick58 (n : Nat) : atI [PyData.int 5, PyData.int 8] (if decide (0 < (n : Int)) = true then 1 else 0) = some (.int (if n = 0 then 5 else 8)) := by
  cases n with
  | zero => rfl
  | succ n =>
    rw [if_pos (decide_eq_true (by omega)), if_neg (by omega)]
    rfl
section
variable {P : Program} {w : World} {K : PySem.W.Frag} {mg : Str → Option Value} {base : Heap} (T : Tx K mg)
include T
theorem ok_thing (GT : Fn__law_taken T P w base CX0 1 (spTaken K)) : ∀ n : Nat, Fn__law_thing T P w base CX0 (n + 2) (spThing K n) := by
  have all : ∀ (n : Nat) (spI : Sp) (hspI : 0 < n → spI = spThing K (n - 1)), Fn__law_thing T P w base CX0 (n + 1) spI → Fn__law_thing T P w base CX0 (n + 2) (spThing K n) := by
    intro n spI hspI G_I
    have G__law_taken := GT
    have G__law_thing := G_I
    refine T.F__law_thing.ok sc__law_thing (fun vs H Q E h => by obtain ⟨r, s, ns, v, ps, os, rfl, _⟩ := h; rfl) fun cdv A outer s0 H vs Q E hr h => ?_
    obtain ⟨r, s, ns, v, ps, os, rfl, hR, hn, tz, hps, hos, k⟩ := h
    refine ⟨_, (pss_cons (ps_set (i := 3) sc__law_thing.nd rfl (Or.inl rfl) (pe_call G__law_taken (hr.mono (by omega)) (by rfl) T.g__law_taken T.k__law_taken T.bd__law_taken .nil pass0 (pa_cons (pv 0) (pa_cons (pe_ix (kix_list K) (pe_lst (pa_cons pe_int (pa_cons pe_int pa_nil))) (pe_callTy kc_int rfl T.b_int (by decide +kernel) (pa_cons (pe_cmpR op_gt (pv 2) pe_int (nomark _)) pa_nil)) (fun _ _ => rfl)) pa_nil))))
  (pss_cons (ps_if (PW.pt (pw_and (pt_cmpR op_lt (pv 3) pe_int (nomark _)) (pw_and1 (pt_cmpR op_gt (pe_ix (kix_tup K) (pv 1) pe_int (fun _ _ => rfl)) pe_int (nomark _)))))
    (pss_one (ps_ret (pe_tup (pa_cons pe_str (pa_cons (pe_call G__law_taken (hr.mono (by omega)) (by rfl) T.g__law_taken T.k__law_taken T.bd__law_taken .nil pass0 (pa_cons (pv 0) (pa_cons (pe_ix (kix_tup K) (pv 1) pe_int (fun _ _ => rfl)) pa_nil))) pa_nil)))))
    pss_nil)
  (pss_cons (ps_if (PW.pt (pw_and (pt_cmpR op_eq (pv 3) pe_int (nomark _)) (pw_and1 (pt_cmpR op_gt (pe_ix (kix_tup K) (pv 1) pe_int (fun _ _ => rfl)) pe_int (nomark _)))))
    (pss_one (ps_ret (pe_tup (pa_cons pe_str (pa_cons (pe_call G__law_taken (hr.mono (by omega)) (by rfl) T.g__law_taken T.k__law_taken T.bd__law_taken .nil pass0 (pa_cons (pv 0) (pa_cons (pe_ix (kix_tup K) (pv 1) pe_int (fun _ _ => rfl)) pa_nil))) pa_nil)))))
    pss_nil)
  (pss_cons (ps_if (pt_cmpR op_gt (pv 3) pe_int (nomark _))
    (pss_one (ps_ret (pe_tup (pa_cons pe_str (pa_cons (pe_call G__law_thing (hr.mono (by omega)) (by rfl) T.g__law_thing T.k__law_thing T.bd__law_thing .nil pass0 (pa_cons (pv 0) (pa_cons (pv 1) (pa_cons (pe_op op_sub (pv 2) pe_int) pa_nil)))) (pa_cons (pe_call G__law_thing (hr.mono (by omega)) (by rfl) T.g__law_thing T.k__law_thing T.bd__law_thing .nil pass0 (pa_cons (pv 0) (pa_cons (pv 1) (pa_cons (pe_op op_sub (pv 2) pe_int) pa_nil)))) pa_nil))))))
    pss_nil)
  (pss_cons (ps_if (pt_cmpR op_gt (pv 3) pe_int (nomark _))
    (pss_one (ps_ret (pe_tup (pa_cons pe_str (pa_cons (pe_ifExp (pt_cmpR op_gt (pv 2) pe_int (nomark _)) (pe_call G__law_thing (hr.mono (by omega)) (by rfl) T.g__law_thing T.k__law_thing T.bd__law_thing .nil pass0 (pa_cons (pv 0) (pa_cons (pv 1) (pa_cons (pe_op op_sub (pv 2) pe_int) pa_nil)))) (pe_tup (pa_cons pe_str (pa_cons (pe_call G__law_taken (hr.mono (by omega)) (by rfl) T.g__law_taken T.k__law_taken T.bd__law_taken .nil pass0 (pa_cons (pv 0) (pa_cons pe_int pa_nil))) pa_nil)))) pa_nil)))))
    pss_nil)
  (pss_one (ps_ret (pe_tup (pa_cons pe_str (pa_cons (pe_call G__law_taken (hr.mono (by omega)) (by rfl) T.g__law_taken T.k__law_taken T.bd__law_taken .nil pass0 (pa_cons (pv 0) (pa_cons pe_int pa_nil))) pa_nil)))))))))), ?_⟩
    refine w_seq (w_asg (w_taken rfl hR hn (m := if n = 0 then 5 else 8) ?_ (by split <;> decide) (by split <;> decide) fun k1 H1 hk1 f1 R1 => ?_))
    · apply ed_ixL
      · apply EvDL.rd
        walk_at "edl"
      · walk_at "ev"
      · exact pick58 n
    have tz1 : Td K H1 v (.tuple [.int (ps : Int), .int (os : Int)]) := tz.kp (hR.keep f1)
    dsimp only
    refine Pst.go (K := K) ?_
    apply pst_when
    · walk_at "et"
    · intro hb H2 e2
      simp at hb
      have tz2 := tz1.ex e2
      refine w_ret (w_tup (w_cons (w_c (w_cons (w_taken rfl (R1.ex e2) hn (m := (ps : Int)) ?_ (by omega) (by omega) fun k2 H3 hk2 f3 R3 => w_nil ⟨by show 2 ≤ sizeLine; decide, fun p hp => ?_⟩)))))
      · walk_at "ev"
      exact k (.par k2) _ _ (by simp [wfT]; omega) (by simp [dpT]) (((f1.trans (Fr.of e2)).trans f3).trans (Fr.of (Ex.new hp))) (R3.ex (Ex.new hp)) (td_new hp (tdall2 (.str _) (.int _)))
    intro hb
    apply pst_when
    · walk_at "et"
    · intro hb H2 e2
      simp at hb
      have tz2 := tz1.ex e2
      refine w_ret (w_tup (w_cons (w_c (w_cons (w_taken rfl (R1.ex e2) hn (m := (os : Int)) ?_ (by omega) (by omega) fun k2 H3 hk2 f3 R3 => w_nil ⟨by show 2 ≤ sizeLine; decide, fun p hp => ?_⟩)))))
      · walk_at "ev"
      exact k (.own k2) _ _ (by simp [wfT]; omega) (by simp [dpT]) (((f1.trans (Fr.of e2)).trans f3).trans (Fr.of (Ex.new hp))) (R3.ex (Ex.new hp)) (td_new hp (tdall2 (.str _) (.int _)))
    intro hb
    apply pst_when
    · walk_at "et"
    · intro hb H2 e2
      simp at hb
      have tz2 := tz1.ex e2
      have hn0 : n ≠ 0 := by
        intro e
        rw [if_pos e] at hk1
        omega
      obtain ⟨m, rfl⟩ : ∃ m, n = m + 1 := ⟨n - 1, by omega⟩
      rw [hspI (by omega)]
      have em : m + 1 - 1 = m := by omega
      rw [em]
      have eI : ∀ H, EvD K (tOp (rI0 fun i j => .int (i - j)) (tVar 2) (tC (.int 1))) (List.set (L2.start ["_law_row", "_law_sizes", "_law_within", "_law_way"] [.ref r, v, .int ((m + 1 : Nat) : Int)]) 3 (some (.int (k1 : Int)))) H (.int (m : Int)) := by
        intro H
        apply ed_is
        · walk_at "ev"
        · simp
      refine w_ret (w_tup (w_cons (w_c (w_cons (w_thing (ps := ps) (os := os) rfl (R1.ex e2) hn ?_ hps hos (eI _) fun ta xa H3 wa da f3 R3 tda => ?_)))))
      · unfold szD
        walk_at "ev"
      have tz3 := tz2.kp ((R1.ex e2).keep f3)
      refine w_cons (w_thing (ps := ps) (os := os) rfl R3 hn ?_ hps hos (eI _) fun tb xb H4 wb db f4 R4 tdb => w_nil ⟨by show 3 ≤ sizeLine; decide, fun p hp => ?_⟩)
      · unfold szD
        walk_at "ev"
      have tda4 := tda.kp (R3.keep f4)
      exact k (.sum ta tb) _ _ (by simp [wfT, wa, wb]) (by simp only [dpT]; omega) ((((f1.trans (Fr.of e2)).trans f3).trans f4).trans (Fr.of (Ex.new hp))) (R4.ex (Ex.new hp)) (td_new hp (tdall3 (.str _) tda4 tdb))
    intro hb
    apply pst_when
    · walk_at "et"
    · intro hb H2 e2
      have tz2 := tz1.ex e2
      refine w_ret (w_tup (w_cons (w_c (w_cons (w_if (w_t (K := K) (b := decide (0 < (n : Int))) ?_ fun H3 e3 => ?_))))))
      · walk_at "et"
      have tz3 := tz2.ex e3
      have R3 := (R1.ex e2).ex e3
      have f3 : Fr [r] H H3 := (f1.trans (Fr.of e2)).trans (Fr.of e3)
      by_cases hn0 : n = 0
      · subst hn0
        refine iteF ?_
        refine w_tup (w_cons (w_c (w_cons (w_taken rfl R3 hn (m := 3) ?_ (by decide) (by decide) fun k2 H4 hk2 f4 R4 => w_nil ⟨by show 2 ≤ sizeLine; decide, fun p hp => ?_⟩))))
        · walk_at "ev"
        refine w_nil ⟨by show 2 ≤ sizeLine; decide, fun p2 hp2 => ?_⟩
        have t5 : Td K (upd H4 p (.tup [.str "num", .int (k2 : Int)])) (.ref p) (encT (.num k2)) := td_new hp (tdall2 (.str _) (.int _))
        exact k (.cell (.num k2)) _ _ (by simp [wfT]; omega) (by simp [dpT]) (((f3.trans f4).trans (Fr.of (Ex.new hp))).trans (Fr.of (Ex.new hp2))) ((R4.ex (Ex.new hp)).ex (Ex.new hp2)) (td_new hp2 (tdall2 (.str _) t5))
      · obtain ⟨m, rfl⟩ : ∃ m, n = m + 1 := ⟨n - 1, by omega⟩
        rw [hspI (by omega)]
        have em : m + 1 - 1 = m := by omega
        rw [em]
        rw [if_pos (decide_eq_true (by omega))]
        refine w_thing (ps := ps) (os := os) rfl R3 hn ?_ hps hos ?_ fun ta xa H4 wa da f4 R4 tda => ?_
        · unfold szD
          walk_at "ev"
        · apply ed_is
          · walk_at "ev"
          · simp
        refine w_nil ⟨by show 2 ≤ sizeLine; decide, fun p hp => ?_⟩
        exact k (.cell ta) _ _ (by simp [wfT, wa]) (by simp only [dpT]; omega) ((f3.trans f4).trans (Fr.of (Ex.new hp))) (R4.ex (Ex.new hp)) (td_new hp (tdall2 (.str _) tda))
    intro hb H2 e2
    refine w_ret (w_tup (w_cons (w_c (w_cons (w_taken rfl (R1.ex e2) hn (m := 3) ?_ (by omega) (by omega) fun k2 H3 hk2 f3 R3 => w_nil ⟨by show 2 ≤ sizeLine; decide, fun p hp => ?_⟩)))))
    · walk_at "ev"
    exact k (.num k2) _ _ (by simp [wfT]; omega) (by simp [dpT]) (((f1.trans (Fr.of e2)).trans f3).trans (Fr.of (Ex.new hp))) (R3.ex (Ex.new hp)) (td_new hp (tdall2 (.str _) (.int _)))
  intro n
  induction n with
  | zero => exact all 0 (fun _ _ _ _ => False) (fun h => absurd h (Nat.lt_irrefl _)) (fn_vac fun _ _ _ _ h => h)
  | succ n ih => exact all (n + 1) (spThing K n) (fun _ => rfl) ih
theorem ok_place {n : Nat} (GT : Fn__law_thing T P w base CX0 (n + 2) (spThing K n)) : Fn__law_place T P w base CX0 (n + 3) (spPlace K n) := by
  have G__law_thing := GT
  refine T.F__law_place.ok sc__law_place (fun vs H Q E h => by obtain ⟨r, s, ns, v, ps, os, rfl, _⟩ := h; rfl) fun cdv A outer s0 H vs Q E hr h => ?_
  obtain ⟨r, s, ns, v, ps, os, rfl, hR, hn, tz, hps, hos, k⟩ := h
  refine ⟨_, (pss_cons (ps_set (i := 3) sc__law_place.nd rfl (Or.inl rfl) (pe_call G__law_thing (hr.mono (by omega)) (by rfl) T.g__law_thing T.k__law_thing T.bd__law_thing .nil pass0 (pa_cons (pv 0) (pa_cons (pv 1) (pa_cons (pv 2) pa_nil)))))
  (pss_one (ps_ret (pe_ifExp (pt_cmpR (kop_in K) (pe_ix (kix_tup K) (pv 3) pe_int (fun _ _ => rfl)) (pe_tup (pa_cons pe_str (pa_cons pe_str (pa_cons pe_str pa_nil)))) rfl) (pv 3) (pe_tup (pa_cons pe_str (pa_cons (pv 3) pa_nil))))))), ?_⟩
  refine w_seq (w_asg (w_thing (ps := ps) (os := os) rfl hR hn ?_ hps hos ?_ fun t x H1 wt dt f1 R1 td => ?_))
  · walk_at "ev"
  · walk_at "ev"
  dsimp only
  refine w_ret (w_if (w_t (K := K) (b := isPlace t) ?_ fun H2 e2 => ?_))
  · cases t <;> (apply tk_is; (walk_at "et"); (simp [isPlace]))
  obtain hp | hp : isPlace t = true ∨ isPlace t = false := by cases isPlace t <;> simp
  · rw [hp]
    refine iteT (w_v rfl ?_)
    exact k t x H2 wt hp (by omega) (f1.trans (Fr.of e2)) (R1.ex e2) (td.ex e2)
  · rw [hp]
    refine iteF (w_tup (w_cons (w_c (w_cons (w_v rfl (w_nil ⟨by show 2 ≤ sizeLine; decide, fun p hp => ?_⟩))))))
    exact k (.cell t) _ _ (by simp [wfT, wt]) rfl (by simp only [dpT]; omega) ((f1.trans (Fr.of e2)).trans (Fr.of (Ex.new hp))) ((R1.ex e2).ex (Ex.new hp)) (td_new hp (tdall2 (.str _) (td.ex e2)))
end
end Hw

set_option maxRecDepth 100000
set_option maxHeartbeats 4000000
/-! PG3: drawn steps and bodies -/
namespace Hw
open PySem PySem.Spec PyProof.Rows L2 Evl
local macro_rules | `(tactic| walk_at "dd") => `(tactic| first | rfl | decide | (simp; done) | omega)
local macro_rules | `(tactic| walk_at "td") => `(tactic| first | assumption | exact Td.int _ | exact Td.bl _ | exact Td.str _ | exact Td.non | exact Td.tup (by assumption) (by assumption))
local macro_rules | `(tactic| walk_at "ev") => `(tactic| first
  | exact ed_ci | exact ed_cs | exact ed_cb | exact ed_cn
  | (apply ed_cg; assumption)
  | (apply ed_var; (rfl); (walk_at "td"))
  | (apply ed_ixT; (walk_at "ev"); (walk_at "ev"); (first | rfl | assumption))
  | (apply ed_rowI; (rfl); (assumption); (walk_at "ev"); (rfl))
  | (apply ed_ixL; (apply EvDL.rd; walk_at "edl"); (walk_at "ev"); (rfl))
  | (apply ed_intb; (walk_at "ev"))
  | (apply ed_len; walk_at "ev")
  | (apply ed_lenV; (apply ev_rowR; (rfl); (assumption); (walk_at "ev"); (rfl)); (assumption))
  | (apply ed_Ii; (walk_at "ev"); (walk_at "ev"); (walk_at "cc"))
  | (apply ed_isi; (walk_at "ev"); (rfl))
  | (apply ed_I0i; (walk_at "ev"); (walk_at "ev"))
  | (apply ed_I0b; (walk_at "ev"); (walk_at "ev"))
  | (apply ed_eqi; (walk_at "ev"); (walk_at "ev"))
  | (apply ed_nei; (walk_at "ev"); (walk_at "ev"))
  | (apply ed_andF; walk_at "ev")
  | (apply ed_andV; (walk_at "ev"); (intro _; walk_at "ev"))
  | (apply ed_orT; walk_at "ev")
  | (apply ed_orV; (walk_at "ev"); (intro _; walk_at "ev"))
  | (apply ed_notT; walk_at "ev")
  | (apply ed_notF; walk_at "ev")
  | (apply ed_notV; walk_at "ev")
  | (apply ed_chain; (walk_at "ev"); (walk_at "ev"); (intro _; walk_at "ev"))
  | (apply ed_eqS; (walk_at "ev"); (walk_at "ev"); (walk_at "bb"); (walk_at "bb"))
  | (apply ed_neS; (walk_at "ev"); (walk_at "ev"); (walk_at "bb"); (walk_at "bb"))
  | (apply ed_inT; (walk_at "ev"); (walk_at "ev"); (rfl); (rfl))
  | (apply ed_niT; (walk_at "ev"); (walk_at "ev"); (rfl); (rfl))
  | (apply ed_tup; (walk_at "eva"); (walk_at "bb"))
  | (apply ed_sl; (walk_at "ev"); (walk_at "evo"); (walk_at "evo"))
  | (apply ed_eqN; (apply EvDL.rd; walk_at "edl"); (walk_at "edl"); (walk_at "bb"))
  | (apply ed_neN; (apply EvDL.rd; walk_at "edl"); (walk_at "edl"); (walk_at "bb"))
  | (apply ed_ixL; (apply edr_var; (rfl); (assumption); (assumption)); (walk_at "ev"); (first | rfl | assumption))
  | (apply ed_lenL; (apply edr_var; (rfl); (assumption); (assumption)))
  | (apply ed_call; (walk_at "eva"); (walk_at "post")))
local macro_rules | `(tactic| walk_at "edl") => `(tactic| first
  | assumption
  | (apply edl_lst; (walk_at "eva"); (walk_at "bb")))
local macro_rules | `(tactic| walk_at "eva") => `(tactic| first
  | exact eda_nil
  | (apply eda_cons; (walk_at "ev"); (walk_at "eva")))
local macro_rules | `(tactic| walk_at "evo") => `(tactic| first
  | exact eok_none
  | (apply eok_some; walk_at "ev"))
local macro_rules | `(tactic| walk_at "bb") => `(tactic| first | rfl | assumption | (simp; done) | (simp; omega) | decide +kernel)
local macro_rules | `(tactic| walk_at "et") => `(tactic| first
  | exact tk_yes
  | (apply tk_andF; walk_at "et")
  | (apply tk_and; (walk_at "et"); (intro _; walk_at "et"))
  | (apply tk_orT; walk_at "et")
  | (apply tk_or; (walk_at "et"); (intro _; walk_at "et"))
  | (apply tk_notT; walk_at "et")
  | (apply tk_notF; walk_at "et")
  | (apply tk_not; walk_at "et")
  | (apply tk_v; walk_at "ev")
  | (apply tk_vB; walk_at "ev"))
local macro_rules | `(tactic| walk_at "if") => `(tactic| first
  | (apply pst_whenF; (walk_at "et"); (walk_at "bb"))
  | (apply pst_whenT; (walk_at "et"); (walk_at "bb")))
local macro_rules | `(tactic| walk_at "post") => `(tactic| first | assumption | exact ⟨_, _, rfl, rfl⟩ | exact ⟨_, _, _, _, rfl, by omega, by omega, rfl⟩ | exact ⟨_, _, _, 0, rfl, by omega, by omega, rfl⟩)
local macro_rules | `(tactic| walk_at "cc") => `(tactic| first | assumption | decide | omega | (refine ⟨?_, ?_⟩ <;> first | decide | omega) | (exact Or.inl (by constructor <;> omega)))

section
variable {K : PySem.W.Frag} {σ : L2.St} {H H' : Hp} {D : Ends} {tu : TS} {ta : TA} {ds : List PyData} {te tx tv tw ty : TE} {Q : VK} {r s sh l : Addr} {ns : List Int} {E : XK}
theorem Fr.fresh {p : Addr} {S : List Addr} (h : Fr (p :: S) H H') (hp : H p = none) : Fr S H H' := fun q o hq e => h q o (fun z => by
  rcases List.mem_cons.mp z with z | z
  · subst z
    rw [hp] at e
    cases e
  · exact hq z) e
/-- for i in range(n) -/
theorem w_forR {n j : Nat} (h : EvDA K ta σ H [.int (n : Int)]) (hn : n ≤ 100000) (Pv : Nat → L2.St → Hp → Prop) (h0 : ∀ H1, Ex H H1 → Pv 0 σ H1)
    (hs : ∀ i σ' H', i < n → Pv i σ' H' → tu { D with nx := Pv (i + 1), ct := Pv (i + 1), bk := D.nx } (σ'.set j (some (.int (i : Int)))) H') (hd : ∀ σ' H', Pv n σ' H' → D.nx σ' H') : tFor (iRng1 ta) (gName j) tu D σ H :=
  h H (Ex.refl H) _ fun ws H1 e tw => by
    obtain _ | ⟨w1, _ | _⟩ := tw
    cases w1
    refine ⟨(n : Int), rfl, by omega, by omega, ?_⟩
    have en : ((n : Int)).toNat = n := by simp
    rw [en]
    refine for_range (lo := 0) (n := n) Pv (h0 H1 e) (fun i σ' H' hi p => ?_) hd
    have e0 : (0 : Int) + (i : Int) = (i : Int) := Int.zero_add _
    show tu _ (σ'.set j (some (.int ((0 : Int) + (i : Int))))) H'
    rw [e0]
    exact hs i σ' H' hi p
def RngGo (g : TG) (tu : TS) (D : Ends) (σ : L2.St) (ws : List V) (H1 : Hp) : Prop := ∃ j : Int, ws = [.int j] ∧ -(2 ^ 62) ≤ j ∧ j < 2 ^ 62 ∧ ∃ W : Nat → Nat → L2.St → Hp → Prop, (∃ m, W 0 m σ H1) ∧ ∀ i m σ H, W i m σ H →
  ((Itr 0 j.toNat).stop i H ∧ D.nx σ H) ∨ ((Itr 0 j.toNat).go i H ∧ ∃ N : L2.St → Hp → Prop, (∀ σ' H', N σ' H' → ∃ m', m' < m ∧ W (i + 1) m' σ' H') ∧ ∀ x H', (Itr 0 j.toNat).yld i H x H' → g x σ H' fun σ2 H2 => tu { D with nx := N, ct := N, bk := D.nx } σ2 H2)
theorem w_forR0 {g : TG} (h : ta σ H (RngGo g tu D σ)) : tFor (iRng1 ta) g tu D σ H := h
theorem rng_go {n j : Nat} (hn : n ≤ 100000) (Pv : Nat → L2.St → Hp → Prop) (h0 : Pv 0 σ H) (hs : ∀ i σ' H', i < n → Pv i σ' H' → tu { D with nx := Pv (i + 1), ct := Pv (i + 1), bk := D.nx } (σ'.set j (some (.int (i : Int)))) H') (hd : ∀ σ' H', Pv n σ' H' → D.nx σ' H') : RngGo (gName j) tu D σ [.int (n : Int)] H := by
  refine ⟨(n : Int), rfl, by omega, by omega, ?_⟩
  have en : ((n : Int)).toNat = n := by simp
  rw [en]
  refine for_range (lo := 0) (n := n) Pv h0 (fun i σ' H' hi p => ?_) hd
  have e0 : (0 : Int) + (i : Int) = (i : Int) := Int.zero_add _
  show tu _ (σ'.set j (some (.int ((0 : Int) + (i : Int))))) H'
  rw [e0]
  exact hs i σ' H' hi p
theorem pst_of {t : TS} (h : ∀ H1, Ex H H1 → t D σ H1) : Pst K t D σ H := h
/-- what the law's drawing stands on: its row, the works' shapes, what is left -/
structure Gs (K : PySem.W.Frag) (s r sh l : Addr) (ns : List Int) (shs : List (Nat × Nat)) (a b : Nat) (H : Hp) : Prop where
  row : RowAt K s ns H r
  shp : ∃ xs, H sh = some (.lst xs) ∧ TdAll K H xs (shs.map fun x => szD x.1 x.2)
  lft : H l = some (.lst [.int (a : Int), .int (b : Int)])
  n1 : sh ≠ r
  n2 : sh ≠ l
  n3 : l ≠ r
  n4 : s ≠ l ∨ SqL K (fun _ => none) s (ns.map V.int)
variable {shs : List (Nat × Nat)} {a b c d : Nat}
theorem sql_none {xs : List V} (h : SqL K (fun _ => none) s xs) : SqL K H s xs := by
  rcases h with (h | ⟨o, h⟩) | h
  · cases h
  · cases h
  · exact .inr h
theorem sql_split {xs : List V} (h : SqL K H s xs) : (∃ u, H s = some u) ∨ SqL K (fun _ => none) s xs := by
  rcases h with (h | ⟨o, h⟩) | h
  · exact .inl ⟨_, h⟩
  · exact .inl ⟨_, h⟩
  · exact .inr (.inr h)
theorem sql_upd {xs : List V} {o : HO} (h : SqL K H s xs) (n : s ≠ l ∨ SqL K (fun _ => none) s xs) : SqL K (upd H l o) s xs := by
  rcases n with n | n
  · rcases h with (h | ⟨o2, h⟩) | h
    · exact .inl (.inl (by rw [upd_ne n]; exact h))
    · exact .inl (.inr ⟨o2, by rw [upd_ne n]; exact h⟩)
    · exact .inr h
  · exact sql_none n
theorem Gs.ex (g : Gs K s r sh l ns shs a b H) (e : Ex H H') : Gs K s r sh l ns shs a b H' := by
  obtain ⟨xs, h1, h2⟩ := g.shp
  exact ⟨g.row.ex e, ⟨xs, e _ _ h1, h2.ex e⟩, e _ _ g.lft, g.n1, g.n2, g.n3, g.n4⟩
theorem Gs.fr (g : Gs K s r sh l ns shs a b H) (f : Fr [r] H H') (R : RowAt K s ns H' r) : Gs K s r sh l ns shs a b H' := by
  obtain ⟨xs, h1, h2⟩ := g.shp
  exact ⟨R, ⟨xs, f _ _ (by simpa using g.n1) h1, h2.kp (g.row.keep f)⟩, f _ _ (by simpa using g.n3) g.lft, g.n1, g.n2, g.n3, g.n4⟩
theorem Gs.mu (g : Gs K s r sh l ns shs a b H) : ∀ a ∈ [r, l], ∃ u, H a = some u ∧ Mut (some u) := fun x hx => by
  rcases List.mem_cons.mp hx with e | hx
  · rw [e]; exact g.row.mu
  · have e : x = l := by simpa using hx
    rw [e]
    exact ⟨_, g.lft, True.intro⟩
theorem Gs.keep (g : Gs K s r sh l ns shs a b H) (f : Fr [r, l] H H') : Keep K H H' := f.keep g.mu
theorem Gs.setl (g : Gs K s r sh l ns shs a b H) {i j : Int} (hi : i = (c : Int)) (hj : j = (d : Int)) : Gs K s r sh l ns shs c d (upd H l (.lst [.int i, .int j])) := by
  subst hi hj
  obtain ⟨xs, h1, h2⟩ := g.shp
  obtain ⟨p, q, t, h3, h4, h5⟩ := g.row
  refine ⟨⟨p, q, t, ?_, sql_upd h4 g.n4, h5⟩, ⟨xs, ?_, h2.kp (Keep.upd g.lft True.intro)⟩, upd_same, g.n1, g.n2, g.n3, g.n4⟩
  · rw [upd_ne (Ne.symm g.n3)]
    exact h3
  · rw [upd_ne g.n2]
    exact h1
/-- a list beside what the drawing stands on -/
structure Off (K : PySem.W.Frag) (s r sh l : Addr) (ns : List Int) (p : Addr) : Prop where
  o1 : p ≠ r
  o2 : p ≠ l
  o3 : p ≠ sh
  o4 : s ≠ p ∨ SqL K (fun _ => none) s (ns.map V.int)
theorem Gs.off {p : Addr} (g : Gs K s r sh l ns shs a b H) (hp : H p = none) : Off K s r sh l ns p := by
  obtain ⟨xs, h1, h2⟩ := g.shp
  obtain ⟨p0, q, t, h3, h4, h5⟩ := g.row
  refine ⟨fun e => ?_, fun e => ?_, fun e => ?_, ?_⟩
  · subst e; rw [hp] at h3; cases h3
  · subst e; have := g.lft; rw [hp] at this; cases this
  · subst e; rw [hp] at h1; cases h1
  · rcases sql_split h4 with ⟨u, h⟩ | h
    · refine .inl fun e => ?_
      subst e; rw [hp] at h; cases h
    · exact .inr h
theorem Gs.updo {p : Addr} {xs ys : List V} (g : Gs K s r sh l ns shs a b H) (o : Off K s r sh l ns p) (hp : H p = some (.lst xs)) : Gs K s r sh l ns shs a b (upd H p (.lst ys)) := by
  obtain ⟨zs, h1, h2⟩ := g.shp
  obtain ⟨p0, q, t, h3, h4, h5⟩ := g.row
  refine ⟨⟨p0, q, t, ?_, sql_upd h4 o.o4, h5⟩, ⟨zs, ?_, h2.kp (Keep.upd hp True.intro)⟩, ?_, g.n1, g.n2, g.n3, g.n4⟩
  · rw [upd_ne (Ne.symm o.o1)]; exact h3
  · rw [upd_ne (Ne.symm o.o3)]; exact h1
  · rw [upd_ne (Ne.symm o.o2)]; exact g.lft
theorem Fr.rl (f : Fr [r] H H') : Fr [r, l] H H' := f.sub (by simp)
end
/-! what is drawn -/
def goT (shs : List (Nat × Nat)) (at_ : Nat) (t : Th) : Bool := wfT (shP shs at_) (shO shs at_) t && decide (dpT t ≤ 3)
/-- what is handed: a place, or not deep -/
def goC (shs : List (Nat × Nat)) (at_ : Nat) (t : Th) : Bool := goT shs at_ t && (isPlace t || decide (dpT t ≤ 2))
mutual
def goS (shs : List (Nat × Nat)) (at_ : Nat) : Nat → Stm → Bool
  | _, .set p t => goT shs at_ p && (isPlace p && goT shs at_ t)
  | _, .say t => goT shs at_ t
  | 0, .ite _ _ _ => false
  | n + 1, .ite t a b => goT shs at_ t && ((decide (a.length ≤ 13) && goB shs at_ n a) && (decide (b.length ≤ 13) && goB shs at_ n b))
  | _, .call c ts => decide (at_ < c) && (decide (c < shs.length) && (decide (ts.length = shP shs c) && ts.all (goC shs at_)))
def goB (shs : List (Nat × Nat)) (at_ : Nat) : Nat → List Stm → Bool
  | _, [] => true
  | n, s :: r => goS shs at_ n s && goB shs at_ n r
end
mutual
def clS : Stm → Nat
  | .ite _ a b => clB a + clB b
  | .call _ _ => 1
  | _ => 0
def clB : List Stm → Nat
  | [] => 0
  | s :: r => clS s + clB r
end
theorem goB_app {shs : List (Nat × Nat)} {at_ n : Nat} : ∀ {xs ys : List Stm}, goB shs at_ n xs = true → goB shs at_ n ys = true → goB shs at_ n (xs ++ ys) = true
  | [], ys, _, h => by simpa using h
  | x :: xs, ys, h1, h2 => by
    simp only [goB, Bool.and_eq_true] at h1
    simp only [List.cons_append, goB, h1.1, goB_app h1.2 h2, Bool.and_self]
theorem cntB_app : ∀ xs ys : List Stm, cntB (xs ++ ys) = cntB xs + cntB ys
  | [], ys => by simp [cntB]
  | x :: xs, ys => by simp only [List.cons_append, cntB, cntB_app xs ys]; omega
theorem clB_app : ∀ xs ys : List Stm, clB (xs ++ ys) = clB xs + clB ys
  | [], ys => by simp [clB]
  | x :: xs, ys => by simp only [List.cons_append, clB, clB_app xs ys]; omega
def shOk (shs : List (Nat × Nat)) : Prop := shs.length ≤ 4 ∧ ∀ x ∈ shs, x.1 ≤ 3 ∧ x.2 ≤ 10
def spStep (K : PySem.W.Frag) (n : Nat) : Sp := fun vs H Q _ => ∃ (r s sh l : Addr) (ns : List Int) (shs : List (Nat × Nat)) (at_ a b : Nat), vs = [.ref r, .ref sh, .int (at_ : Int), .ref l, .int (n : Int)] ∧ Gs K s r sh l ns shs a b H ∧ ns.length ≤ 63 ∧ shOk shs ∧ at_ < shs.length ∧
  ∀ st x H' a' b', goS shs at_ n st = true → cntS st + a' ≤ a + 1 → clS st + b' ≤ b → Fr [r, l] H H' → Gs K s r sh l ns shs a' b' H' → Td K H' x (encS st) → Q x H'
def spBody (K : PySem.W.Frag) (n : Nat) : Sp := fun vs H Q _ => ∃ (r s sh l : Addr) (ns : List Int) (shs : List (Nat × Nat)) (at_ a b : Nat), vs = [.ref r, .ref sh, .int (at_ : Int), .ref l, .int (n : Int)] ∧ Gs K s r sh l ns shs a b H ∧ ns.length ≤ 63 ∧ shOk shs ∧ at_ < shs.length ∧
  ∀ bd x H' a' b', bd.length ≤ 13 → goB shs at_ n bd = true → cntB bd + a' ≤ a → clB bd + b' ≤ b → Fr [r, l] H H' → Gs K s r sh l ns shs a' b' H' → Td K H' x (.tuple (encB bd)) → Q x H'
section
variable {K : PySem.W.Frag} {σ : L2.St} {H H' : Hp} {te t1 t2 t3 t4 : TE} {Q : VK} {r s sh l : Addr} {ns : List Int} {E : XK} {shs : List (Nat × Nat)} {at_ a b m n0 n1 n2 n3 : Nat}
theorem w_step (g : Gs K s r sh l ns shs a b H) (hn : ns.length ≤ 63) (ho : shOk shs) (ha : at_ < shs.length) (h0 : σ[n0]? = some (some (.ref r))) (h1 : σ[n1]? = some (some (.ref sh))) (h2 : EvD K te σ H (.int (at_ : Int))) (h3 : σ[n3]? = some (some (.ref l))) (h4 : EvD K t4 σ H (.int (m : Int)))
    (k : ∀ st x H' a' b', goS shs at_ m st = true → cntS st + a' ≤ a + 1 → clS st + b' ≤ b → Fr [r, l] H H' → Gs K s r sh l ns shs a' b' H' → Td K H' x (encS st) → Q x H') :
    tCall (spStep K m) [] E (tCons (tVar n0) (tCons (tVar n1) (tCons te (tCons (tVar n3) (tCons t4 tNil))))) σ H Q :=
  ⟨_, h0, _, h1, h2.iv H (Ex.refl H) _ fun H1 e1 => ⟨_, h3, h4.iv H1 e1 _ fun H2 e2 => ⟨r, s, sh, l, ns, shs, at_, a, b, rfl, g.ex (e1.trans e2), hn, ho, ha, fun st x H' a' b' q1 q2 q3 f g' td => k st x H' a' b' q1 q2 q3 ((Fr.of (e1.trans e2)).trans f) g' td⟩⟩⟩
theorem w_body (g : Gs K s r sh l ns shs a b H) (hn : ns.length ≤ 63) (ho : shOk shs) (ha : at_ < shs.length) (h0 : σ[n0]? = some (some (.ref r))) (h1 : σ[n1]? = some (some (.ref sh))) (h2 : EvD K te σ H (.int (at_ : Int))) (h3 : σ[n3]? = some (some (.ref l))) (h4 : EvD K t4 σ H (.int (m : Int)))
    (k : ∀ bd x H' a' b', bd.length ≤ 13 → goB shs at_ m bd = true → cntB bd + a' ≤ a → clB bd + b' ≤ b → Fr [r, l] H H' → Gs K s r sh l ns shs a' b' H' → Td K H' x (.tuple (encB bd)) → Q x H') :
    tCall (spBody K m) [] E (tCons (tVar n0) (tCons (tVar n1) (tCons te (tCons (tVar n3) (tCons t4 tNil))))) σ H Q :=
  ⟨_, h0, _, h1, h2.iv H (Ex.refl H) _ fun H1 e1 => ⟨_, h3, h4.iv H1 e1 _ fun H2 e2 => ⟨r, s, sh, l, ns, shs, at_, a, b, rfl, g.ex (e1.trans e2), hn, ho, ha, fun st x H' a' b' q0 q1 q2 q3 f g' td => k st x H' a' b' q0 q1 q2 q3 ((Fr.of (e1.trans e2)).trans f) g' td⟩⟩⟩
end
section
variable {P : Program} {w : World} {K : PySem.W.Frag} {mg : Str → Option Value} {base : Heap} (T : Tx K mg)
include T
theorem ok_body {n lv : Nat} (hl : 1 ≤ lv) (GS : Fn__law_step T P w base CX0 lv (spStep K n)) (GT : Fn__law_taken T P w base CX0 1 (spTaken K)) : Fn__law_body T P w base CX0 (lv + 1) (spBody K n) := by
  have G__law_step := GS
  have G__law_taken := GT
  refine T.F__law_body.ok sc__law_body (fun vs H Q E h => by obtain ⟨r, s, sh, l, ns, shs, at_, a, b, rfl, _⟩ := h; rfl) fun cdv A outer s0 H vs Q E hr h => ?_
  obtain ⟨r, s, sh, l, ns, shs, at_, a, b, rfl, g, hn, ho, hat, k⟩ := h
  refine ⟨_, (pss_cons (ps_set (i := 5) sc__law_body.nd rfl (Or.inl rfl) (pe_lst pa_nil))
  (pss_cons (ps_for (passes_of rfl) rfl (pi_range1 rfl T.b_range (pa_cons (pe_call G__law_taken (hr.mono (by omega)) (by rfl) T.g__law_taken T.k__law_taken T.bd__law_taken .nil pass0 (pa_cons (pv 0) (pa_cons (pe_ix (kix_list K) (pe_lst (pa_cons pe_int (pa_cons pe_int pa_nil))) (pe_callTy kc_int rfl T.b_int (by decide +kernel) (pa_cons (pe_cmpR op_gt (pe_ix (kix_list K) (pv 3) pe_int (fun _ _ => rfl)) pe_int (nomark _)) pa_nil)) (fun _ _ => rfl)) pa_nil))) pa_nil)) (pg_name (i := 6) sc__law_body.nd rfl (Or.inl rfl))
    (pss_one (ps_if (pt_cmpR op_gt (pe_ix (kix_list K) (pv 3) pe_int (fun _ _ => rfl)) pe_int (nomark _))
      (pss_cons (ps_asg (pe_op op_sub (pe_ix (kix_list K) (pv 3) pe_int (fun _ _ => rfl)) pe_int) (pg_sub (pv 3) pe_int set_list))
      (pss_one (ps_expr (pe_bm PySem.F.plainAttrs_list PySem.F.slot_list_append PySem.F.type_list_append mt_append (pv 5) (pa_cons (pe_call G__law_step (hr.mono (by omega)) (by rfl) T.g__law_step T.k__law_step T.bd__law_step .nil pass0 (pa_cons (pv 0) (pa_cons (pv 1) (pa_cons (pv 2) (pa_cons (pv 3) (pa_cons (pv 4) pa_nil)))))) pa_nil)))))
      pss_nil)))
  (pss_one (ps_ret (pe_callTy (kc_tuple K) rfl T.b_tuple (by decide +kernel) (pa_cons (pv 5) pa_nil)))))), ?_⟩
  refine Pst.go (K := K) ?_
  refine pst_asgL (edl_lst eda_nil (by simp)) fun fl xs0 H1 hfl e1 hx0 ht0 => ?_
  cases ht0
  have g1 := g.ex e1
  have off := g.off hfl
  refine pst_of fun H2 e2 => ?_
  have g2 := g1.ex e2
  have hl2 : SqL K H2 l [.int (a : Int), .int (b : Int)] := SqL.of g2.lft
  refine w_seq (w_forR0 (w_cons (w_taken rfl g2.row hn (m := if 12 < a then 14 else 5) ?_ (by split <;> decide) (by split <;> decide) fun k1 H3 hk1 f3 R3 => w_nil ?_)))
  · apply ed_ixL
    · apply EvDL.rd
      walk_at "edl"
    · walk_at "ev"
    · by_cases h12 : 12 < a
      · rw [if_pos (decide_eq_true (by omega)), if_pos h12] <;> rfl
      · rw [if_neg (by simp; omega), if_neg h12] <;> rfl
  have hk13 : k1 ≤ 13 := by
    split at hk1 <;> omega
  refine rng_go (by omega) (fun i σ' H' => ∃ (bd : List Stm) (xs : List V) (a' b' : Nat) (u : Option V), σ' = [some (.ref r), some (.ref sh), some (.int (at_ : Int)), some (.ref l), some (.int (n : Int)), some (.ref fl), u] ∧ H' fl = some (.lst xs) ∧ TdAll K H' xs (encB bd) ∧ bd.length ≤ i ∧ goB shs at_ n bd = true ∧ cntB bd + a' ≤ a ∧ clB bd + b' ≤ b ∧ Fr [fl, r, l] H1 H' ∧ Gs K s r sh l ns shs a' b' H') ?_ ?_ ?_
  · exact ⟨[], [], a, b, _, rfl, f3 _ _ (by simpa using off.o1) (e2 _ _ hx0), .nil, Nat.le_refl _, rfl, by simp [cntB], by simp [clB], (Fr.of e2).trans (f3.sub (by simp)), g2.fr f3 R3⟩
  · rintro i σ' H' hi ⟨bd, xs, a', b', u, rfl, hxs, hall, hlen, hgo, hc, hcl, hf, g'⟩
    have hl' : SqL K H' l [.int (a' : Int), .int (b' : Int)] := SqL.of g'.lft
    dsimp only
    refine Pst.go (K := K) ?_
    refine pst_if (K := K) (b := decide (0 < (a' : Int))) ?_ (fun hb => ?_) (fun hb => ?_)
    · walk_at "et"
    · simp at hb
      obtain ⟨a1, rfl⟩ : ∃ a1, a' = a1 + 1 := ⟨a' - 1, by omega⟩
      apply pst_setI
      · rfl
      · exact g'.lft
      · walk_at "ev"
      · walk_at "ev"
      · rfl
      intro H4 e4
      have g4 : Gs K s r sh l ns shs a1 b' (upd H4 l (.lst [.int (((a1 + 1 : Nat) : Int) - 1), .int (b' : Int)])) := (g'.ex e4).setl (by omega) rfl
      have f4 : Fr [fl, r, l] H1 (upd H4 l (.lst [.int (((a1 + 1 : Nat) : Int) - 1), .int (b' : Int)])) := (hf.trans (Fr.of e4)).trans (Fr.upd (by simp))
      have hx4 : upd H4 l (.lst [.int (((a1 + 1 : Nat) : Int) - 1), .int (b' : Int)]) fl = some (.lst xs) := by
        rw [upd_ne off.o2]
        exact e4 _ _ hxs
      have ht4 := (hall.ex e4).kp (Keep.upd (o := .lst [.int (((a1 + 1 : Nat) : Int) - 1), .int (b' : Int)]) (g'.ex e4).lft True.intro)
      show Pst K _ _ _ (upd H4 l (.lst [.int (((a1 + 1 : Nat) : Int) - 1), .int (b' : Int)]))
      generalize upd H4 l (.lst [.int (((a1 + 1 : Nat) : Int) - 1), .int (b' : Int)]) = H5 at *
      refine pst_of fun H6 e6 => ?_
      have g6 := g4.ex e6
      refine w_app rfl (e6 _ _ hx4) (w_step g6 hn ho hat rfl rfl ?_ rfl ?_ fun st x H7 a2 b2 q1 q2 q3 f7 g7 t7 => ?_)
      · walk_at "ev"
      · walk_at "ev"
      have hx7 : H7 fl = some (.lst xs) := f7 _ _ (by simp [off.o1, off.o2]) (e6 _ _ hx4)
      have ht7 := (ht4.ex e6).kp (g6.keep f7)
      refine ⟨xs, hx7, by rw [hall.length, encB_length]; exact sz_lt (by omega), bd ++ [st], xs ++ [x], a2, b2, _, rfl, upd_same, ?_, by simp; omega, goB_app hgo (by simp [goB, q1]), ?_, ?_, ((f4.trans (Fr.of e6)).trans (f7.sub (by simp))).trans (Fr.upd (by simp)), g7.updo off hx7⟩
      · have kk : Keep K H7 (upd H7 fl (.lst (xs ++ [x]))) := Keep.upd hx7 True.intro
        rw [encB_map, List.map_append, ← encB_map]
        exact (ht7.kp kk).snoc (t7.kp kk)
      · rw [cntB_app]; simp only [cntB]; omega
      · rw [clB_app]; simp only [clB]; omega
    · refine pst_of fun H4 e4 => ?_
      exact ⟨bd, xs, a', b', _, rfl, e4 _ _ hxs, hall.ex e4, by omega, hgo, hc, hcl, hf.trans (Fr.of e4), g'.ex e4⟩
  · rintro σ' H' ⟨bd, xs, a', b', u, rfl, hxs, hall, hlen, hgo, hc, hcl, hf, g'⟩
    dsimp only
    refine w_ret (w_d (ed_tupL (edr_var rfl (SqL.of hxs) hall)) fun v H4 e4 t4 => ?_)
    exact k bd v H4 a' b' (by omega) hgo hc hcl (((Fr.of e1).trans hf).fresh hfl |>.trans (Fr.of e4)) (g'.ex e4) t4
end
end Hw

set_option maxRecDepth 100000
set_option maxHeartbeats 4000000
/-! PG4: drawn steps -/
namespace Hw
open PySem PySem.Spec PyProof.Rows L2 Evl
local macro_rules | `(tactic| walk_at "dd") => `(tactic| first | rfl | decide | (simp; done) | omega)
local macro_rules | `(tactic| walk_at "td") => `(tactic| first | assumption | exact Td.int _ | exact Td.bl _ | exact Td.str _ | exact Td.non | exact Td.tup (by assumption) (by assumption))
local macro_rules | `(tactic| walk_at "ev") => `(tactic| first
  | exact ed_ci | exact ed_cs | exact ed_cb | exact ed_cn
  | (apply ed_cg; assumption)
  | (apply ed_var; (rfl); (walk_at "td"))
  | (apply ed_ixT; (walk_at "ev"); (walk_at "ev"); (first | rfl | assumption))
  | (apply ed_rowI; (rfl); (assumption); (walk_at "ev"); (rfl))
  | (apply ed_ixL; (apply EvDL.rd; walk_at "edl"); (walk_at "ev"); (rfl))
  | (apply ed_intb; (walk_at "ev"))
  | (apply ed_len; walk_at "ev")
  | (apply ed_lenV; (apply ev_rowR; (rfl); (assumption); (walk_at "ev"); (rfl)); (assumption))
  | (apply ed_Ii; (walk_at "ev"); (walk_at "ev"); (walk_at "cc"))
  | (apply ed_isi; (walk_at "ev"); (rfl))
  | (apply ed_I0i; (walk_at "ev"); (walk_at "ev"))
  | (apply ed_I0b; (walk_at "ev"); (walk_at "ev"))
  | (apply ed_eqi; (walk_at "ev"); (walk_at "ev"))
  | (apply ed_nei; (walk_at "ev"); (walk_at "ev"))
  | (apply ed_andF; walk_at "ev")
  | (apply ed_andV; (walk_at "ev"); (intro _; walk_at "ev"))
  | (apply ed_orT; walk_at "ev")
  | (apply ed_orV; (walk_at "ev"); (intro _; walk_at "ev"))
  | (apply ed_notT; walk_at "ev")
  | (apply ed_notF; walk_at "ev")
  | (apply ed_notV; walk_at "ev")
  | (apply ed_chain; (walk_at "ev"); (walk_at "ev"); (intro _; walk_at "ev"))
  | (apply ed_eqS; (walk_at "ev"); (walk_at "ev"); (walk_at "bb"); (walk_at "bb"))
  | (apply ed_neS; (walk_at "ev"); (walk_at "ev"); (walk_at "bb"); (walk_at "bb"))
  | (apply ed_inT; (walk_at "ev"); (walk_at "ev"); (rfl); (rfl))
  | (apply ed_niT; (walk_at "ev"); (walk_at "ev"); (rfl); (rfl))
  | (apply ed_tup; (walk_at "eva"); (walk_at "bb"))
  | (apply ed_sl; (walk_at "ev"); (walk_at "evo"); (walk_at "evo"))
  | (apply ed_eqN; (apply EvDL.rd; walk_at "edl"); (walk_at "edl"); (walk_at "bb"))
  | (apply ed_neN; (apply EvDL.rd; walk_at "edl"); (walk_at "edl"); (walk_at "bb"))
  | (apply ed_ixL; (apply edr_var; (rfl); (assumption); (assumption)); (walk_at "ev"); (first | rfl | assumption))
  | (apply ed_lenL; (apply edr_var; (rfl); (assumption); (assumption)))
  | (apply ed_call; (walk_at "eva"); (walk_at "post")))
local macro_rules | `(tactic| walk_at "edl") => `(tactic| first
  | assumption
  | (apply edl_lst; (walk_at "eva"); (walk_at "bb")))
local macro_rules | `(tactic| walk_at "eva") => `(tactic| first
  | exact eda_nil
  | (apply eda_cons; (walk_at "ev"); (walk_at "eva")))
local macro_rules | `(tactic| walk_at "evo") => `(tactic| first
  | exact eok_none
  | (apply eok_some; walk_at "ev"))
local macro_rules | `(tactic| walk_at "bb") => `(tactic| first | rfl | assumption | (simp; done) | (simp; omega) | decide +kernel)
local macro_rules | `(tactic| walk_at "et") => `(tactic| first
  | exact tk_yes
  | (apply tk_andF; walk_at "et")
  | (apply tk_and; (walk_at "et"); (intro _; walk_at "et"))
  | (apply tk_orT; walk_at "et")
  | (apply tk_or; (walk_at "et"); (intro _; walk_at "et"))
  | (apply tk_notT; walk_at "et")
  | (apply tk_notF; walk_at "et")
  | (apply tk_not; walk_at "et")
  | (apply tk_v; walk_at "ev")
  | (apply tk_vB; walk_at "ev"))
local macro_rules | `(tactic| walk_at "if") => `(tactic| first
  | (apply pst_whenF; (walk_at "et"); (walk_at "bb"))
  | (apply pst_whenT; (walk_at "et"); (walk_at "bb")))
local macro_rules | `(tactic| walk_at "post") => `(tactic| first | assumption | exact ⟨_, _, rfl, rfl⟩ | exact ⟨_, _, _, _, rfl, by omega, by omega, rfl⟩ | exact ⟨_, _, _, 0, rfl, by omega, by omega, rfl⟩)
local macro_rules | `(tactic| walk_at "cc") => `(tactic| first | assumption | decide | omega | (refine ⟨?_, ?_⟩ <;> first | decide | omega) | (exact Or.inl (by constructor <;> omega)))

def spThings (K : PySem.W.Frag) : Sp := fun vs H Q E => ∃ n, n ≤ 2 ∧ spThing K n vs H Q E
section
variable {K : PySem.W.Frag} {σ : L2.St} {H H' : Hp} {te tx : TE} {Q : VK} {r s : Addr} {ns : List Int} {E : XK} {n : Nat}
theorem w_things {m ps os : Nat} (hm2 : m ≤ 2) (hs : σ[n]? = some (some (.ref r))) (hR : RowAt K s ns H r) (hn : ns.length ≤ 63) (hz : EvD K tx σ H (szD ps os)) (hp : ps ≤ 99) (ho : os ≤ 99) (hm : EvD K te σ H (.int (m : Int)))
    (k : ∀ t x H', wfT ps os t = true → dpT t ≤ m + 1 → Fr [r] H H' → RowAt K s ns H' r → Td K H' x (encT t) → Q x H') : tCall (spThings K) [] E (tCons (tVar n) (tCons tx (tCons te tNil))) σ H Q :=
  ⟨.ref r, hs, hz H (Ex.refl H) _ fun v H1 e1 tv => hm.iv H1 e1 _ fun H2 e2 => ⟨m, hm2, r, s, ns, v, ps, os, rfl, hR.ex (e1.trans e2), hn, tv.ex e2, hp, ho, fun t x H' h1 h2 hf hR' td => k t x H' h1 h2 ((Fr.of (e1.trans e2)).trans hf) hR' td⟩⟩
end
section
variable {P : Program} {w : World} {K : PySem.W.Frag} {mg : Str → Option Value} {base : Heap} (T : Tx K mg)
include T
theorem ok_step {n lv : Nat} (hl : 4 ≤ lv) (spI : Sp) (hspI : 0 < n → spI = spBody K (n - 1)) (GB : Fn__law_body T P w base CX0 lv spI) (GT : Fn__law_taken T P w base CX0 1 (spTaken K)) (GH : Fn__law_thing T P w base CX0 4 (spThings K)) (GP : Fn__law_place T P w base CX0 4 (spPlace K 1)) :
    Fn__law_step T P w base CX0 (lv + 1) (spStep K n) := by
  have G__law_body := GB
  have G__law_taken := GT
  have G__law_thing := GH
  have G__law_place := GP
  refine T.F__law_step.ok sc__law_step (fun vs H Q E h => by obtain ⟨r, s, sh, l, ns, shs, at_, a, b, rfl, _⟩ := h; rfl) fun cdv A outer s0 H vs Q E hr h => ?_
  obtain ⟨r, s, sh, l, ns, shs, at_, a, b, rfl, g, hn, ho, hat, k⟩ := h
  refine ⟨_, (pss_cons (ps_set (i := 5) sc__law_step.nd rfl (Or.inl rfl) (pe_ix (kix_list K) (pv 1) (pv 2) (fun _ _ => rfl)))
  (pss_cons (ps_set (i := 6) sc__law_step.nd rfl (Or.inl rfl) (pe_call G__law_taken (hr.mono (by omega)) (by rfl) T.g__law_taken T.k__law_taken T.bd__law_taken .nil pass0 (pa_cons (pv 0) (pa_cons pe_int pa_nil))))
  (pss_cons (ps_if (PW.pt (pw_and (pt_cmpR op_gt (pv 6) pe_int (nomark _)) (pw_and (pt_cmpR op_lt (pe_op op_add (pv 2) pe_int) (pe_callB (kc_len K) rfl T.b_len PySem.boot_len (pa_cons (pv 1) pa_nil)) (nomark _)) (pw_and1 (pt_cmpR op_gt (pe_ix (kix_list K) (pv 3) pe_int (fun _ _ => rfl)) pe_int (nomark _))))))
    (pss_cons (ps_asg (pe_op op_sub (pe_ix (kix_list K) (pv 3) pe_int (fun _ _ => rfl)) pe_int) (pg_sub (pv 3) pe_int set_list))
    (pss_cons (ps_set (i := 7) sc__law_step.nd rfl (Or.inl rfl) (pe_op op_add (pe_op op_add (pv 2) pe_int) (pe_call G__law_taken (hr.mono (by omega)) (by rfl) T.g__law_taken T.k__law_taken T.bd__law_taken .nil pass0 (pa_cons (pv 0) (pa_cons (pe_op op_sub (pe_op op_sub (pe_callB (kc_len K) rfl T.b_len PySem.boot_len (pa_cons (pv 1) pa_nil)) (pv 2)) pe_int) pa_nil)))))
    (pss_cons (ps_set (i := 8) sc__law_step.nd rfl (Or.inl rfl) (pe_lst pa_nil))
    (pss_cons (ps_for (passes_of rfl) rfl (pi_range1 rfl T.b_range (pa_cons (pe_ix (kix_tup K) (pe_ix (kix_list K) (pv 1) (pv 7) (fun _ _ => rfl)) pe_int (fun _ _ => rfl)) pa_nil)) (pg_name (i := 9) sc__law_step.nd rfl (Or.inl rfl))
      (pss_cons (ps_set (i := 10) sc__law_step.nd rfl (Or.inl rfl) (pe_call G__law_thing (hr.mono (by omega)) (by rfl) T.g__law_thing T.k__law_thing T.bd__law_thing .nil pass0 (pa_cons (pv 0) (pa_cons (pv 5) (pa_cons pe_int pa_nil)))))
      (pss_one (ps_expr (pe_bm PySem.F.plainAttrs_list PySem.F.slot_list_append PySem.F.type_list_append mt_append (pv 8) (pa_cons (pe_ifExp (pt_cmpR op_eq (pe_call G__law_taken (hr.mono (by omega)) (by rfl) T.g__law_taken T.k__law_taken T.bd__law_taken .nil pass0 (pa_cons (pv 0) (pa_cons pe_int pa_nil))) pe_int (nomark _)) (pv 10) (pe_call G__law_place (hr.mono (by omega)) (by rfl) T.g__law_place T.k__law_place T.bd__law_place .nil pass0 (pa_cons (pv 0) (pa_cons (pv 5) (pa_cons pe_int pa_nil))))) pa_nil))))))
    (pss_one (ps_ret (pe_tup (pa_cons pe_str (pa_cons (pv 7) (pa_cons (pe_callTy (kc_tuple K) rfl T.b_tuple (by decide +kernel) (pa_cons (pv 8) pa_nil)) pa_nil))))))))))
    pss_nil)
  (pss_cons (ps_if (PW.pt (pw_and (pt_cmpR op_eq (pv 6) pe_int (nomark _)) (pw_and1 (pt_cmpR op_gt (pv 4) pe_int (nomark _)))))
    (pss_cons (ps_set (i := 11) sc__law_step.nd rfl (Or.inl rfl) (pe_call G__law_body (hr.mono (by omega)) (by rfl) T.g__law_body T.k__law_body T.bd__law_body .nil pass0 (pa_cons (pv 0) (pa_cons (pv 1) (pa_cons (pv 2) (pa_cons (pv 3) (pa_cons (pe_op op_sub (pv 4) pe_int) pa_nil)))))))
    (pss_one (ps_ret (pe_tup (pa_cons pe_str (pa_cons (pe_call G__law_thing (hr.mono (by omega)) (by rfl) T.g__law_thing T.k__law_thing T.bd__law_thing .nil pass0 (pa_cons (pv 0) (pa_cons (pv 5) (pa_cons pe_int pa_nil)))) (pa_cons (pv 11) (pa_cons (pe_call G__law_body (hr.mono (by omega)) (by rfl) T.g__law_body T.k__law_body T.bd__law_body .nil pass0 (pa_cons (pv 0) (pa_cons (pv 1) (pa_cons (pv 2) (pa_cons (pv 3) (pa_cons (pe_op op_sub (pv 4) pe_int) pa_nil)))))) pa_nil))))))))
    pss_nil)
  (pss_cons (ps_if (pt_cmpR op_eq (pv 6) pe_int (nomark _))
    (pss_one (ps_ret (pe_tup (pa_cons pe_str (pa_cons (pe_call G__law_thing (hr.mono (by omega)) (by rfl) T.g__law_thing T.k__law_thing T.bd__law_thing .nil pass0 (pa_cons (pv 0) (pa_cons (pv 5) (pa_cons pe_int pa_nil)))) pa_nil)))))
    pss_nil)
  (pss_one (ps_ret (pe_tup (pa_cons pe_str (pa_cons (pe_call G__law_place (hr.mono (by omega)) (by rfl) T.g__law_place T.k__law_place T.bd__law_place .nil pass0 (pa_cons (pv 0) (pa_cons (pv 5) (pa_cons pe_int pa_nil)))) (pa_cons (pe_call G__law_thing (hr.mono (by omega)) (by rfl) T.g__law_thing T.k__law_thing T.bd__law_thing .nil pass0 (pa_cons (pv 0) (pa_cons (pv 5) (pa_cons pe_int pa_nil)))) pa_nil))))))))))), ?_⟩
  obtain ⟨⟨ps, os⟩, hsz⟩ : ∃ z, shs[at_]? = some z := ⟨_, List.getElem?_eq_getElem hat⟩
  have hbd := ho.2 _ (List.mem_of_getElem? hsz)
  have hps : ps ≤ 99 := Nat.le_trans hbd.1 (by decide)
  have hos : os ≤ 99 := Nat.le_trans hbd.2 (by decide)
  have eP : shP shs at_ = ps := by simp [shP, List.getD, hsz]
  have eO : shO shs at_ = os := by simp [shO, List.getD, hsz]
  have goes : ∀ {t : Th}, wfT ps os t = true → dpT t ≤ 3 → goT shs at_ t = true := fun h1 h2 => by
    unfold goT
    rw [eP, eO, h1, decide_eq_true h2]
    rfl
  obtain ⟨sxs, hsx, hsa⟩ := g.shp
  have hat2 : atI (shs.map fun x => szD x.1 x.2) (at_ : Int) = some (szD ps os) := atI_nat (by rw [List.getElem?_map, hsz] <;> rfl)
  refine Pst.go (K := K) ?_
  refine pst_asg (d := szD ps os) ?_ fun vz H1 e1 tz => ?_
  · have hsl : SqL K H sh sxs := SqL.of hsx
    walk_at "ev"
  refine pst_of fun H2 e2 => ?_
  have g2 := g.ex (e1.trans e2)
  refine w_seq (w_asg (w_taken rfl g2.row hn (m := 10) ?_ (by decide) (by decide) fun way H3 hway f3 R3 => ?_))
  · walk_at "ev"
  have g3 := g2.fr f3 R3
  have tz3 : Td K H3 vz (szD ps os) := (tz.ex e2).kp (g2.row.keep f3)
  have fr3 : Fr [r, l] H H3 := (Fr.of (e1.trans e2)).trans f3.rl
  clear g2 f3 R3 tz e1 e2 hsx hsa
  obtain ⟨sxs, hsx, hsa⟩ := g3.shp
  have hsl : SqL K H3 sh sxs := SqL.of hsx
  have hll : SqL K H3 l [.int (a : Int), .int (b : Int)] := SqL.of g3.lft
  dsimp only
  refine Pst.go (K := K) ?_
  apply pst_when
  · walk_at "et"
  · intro hb
    simp only [Bool.and_eq_true, decide_eq_true_eq] at hb
    rw [List.length_map] at hb
    obtain ⟨b1, rfl⟩ : ∃ b1, b = b1 + 1 := ⟨b - 1, by omega⟩
    apply pst_setI
    · rfl
    · exact g3.lft
    · walk_at "ev"
    · walk_at "ev"
    · rfl
    intro H4 e4
    have g4 : Gs K s r sh l ns shs a b1 (upd H4 l (.lst [.int (a : Int), .int (((b1 + 1 : Nat) : Int) - 1)])) := (g3.ex e4).setl rfl (by omega)
    have f4 : Fr [r, l] H (upd H4 l (.lst [.int (a : Int), .int (((b1 + 1 : Nat) : Int) - 1)])) := (fr3.trans (Fr.of e4)).trans (Fr.upd (by simp))
    have tz4 := (tz3.ex e4).kp (Keep.upd (o := .lst [.int (a : Int), .int (((b1 + 1 : Nat) : Int) - 1)]) (g3.ex e4).lft True.intro)
    show Pst K _ _ _ (upd H4 l (.lst [.int (a : Int), .int (((b1 + 1 : Nat) : Int) - 1)]))
    generalize upd H4 l (.lst [.int (a : Int), .int (((b1 + 1 : Nat) : Int) - 1)]) = H5 at *
    clear hsx hsa hsl hll
    obtain ⟨sxs, hsx, hsa⟩ := g4.shp
    have hsl : SqL K H5 sh sxs := SqL.of hsx
    refine pst_of fun H6 e6 => ?_
    have g6 := g4.ex e6
    have hsl6 : SqL K H6 sh sxs := ex_l e6 hsl
    have hsa6 := hsa.ex e6
    refine w_seq (w_asg (w_op (w_d (K := K) (d := .int ((at_ : Int) + 1)) ?_ fun v7 H7 e7 t7 => ?_)))
    · walk_at "ev"
    cases t7
    have hsl7 : SqL K H7 sh sxs := ex_l e7 hsl6
    have hsa7 := hsa6.ex e7
    have g7 := g6.ex e7
    refine w_taken rfl g7.row hn (m := (shs.length : Int) - (at_ : Int) - 1) ?_ (by omega) (by have := ho.1; omega) fun kw H8 hkw f8 R8 => ?_
    · apply ed_is
      · walk_at "ev"
      · rw [List.length_map]
    refine ⟨_, _, rfl, rfl, ?_⟩
    have g8 := g7.fr f8 R8
    have tz8 : Td K H8 vz (szD ps os) := ((tz4.ex e6).ex e7).kp (g7.row.keep f8)
    have fr8 : Fr [r, l] H H8 := ((f4.trans (Fr.of e6)).trans (Fr.of e7)).trans f8.rl
    obtain ⟨c, hc⟩ : ∃ c : Nat, c = at_ + 1 + kw := ⟨_, rfl⟩
    have ec : ((at_ : Int) + 1 + (kw : Int)) = (c : Int) := by omega
    have hcl : c < shs.length := by omega
    obtain ⟨⟨cp, co⟩, hcz⟩ : ∃ z, shs[c]? = some z := ⟨_, List.getElem?_eq_getElem hcl⟩
    have hcp : cp ≤ 3 := (ho.2 _ (List.mem_of_getElem? hcz)).1
    have ecp : shP shs c = cp := by simp [shP, List.getD, hcz]
    have hcat : atI (shs.map fun x => szD x.1 x.2) (c : Int) = some (.tuple [.int (cp : Int), .int (co : Int)]) := atI_nat (by rw [List.getElem?_map, hcz] <;> rfl)
    dsimp only
    rw [ec]
    refine Pst.go (K := K) ?_
    refine pst_asgL (edl_lst eda_nil (by simp)) fun fl xs0 H9 hfl e9 hx0 ht0 => ?_
    cases ht0
    have off := g8.off hfl
    have g9 := g8.ex e9
    refine pst_of fun H10 e10 => ?_
    have g10 := g9.ex e10
    clear hsx hsa hsl hsl6 hsa6 hsl7 hsa7
    obtain ⟨sxs, hsx, hsa⟩ := g10.shp
    have hsl : SqL K H10 sh sxs := SqL.of hsx
    refine w_seq (w_forR (K := K) (n := cp) ?_ (by omega) (fun i σ' H' => ∃ (ts : List Th) (xs : List V) (u1 u2 u3 : Option V), σ' = [some (.ref r), some (.ref sh), some (.int (at_ : Int)), some (.ref l), some (.int (n : Int)), some vz, some (.int (way : Int)), some (.int (c : Int)), some (.ref fl), u1, u2, u3] ∧ H' fl = some (.lst xs) ∧ TdAll K H' xs (ts.map encT) ∧ ts.length = i ∧ ts.all (goC shs at_) = true ∧ Fr [fl, r, l] H9 H' ∧ Td K H' vz (szD ps os) ∧ Gs K s r sh l ns shs a b1 H') ?_ ?_ ?_)
    · apply eda_cons
      · walk_at "ev"
      · exact eda_nil
    · intro H11 e11
      exact ⟨[], [], _, _, _, rfl, e11 _ _ (e10 _ _ hx0), .nil, rfl, rfl, (Fr.of e10).trans (Fr.of e11), ((tz8.ex e9).ex e10).ex e11, g10.ex e11⟩
    · rintro i σ' H' hi ⟨ts, xs, u1, u2, u3, rfl, hxs, hall, hlen, hgo, hf, tz', g'⟩
      refine w_seq (w_asg (w_things (m := 1) (ps := ps) (os := os) (by decide) rfl g'.row hn ?_ hps hos ?_ fun t xt H11 wt dt f11 R11 tt => ?_))
      · walk_at "ev"
      · exact ed_ci
      have g11 := g'.fr f11 R11
      have hx11 : H11 fl = some (.lst xs) := f11 _ _ (by simpa using off.o1) hxs
      have k11 := g'.row.keep f11
      dsimp only
      refine w_app rfl hx11 (w_if (w_test (w_op (w_taken rfl R11 hn (m := 3) ?_ (by decide) (by decide) fun kk H12 hkk f12 R12 => ?_))))
      · walk_at "ev"
      refine ⟨by rfl, decide (V.int (kk : Int) = V.int 2), rfl, ?_⟩
      have g12 := g11.fr f12 R12
      have hx12 : H12 fl = some (.lst xs) := f12 _ _ (by simpa using off.o1) hx11
      have k12 := R11.keep f12
      have hfin : ∀ (t : Th) (x : V) (H13 : Hp), goC shs at_ t = true → Fr [r] H12 H13 → RowAt K s ns H13 r → Td K H13 x (encT t) → ∃ xs, H13 fl = some (.lst xs) ∧ xs.length < sizeLine ∧ (∃ (ts : List Th) (xs' : List V) (y1 y2 y3 : Option V), ([some (V.ref r), some (.ref sh), some (.int (at_ : Int)), some (.ref l), some (.int (n : Int)), some vz, some (.int (way : Int)), some (.int (c : Int)), some (.ref fl), some (.int (i : Int)), some xt, u3] : L2.St) = [some (.ref r), some (.ref sh), some (.int (at_ : Int)), some (.ref l), some (.int (n : Int)), some vz, some (.int (way : Int)), some (.int (c : Int)), some (.ref fl), y1, y2, y3] ∧ upd H13 fl (.lst (xs ++ [x])) fl = some (.lst xs') ∧ TdAll K (upd H13 fl (.lst (xs ++ [x]))) xs' (ts.map encT) ∧ ts.length = i + 1 ∧ ts.all (goC shs at_) = true ∧ Fr [fl, r, l] H9 (upd H13 fl (.lst (xs ++ [x]))) ∧ Td K (upd H13 fl (.lst (xs ++ [x]))) vz (szD ps os) ∧ Gs K s r sh l ns shs a b1 (upd H13 fl (.lst (xs ++ [x])))) := by
        intro t x H13 hg f13 R13 t13
        have hx13 : H13 fl = some (.lst xs) := f13 _ _ (by simpa using off.o1) hx12
        have k13 := R12.keep f13
        have kk : Keep K H13 (upd H13 fl (.lst (xs ++ [x]))) := Keep.upd hx13 True.intro
        refine ⟨xs, hx13, by rw [hall.length, List.length_map]; exact sz_lt (by omega), ts ++ [t], xs ++ [x], _, _, _, rfl, upd_same, ?_, by simp [hlen], by simp [hgo, hg], (((hf.trans (f11.sub (by simp))).trans (f12.sub (by simp))).trans (f13.sub (by simp))).trans (Fr.upd (by simp)), ((((tz'.kp k11).kp k12).kp k13).kp kk), (g12.fr f13 R13).updo off hx13⟩
        rw [List.map_append]
        exact ((((hall.kp k11).kp k12).kp k13).kp kk).snoc (t13.kp kk)
      by_cases hk2 : V.int (kk : Int) = V.int 2
      · rw [decide_eq_true hk2]
        refine iteT (w_v rfl ?_)
        exact hfin t xt H12 (by unfold goC; rw [goes wt (by omega), decide_eq_true (by omega : dpT t ≤ 2)]; simp) Fr.refl R12 (tt.kp k12)
      · rw [decide_eq_false hk2]
        refine iteF (w_place (m := 1) (ps := ps) (os := os) rfl R12 hn ?_ hps hos ?_ fun t2 x2 H13 w2 i2 d2 f13 R13 t13 => ?_)
        · have tz12 := (tz'.kp k11).kp k12
          walk_at "ev"
        · exact ed_ci
        exact hfin t2 x2 H13 (by unfold goC; rw [goes w2 (by omega), i2]; rfl) f13 R13 t13
    · rintro σ' H' ⟨ts, xs, u1, u2, u3, rfl, hxs, hall, hlen, hgo, hf, tz', g'⟩
      dsimp only
      have hxl : SqL K H' fl xs := SqL.of hxs
      refine w_ret (w_d (K := K) (d := encS (.call c ts)) ?_ fun v H11 e11 t11 => ?_)
      · unfold encS
        apply ed_tup
        · apply eda_cons
          · walk_at "ev"
          apply eda_cons
          · walk_at "ev"
          apply eda_cons
          · exact ed_tupL (edr_var rfl hxl hall)
          · exact eda_nil
        · simp
      exact k (.call c ts) v H11 a b1 (by simp only [goS, Bool.and_eq_true, decide_eq_true_eq]; exact ⟨by omega, hcl, by rw [ecp, hlen], hgo⟩) (by simp [cntS]; omega) (by simp [clS]; omega) ((fr8.trans ((Fr.of e9).trans hf |>.fresh hfl)).trans (Fr.of e11)) (g'.ex e11) t11
  intro hb
  apply pst_when
  · walk_at "et"
  · intro hb
    simp at hb
    obtain ⟨m, rfl⟩ : ∃ m, n = m + 1 := ⟨n - 1, by omega⟩
    rw [hspI (by omega)]
    have em : m + 1 - 1 = m := by omega
    rw [em]
    refine pst_of fun H4 e4 => ?_
    have g4 := g3.ex e4
    have eI : ∀ (σ : L2.St) H, σ[4]? = some (some (V.int ((m + 1 : Nat) : Int))) → EvD K (tOp (rI0 fun i j => .int (i - j)) (tVar 4) (tC (.int 1))) σ H (.int (m : Int)) := by
      intro σ H hσ
      apply ed_is
      · apply ed_I0i
        · exact ed_var hσ (.int _)
        · walk_at "ev"
      · simp
    refine w_seq (w_asg (w_body g4 hn ho hat rfl rfl ?_ rfl (eI _ _ rfl) fun b1 x1 H5 a5 b5 l1 q1 c1 d1 f5 g5 t5 => ?_))
    · walk_at "ev"
    have tz5 := (tz3.ex e4).kp (g4.keep f5)
    dsimp only
    refine w_ret (w_tup (w_cons (w_c (w_cons (w_things (m := 1) (ps := ps) (os := os) (by decide) rfl g5.row hn ?_ hps hos ed_ci fun t xt H6 wt dt f6 R6 tt => ?_)))))
    · walk_at "ev"
    have g6 := g5.fr f6 R6
    refine w_cons (w_v rfl (w_cons (w_body g6 hn ho hat rfl rfl ?_ rfl (eI _ _ rfl) fun b2 x2 H7 a7 b7 l2 q2 c2 d2 f7 g7 t7 => w_nil ⟨by show 4 ≤ sizeLine; decide, fun p hp => ?_⟩)))
    · walk_at "ev"
    refine k (.ite t b1 b2) _ _ a7 b7 (by simp [goS, goes wt (by omega : dpT t ≤ 3), l1, l2, q1, q2]) (by simp only [cntS]; omega) (by simp only [clS]; omega) (((((fr3.trans (Fr.of e4)).trans f5).trans f6.rl).trans f7).trans (Fr.of (Ex.new hp))) (g7.ex (Ex.new hp)) ?_
    unfold encS
    exact td_new hp (.cons (.str _) (.cons (tt.kp (g6.keep f7)) (.cons ((t5.kp (g5.row.keep f6)).kp (g6.keep f7)) (.cons t7 .nil))))
  intro hb
  apply pst_when
  · walk_at "et"
  · intro hb
    refine pst_of fun H4 e4 => ?_
    have g4 := g3.ex e4
    have tz4 := tz3.ex e4
    refine w_ret (w_tup (w_cons (w_c (w_cons (w_things (m := 2) (ps := ps) (os := os) (by decide) rfl g4.row hn ?_ hps hos ed_ci fun t xt H6 wt dt f6 R6 tt => w_nil ⟨by show 2 ≤ sizeLine; decide, fun p hp => ?_⟩)))))
    · walk_at "ev"
    refine k (.say t) _ _ a b (by simp [goS, goes wt (by omega : dpT t ≤ 3)]) (by simp [cntS]; omega) (by simp [clS]) (((fr3.trans (Fr.of e4)).trans f6.rl).trans (Fr.of (Ex.new hp))) ((g4.fr f6 R6).ex (Ex.new hp)) ?_
    unfold encS
    exact td_new hp (tdall2 (.str _) tt)
  intro hb
  refine pst_of fun H4 e4 => ?_
  have g4 := g3.ex e4
  have tz4 := tz3.ex e4
  refine w_ret (w_tup (w_cons (w_c (w_cons (w_place (m := 1) (ps := ps) (os := os) rfl g4.row hn ?_ hps hos ed_ci fun pt xp H5 wp ip dp f5 R5 tp => ?_)))))
  · walk_at "ev"
  have tz5 := tz4.kp (g4.row.keep f5)
  refine w_cons (w_things (m := 2) (ps := ps) (os := os) (by decide) rfl R5 hn ?_ hps hos ed_ci fun t xt H6 wt dt f6 R6 tt => w_nil ⟨by show 3 ≤ sizeLine; decide, fun p hp => ?_⟩)
  · walk_at "ev"
  refine k (.set pt t) _ _ a b (by simp [goS, goes wp (by omega : dpT pt ≤ 3), ip, goes wt (by omega : dpT t ≤ 3)]) (by simp [cntS]; omega) (by simp [clS]) ((((fr3.trans (Fr.of e4)).trans f5.rl).trans f6.rl).trans (Fr.of (Ex.new hp))) (((g4.fr f5 R5).fr f6 R6).ex (Ex.new hp)) ?_
  unfold encS
  exact td_new hp (tdall3 (.str _) (tp.kp (R5.keep f6)) tt)
end
end Hw

set_option maxRecDepth 100000
set_option maxHeartbeats 4000000
/-! PG5: drawn programs -/
namespace Hw
open PySem PySem.Spec PyProof.Rows L2 Evl
local macro_rules | `(tactic| walk_at "dd") => `(tactic| first | rfl | decide | (simp; done) | omega)
local macro_rules | `(tactic| walk_at "td") => `(tactic| first | assumption | exact Td.int _ | exact Td.bl _ | exact Td.str _ | exact Td.non | exact Td.tup (by assumption) (by assumption))
local macro_rules | `(tactic| walk_at "ev") => `(tactic| first
  | exact ed_ci | exact ed_cs | exact ed_cb | exact ed_cn
  | (apply ed_cg; assumption)
  | (apply ed_var; (rfl); (walk_at "td"))
  | (apply ed_ixT; (walk_at "ev"); (walk_at "ev"); (first | rfl | assumption))
  | (apply ed_rowI; (rfl); (assumption); (walk_at "ev"); (rfl))
  | (apply ed_ixL; (apply EvDL.rd; walk_at "edl"); (walk_at "ev"); (rfl))
  | (apply ed_intb; (walk_at "ev"))
  | (apply ed_len; walk_at "ev")
  | (apply ed_lenV; (apply ev_rowR; (rfl); (assumption); (walk_at "ev"); (rfl)); (assumption))
  | (apply ed_Ii; (walk_at "ev"); (walk_at "ev"); (walk_at "cc"))
  | (apply ed_isi; (walk_at "ev"); (rfl))
  | (apply ed_I0i; (walk_at "ev"); (walk_at "ev"))
  | (apply ed_I0b; (walk_at "ev"); (walk_at "ev"))
  | (apply ed_eqi; (walk_at "ev"); (walk_at "ev"))
  | (apply ed_nei; (walk_at "ev"); (walk_at "ev"))
  | (apply ed_andF; walk_at "ev")
  | (apply ed_andV; (walk_at "ev"); (intro _; walk_at "ev"))
  | (apply ed_orT; walk_at "ev")
  | (apply ed_orV; (walk_at "ev"); (intro _; walk_at "ev"))
  | (apply ed_notT; walk_at "ev")
  | (apply ed_notF; walk_at "ev")
  | (apply ed_notV; walk_at "ev")
  | (apply ed_chain; (walk_at "ev"); (walk_at "ev"); (intro _; walk_at "ev"))
  | (apply ed_eqS; (walk_at "ev"); (walk_at "ev"); (walk_at "bb"); (walk_at "bb"))
  | (apply ed_neS; (walk_at "ev"); (walk_at "ev"); (walk_at "bb"); (walk_at "bb"))
  | (apply ed_inT; (walk_at "ev"); (walk_at "ev"); (rfl); (rfl))
  | (apply ed_niT; (walk_at "ev"); (walk_at "ev"); (rfl); (rfl))
  | (apply ed_tup; (walk_at "eva"); (walk_at "bb"))
  | (apply ed_sl; (walk_at "ev"); (walk_at "evo"); (walk_at "evo"))
  | (apply ed_eqN; (apply EvDL.rd; walk_at "edl"); (walk_at "edl"); (walk_at "bb"))
  | (apply ed_neN; (apply EvDL.rd; walk_at "edl"); (walk_at "edl"); (walk_at "bb"))
  | (apply ed_ixL; (apply edr_var; (rfl); (assumption); (assumption)); (walk_at "ev"); (first | rfl | assumption))
  | (apply ed_lenL; (apply edr_var; (rfl); (assumption); (assumption)))
  | (apply ed_call; (walk_at "eva"); (walk_at "post")))
local macro_rules | `(tactic| walk_at "edl") => `(tactic| first
  | assumption
  | (apply edl_lst; (walk_at "eva"); (walk_at "bb")))
local macro_rules | `(tactic| walk_at "eva") => `(tactic| first
  | exact eda_nil
  | (apply eda_cons; (walk_at "ev"); (walk_at "eva")))
local macro_rules | `(tactic| walk_at "evo") => `(tactic| first
  | exact eok_none
  | (apply eok_some; walk_at "ev"))
local macro_rules | `(tactic| walk_at "bb") => `(tactic| first | rfl | assumption | (simp; done) | (simp; omega) | decide +kernel)
local macro_rules | `(tactic| walk_at "et") => `(tactic| first
  | exact tk_yes
  | (apply tk_andF; walk_at "et")
  | (apply tk_and; (walk_at "et"); (intro _; walk_at "et"))
  | (apply tk_orT; walk_at "et")
  | (apply tk_or; (walk_at "et"); (intro _; walk_at "et"))
  | (apply tk_notT; walk_at "et")
  | (apply tk_notF; walk_at "et")
  | (apply tk_not; walk_at "et")
  | (apply tk_v; walk_at "ev")
  | (apply tk_vB; walk_at "ev"))
local macro_rules | `(tactic| walk_at "if") => `(tactic| first
  | (apply pst_whenF; (walk_at "et"); (walk_at "bb"))
  | (apply pst_whenT; (walk_at "et"); (walk_at "bb")))
local macro_rules | `(tactic| walk_at "post") => `(tactic| first | assumption | exact ⟨_, _, rfl, rfl⟩ | exact ⟨_, _, _, _, rfl, by omega, by omega, rfl⟩ | exact ⟨_, _, _, 0, rfl, by omega, by omega, rfl⟩)
local macro_rules | `(tactic| walk_at "cc") => `(tactic| first | assumption | decide | omega | (refine ⟨?_, ?_⟩ <;> first | decide | omega) | (exact Or.inl (by constructor <;> omega)))

section
variable {K : PySem.W.Frag} {σ : L2.St} {H H' : Hp} {D : Ends} {tu tz : TS} {ta : TA} {te : TE} {Q : VK} {r s p : Addr} {ns : List Int}
theorem w_lst (h : ta σ H fun xs H1 => xs.length ≤ sizeLine ∧ ∀ p, H1 p = none → Q (.ref p) (upd H1 p (.lst xs))) : tLst ta σ H Q := h
/-- one step, by what holds behind it -/
theorem seq_cut (R : L2.St → Hp → Prop) (h2 : ∀ σ' H', R σ' H' → tz D σ' H') (h1 : ∀ N : L2.St → Hp → Prop, (∀ σ' H', R σ' H' → N σ' H') → tu { D with nx := N } σ H) : tSeq tu tz D σ H := h1 _ h2
/-- [e for j in range(n)], whatever e does -/
theorem w_lcR {n j : Nat} {vs : List Nat} (h : EvDA K ta σ H [.int (n : Int)]) (hz : n ≤ 40000) (hw : ∀ x, wipe ((wipe σ vs).set j (some x)) vs = wipe σ vs) (Pv : Addr → Nat → Hp → Prop)
    (h0 : ∀ H1 p, Ex H H1 → H1 p = none → Pv p 0 (upd H1 p (.lst [])))
    (hs : ∀ p i H1, i < n → Pv p i H1 → te ((wipe σ vs).set j (some (.int (i : Int)))) H1 fun y H4 => ∃ acc, H4 p = some (.lst acc) ∧ acc.length < sizeLine ∧ Pv p (i + 1) (upd H4 p (.lst (acc ++ [y]))))
    (hd : ∀ p H1, Pv p n H1 → Q (.ref p) H1) : tLc (iRng1 ta) (gName j) tYes te vs σ H Q := h H (Ex.refl H) _ fun ws H1 e1 tw => by
  obtain _ | ⟨w1, _ | _⟩ := tw
  cases w1
  refine ⟨(n : Int), rfl, by omega, by omega, fun Dl hD => ?_⟩
  have en : ((n : Int)).toNat = n := by simp
  rw [en]
  refine lc_range (lo := 0) (n := n) (fun i H' => Pv Dl i H') (h0 H1 Dl e1 hD) (fun i H' hi c => ?_) (fun H' c => hd Dl H' c)
  have e0 : (0 : Int) + (i : Int) = (i : Int) := Int.zero_add _
  show wipe ((wipe σ vs).set j (some (.int ((0 : Int) + (i : Int))))) vs = wipe σ vs ∧ _
  rw [e0]
  refine ⟨hw _, ?_⟩
  exact hs Dl i H' hi c
theorem w_tupl (h : te σ H fun x H1 => rTupS K [x] H1 Q) : tCB (rTupS K) (tCons te tNil) σ H Q := h
theorem tupl_go {ys : List V} (hp : H p = some (.lst ys)) (h : ∀ l, H l = none → Q (.ref l) (upd H l (.tup ys))) : rTupS K [.ref p] H Q := ⟨p, ys, rfl, .inl ⟨SqL.of hp, h⟩⟩
/-- a list beside the row -/
def OffR (K : PySem.W.Frag) (s r : Addr) (ns : List Int) (p : Addr) : Prop := p ≠ r ∧ (s ≠ p ∨ SqL K (fun _ => none) s (ns.map V.int))
theorem RowAt.off (h : RowAt K s ns H r) (hp : H p = none) : OffR K s r ns p := by
  obtain ⟨p0, q, t, h3, h4, h5⟩ := h
  refine ⟨fun e => ?_, ?_⟩
  · subst e; rw [hp] at h3; cases h3
  · rcases sql_split h4 with ⟨u, h⟩ | h
    · refine .inl fun e => ?_
      subst e; rw [hp] at h; cases h
    · exact .inr h
theorem RowAt.updo {o : HO} (h : RowAt K s ns H r) (f : OffR K s r ns p) : RowAt K s ns (L2.upd H p o) r := by
  obtain ⟨p0, q, t, h3, h4, h5⟩ := h
  refine ⟨p0, q, t, ?_, sql_upd h4 f.2, h5⟩
  rw [upd_ne (Ne.symm f.1)]
  exact h3
theorem Fr.none (f : Fr [r] H H') (R : RowAt K s ns H' r) (hp : H' p = none) : H p = none := by
  cases h : H p with
  | none => rfl
  | some o =>
    by_cases e : p = r
    · subst e
      obtain ⟨u, hu, _⟩ := R.mu
      rw [hp] at hu
      cases hu
    · have := f p o (by simpa using e) h
      rw [hp] at this
      cases this
/-- one of a list of ints, drawn -/
theorem w_pick {ms : List Int} {n : Nat} {tl te : TE} {E : XK} (hl : EvDL K tl σ H (ms.map PyData.int)) (hs : σ[n]? = some (some (.ref r))) (hR : RowAt K s ns H r) (hn : ns.length ≤ 63) (hm : ∀ H, EvD K te σ H (.int (ms.length : Int))) (h0 : 0 < ms.length) (h1 : ms.length ≤ 1000)
    (k : ∀ (m : Int) H', m ∈ ms → Fr [r] H H' → RowAt K s ns H' r → Q (.int m) H') : tOp (rIxL K) tl (tCall (spTaken K) [] E (tCons (tVar n) (tCons te tNil))) σ H Q :=
  w_op (w_dl hl fun p xs H1 hp e1 hx ht => by
    have off := hR.off hp
    have ex := td_ints ht
    subst ex
    refine w_taken hs (hR.ex e1) hn (hm H1) (by omega) (by omega) fun kk H2 hk f2 R2 => ?_
    have hkk : kk < ms.length := by omega
    exact ⟨p, _, (kk : Int), .int ms[kk], rfl, rfl, SqL.of (f2 _ _ (by simpa using off.1) hx), atI_nat (by rw [List.getElem?_map, List.getElem?_eq_getElem hkk] <;> rfl), k _ _ (List.getElem_mem hkk) ((Fr.of e1).trans f2) R2⟩)
/-- the shapes stand at sh -/
def Shp (K : PySem.W.Frag) (sh : Addr) (shs : List (Nat × Nat)) (H : Hp) : Prop := ∃ xs, H sh = some (.lst xs) ∧ TdAll K H xs (shs.map fun x => szD x.1 x.2)
theorem Shp.ex {sh : Addr} {shs : List (Nat × Nat)} (h : Shp K sh shs H) (e : Ex H H') : Shp K sh shs H' := by
  obtain ⟨xs, h1, h2⟩ := h
  exact ⟨xs, e _ _ h1, h2.ex e⟩
theorem Shp.fr {sh : Addr} {shs : List (Nat × Nat)} {S : List Addr} (h : Shp K sh shs H) (f : Fr S H H') (hs : sh ∉ S) (k : Keep K H H') : Shp K sh shs H' := by
  obtain ⟨xs, h1, h2⟩ := h
  exact ⟨xs, f _ _ hs h1, h2.kp k⟩
/-- in the midst of a work: its body so far is bd -/
def Mid (K : PySem.W.Frag) (s r sh fl : Addr) (ns : List Int) (shs : List (Nat × Nat)) (H0 : Hp) (xs : List V) (ds : List PyData) (i cn cl ln : Nat) (bd : List Stm) (x : V) (H : Hp) : Prop :=
  (goB shs i 2 bd = true ∧ cntB bd ≤ cn ∧ clB bd ≤ cl ∧ bd.length ≤ ln) ∧ Td K H x (.tuple (encB bd)) ∧ H fl = some (.lst xs) ∧ TdAll K H xs ds ∧ Fr [fl, r] H0 H ∧ RowAt K s ns H r ∧ Shp K sh shs H
theorem Mid.fr {sh fl : Addr} {shs : List (Nat × Nat)} {H0 : Hp} {xs : List V} {ds : List PyData} {i cn cl ln : Nat} {bd : List Stm} {x : V} (h : Mid K s r sh fl ns shs H0 xs ds i cn cl ln bd x H) (f : Fr [r] H H') (R : RowAt K s ns H' r) (h1 : sh ≠ r) (h2 : fl ≠ r) : Mid K s r sh fl ns shs H0 xs ds i cn cl ln bd x H' := by
  obtain ⟨a, b, c, d, e, g, j⟩ := h
  have k := g.keep f
  exact ⟨a, b.kp k, f _ _ (by simpa using h2) c, d.kp k, e.trans (f.sub (by simp)), R, j.fr f (by simpa using h1) k⟩
theorem Mid.ex {sh fl : Addr} {shs : List (Nat × Nat)} {H0 : Hp} {xs : List V} {ds : List PyData} {i cn cl ln : Nat} {bd : List Stm} {x : V} (h : Mid K s r sh fl ns shs H0 xs ds i cn cl ln bd x H) (e : Ex H H') : Mid K s r sh fl ns shs H0 xs ds i cn cl ln bd x H' := by
  obtain ⟨a, b, c, d, f, g, j⟩ := h
  exact ⟨a, b.ex e, e _ _ c, d.ex e, f.trans (Fr.of e), g.ex e, j.ex e⟩
/-- a step more -/
theorem Mid.go {sh fl : Addr} {shs : List (Nat × Nat)} {H0 : Hp} {xs : List V} {ds : List PyData} {i cn cl ln cn' cl' ln' : Nat} {bd bd' : List Stm} {x x' : V} (h : Mid K s r sh fl ns shs H0 xs ds i cn cl ln bd x H) (hg : goB shs i 2 bd' = true ∧ cntB bd' ≤ cn' ∧ clB bd' ≤ cl' ∧ bd'.length ≤ ln') (t : Td K H x' (.tuple (encB bd'))) : Mid K s r sh fl ns shs H0 xs ds i cn' cl' ln' bd' x' H := ⟨hg, t, h.2.2⟩
end
/-- a drawn work -/
structure GoW (shs : List (Nat × Nat)) (most i : Nat) (w : Wk) : Prop where
  sh : shs[i]? = some (w.params, w.owns)
  go : goB shs i 2 w.body = true
  cnt : cntB w.body ≤ most + 2
  cl : clB w.body ≤ 4
  len : w.body.length ≤ 15
/-- drawn shapes -/
structure GoH (shs : List (Nat × Nat)) : Prop where
  len : 1 ≤ shs.length ∧ shs.length ≤ 4
  fst : shP shs 0 = 0
  ok : ∀ x ∈ shs, x.1 ≤ 3 ∧ x.2 ≤ 10
structure GoP (most : Nat) (p : List Wk) : Prop where
  hs : GoH (shapes p)
  ws : ∀ i w, p[i]? = some w → GoW (shapes p) most i w
def spProg (K : PySem.W.Frag) : Sp := fun vs H Q _ => ∃ (r s : Addr) (ns : List Int) (most : Nat), vs = [.ref r, .int (most : Int)] ∧ RowAt K s ns H r ∧ ns.length ≤ 63 ∧ 2 ≤ most ∧
  ∀ p x H', GoP most p → Fr [r] H H' → RowAt K s ns H' r → Td K H' x (encP p) → Q x H'
theorem goB_take {shs : List (Nat × Nat)} {at_ n : Nat} : ∀ (xs : List Stm) (k : Nat), goB shs at_ n xs = true → goB shs at_ n (xs.take k) = true
  | [], k, _ => by simp [goB]
  | x :: xs, 0, _ => by simp [goB]
  | x :: xs, k + 1, h => by
    simp only [goB, Bool.and_eq_true] at h
    simp only [List.take_succ_cons, goB, h.1, goB_take xs k h.2, Bool.and_self]
theorem cntB_take : ∀ (xs : List Stm) (k : Nat), cntB (xs.take k) ≤ cntB xs
  | [], k => by simp [cntB]
  | x :: xs, 0 => by simp [cntB]
  | x :: xs, k + 1 => by
    have := cntB_take xs k
    simp only [List.take_succ_cons, cntB]
    omega
theorem clB_take : ∀ (xs : List Stm) (k : Nat), clB (xs.take k) ≤ clB xs
  | [], k => by simp [clB]
  | x :: xs, 0 => by simp [clB]
  | x :: xs, k + 1 => by
    have := clB_take xs k
    simp only [List.take_succ_cons, clB]
    omega
theorem cutD_take {xs : List Stm} {k : Nat} : cutD (encB xs) none (some (k : Int)) = encB (xs.take k) := by
  unfold cutD
  rw [HT.sIx_none, HT.sIx_nat, List.drop_zero, Nat.sub_zero, encB_map, encB_map, List.map_take, List.length_map]
  rcases Nat.le_total k xs.length with h | h
  · rw [Nat.min_eq_left h]
  · rw [Nat.min_eq_right h, List.take_of_length_le (by simp), List.take_of_length_le (by simpa using h)]
section
variable {P : Program} {w : World} {K : PySem.W.Frag} {mg : Str → Option Value} {base : Heap} (T : Tx K mg)
include T
theorem ok_program (GT : Fn__law_taken T P w base CX0 1 (spTaken K)) (GP : Fn__law_place T P w base CX0 4 (spPlace K 1)) (GB : Fn__law_body T P w base CX0 11 (spBody K 2)) : Fn__law_program T P w base CX0 12 (spProg K) := by
  have G__law_body := GB
  have G__law_taken := GT
  have G__law_place := GP
  refine T.F__law_program.ok sc__law_program (fun vs H Q E h => by obtain ⟨r, s, ns, most, rfl, _⟩ := h; rfl) fun cdv A outer s0 H vs Q E hr h => ?_
  obtain ⟨r, s, ns, most, rfl, hR, hn, hm2, k⟩ := h
  refine ⟨_, (pss_cons (ps_set (i := 2) sc__law_program.nd rfl (Or.inr rfl) (pe_lst (pa_cons (pe_tup (pa_cons pe_int (pa_cons (pe_call G__law_taken (hr.mono (by omega)) (by rfl) T.g__law_taken T.k__law_taken T.bd__law_taken .nil pass0 (pa_cons (pv 0) (pa_cons pe_int pa_nil))) pa_nil))) pa_nil)))
  (pss_cons (ps_for (passes_of rfl) rfl (pi_range1 rfl T.b_range (pa_cons (pe_call G__law_taken (hr.mono (by omega)) (by rfl) T.g__law_taken T.k__law_taken T.bd__law_taken .nil pass0 (pa_cons (pv 0) (pa_cons pe_int pa_nil))) pa_nil)) (pg_name (i := 3) sc__law_program.nd rfl (Or.inl rfl))
    (pss_cons (ps_set (i := 4) sc__law_program.nd rfl (Or.inl rfl) (pe_call G__law_taken (hr.mono (by omega)) (by rfl) T.g__law_taken T.k__law_taken T.bd__law_taken .nil pass0 (pa_cons (pv 0) (pa_cons (pe_ix (kix_list K) (pe_lst (pa_cons pe_int (pa_cons pe_int (pa_cons pe_int (pa_cons pe_int (pa_cons pe_int (pa_cons pe_int pa_nil))))))) (pe_call G__law_taken (hr.mono (by omega)) (by rfl) T.g__law_taken T.k__law_taken T.bd__law_taken .nil pass0 (pa_cons (pv 0) (pa_cons pe_int pa_nil))) (fun _ _ => rfl)) pa_nil))))
    (pss_one (ps_expr (pe_bm PySem.F.plainAttrs_list PySem.F.slot_list_append PySem.F.type_list_append mt_append (pv 2) (pa_cons (pe_tup (pa_cons (pe_ix (kix_list K) (pe_lst (pa_cons pe_int (pa_cons pe_int (pa_cons pe_int (pa_cons pe_int (pa_cons pe_int pa_nil)))))) (pe_call G__law_taken (hr.mono (by omega)) (by rfl) T.g__law_taken T.k__law_taken T.bd__law_taken .nil pass0 (pa_cons (pv 0) (pa_cons pe_int pa_nil))) (fun _ _ => rfl)) (pa_cons (pv 4) pa_nil))) pa_nil))))))
  (pss_cons (ps_set (i := 5) sc__law_program.nd rfl (Or.inl rfl) (pe_lst pa_nil))
  (pss_cons (ps_for (passes_of rfl) rfl (pi_range1 rfl T.b_range (pa_cons (pe_callB (kc_len K) rfl T.b_len PySem.boot_len (pa_cons (pv 2) pa_nil)) pa_nil)) (pg_name (i := 6) sc__law_program.nd rfl (Or.inr rfl))
    (pss_cons (ps_set (i := 7) sc__law_program.nd rfl (Or.inl rfl) (pe_call G__law_body (hr.mono (by omega)) (by rfl) T.g__law_body T.k__law_body T.bd__law_body .nil pass0 (pa_cons (pv 0) (pa_cons (pv 2) (pa_cons (pv 6) (pa_cons (pe_lst (pa_cons (pv 1) (pa_cons pe_int pa_nil))) (pa_cons pe_int pa_nil)))))))
    (pss_cons (ps_if (PW.pt (pw_and (pt_cmpR op_lt (pe_op op_add (pv 6) pe_int) (pe_callB (kc_len K) rfl T.b_len PySem.boot_len (pa_cons (pv 2) pa_nil)) (nomark _)) (pw_and1 (pt_cmpR op_gt (pe_call G__law_taken (hr.mono (by omega)) (by rfl) T.g__law_taken T.k__law_taken T.bd__law_taken .nil pass0 (pa_cons (pv 0) (pa_cons pe_int pa_nil))) pe_int (nomark _)))))
      (pss_cons (ps_set (i := 8) sc__law_program.nd rfl (Or.inl rfl) (pe_callTy (kc_tuple K) rfl T.b_tuple (by decide +kernel) (pa_cons (pe_lc (own := [("_law_k", 3)]) (g := gName 3) (tt := tYes) rfl sc__law_program.nd (pi_range1 rfl T.b_range (pa_cons (pe_ix (kix_tup K) (pe_ix (kix_list K) (pv 2) (pe_op op_add (pv 6) pe_int) (fun _ _ => rfl)) pe_int (fun _ _ => rfl)) pa_nil)) (blkOk_by (N := ["_law_row", "_law_most", "_law_shapes", "_law_k", "_law_owns", "_law_found", "_law_at", "_law_body_here", "_law_things"]) (sc := defScope s__law_program) (by decide +kernel)) (fun _ _ _ _ _ => (pg_name (i := 3) sc__law_program.nd rfl (Or.inl rfl))) (fun _ _ _ _ _ => pts_nil) (fun _ _ _ _ _ => (pe_call G__law_place (hr.mono (by omega)) (by rfl) T.g__law_place T.k__law_place T.bd__law_place .nil pass0 (pa_cons (pv 0) (pa_cons (pe_ix (kix_list K) (pv 2) (pv 6) (fun _ _ => rfl)) (pa_cons pe_int pa_nil)))))) pa_nil)))
      (pss_one (ps_set (i := 7) sc__law_program.nd rfl (Or.inl rfl) (pe_op (kop_cat K) (pe_slice (ksl_tup K) (pv 7) po_none (po_some (pe_op op_sub (pv 1) pe_int))) (pe_tup (pa_cons (pe_tup (pa_cons pe_str (pa_cons (pe_op op_add (pv 6) pe_int) (pa_cons (pv 8) pa_nil)))) pa_nil))))))
      pss_nil)
    (pss_cons (ps_if (PW.pt (pw_and (pt_cmpR op_gt (pv 6) pe_int (nomark _)) (pw_and (pt_cmpR op_gt (pe_ix (kix_tup K) (pe_ix (kix_list K) (pv 2) (pv 6) (fun _ _ => rfl)) pe_int (fun _ _ => rfl)) pe_int (nomark _)) (pw_and1 (pt_cmpR op_eq (pe_call G__law_taken (hr.mono (by omega)) (by rfl) T.g__law_taken T.k__law_taken T.bd__law_taken .nil pass0 (pa_cons (pv 0) (pa_cons pe_int pa_nil))) pe_int (nomark _))))))
      (pss_one (ps_set (i := 7) sc__law_program.nd rfl (Or.inl rfl) (pe_op (kop_cat K) (pe_slice (ksl_tup K) (pv 7) po_none (po_some (pe_op op_sub (pv 1) pe_int))) (pe_tup (pa_cons (pe_tup (pa_cons pe_str (pa_cons (pe_tup (pa_cons pe_str (pa_cons pe_int pa_nil))) (pa_cons (pe_tup (pa_cons pe_str (pa_cons (pe_tup (pa_cons pe_str (pa_cons pe_int pa_nil))) (pa_cons (pe_tup (pa_cons pe_str (pa_cons pe_int pa_nil))) pa_nil)))) pa_nil)))) pa_nil)))))
      pss_nil)
    (pss_one (ps_expr (pe_bm PySem.F.plainAttrs_list PySem.F.slot_list_append PySem.F.type_list_append mt_append (pv 5) (pa_cons (pe_op (kop_cat K) (pe_ix (kix_list K) (pv 2) (pv 6) (fun _ _ => rfl)) (pe_tup (pa_cons (pv 7) pa_nil))) pa_nil))))))))
  (pss_one (ps_ret (pe_callTy (kc_tuple K) rfl T.b_tuple (by decide +kernel) (pa_cons (pv 5) pa_nil)))))))), ?_⟩
  refine w_seq (w_asg (w_lst (w_cons (w_tup (w_cons (w_c (w_cons (w_taken rfl hR hn (m := 3) ?_ (by decide) (by decide) fun o0 H1 ho0 f1 R1 => w_nil ⟨by show 2 ≤ sizeLine; decide, fun p1 hp1 => w_nil ⟨by show 1 ≤ sizeLine; decide, fun sh hsh => ?_⟩⟩))))))))
  · walk_at "ev"
  have hR1 := R1.ex (Ex.new (o := .tup [.int 0, .int (o0 : Int)]) hp1)
  have offs := hR1.off hsh
  have hsh0 : H sh = none := f1.none R1 (fresh_back (Ex.new hp1) hsh)
  have e2 : Ex H1 (upd (upd H1 p1 (.tup [.int 0, .int (o0 : Int)])) sh (.lst [.ref p1])) := (Ex.new hp1).trans (Ex.new hsh)
  have R2 := R1.ex e2
  have f2 := f1.trans (Fr.of e2)
  have ht2 : TdAll K (upd (upd H1 p1 (.tup [.int 0, .int (o0 : Int)])) sh (.lst [.ref p1])) [.ref p1] ([(0, o0)].map fun x => szD x.1 x.2) := .cons ((td_new hp1 (tdall2 (.int 0) (.int _))).ex (Ex.new hsh)) .nil
  have hx2 : upd (upd H1 p1 (.tup [.int 0, .int (o0 : Int)])) sh (.lst [.ref p1]) sh = some (.lst [.ref p1]) := upd_same
  dsimp only
  generalize upd (upd H1 p1 (.tup [.int 0, .int (o0 : Int)])) sh (.lst [.ref p1]) = H2 at *
  refine w_seq (w_forR0 (w_cons (w_taken rfl R2 hn (m := 4) ?_ (by decide) (by decide) fun n1 H3 hn1 f3 R3 => w_nil (rng_go (by omega) (fun i σ' H' => ∃ (shs : List (Nat × Nat)) (xs : List V) (u3 u4 : Option V), σ' = [some (.ref r), some (.int (most : Int)), some (.ref sh), u3, u4, none, none, none, none] ∧ H' sh = some (.lst xs) ∧ TdAll K H' xs (shs.map fun x => szD x.1 x.2) ∧ shs.length = i + 1 ∧ shP shs 0 = 0 ∧ (∀ x ∈ shs, x.1 ≤ 3 ∧ x.2 ≤ 10) ∧ Fr [sh, r] H H' ∧ RowAt K s ns H' r) ?_ ?_ ?_))))
  · walk_at "ev"
  · refine ⟨[(0, o0)], [.ref p1], _, _, rfl, f3 _ _ (by simpa using offs.1) hx2, ht2.kp (R2.keep f3), rfl, rfl, ?_, (f2.trans f3).sub (by simp), R3⟩
    intro x hx
    have : x = (0, o0) := by simpa using hx
    subst this
    exact ⟨by simp, by simp; omega⟩
  · rintro i σ' H' hi ⟨shs, xs, u3, u4, rfl, hxs, hall, hlen, h0, hok, hf, hR'⟩
    refine w_seq (w_asg (w_call (w_cons (w_v rfl (w_cons (w_pick (K := K) (ms := [3, 3, 3, 3, 3, 11]) ?_ rfl hR' hn ?_ (by decide) (by decide) fun m H4 hm f4 R4 => w_nil ⟨r, s, ns, m, rfl, R4, hn, ?_, ?_, fun ow H5 how f5 R5 => ?_⟩))))))
    · exact edl_lst (by walk_at "eva") (by simp)
    · intro H
      exact ed_ci
    · simp at hm; omega
    · simp at hm; omega
    have how10 : ow ≤ 10 := by simp at hm; omega
    have hx5 : H5 sh = some (.lst xs) := f5 _ _ (by simpa using offs.1) (f4 _ _ (by simpa using offs.1) hxs)
    have hall5 := (hall.kp (hR'.keep f4)).kp (R4.keep f5)
    dsimp only
    refine w_app rfl hx5 (w_tup (w_cons (w_pick (K := K) (ms := [1, 2, 2, 3, 0]) ?_ rfl R5 hn ?_ (by decide) (by decide) fun pm H6 hpm f6 R6 => w_cons (w_v rfl (w_nil ⟨by show 2 ≤ sizeLine; decide, fun p hp => ?_⟩)))))
    · exact edl_lst (by walk_at "eva") (by simp)
    · intro H
      exact ed_ci
    obtain ⟨pn, rfl, hpn⟩ : ∃ pn : Nat, pm = (pn : Int) ∧ pn ≤ 3 := ⟨pm.toNat, by simp at hpm; omega, by simp at hpm; omega⟩
    have hx6 : H6 sh = some (.lst xs) := f6 _ _ (by simpa using offs.1) hx5
    have e7 : Ex H6 (upd H6 p (.tup [.int (pn : Int), .int (ow : Int)])) := Ex.new hp
    have t7 : Td K (upd H6 p (.tup [.int (pn : Int), .int (ow : Int)])) (.ref p) (szD pn ow) := td_new hp (tdall2 (.int _) (.int _))
    have hx7 := e7 _ _ hx6
    have hall7 := (hall5.kp (R5.keep f6)).ex e7
    have R7 := R6.ex e7
    have F7 : Fr [sh, r] H (upd H6 p (.tup [.int (pn : Int), .int (ow : Int)])) := (((hf.trans (f4.sub (by simp))).trans (f5.sub (by simp))).trans (f6.sub (by simp))).trans (Fr.of e7)
    generalize upd H6 p (.tup [.int (pn : Int), .int (ow : Int)]) = H7 at *
    have kk : Keep K H7 (upd H7 sh (.lst (xs ++ [.ref p]))) := Keep.upd hx7 True.intro
    refine ⟨xs, hx7, by rw [hall.length, List.length_map]; exact sz_lt (by omega), shs ++ [(pn, ow)], xs ++ [.ref p], _, _, rfl, upd_same, ?_, by simp [hlen], ?_, ?_, F7.trans (Fr.upd (by simp)), R7.updo offs⟩
    · rw [List.map_append]
      exact (hall7.kp kk).snoc (t7.kp kk)
    · cases shs with
      | nil => simp at hlen
      | cons z zs => simpa [shP] using h0
    · intro x hx
      rcases List.mem_append.mp hx with hx | hx
      · exact hok x hx
      · have : x = (pn, ow) := by simpa using hx
        subst this
        exact ⟨hpn, how10⟩
  rintro σ' H' ⟨shs, xs, u3, u4, rfl, hxs, hall, hlen, h0, hok, hf, hR'⟩
  have gh : GoH shs := ⟨by omega, h0, hok⟩
  have hsho : shOk shs := ⟨by omega, hok⟩
  have hshp : Shp K sh shs H' := ⟨xs, hxs, hall⟩
  have ff : Fr [r] H H' := Fr.fresh hf hsh0
  clear hf hxs hall f2 f1 f3 R1 R2 R3 hR1 e2 ht2 hx2
  dsimp only
  refine Pst.go (K := K) ?_
  refine pst_asgL (edl_lst eda_nil (by simp)) fun fl xs0 H8 hfl e8 hx8 ht8 => ?_
  cases ht8
  have offf := hR'.off hfl
  have hshfl : sh ≠ fl := by
    intro e
    obtain ⟨ys, h1, _⟩ := hshp
    rw [e, hfl] at h1
    cases h1
  refine pst_of fun H9 e9 => ?_
  have hshp9 := (hshp.ex e8).ex e9
  obtain ⟨sxs, hsx, hsa⟩ := hshp9
  have hsl : SqL K H9 sh sxs := SqL.of hsx
  refine w_seq (w_forR (K := K) (n := shs.length) ?_ (by have := gh.len; omega) (fun i σ' H1 => ∃ (ws : List Wk) (xs : List V) (u6 u7 u8 : Option V), σ' = [some (.ref r), some (.int (most : Int)), some (.ref sh), u3, u4, some (.ref fl), u6, u7, u8] ∧ H1 fl = some (.lst xs) ∧ TdAll K H1 xs (ws.map encW) ∧ ws.length = i ∧ (∀ j w, ws[j]? = some w → GoW shs most j w) ∧ Fr [fl, r] H9 H1 ∧ RowAt K s ns H1 r ∧ Shp K sh shs H1) ?_ ?_ ?_)
  · apply eda_cons
    · apply ed_is
      · walk_at "ev"
      · rw [List.length_map]
    · exact eda_nil
  · intro H10 e10
    exact ⟨[], [], _, _, _, rfl, e10 _ _ (e9 _ _ hx8), .nil, rfl, by simp, Fr.of e10, ((hR'.ex e8).ex e9).ex e10, ((hshp.ex e8).ex e9).ex e10⟩
  · rintro i σ' H10 hi ⟨ws, xs, u6, u7, u8, rfl, hxs, hall, hlen, hws, hf, hR1, hsp⟩
    obtain ⟨⟨cp, co⟩, hcz⟩ : ∃ z, shs[i]? = some z := ⟨_, List.getElem?_eq_getElem hi⟩
    have hcb := hok _ (List.mem_of_getElem? hcz)
    have ecp : shP shs i = cp := by simp [shP, List.getD, hcz]
    have eco : shO shs i = co := by simp [shO, List.getD, hcz]
    have hcat : atI (shs.map fun x => szD x.1 x.2) (i : Int) = some (.tuple [.int (cp : Int), .int (co : Int)]) := atI_nat (by rw [List.getElem?_map, hcz] <;> rfl)
    have h1 : sh ≠ r := offs.1
    have h2 : fl ≠ r := offf.1
    have goes : ∀ {t : Th}, wfT cp co t = true → dpT t ≤ 3 → goT shs i t = true := fun h1 h2 => by
      unfold goT
      rw [ecp, eco, h1, decide_eq_true h2]
      rfl
    dsimp only
    refine seq_cut (fun σ1 H1 => ∃ bd x, σ1 = [some (.ref r), some (.int (most : Int)), some (.ref sh), u3, u4, some (.ref fl), some (.int (i : Int)), some x, u8] ∧ Mid K s r sh fl ns shs H9 xs (ws.map encW) i most 3 13 bd x H1) ?_ fun N hN => ?_
    · rintro σ1 H11 ⟨bd, x, rfl, M⟩
      refine seq_cut (fun σ1 H1 => ∃ bd x u8, σ1 = [some (.ref r), some (.int (most : Int)), some (.ref sh), u3, u4, some (.ref fl), some (.int (i : Int)), some x, u8] ∧ Mid K s r sh fl ns shs H9 xs (ws.map encW) i (most + 1) 4 14 bd x H1) ?_ fun N hN => ?_
      · clear M
        rintro σ1 H11 ⟨bd, x, u8, rfl, M⟩
        refine seq_cut (fun σ1 H1 => ∃ bd x u8, σ1 = [some (.ref r), some (.int (most : Int)), some (.ref sh), u3, u4, some (.ref fl), some (.int (i : Int)), some x, u8] ∧ Mid K s r sh fl ns shs H9 xs (ws.map encW) i (most + 2) 4 15 bd x H1) ?_ fun N hN => ?_
        · clear M
          rintro σ1 H11 ⟨bd, x, u8, rfl, M⟩
          obtain ⟨⟨g1, g2, g3, g4⟩, tb, hx, ha, hf', hR2, hsp2⟩ := M
          obtain ⟨sxs, hsx, hsa⟩ := hsp2
          have hsl : SqL K H11 sh sxs := SqL.of hsx
          refine w_app rfl hx (w_d (K := K) (d := encW ⟨cp, co, bd⟩) ?_ fun v H12 e12 t12 => ?_)
          · refine ed_is (ed_cat (ds := [.int (cp : Int), .int (co : Int)]) (es := [.tuple (encB bd)]) ?_ ?_ (by simp)) rfl
            · walk_at "ev"
            · walk_at "ev"
          have hx12 := e12 _ _ hx
          have kk : Keep K H12 (upd H12 fl (.lst (xs ++ [v]))) := Keep.upd hx12 True.intro
          refine ⟨xs, hx12, by rw [hall.length, List.length_map]; exact sz_lt (by have := gh.len; omega), ws ++ [⟨cp, co, bd⟩], xs ++ [v], _, _, _, rfl, upd_same, ?_, by simp [hlen], ?_, (hf'.trans (Fr.of e12)).trans (Fr.upd (by simp)), (hR2.ex e12).updo offf, ?_⟩
          · rw [List.map_append]
            exact ((ha.ex e12).kp kk).snoc (t12.kp kk)
          · intro j w hj
            rw [List.getElem?_append] at hj
            split at hj
            · exact hws j w hj
            · rename_i hjl
              have e0 : j - ws.length = 0 := by
                have := List.getElem?_eq_some_iff.mp hj
                obtain ⟨h, _⟩ := this
                simp at h
                exact h
              have ej : j = i := by omega
              rw [e0] at hj
              simp at hj
              subst hj ej
              exact ⟨hcz, g1, g2, g3, g4⟩
          · exact ⟨sxs, by rw [upd_ne hshfl]; exact e12 _ _ hsx, (hsa.ex e12).kp kk⟩
        · -- the second if
          have skip : ∀ H1 bd' x', Mid K s r sh fl ns shs H9 xs (ws.map encW) i (most + 1) 4 14 bd' x' H1 → Mid K s r sh fl ns shs H9 xs (ws.map encW) i (most + 2) 4 15 bd' x' H1 := fun H1 bd' x' M => M.go ⟨M.1.1, by have := M.1; omega, by have := M.1; omega, by have := M.1; omega⟩ M.2.1
          refine w_ifs (w_and (w_t (K := K) (b := decide (0 < (i : Int))) ?_ fun H12 e12 => ?_))
          · walk_at "et"
          have M12 := M.ex e12
          clear M
          by_cases hi0 : 0 < (i : Int)
          · rw [decide_eq_true hi0]
            refine iteT (w_and (w_t (K := K) (b := decide (0 < (cp : Int))) ?_ fun H13 e13 => ?_))
            · obtain ⟨_, _, _, _, _, _, ⟨sxs, hsx, hsa⟩⟩ := M12
              have hsl : SqL K H12 sh sxs := SqL.of hsx
              walk_at "et"
            have M13 := M12.ex e13
            clear M12
            by_cases hc0 : 0 < (cp : Int)
            · rw [decide_eq_true hc0]
              refine iteT (w_test (w_op (w_taken rfl M13.2.2.2.2.2.1 hn (m := 2) ?_ (by decide) (by decide) fun k4 H14 hk4 f14 R14 => w_c ⟨by rfl, _, rfl, ?_⟩)))
              · walk_at "ev"
              have M14 := M13.fr f14 R14 h1 h2
              clear M13
              by_cases hk : V.int (k4 : Int) = V.int 1
              · rw [decide_eq_true hk]
                refine iteT ?_
                have tbd := M14.2.1
                obtain ⟨g1, g2, g3, g4⟩ := M14.1
                refine w_asg (w_d (K := K) (d := .tuple (encB (bd.take (most - 1) ++ [.set (.par 0) (.sum (.par 0) (.num 1))]))) ?_ fun v H16 e16 t16 => ?_)
                · refine ed_is (ed_cat (ds := cutD (encB bd) none (some (((most - 1 : Nat)) : Int))) (es := [.tuple [.str "set", .tuple [.str "par", .int 0], .tuple [.str "sum", .tuple [.str "par", .int 0], .tuple [.str "num", .int 1]]]]) (ed_sl ?_ eok_none (eok_some ?_)) ?_ ?_) ?_
                  · walk_at "ev"
                  · apply ed_is
                    · walk_at "ev"
                    · exact congrArg PyData.int (by omega)
                  · walk_at "ev"
                  · rw [cutD_take, encB_length]
                    simp
                    omega
                  · rw [cutD_take, encB_map, encB_map, List.map_append]
                    simp [encS, encT]
                have hw0 : goT shs i (.par 0) = true := goes (by simp [wfT]; omega) (by simp [dpT])
                have hw1 : goT shs i (.sum (.par 0) (.num 1)) = true := goes (by simp [wfT]; omega) (by simp [dpT])
                refine hN _ _ ⟨_, v, _, rfl, (M14.ex e16).go ⟨goB_app (goB_take _ _ g1) ?_, ?_, ?_, ?_⟩ t16⟩
                · simp only [goB, goS, Bool.and_true, Bool.and_eq_true]
                  exact ⟨hw0, rfl, hw1⟩
                · rw [cntB_app]
                  have := cntB_take bd (most - 1)
                  simp only [cntB, cntS]
                  omega
                · rw [clB_app]
                  have := clB_take bd (most - 1)
                  simp only [clB, clS]
                  omega
                · simp
                  omega
              · rw [decide_eq_false hk]
                exact iteF (hN _ _ ⟨bd, x, _, rfl, skip _ _ _ M14⟩)
            · rw [decide_eq_false hc0]
              exact iteF (iteF (hN _ _ ⟨bd, x, _, rfl, skip _ _ _ M13⟩))
          · rw [decide_eq_false hi0]
            exact iteF (iteF (hN _ _ ⟨bd, x, _, rfl, skip _ _ _ M12⟩))
      · -- the first if
        refine w_ifs (w_and (w_t (K := K) (b := decide ((i : Int) + 1 < (shs.length : Int))) ?_ fun H12 e12 => ?_))
        · obtain ⟨_, _, _, _, _, _, ⟨sxs, hsx, hsa⟩⟩ := M
          have hsl : SqL K H11 sh sxs := SqL.of hsx
          apply tk_is
          · walk_at "et"
          · rw [List.length_map]
        have M12 := M.ex e12
        clear M
        by_cases hlt : (i : Int) + 1 < (shs.length : Int)
        · rw [decide_eq_true hlt]
          refine iteT (w_test (w_op (w_taken rfl M12.2.2.2.2.2.1 hn (m := 4) ?_ (by decide) (by decide) fun k4 H13 hk4 f13 R13 => w_c ⟨_, _, rfl, rfl, _, rfl, ?_⟩)))
          · walk_at "ev"
          have M13 := M12.fr f13 R13 h1 h2
          clear M12
          by_cases hk : 0 < (k4 : Int)
          · rw [decide_eq_true hk]
            refine iteT ?_
            obtain ⟨⟨np, no⟩, hnz⟩ : ∃ z, shs[i + 1]? = some z := ⟨_, List.getElem?_eq_getElem (by omega)⟩
            have hnb := hok _ (List.mem_of_getElem? hnz)
            have enp : shP shs (i + 1) = np := by simp [shP, List.getD, hnz]
            have ei : ((i : Int) + 1) = ((i + 1 : Nat) : Int) := by omega
            have hnat : atI (shs.map fun x => szD x.1 x.2) ((i : Int) + 1) = some (.tuple [.int (np : Int), .int (no : Int)]) := by
              rw [ei]
              exact atI_nat (by rw [List.getElem?_map, hnz] <;> rfl)
            have S13 := M13.2.2.2.2.2
            obtain ⟨sxs, hsx, hsa⟩ := S13.2
            have hsl : SqL K H13 sh sxs := SqL.of hsx
            refine w_seq (w_asg (w_tupl (w_lcR (K := K) (n := np) ?_ (by omega) (fun _ => rfl) (fun p j H14 => H13 p = none ∧ ∃ (ts : List Th) (acc : List V), H14 p = some (.lst acc) ∧ TdAll K H14 acc (ts.map encT) ∧ ts.length = j ∧ ts.all (goC shs i) = true ∧ Fr [p, r] H13 H14 ∧ RowAt K s ns H14 r ∧ Shp K sh shs H14) ?_ ?_ ?_)))
            · apply eda_cons
              · walk_at "ev"
              · exact eda_nil
            · intro H14 p e14 hp
              exact ⟨fresh_back e14 hp, [], [], upd_same, .nil, rfl, rfl, Fr.of (e14.trans (Ex.new hp)), S13.1.ex (e14.trans (Ex.new hp)), S13.2.ex (e14.trans (Ex.new hp))⟩
            · rintro p j H14 hj ⟨hp0, ts, acc, hx, ht, hl, hg, hf14, R14, S14⟩
              have off := S13.1.off hp0
              have hpsh : sh ≠ p := by
                intro e
                rw [e, hp0] at hsx
                cases hsx
              clear hsl hsa
              obtain ⟨sxs, hsx, hsa⟩ := S14
              have hsl : SqL K H14 sh sxs := SqL.of hsx
              refine w_place (m := 1) (ps := cp) (os := co) rfl R14 hn ?_ (by omega) (by omega) ed_ci fun t xt H15 wt it dt f15 R15 tt => ?_
              · unfold szD
                walk_at "ev"
              have hx15 := f15 p _ (by simpa using off.1) hx
              have kk : Keep K H15 (upd H15 p (.lst (acc ++ [xt]))) := Keep.upd hx15 True.intro
              refine ⟨acc, hx15, by rw [ht.length, List.length_map]; exact sz_lt (by omega), hp0, ts ++ [t], acc ++ [xt], upd_same, ?_, by simp [hl], by simp [hg, goC, goes wt (by omega), it], (hf14.trans (f15.sub (by simp))).trans (Fr.upd (by simp)), R15.updo off, ⟨sxs, ?_, (hsa.kp (R14.keep f15)).kp kk⟩⟩
              · rw [List.map_append]
                exact ((ht.kp (R14.keep f15)).kp kk).snoc (tt.kp kk)
              · rw [upd_ne hpsh]
                exact f15 _ _ (by simpa using h1) hsx
            · rintro p H14 ⟨hp0, ts, acc, hx, ht, hl, hg, hf14, R14, S14⟩
              refine tupl_go hx fun l hl2 => ?_
              have M15 := (M13.fr (Fr.fresh hf14 hp0) R14 h1 h2).ex (Ex.new (o := .tup acc) hl2)
              have tts : Td K (upd H14 l (.tup acc)) (.ref l) (.tuple (ts.map encT)) := .tup (SqT.of upd_same) (ht.ex (Ex.new hl2))
              generalize upd H14 l (.tup acc) = H15 at *
              dsimp only
              have tbd := M15.2.1
              obtain ⟨g1, g2, g3, g4⟩ := M15.1
              refine w_asg (w_d (K := K) (d := .tuple (encB (bd.take (most - 1) ++ [.call (i + 1) ts]))) ?_ fun v H16 e16 t16 => ?_)
              · refine ed_is (ed_cat (ds := cutD (encB bd) none (some (((most - 1 : Nat)) : Int))) (es := [.tuple [.str "call", .int ((i : Int) + 1), .tuple (ts.map encT)]]) (ed_sl ?_ eok_none (eok_some ?_)) ?_ ?_) ?_
                · walk_at "ev"
                · apply ed_is
                  · walk_at "ev"
                  · exact congrArg PyData.int (by omega)
                · apply ed_tup
                  · apply eda_cons
                    · apply ed_tup
                      · apply eda_cons
                        · walk_at "ev"
                        apply eda_cons
                        · walk_at "ev"
                        apply eda_cons
                        · walk_at "ev"
                        exact eda_nil
                      · simp
                    · exact eda_nil
                  · simp
                · rw [cutD_take, encB_length]
                  simp
                  omega
                · rw [cutD_take, encB_map, encB_map, List.map_append]
                  simp [encS]
              refine hN _ _ ⟨_, v, _, rfl, (M15.ex e16).go ⟨goB_app (goB_take _ _ g1) ?_, ?_, ?_, ?_⟩ t16⟩
              · simp only [goB, goS, Bool.and_true, Bool.and_eq_true, decide_eq_true_eq]
                exact ⟨by omega, by omega, by rw [enp, hl], hg⟩
              · rw [cntB_app]
                have := cntB_take bd (most - 1)
                simp only [cntB, cntS]
                omega
              · rw [clB_app]
                have := clB_take bd (most - 1)
                simp only [clB, clS]
                omega
              · simp
                omega
          · rw [decide_eq_false hk]
            exact iteF (hN _ _ ⟨bd, x, _, rfl, M13.go ⟨M13.1.1, by have := M13.1; omega, by have := M13.1; omega, by have := M13.1; omega⟩ M13.2.1⟩)
        · rw [decide_eq_false hlt]
          exact iteF (iteF (hN _ _ ⟨bd, x, _, rfl, M12.go ⟨M12.1.1, by have := M12.1; omega, by have := M12.1; omega, by have := M12.1; omega⟩ M12.2.1⟩))
    · -- the body
      have offl : ∀ l, H10 l = none → OffR K s r ns l := fun l hl => hR1.off hl
      refine w_asg (w_call (w_cons (w_v rfl (w_cons (w_v rfl (w_cons (w_v rfl ?_)))))))
      refine w_cons (w_lst (w_cons (w_v rfl (w_cons (w_c (w_nil ⟨by show 2 ≤ sizeLine; decide, fun l hl => ?_⟩))))))
      refine w_cons (w_c (w_nil ⟨r, s, sh, l, ns, shs, i, most, 3, rfl, ⟨hR1.ex (Ex.new hl), hsp.ex (Ex.new hl), upd_same, h1, ?_, (offl l hl).1, (offl l hl).2⟩, hn, hsho, hi, fun bd x H11 a' b' q0 q1 q2 q3 f11 g11 t11 => ?_⟩))
      · intro e
        obtain ⟨ys, hy, _⟩ := hsp
        rw [e, hl] at hy
        cases hy
      · have f12 : Fr [r] H10 H11 := Fr.fresh (((Fr.of (Ex.new hl)).trans f11).sub (by simp)) hl
        exact hN _ _ ⟨bd, x, rfl, ⟨q1, by omega, by omega, q0⟩, t11, f12 _ _ (by simpa using h2) hxs, hall.kp (hR1.keep f12), hf.trans (f12.sub (by simp)), g11.row, hsp.fr f12 (by simpa using h1) (hR1.keep f12)⟩
  · rintro σ' H10 ⟨ws, xs, u6, u7, u8, rfl, hxs, hall, hlen, hws, hf, hR1, hsp⟩
    dsimp only
    refine w_ret (w_d (K := K) (ed_tupL (edr_var rfl (SqL.of hxs) hall)) fun v H11 e11 t11 => ?_)
    have esh : shapes ws = shs := by
      unfold shapes
      refine List.ext_getElem? fun j => ?_
      rw [List.getElem?_map]
      cases h : ws[j]? with
      | none =>
        have : shs[j]? = none := by
          rw [List.getElem?_eq_none_iff] at h ⊢
          omega
        rw [this]
        rfl
      | some w => rw [(hws j w h).sh]; rfl
    refine k ws v H11 ⟨by rw [esh]; exact gh, by rw [esh]; exact hws⟩ ((ff.trans (((Fr.of e8).trans ((Fr.of e9).trans hf)).fresh hfl)).trans (Fr.of e11)) (hR1.ex e11) t11
end
end Hw

set_option maxRecDepth 100000
set_option maxHeartbeats 4000000
/-! XA: data with lists in it, alike -/
namespace Hw
open PySem PySem.Spec PyProof.Rows L2 Evl
local macro_rules | `(tactic| walk_at "dd") => `(tactic| first | rfl | decide | (simp; done) | omega)
local macro_rules | `(tactic| walk_at "td") => `(tactic| first | assumption | exact Td.int _ | exact Td.bl _ | exact Td.str _ | exact Td.non | exact Td.tup (by assumption) (by assumption))
local macro_rules | `(tactic| walk_at "ev") => `(tactic| first
  | exact ed_ci | exact ed_cs | exact ed_cb | exact ed_cn
  | (apply ed_cg; assumption)
  | (apply ed_var; (rfl); (walk_at "td"))
  | (apply ed_ixT; (walk_at "ev"); (walk_at "ev"); (first | rfl | assumption))
  | (apply ed_rowI; (rfl); (assumption); (walk_at "ev"); (rfl))
  | (apply ed_ixL; (apply EvDL.rd; walk_at "edl"); (walk_at "ev"); (rfl))
  | (apply ed_intb; (walk_at "ev"))
  | (apply ed_len; walk_at "ev")
  | (apply ed_lenV; (apply ev_rowR; (rfl); (assumption); (walk_at "ev"); (rfl)); (assumption))
  | (apply ed_Ii; (walk_at "ev"); (walk_at "ev"); (walk_at "cc"))
  | (apply ed_isi; (walk_at "ev"); (rfl))
  | (apply ed_I0i; (walk_at "ev"); (walk_at "ev"))
  | (apply ed_I0b; (walk_at "ev"); (walk_at "ev"))
  | (apply ed_eqi; (walk_at "ev"); (walk_at "ev"))
  | (apply ed_nei; (walk_at "ev"); (walk_at "ev"))
  | (apply ed_andF; walk_at "ev")
  | (apply ed_andV; (walk_at "ev"); (intro _; walk_at "ev"))
  | (apply ed_orT; walk_at "ev")
  | (apply ed_orV; (walk_at "ev"); (intro _; walk_at "ev"))
  | (apply ed_notT; walk_at "ev")
  | (apply ed_notF; walk_at "ev")
  | (apply ed_notV; walk_at "ev")
  | (apply ed_chain; (walk_at "ev"); (walk_at "ev"); (intro _; walk_at "ev"))
  | (apply ed_eqS; (walk_at "ev"); (walk_at "ev"); (walk_at "bb"); (walk_at "bb"))
  | (apply ed_neS; (walk_at "ev"); (walk_at "ev"); (walk_at "bb"); (walk_at "bb"))
  | (apply ed_inT; (walk_at "ev"); (walk_at "ev"); (rfl); (rfl))
  | (apply ed_niT; (walk_at "ev"); (walk_at "ev"); (rfl); (rfl))
  | (apply ed_tup; (walk_at "eva"); (walk_at "bb"))
  | (apply ed_sl; (walk_at "ev"); (walk_at "evo"); (walk_at "evo"))
  | (apply ed_eqN; (apply EvDL.rd; walk_at "edl"); (walk_at "edl"); (walk_at "bb"))
  | (apply ed_neN; (apply EvDL.rd; walk_at "edl"); (walk_at "edl"); (walk_at "bb"))
  | (apply ed_ixL; (apply edr_var; (rfl); (assumption); (assumption)); (walk_at "ev"); (first | rfl | assumption))
  | (apply ed_lenL; (apply edr_var; (rfl); (assumption); (assumption)))
  | (apply ed_call; (walk_at "eva"); (walk_at "post")))
local macro_rules | `(tactic| walk_at "edl") => `(tactic| first
  | assumption
  | (apply edl_lst; (walk_at "eva"); (walk_at "bb")))
local macro_rules | `(tactic| walk_at "eva") => `(tactic| first
  | exact eda_nil
  | (apply eda_cons; (walk_at "ev"); (walk_at "eva")))
local macro_rules | `(tactic| walk_at "evo") => `(tactic| first
  | exact eok_none
  | (apply eok_some; walk_at "ev"))
local macro_rules | `(tactic| walk_at "bb") => `(tactic| first | rfl | assumption | (simp; done) | (simp; omega) | decide +kernel)
local macro_rules | `(tactic| walk_at "et") => `(tactic| first
  | exact tk_yes
  | (apply tk_andF; walk_at "et")
  | (apply tk_and; (walk_at "et"); (intro _; walk_at "et"))
  | (apply tk_orT; walk_at "et")
  | (apply tk_or; (walk_at "et"); (intro _; walk_at "et"))
  | (apply tk_notT; walk_at "et")
  | (apply tk_notF; walk_at "et")
  | (apply tk_not; walk_at "et")
  | (apply tk_v; walk_at "ev")
  | (apply tk_vB; walk_at "ev"))
local macro_rules | `(tactic| walk_at "if") => `(tactic| first
  | (apply pst_whenF; (walk_at "et"); (walk_at "bb"))
  | (apply pst_whenT; (walk_at "et"); (walk_at "bb")))
local macro_rules | `(tactic| walk_at "post") => `(tactic| first | assumption | exact ⟨_, _, rfl, rfl⟩ | exact ⟨_, _, _, _, rfl, by omega, by omega, rfl⟩ | exact ⟨_, _, _, 0, rfl, by omega, by omega, rfl⟩)
local macro_rules | `(tactic| walk_at "cc") => `(tactic| first | assumption | decide | omega | (refine ⟨?_, ?_⟩ <;> first | decide | omega) | (exact Or.inl (by constructor <;> omega)))

theorem kix_seq {X : Cx} (K : PySem.W.Frag) (h : X.K = K := by rfl) : IxR X (rIx K) := by subst h; exact ix_seq
mutual
/-- data as it stands now, lists and tuples -/
inductive Tl (K : PySem.W.Frag) (H : Hp) : V → PyData → Prop
  | non : Tl K H .non .none
  | bl (b : Bool) : Tl K H (.bl b) (.bool b)
  | int (i : Int) : Tl K H (.int i) (.int i)
  | str (x : Str) : Tl K H (.str x) (.str x)
  | lst {a : Addr} {xs : List V} {ds : List PyData} : H a = some (.lst xs) → TlAll K H xs ds → Tl K H (.ref a) (.list ds)
  | tup {a : Addr} {xs : List V} {ds : List PyData} : SqT K H a xs → TlAll K H xs ds → Tl K H (.ref a) (.tuple ds)
inductive TlAll (K : PySem.W.Frag) (H : Hp) : List V → List PyData → Prop
  | nil : TlAll K H [] []
  | cons {v : V} {vs : List V} {d : PyData} {ds : List PyData} : Tl K H v d → TlAll K H vs ds → TlAll K H (v :: vs) (d :: ds)
end
section
variable {K : PySem.W.Frag} {σ : L2.St} {H H' : Hp} {te ta tb : TE} {v : V} {d : PyData} {ds es : List PyData}
mutual
theorem Tl.ex (e : Ex H H') : ∀ (d : PyData) {v : V}, Tl K H v d → Tl K H' v d
  | .none, _, h => by cases h; exact .non
  | .bool _, _, h => by cases h; exact .bl _
  | .int _, _, h => by cases h; exact .int _
  | .str _, _, h => by cases h; exact .str _
  | .list ds, _, h => by
    cases h with
    | lst hs ha => exact .lst (e _ _ hs) (TlAll.ex e ds ha)
  | .tuple ds, _, h => by
    cases h with
    | tup hs ha => exact .tup (ex_t e hs) (TlAll.ex e ds ha)
  | .dict _, _, h => by cases h
theorem TlAll.ex (e : Ex H H') : ∀ (ds : List PyData) {vs : List V}, TlAll K H vs ds → TlAll K H' vs ds
  | [], _, h => by cases h; exact .nil
  | d :: ds, _, h => by
    cases h with
    | cons a b => exact .cons (Tl.ex e d a) (TlAll.ex e ds b)
end
mutual
theorem Tl.dp : ∀ (d : PyData) {v : V}, Tl K H v d → Dp K H v d
  | .none, _, h => by cases h; exact .non
  | .bool _, _, h => by cases h; exact .bl _
  | .int _, _, h => by cases h; exact .int _
  | .str _, _, h => by cases h; exact .str _
  | .list ds, _, h => by
    cases h with
    | lst hs ha => exact .lst (SqL.of hs) (TlAll.dp ds ha)
  | .tuple ds, _, h => by
    cases h with
    | tup hs ha => exact .tup hs (TlAll.dp ds ha)
  | .dict _, _, h => by cases h
theorem TlAll.dp : ∀ (ds : List PyData) {vs : List V}, TlAll K H vs ds → DpAll K H vs ds
  | [], _, h => by cases h; exact .nil
  | d :: ds, _, h => by
    cases h with
    | cons a b => exact .cons (Tl.dp d a) (TlAll.dp ds b)
end
mutual
theorem Td.tl : ∀ (d : PyData) {v : V}, Td K H v d → Tl K H v d
  | .none, _, h => by cases h; exact .non
  | .bool _, _, h => by cases h; exact .bl _
  | .int _, _, h => by cases h; exact .int _
  | .str _, _, h => by cases h; exact .str _
  | .list ds, _, h => by cases h
  | .tuple ds, _, h => by
    cases h with
    | tup hs ha => exact .tup hs (TdAll.tl ds ha)
  | .dict _, _, h => by cases h
theorem TdAll.tl : ∀ (ds : List PyData) {vs : List V}, TdAll K H vs ds → TlAll K H vs ds
  | [], _, h => by cases h; exact .nil
  | d :: ds, _, h => by
    cases h with
    | cons a b => exact .cons (Td.tl d a) (TdAll.tl ds b)
end
theorem TlAll.length : ∀ {ds : List PyData} {vs : List V}, TlAll K H vs ds → vs.length = ds.length
  | [], _, h => by cases h; rfl
  | d :: ds, _, h => by
    cases h with
    | cons a b => simp [TlAll.length b]
theorem TlAll.get : ∀ {ds : List PyData} {vs : List V} {i : Nat} {d : PyData}, TlAll K H vs ds → ds[i]? = some d → ∃ v, vs[i]? = some v ∧ Tl K H v d
  | [], _, _, _, _, e => by simp at e
  | d :: ds, _, i, d', h, e => by
    cases h with
    | cons a b =>
      cases i with
      | zero => simp at e; subst e; exact ⟨_, rfl, a⟩
      | succ i => simp at e; simpa using TlAll.get b e
theorem tyx_tl (h : Tl K H v d) : TyX K H v (.type (tyD d)) := by
  cases h with
  | non => exact .base .non
  | bl b => exact .base (.bl b)
  | int i => exact .base (.int i)
  | str x => exact .base (.str x)
  | lst hs _ => exact .base (.lst hs)
  | tup hs _ =>
    rcases hs with (hs | ⟨o, hs⟩) | ⟨o, its, n, hk, hc, _⟩
    · exact .base (.tup hs)
    · exact .fTuple hs
    · exact .kTuple hk hc
def EvX (K : PySem.W.Frag) (te : TE) (σ : L2.St) (H : Hp) (d : PyData) : Prop := ∀ H1, Ex H H1 → ∀ Q : VK, (∀ v H2, Ex H1 H2 → Tl K H2 v d → Q v H2) → te σ H1 Q
theorem xd_var {n : Nat} (h : σ[n]? = some (some v)) (td : Tl K H v d) : EvX K (tVar n) σ H d := fun H1 e1 _ q => ⟨v, h, q v H1 (Ex.refl _) (td.ex e1)⟩
def seqD : PyData → Option (List PyData)
  | .list ds => some ds
  | .tuple ds => some ds
  | _ => none
theorem xd_ix {i : Nat} {e : PyData} (ha : EvX K ta σ H d) (hs : seqD d = some ds) (hb : EvD K tb σ H (.int (i : Int))) (hd : ds[i]? = some e) : EvX K (tOp (rIx K) ta tb) σ H e := fun H1 a Q q =>
  ha H1 a _ fun v H2 e2 t2 => hb.iv H2 (a.trans e2) _ fun H3 e3 => by
    cases t2 with
    | lst hs2 hall =>
      cases hs
      obtain ⟨w, hw, tw⟩ := hall.get hd
      exact .inl ⟨_, _, (i : Int), w, rfl, rfl, SqL.of (e3 _ _ hs2), atI_nat hw, q w H3 (e2.trans e3) (tw.ex e3)⟩
    | tup hs2 hall =>
      cases hs
      obtain ⟨w, hw, tw⟩ := hall.get hd
      exact .inr (.inl ⟨_, _, (i : Int), w, rfl, rfl, ex_t e3 hs2, atI_nat hw, q w H3 (e2.trans e3) (tw.ex e3)⟩)
    | _ => cases hs
theorem xd_len (ha : EvX K ta σ H d) (hs : seqD d = some ds) : EvD K (tCB (rLenS K) (tCons ta tNil)) σ H (.int (ds.length : Int)) := fun H1 a Q q =>
  ha H1 a _ fun v H2 e2 t2 => by
    cases t2 with
    | lst hs2 hall =>
      cases hs
      rw [← hall.length] at q
      exact ⟨_, _, rfl, .inl (SqL.of hs2), q _ H2 e2 (.int _)⟩
    | tup hs2 hall =>
      cases hs
      rw [← hall.length] at q
      exact ⟨_, _, rfl, .inr hs2, q _ H2 e2 (.int _)⟩
    | _ => cases hs
theorem xd_isi {b : Bool} {n : String} (ha : EvX K ta σ H d) (hk : kitB (tyD d) n = some b) : EvD K (tCB (rIsi K) (tCons ta (tCons (tC (.ty n)) tNil))) σ H (.bool b) := fun H1 a Q q =>
  ha H1 a _ fun v H2 e2 t2 => ⟨v, .ty n, _, _, b, rfl, .ty n, tyx_tl t2, kit_ty hk, q _ H2 e2 (.bl _)⟩
theorem xd_isi2 {b1 b2 : Bool} {n1 n2 : String} (ha : EvX K ta σ H d) (hk : kitB (tyD d) n1 = some b1) (hk2 : kitB (tyD d) n2 = some b2) : EvD K (tCB (rIsiT K) (tCons ta (tCons (tTup (tCons (tC (.ty n1)) (tCons (tC (.ty n2)) tNil))) tNil))) σ H (.bool (b1 || b2)) := fun H1 a Q q =>
  ha H1 a _ fun v H2 e2 t2 => ⟨by show 2 ≤ sizeLine; decide, fun p hp => ⟨v, p, [.ty n1, .ty n2], _, [.type n1, .type n2], b1 || b2, rfl, upd_same, .cons (.ty n1) (.cons (.ty n2) .nil), tyx_tl (t2.ex (Ex.new hp)),
    kitAny_cons (kit_ty hk) (fun e => by rw [e]; exact kitAny_cons (kit_ty hk2) (fun e => by rw [e]; exact kitAny_nil) (fun e => by rw [e]; rfl)) (fun e => by rw [e]; rfl), q _ _ (e2.trans (Ex.new hp)) (.bl _)⟩⟩
theorem xd_isN (ha : EvX K ta σ H d) : EvD K (tIsN ta) σ H (.bool (noneD d)) := fun H1 a Q q => ha H1 a _ fun v H2 e2 t2 => by
  have e : decide (v = .non) = noneD d := by cases t2 <;> simp [noneD]
  rw [e]
  exact q _ H2 e2 (.bl _)
theorem xd_eq {e : PyData} (ha : EvX K ta σ H d) (hb : EvX K tb σ H e) (sd : d.canLay0 = true) (se : e.canLay0 = true) (hm : min d.depth e.depth ≤ 64) : EvD K (tOp (rEqM K) ta tb) σ H (.bool (PyData.eqv d e)) := fun H1 a Q q =>
  ha H1 a _ fun v H2 e2 t2 => hb H2 (a.trans e2) _ fun w H3 e3 t3 => ⟨d, e, (t2.ex e3).dp, t3.dp, sd, se, hm, q _ H3 (e2.trans e3) (.bl _)⟩
end
/-- as the law's alike tells it -/
def alikeN : Nat → PyData → PyData → Bool
  | n + 1, .tuple fs, .tuple ds => decide (fs.length = ds.length) && (List.range ds.length).all fun i => alikeN n (fs.getD i .none) (ds.getD i .none)
  | n + 1, .list fs, .list ds => decide (fs.length = ds.length) && (List.range ds.length).all fun i => alikeN n (fs.getD i .none) (ds.getD i .none)
  | _, .none, .none => true
  | _, .bool a, .bool b => a == b
  | _, .str a, .str b => PyData.eqv (.str a) (.str b)
  | _, .int a, .int b => decide (a = b)
  | _, _, _ => false
def isTup : PyData → Bool
  | .tuple _ => true
  | _ => false
def isLst : PyData → Bool
  | .list _ => true
  | _ => false
def isBl : PyData → Bool
  | .bool _ => true
  | _ => false
def isSt : PyData → Bool
  | .str _ => true
  | _ => false
def isIn : PyData → Bool
  | .int _ => true
  | .bool _ => true
  | _ => false
theorem kit_tup (d : PyData) : kitB (tyD d) "tuple" = some (isTup d) := by
  cases d with
  | none => exact (by decide +kernel : kitB "NoneType" "tuple" = some false)
  | bool _ => exact (by decide +kernel : kitB "bool" "tuple" = some false)
  | int _ => exact (by decide +kernel : kitB "int" "tuple" = some false)
  | str _ => exact (by decide +kernel : kitB "str" "tuple" = some false)
  | list _ => exact (by decide +kernel : kitB "list" "tuple" = some false)
  | tuple _ => exact (by decide +kernel : kitB "tuple" "tuple" = some true)
  | dict _ => exact (by decide +kernel : kitB "dict" "tuple" = some false)
theorem kit_lst (d : PyData) : kitB (tyD d) "list" = some (isLst d) := by
  cases d with
  | none => exact (by decide +kernel : kitB "NoneType" "list" = some false)
  | bool _ => exact (by decide +kernel : kitB "bool" "list" = some false)
  | int _ => exact (by decide +kernel : kitB "int" "list" = some false)
  | str _ => exact (by decide +kernel : kitB "str" "list" = some false)
  | list _ => exact (by decide +kernel : kitB "list" "list" = some true)
  | tuple _ => exact (by decide +kernel : kitB "tuple" "list" = some false)
  | dict _ => exact (by decide +kernel : kitB "dict" "list" = some false)
theorem kit_bl (d : PyData) : kitB (tyD d) "bool" = some (isBl d) := by
  cases d with
  | none => exact (by decide +kernel : kitB "NoneType" "bool" = some false)
  | bool _ => exact (by decide +kernel : kitB "bool" "bool" = some true)
  | int _ => exact (by decide +kernel : kitB "int" "bool" = some false)
  | str _ => exact (by decide +kernel : kitB "str" "bool" = some false)
  | list _ => exact (by decide +kernel : kitB "list" "bool" = some false)
  | tuple _ => exact (by decide +kernel : kitB "tuple" "bool" = some false)
  | dict _ => exact (by decide +kernel : kitB "dict" "bool" = some false)
theorem kit_st (d : PyData) : kitB (tyD d) "str" = some (isSt d) := by
  cases d with
  | none => exact (by decide +kernel : kitB "NoneType" "str" = some false)
  | bool _ => exact (by decide +kernel : kitB "bool" "str" = some false)
  | int _ => exact (by decide +kernel : kitB "int" "str" = some false)
  | str _ => exact (by decide +kernel : kitB "str" "str" = some true)
  | list _ => exact (by decide +kernel : kitB "list" "str" = some false)
  | tuple _ => exact (by decide +kernel : kitB "tuple" "str" = some false)
  | dict _ => exact (by decide +kernel : kitB "dict" "str" = some false)
theorem kit_in (d : PyData) : kitB (tyD d) "int" = some (isIn d) := by
  cases d with
  | none => exact (by decide +kernel : kitB "NoneType" "int" = some false)
  | bool _ => exact (by decide +kernel : kitB "bool" "int" = some true)
  | int _ => exact (by decide +kernel : kitB "int" "int" = some true)
  | str _ => exact (by decide +kernel : kitB "str" "int" = some false)
  | list _ => exact (by decide +kernel : kitB "list" "int" = some false)
  | tuple _ => exact (by decide +kernel : kitB "tuple" "int" = some false)
  | dict _ => exact (by decide +kernel : kitB "dict" "int" = some false)
/-- no deeper than n, no longer than that -/
def okD : Nat → PyData → Bool
  | n + 1, .tuple ds => decide (ds.length ≤ 30000) && ds.all (okD n)
  | n + 1, .list ds => decide (ds.length ≤ 30000) && ds.all (okD n)
  | 0, .tuple _ => false
  | 0, .list _ => false
  | _, .dict _ => false
  | _, _ => true
def spAl (K : PySem.W.Frag) (n : Nat) : Sp := fun vs H Q _ => ∃ x y f d, vs = [x, y] ∧ Tl K H x f ∧ Tl K H y d ∧ f.canLay0 = true ∧ d.canLay0 = true ∧ okD n d = true ∧ ∀ H', Ex H H' → Q (.bl (alikeN (n + 1) f d)) H'
theorem lay_get {ds : List PyData} {i : Nat} {d : PyData} (h : PyData.canLayAll0 ds = true) (e : ds[i]? = some d) : d.canLay0 = true := by
  induction ds generalizing i with
  | nil => simp at e
  | cons x r ih =>
    simp only [PyData.canLayAll0, Bool.and_eq_true] at h
    cases i with
    | zero => simp at e; rw [← e]; exact h.1
    | succ i => simp at e; exact ih h.2 e
theorem lay_seq {d : PyData} {ds : List PyData} (h : d.canLay0 = true) (hs : seqD d = some ds) : PyData.canLayAll0 ds = true := by
  cases d <;> cases hs <;> simpa [PyData.canLay0] using h
theorem ed_eqB {K : PySem.W.Frag} {σ : L2.St} {H : Hp} {ta tb : TE} {a b : Bool} (ha : EvD K ta σ H (.bool a)) (hb : EvD K tb σ H (.bool b)) : EvD K (tOp (rEqM K) ta tb) σ H (.bool (a == b)) :=
  ed_is (ed_eqM ha hb rfl rfl (by simp [PyData.depth])) (by simp [PyData.eqv])
theorem ed_neB {K : PySem.W.Frag} {σ : L2.St} {H : Hp} {ta tb : TE} {a b : Bool} (ha : EvD K ta σ H (.bool a)) (hb : EvD K tb σ H (.bool b)) : EvD K (tOp (rNeM K) ta tb) σ H (.bool (a != b)) :=
  ed_is (ed_neM ha hb rfl rfl (by simp [PyData.depth])) (by simp [PyData.eqv, bne])
theorem alike_self : ∀ (n : Nat) (d : PyData), okD n d = true → alikeN (n + 1) d d = true
  | n, .none, _ => by simp [alikeN]
  | n, .bool b, _ => by simp [alikeN]
  | n, .int i, _ => by simp [alikeN]
  | n, .str x, _ => by simp [alikeN]
  | 0, .list ds, h => by simp [okD] at h
  | 0, .tuple ds, h => by simp [okD] at h
  | n, .dict _, h => by cases n <;> simp [okD] at h
  | n + 1, .list ds, h => by
    simp only [okD, Bool.and_eq_true, decide_eq_true_eq, List.all_eq_true] at h
    simp only [alikeN, decide_true, Bool.true_and, List.all_eq_true, List.mem_range]
    intro i hi
    have e : ds.getD i .none = ds[i] := by simp [List.getD, hi]
    rw [e]
    exact alike_self n _ (h.2 _ (List.getElem_mem hi))
  | n + 1, .tuple ds, h => by
    simp only [okD, Bool.and_eq_true, decide_eq_true_eq, List.all_eq_true] at h
    simp only [alikeN, decide_true, Bool.true_and, List.all_eq_true, List.mem_range]
    intro i hi
    have e : ds.getD i .none = ds[i] := by simp [List.getD, hi]
    rw [e]
    exact alike_self n _ (h.2 _ (List.getElem_mem hi))
end Hw

set_option maxRecDepth 100000
set_option maxHeartbeats 4000000
/-! PG6: drawn ways -/
namespace Hw
open PySem PySem.Spec PyProof.Rows L2 Evl
local macro_rules | `(tactic| walk_at "dd") => `(tactic| first | rfl | decide | (simp; done) | omega)
local macro_rules | `(tactic| walk_at "td") => `(tactic| first | assumption | exact Td.int _ | exact Td.bl _ | exact Td.str _ | exact Td.non | exact Td.tup (by assumption) (by assumption))
local macro_rules | `(tactic| walk_at "ev") => `(tactic| first
  | exact ed_ci | exact ed_cs | exact ed_cb | exact ed_cn
  | (apply ed_cg; assumption)
  | (apply ed_var; (rfl); (walk_at "td"))
  | (apply ed_ixT; (walk_at "ev"); (walk_at "ev"); (first | rfl | assumption))
  | (apply ed_rowI; (rfl); (assumption); (walk_at "ev"); (rfl))
  | (apply ed_ixL; (apply EvDL.rd; walk_at "edl"); (walk_at "ev"); (rfl))
  | (apply ed_intb; (walk_at "ev"))
  | (apply ed_len; walk_at "ev")
  | (apply ed_lenV; (apply ev_rowR; (rfl); (assumption); (walk_at "ev"); (rfl)); (assumption))
  | (apply ed_Ii; (walk_at "ev"); (walk_at "ev"); (walk_at "cc"))
  | (apply ed_isi; (walk_at "ev"); (rfl))
  | (apply ed_I0i; (walk_at "ev"); (walk_at "ev"))
  | (apply ed_I0b; (walk_at "ev"); (walk_at "ev"))
  | (apply ed_eqi; (walk_at "ev"); (walk_at "ev"))
  | (apply ed_nei; (walk_at "ev"); (walk_at "ev"))
  | (apply ed_andF; walk_at "ev")
  | (apply ed_andV; (walk_at "ev"); (intro _; walk_at "ev"))
  | (apply ed_orT; walk_at "ev")
  | (apply ed_orV; (walk_at "ev"); (intro _; walk_at "ev"))
  | (apply ed_notT; walk_at "ev")
  | (apply ed_notF; walk_at "ev")
  | (apply ed_notV; walk_at "ev")
  | (apply ed_chain; (walk_at "ev"); (walk_at "ev"); (intro _; walk_at "ev"))
  | (apply ed_eqS; (walk_at "ev"); (walk_at "ev"); (walk_at "bb"); (walk_at "bb"))
  | (apply ed_neS; (walk_at "ev"); (walk_at "ev"); (walk_at "bb"); (walk_at "bb"))
  | (apply ed_inT; (walk_at "ev"); (walk_at "ev"); (rfl); (rfl))
  | (apply ed_niT; (walk_at "ev"); (walk_at "ev"); (rfl); (rfl))
  | (apply ed_tup; (walk_at "eva"); (walk_at "bb"))
  | (apply ed_sl; (walk_at "ev"); (walk_at "evo"); (walk_at "evo"))
  | (apply ed_eqN; (apply EvDL.rd; walk_at "edl"); (walk_at "edl"); (walk_at "bb"))
  | (apply ed_neN; (apply EvDL.rd; walk_at "edl"); (walk_at "edl"); (walk_at "bb"))
  | (apply ed_ixL; (apply edr_var; (rfl); (assumption); (assumption)); (walk_at "ev"); (first | rfl | assumption))
  | (apply ed_lenL; (apply edr_var; (rfl); (assumption); (assumption)))
  | (apply ed_call; (walk_at "eva"); (walk_at "post")))
local macro_rules | `(tactic| walk_at "edl") => `(tactic| first
  | assumption
  | (apply edl_lst; (walk_at "eva"); (walk_at "bb")))
local macro_rules | `(tactic| walk_at "eva") => `(tactic| first
  | exact eda_nil
  | (apply eda_cons; (walk_at "ev"); (walk_at "eva")))
local macro_rules | `(tactic| walk_at "evo") => `(tactic| first
  | exact eok_none
  | (apply eok_some; walk_at "ev"))
local macro_rules | `(tactic| walk_at "bb") => `(tactic| first | rfl | assumption | (simp; done) | (simp; omega) | decide +kernel)
local macro_rules | `(tactic| walk_at "et") => `(tactic| first
  | exact tk_yes
  | (apply tk_andF; walk_at "et")
  | (apply tk_and; (walk_at "et"); (intro _; walk_at "et"))
  | (apply tk_orT; walk_at "et")
  | (apply tk_or; (walk_at "et"); (intro _; walk_at "et"))
  | (apply tk_notT; walk_at "et")
  | (apply tk_notF; walk_at "et")
  | (apply tk_not; walk_at "et")
  | (apply tk_v; walk_at "ev")
  | (apply tk_vB; walk_at "ev"))
local macro_rules | `(tactic| walk_at "if") => `(tactic| first
  | (apply pst_whenF; (walk_at "et"); (walk_at "bb"))
  | (apply pst_whenT; (walk_at "et"); (walk_at "bb")))
local macro_rules | `(tactic| walk_at "post") => `(tactic| first | assumption | exact ⟨_, _, rfl, rfl⟩ | exact ⟨_, _, _, _, rfl, by omega, by omega, rfl⟩ | exact ⟨_, _, _, 0, rfl, by omega, by omega, rfl⟩)
local macro_rules | `(tactic| walk_at "cc") => `(tactic| first | assumption | decide | omega | (refine ⟨?_, ?_⟩ <;> first | decide | omega) | (exact Or.inl (by constructor <;> omega)))

section
variable {K : PySem.W.Frag} {σ : L2.St} {H H' : Hp} {D : Ends} {tu tz : TS} {ta : TA} {te tl : TE} {Q : VK} {r s p : Addr} {ns : List Int}
/-- for a, b, c in a tuple of threes -/
theorem w_forT3 {α : Type} {n j l m : Nat} {v : V} (xs : List α) (f1 f2 f3 : α → PyData) (hv : σ[n]? = some (some v)) (h : Td K H v (.tuple (xs.map fun x => .tuple [f1 x, f2 x, f3 x]))) (Pv : Nat → L2.St → Hp → Prop) (h0 : Pv 0 σ H) (hk : ∀ i σ' H', Pv i σ' H' → Keep K H H')
    (hs : ∀ i x v1 v2 v3 σ' H', xs[i]? = some x → Td K H' v1 (f1 x) → Td K H' v2 (f2 x) → Td K H' v3 (f3 x) → Pv i σ' H' → tu { D with nx := Pv (i + 1), ct := Pv (i + 1), bk := D.nx } (((σ'.set j (some v1)).set l (some v2)).set m (some v3)) H')
    (hd : ∀ σ' H', Pv xs.length σ' H' → D.nx σ' H') : tFor (iTup K (tVar n)) (gTup K 3 (gCons (gName j) (gCons (gName l) (gCons (gName m) gNil)))) tu D σ H := by
  refine ⟨v, hv, ?_⟩
  obtain ⟨a, ys, rfl, hx, hall⟩ := h.tup_inv
  have hlen := hall.length
  rw [List.length_map] at hlen
  refine ⟨a, rfl, ⟨ys, hx⟩, for_tup Pv h0 (fun i σ' H' _ p => hk i σ' H' p a ys hx) (fun i x σ' H' hi p => ?_) (fun σ' H' p => hd σ' H' (by rw [← hlen]; exact p))⟩
  obtain ⟨d, hdd, td⟩ := hall.getV hi
  rw [List.getElem?_map] at hdd
  obtain ⟨z, hz, rfl⟩ := Option.map_eq_some_iff.mp hdd
  obtain ⟨q, zs, rfl, hq, hqa⟩ := (td.kp (hk i σ' H' p)).tup_inv
  obtain _ | ⟨u1, _ | ⟨u2, _ | ⟨u3, _ | _⟩⟩⟩ := hqa
  exact ⟨q, _, rfl, hq, rfl, _, _, rfl, _, _, rfl, _, _, rfl, rfl, hs i z _ _ _ σ' H' hz u1 u2 u3 p⟩
end
/-- the list of words stands at so -/
def WdsAt (K : PySem.W.Frag) (so : Addr) (some_ : List Str) (H : Hp) : Prop := H so = some (.lst (some_.map V.str))
def goY (p : List Wk) (some_ : List Str) (ys : List (List Str)) : Prop := ys.length = p.length ∧ ∀ i y, ys[i]? = some y → y.length = shP (shapes p) i ∧ ∀ z ∈ y, z ∈ some_
def spWays (K : PySem.W.Frag) : Sp := fun vs H Q _ => ∃ (r s so : Addr) (ns : List Int) (v : V) (p : List Wk) (sm : List Str), vs = [.ref r, v, .ref so] ∧ RowAt K s ns H r ∧ ns.length ≤ 63 ∧ Td K H v (encP p) ∧ WdsAt K so sm H ∧ so ≠ r ∧ 0 < sm.length ∧ sm.length ≤ 1000 ∧ p.length ≤ 1000 ∧ (∀ w ∈ p, w.params ≤ 1000) ∧
  ∀ ys x H', goY p sm ys → Fr [r] H H' → RowAt K s ns H' r → Td K H' x (encY ys) → Q x H'
section
variable {P : Program} {w : World} {K : PySem.W.Frag} {mg : Str → Option Value} {base : Heap} (T : Tx K mg)
include T
theorem ok_ways (GT : Fn__law_taken T P w base CX0 1 (spTaken K)) : Fn__law_ways T P w base CX0 2 (spWays K) := by
  have G__law_taken := GT
  refine T.F__law_ways.ok sc__law_ways (fun vs H Q E h => by obtain ⟨r, s, so, ns, v, p, sm, rfl, _⟩ := h; rfl) fun cdv A outer s0 H vs Q E hr h => ?_
  obtain ⟨r, s, so, ns, v, p, sm, rfl, hR, hn, tp, hso, hne, hs0, hs1, hpl, hpp, k⟩ := h
  refine ⟨_, (pss_cons (ps_set (i := 3) sc__law_ways.nd rfl (Or.inl rfl) (pe_lst pa_nil))
  (pss_cons (ps_for (passes_of rfl) rfl (kpi_tup K (pv 1)) (kpg_tup K rfl (pgs_cons (pg_name (i := 4) sc__law_ways.nd rfl (Or.inl rfl)) (pgs_cons (pg_name (i := 5) sc__law_ways.nd rfl (Or.inl rfl)) (pgs_cons (pg_name (i := 6) sc__law_ways.nd rfl (Or.inl rfl)) pgs_nil))))
    (pss_one (ps_expr (pe_bm PySem.F.plainAttrs_list PySem.F.slot_list_append PySem.F.type_list_append mt_append (pv 3) (pa_cons (pe_callTy (kc_tuple K) rfl T.b_tuple (by decide +kernel) (pa_cons (pe_lc (own := [("_law_k", 7)]) (g := gName 7) (tt := tYes) rfl sc__law_ways.nd (pi_range1 rfl T.b_range (pa_cons (pv 4) pa_nil)) (blkOk_by (N := ["_law_row", "_law_program_here", "_law_some", "_law_found", "_law_params", "_law_owns", "_law_body_here", "_law_k"]) (sc := defScope s__law_ways) (by decide +kernel)) (fun _ _ _ _ _ => (pg_name (i := 7) sc__law_ways.nd rfl (Or.inl rfl))) (fun _ _ _ _ _ => pts_nil) (fun _ _ _ _ _ => (pe_ix (kix_list K) (pv 2) (pe_call G__law_taken (hr.mono (by omega)) (by rfl) T.g__law_taken T.k__law_taken T.bd__law_taken .nil pass0 (pa_cons (pv 0) (pa_cons (pe_callB (kc_len K) rfl T.b_len PySem.boot_len (pa_cons (pv 2) pa_nil)) pa_nil))) (fun _ _ => rfl)))) pa_nil)) pa_nil)))))
  (pss_one (ps_ret (pe_callTy (kc_tuple K) rfl T.b_tuple (by decide +kernel) (pa_cons (pv 3) pa_nil)))))), ?_⟩
  refine Pst.go (K := K) ?_
  refine pst_asgL (edl_lst eda_nil (by simp)) fun fl xs0 H1 hfl e1 hx1 ht1 => ?_
  cases ht1
  have offf := hR.off hfl
  have hsf : so ≠ fl := by
    intro e
    rw [WdsAt, e, hfl] at hso
    cases hso
  refine pst_of fun H2 e2 => ?_
  have tp2 := tp.ex (e1.trans e2)
  refine w_seq (w_forT3 (K := K) p (fun w => .int (w.params : Int)) (fun w => .int (w.owns : Int)) (fun w => .tuple (encB w.body)) rfl tp2 (fun i σ' H' => ∃ (ys : List (List Str)) (xs : List V) (u4 u5 u6 : Option V), σ' = [some (.ref r), some v, some (.ref so), some (.ref fl), u4, u5, u6, none] ∧ H' fl = some (.lst xs) ∧ TdAll K H' xs (ys.map fun y => .tuple (y.map PyData.str)) ∧ ys.length = i ∧ (∀ j y, ys[j]? = some y → y.length = shP (shapes p) j ∧ ∀ z ∈ y, z ∈ sm) ∧ Fr [fl, r] H2 H' ∧ RowAt K s ns H' r) ?_ ?_ ?_ ?_)
  · exact ⟨[], [], _, _, _, rfl, e2 _ _ hx1, .nil, rfl, by simp, Fr.refl, (hR.ex e1).ex e2⟩
  · rintro i σ' H' ⟨ys, xs, u4, u5, u6, rfl, hxs, hall, hlen, hys, hf, hR'⟩
    refine hf.keep fun a ha => ?_
    rcases List.mem_cons.mp ha with e | ha
    · rw [e]; exact ⟨_, e2 _ _ hx1, True.intro⟩
    · have e : a = r := by simpa using ha
      rw [e]
      exact ((hR.ex e1).ex e2).mu
  · rintro i wk v1 v2 v3 σ' H' hwk t1 t2 t3 ⟨ys, xs, u4, u5, u6, rfl, hxs, hall, hlen, hys, hf, hR'⟩
    have hwp := hpp wk (List.mem_of_getElem? hwk)
    have hil : i < p.length := (List.getElem?_eq_some_iff.mp hwk).1
    have epp : shP (shapes p) i = wk.params := by simp [shP, shapes, List.getD, hwk]
    have hwd : WdsAt K so sm H' := hf _ _ (by simp [hsf, hne]) (e2 _ _ (e1 _ _ hso))
    dsimp only
    refine w_app rfl hxs (w_tupl (w_lcR (K := K) (n := wk.params) ?_ (by omega) (fun _ => rfl) (fun q j H14 => H' q = none ∧ ∃ (y : List Str), H14 q = some (.lst (y.map V.str)) ∧ y.length = j ∧ (∀ z ∈ y, z ∈ sm) ∧ Fr [q, r] H' H14 ∧ RowAt K s ns H14 r) ?_ ?_ ?_))
    · exact eda_cons (ed_var rfl t1) eda_nil
    · intro H14 q e14 hq
      exact ⟨fresh_back e14 hq, [], upd_same, rfl, by simp, Fr.of (e14.trans (Ex.new hq)), hR'.ex (e14.trans (Ex.new hq))⟩
    · rintro q j H14 hj ⟨hq0, y, hx, hl, hg, hf14, R14⟩
      have off := hR'.off hq0
      have hqs : so ≠ q := by
        intro e
        rw [WdsAt, e, hq0] at hwd
        cases hwd
      have hwd14 : H14 so = some (.lst (sm.map V.str)) := hf14 _ _ (by simp [hqs, hne]) hwd
      refine w_op (w_v rfl (w_taken rfl R14 hn (m := (sm.length : Int)) ?_ (by omega) (by omega) fun kk H15 hkk f15 R15 => ?_))
      · apply ed_is
        · exact ed_lenV (ev_var rfl) (SqL.of hwd14)
        · simp
      have hkk2 : kk < sm.length := by omega
      have hx15 := f15 q _ (by simpa using off.1) hx
      refine ⟨so, _, (kk : Int), .str sm[kk], rfl, rfl, SqL.of (f15 _ _ (by simpa using hne) hwd14), atI_nat (by rw [List.getElem?_map, List.getElem?_eq_getElem hkk2] <;> rfl), ?_⟩
      refine ⟨_, hx15, by simp; exact sz_lt (by omega), hq0, y ++ [sm[kk]], by simp [upd_same], by simp [hl], ?_, (hf14.trans (f15.sub (by simp))).trans (Fr.upd (by simp)), R15.updo off⟩
      intro z hz
      rcases List.mem_append.mp hz with hz | hz
      · exact hg z hz
      · have : z = sm[kk] := by simpa using hz
        rw [this]
        exact List.getElem_mem hkk2
    · rintro q H14 ⟨hq0, y, hx, hl, hg, hf14, R14⟩
      refine tupl_go hx fun l hl2 => ?_
      have f14 : Fr [r] H' H14 := Fr.fresh hf14 hq0
      have e15 : Ex H14 (upd H14 l (.tup (y.map V.str))) := Ex.new hl2
      have t15 : Td K (upd H14 l (.tup (y.map V.str))) (.ref l) (.tuple (y.map PyData.str)) := by
        refine .tup (SqT.of upd_same) ?_
        have : ∀ y : List Str, TdAll K (upd H14 l (.tup (y.map V.str))) (y.map V.str) (y.map PyData.str) → True := fun _ _ => True.intro
        have g : ∀ (H : Hp) (y : List Str), TdAll K H (y.map V.str) (y.map PyData.str) := by
          intro H y
          induction y with
          | nil => exact .nil
          | cons a b ih => exact .cons (.str _) ih
        exact g _ y
      have hx15 : (upd H14 l (.tup (y.map V.str))) fl = some (.lst xs) := e15 _ _ (f14 _ _ (by simpa using offf.1) hxs)
      have hall15 := (hall.kp (hR'.keep f14)).ex e15
      have R15 := R14.ex e15
      have f15 : Fr [r] H' (upd H14 l (.tup (y.map V.str))) := f14.trans (Fr.of e15)
      generalize upd H14 l (.tup (y.map V.str)) = H15 at *
      have kk : Keep K H15 (upd H15 fl (.lst (xs ++ [.ref l]))) := Keep.upd hx15 True.intro
      refine ⟨xs, hx15, by rw [hall.length, List.length_map]; exact sz_lt (by omega), ys ++ [y], xs ++ [.ref l], _, _, _, rfl, upd_same, ?_, by simp [hlen], ?_, (hf.trans (f15.sub (by simp))).trans (Fr.upd (by simp)), R15.updo offf⟩
      · rw [List.map_append]
        exact (hall15.kp kk).snoc (t15.kp kk)
      · intro j z hj
        rw [List.getElem?_append] at hj
        split at hj
        · exact hys j z hj
        · rename_i hjl
          have e0 : j - ys.length = 0 := by
            obtain ⟨h, _⟩ := List.getElem?_eq_some_iff.mp hj
            simp at h
            exact h
          have ej : j = i := by omega
          rw [e0] at hj
          simp at hj
          subst hj ej
          exact ⟨by rw [hl, epp], hg⟩
  · rintro σ' H' ⟨ys, xs, u4, u5, u6, rfl, hxs, hall, hlen, hys, hf, hR'⟩
    dsimp only
    refine w_ret (w_d (K := K) (ed_tupL (edr_var rfl (SqL.of hxs) hall)) fun v H11 e11 t11 => ?_)
    exact k ys v H11 ⟨hlen, hys⟩ ((((Fr.of e1).trans (Fr.of e2)).trans hf |>.fresh hfl).trans (Fr.of e11)) (hR'.ex e11) t11
end
end Hw

set_option maxRecDepth 100000
set_option maxHeartbeats 4000000
/-! GO: what is drawn is let by -/
namespace Hw
open PySem PySem.Spec PyProof.Rows L2 Evl
theorem goT_ok {shs : List (Nat × Nat)} {i : Nat} {t : Th} (h : goT shs i t = true) : okT (shP shs i) (shO shs i) t 0 = true := by
  simp only [goT, Bool.and_eq_true, decide_eq_true_eq] at h
  exact okT_of t 0 h.1 (by omega)
theorem goC_T {shs : List (Nat × Nat)} {i : Nat} {t : Th} (h : goC shs i t = true) : goT shs i t = true := by
  simp only [goC, Bool.and_eq_true] at h
  exact h.1
mutual
theorem goS_ok {shs : List (Nat × Nat)} {i : Nat} : ∀ (s : Stm) (n w : Nat), w + n ≤ 4 → goS shs i n s = true → okS shs i s w = true
  | .set p t, n, w, hw, h => by
    cases n <;>
    · simp only [goS, Bool.and_eq_true] at h
      simp only [okS, goT_ok h.1, goT_ok h.2.2, h.2.1, Bool.and_true, decide_eq_true_eq]
      omega
  | .say t, n, w, hw, h => by
    cases n <;>
    · simp only [goS] at h
      simp only [okS, goT_ok h, Bool.and_true, decide_eq_true_eq]
      omega
  | .call c ts, n, w, hw, h => by
    cases n <;>
    · simp only [goS, Bool.and_eq_true, decide_eq_true_eq, List.all_eq_true] at h
      simp only [okS, Bool.and_eq_true, decide_eq_true_eq, List.all_eq_true]
      exact ⟨by omega, h.2.1, h.1, h.2.2.1, fun t ht => goT_ok (goC_T (h.2.2.2 t ht))⟩
  | .ite t a b, 0, w, hw, h => by simp [goS] at h
  | .ite t a b, n + 1, w, hw, h => by
    simp only [goS, Bool.and_eq_true, decide_eq_true_eq] at h
    simp only [okS, Bool.and_eq_true, decide_eq_true_eq]
    exact ⟨by omega, goT_ok h.1, goB_ok a n (w + 1) (by omega) h.2.1.2, goB_ok b n (w + 1) (by omega) h.2.2.2⟩
theorem goB_ok {shs : List (Nat × Nat)} {i : Nat} : ∀ (b : List Stm) (n w : Nat), w + n ≤ 4 → goB shs i n b = true → okB shs i b w = true
  | [], n, w, hw, h => by simp [okB]
  | s :: r, n, w, hw, h => by
    simp only [goB, Bool.and_eq_true] at h
    simp only [okB, Bool.and_eq_true]
    exact ⟨goS_ok s n w hw h.1, goB_ok r n w hw h.2⟩
end
mutual
theorem goS_sm {shs : List (Nat × Nat)} {i : Nat} (h3 : ∀ i, shP shs i ≤ 3) : ∀ (s : Stm) (n : Nat), goS shs i n s = true → smS s = true
  | .set p t, n, h => by simp [smS]
  | .say t, n, h => by simp [smS]
  | .call c ts, n, h => by
    have := h3 c
    cases n <;>
    · simp only [goS, Bool.and_eq_true, decide_eq_true_eq, List.all_eq_true] at h
      simp only [smS, decide_eq_true_eq]
      omega
  | .ite t a b, 0, h => by simp [goS] at h
  | .ite t a b, n + 1, h => by
    simp only [goS, Bool.and_eq_true, decide_eq_true_eq] at h
    simp only [smS, Bool.and_eq_true, decide_eq_true_eq]
    exact ⟨⟨by omega, by omega⟩, goB_sm h3 a n h.2.1.2, goB_sm h3 b n h.2.2.2⟩
theorem goB_sm {shs : List (Nat × Nat)} {i : Nat} (h3 : ∀ i, shP shs i ≤ 3) : ∀ (b : List Stm) (n : Nat), goB shs i n b = true → smB b = true
  | [], n, h => by simp [smB]
  | s :: r, n, h => by
    simp only [goB, Bool.and_eq_true] at h
    simp only [smB, Bool.and_eq_true]
    exact ⟨goS_sm h3 s n h.1, goB_sm h3 r n h.2⟩
end
theorem goH_le {shs : List (Nat × Nat)} (h : GoH shs) (i : Nat) : shP shs i ≤ 3 := by
  cases hi : shs[i]? with
  | none => simp [shP, List.getD, hi]
  | some w =>
    have := (h.ok w (List.mem_of_getElem? hi)).1
    simpa [shP, List.getD, hi] using this
theorem goP_sm {most : Nat} {p : List Wk} (h : GoP most p) : smP p := by
  have hl := h.hs.len
  simp only [shapes, List.length_map] at hl
  refine ⟨by omega, fun w hw => ?_⟩
  obtain ⟨i, hi⟩ := List.mem_iff_getElem?.mp hw
  have g := h.ws i w hi
  exact ⟨by have := g.len; omega, goB_sm (goH_le h.hs) _ _ g.go⟩
theorem goP_ok {most : Nat} {p : List Wk} (h : GoP most p) (hm : most ≤ 98) : okP p = true := by
  have hl := h.hs.len
  simp only [shapes, List.length_map] at hl
  simp only [okP, Bool.and_eq_true, decide_eq_true_eq, List.all_eq_true, List.mem_range]
  refine ⟨hl.1, hl.2, fun i hi => ?_⟩
  have hw : p[i]? = some p[i] := List.getElem?_eq_getElem hi
  have g := h.ws i _ hw
  have hb := h.hs.ok _ (List.mem_of_getElem? g.sh)
  have h0 : i ≠ 0 ∨ p[i].params = 0 := by
    by_cases e : i = 0
    · have h1 := h.hs.fst
      have h2 := g.sh
      subst e
      simp [shP, List.getD, h2] at h1
      exact .inr h1
    · exact .inl e
  simp only [okW, hw, Bool.and_eq_true, decide_eq_true_eq, Bool.or_eq_true]
  exact ⟨hb.1, by have := hb.2; omega, h0, goB_ok _ 2 0 (by decide) g.go, by have := g.cnt; omega⟩
theorem goY_ok {p : List Wk} {sm : List Str} {ys : List (List Str)} (h : goY p sm ys) (hs : ∀ z ∈ sm, isWay z = true) : okY p ys = true := by
  simp only [okY, Bool.and_eq_true, decide_eq_true_eq, List.all_eq_true, List.mem_range]
  refine ⟨h.1, fun i hi => ?_⟩
  obtain ⟨y, hy⟩ : ∃ y, ys[i]? = some y := ⟨_, List.getElem?_eq_getElem (by have := h.1; omega)⟩
  have g := h.2 i _ hy
  have e : ys.getD i [] = y := by simp [List.getD, hy]
  rw [e]
  exact ⟨g.1, fun z hz => hs z (g.2 z hz)⟩
theorem goY_sm {most : Nat} {p : List Wk} {sm : List Str} {ys : List (List Str)} (g : GoP most p) (h : goY p sm ys) (hs : ∀ z ∈ sm, (PyData.str z).canLay0 = true) : smY ys := by
  have hl := g.hs.len
  simp only [shapes, List.length_map] at hl
  refine ⟨by have := h.1; omega, fun y hy => ?_⟩
  obtain ⟨i, hi⟩ := List.mem_iff_getElem?.mp hy
  have g2 := h.2 i y hi
  have := goH_le g.hs i
  exact ⟨by omega, fun z hz => hs z (g2.2 z hz)⟩
theorem way_all : ∀ z ∈ (["copy", "place", "back", "want"] : List Str), isWay z = true ∧ (PyData.str z).canLay0 = true := by
  intro z hz
  simp only [List.mem_cons, List.not_mem_nil, or_false] at hz
  rcases hz with e | e | e | e <;> subst e <;> exact ⟨by decide +kernel, by decide +kernel⟩
end Hw

set_option maxRecDepth 100000
set_option maxHeartbeats 4000000
/-! CA: the calls of a body, what is let by -/
namespace Hw
open PySem PySem.Spec PyProof.Rows L2 Evl
/-! the calls of a body -/
mutual
def callsS : Stm → List (Nat × List Th)
  | .call c ts => [(c, ts)]
  | .ite _ a b => callsB a ++ callsB b
  | _ => []
def callsB : List Stm → List (Nat × List Th)
  | [] => []
  | s :: r => callsS s ++ callsB r
end
theorem callsB_mem : ∀ {b : List Stm} {s : Stm} {x : Nat × List Th}, s ∈ b → x ∈ callsS s → x ∈ callsB b
  | y :: r, s, x, hs, hx => by
    simp only [callsB, List.mem_append]
    rcases List.mem_cons.mp hs with e | hs
    · subst e; exact .inl hx
    · exact .inr (callsB_mem hs hx)
theorem callsS_bods {s : Stm} {b : List Stm} {x : Nat × List Th} (hb : b ∈ bods s) (hx : x ∈ callsB b) : x ∈ callsS s := by
  cases s with
  | ite t a c =>
    simp only [bods, List.mem_cons, List.not_mem_nil, or_false] at hb
    simp only [callsS, List.mem_append]
    rcases hb with e | e <;> subst e
    · exact .inl hx
    · exact .inr hx
  | _ => simp [bods] at hb
mutual
theorem okS_calls {sh : List (Nat × Nat)} {at_ : Nat} : ∀ (s : Stm) (w : Nat) (x : Nat × List Th), okS sh at_ s w = true → x ∈ callsS s → at_ < x.1 ∧ x.1 < sh.length ∧ x.2.length = shP sh x.1
  | .set p t, w, x, h, hx => by simp [callsS] at hx
  | .say t, w, x, h, hx => by simp [callsS] at hx
  | .call c ts, w, x, h, hx => by
    simp [callsS] at hx
    subst hx
    simp [okS] at h
    exact ⟨h.2.2.1, h.2.1, h.2.2.2.1⟩
  | .ite t a b, w, x, h, hx => by
    simp [okS] at h
    simp only [callsS, List.mem_append] at hx
    rcases hx with hx | hx
    · exact okB_calls a (w + 1) x h.2.2.1 hx
    · exact okB_calls b (w + 1) x h.2.2.2 hx
theorem okB_calls {sh : List (Nat × Nat)} {at_ : Nat} : ∀ (b : List Stm) (w : Nat) (x : Nat × List Th), okB sh at_ b w = true → x ∈ callsB b → at_ < x.1 ∧ x.1 < sh.length ∧ x.2.length = shP sh x.1
  | [], w, x, h, hx => by simp [callsB] at hx
  | s :: r, w, x, h, hx => by
    simp only [okB, Bool.and_eq_true] at h
    simp only [callsB, List.mem_append] at hx
    rcases hx with hx | hx
    · exact okS_calls s w x h.1 hx
    · exact okB_calls r w x h.2 hx
end
theorem okP_get {p : List Wk} {i : Nat} {w : Wk} (h : okP p = true) (hi : p[i]? = some w) : w.params ≤ 3 ∧ w.owns ≤ 99 ∧ okB (shapes p) i w.body 0 = true ∧ cntB w.body ≤ 100 := by
  simp only [okP, Bool.and_eq_true, decide_eq_true_eq, List.all_eq_true, List.mem_range] at h
  have := h.2.2 i (List.getElem?_eq_some_iff.mp hi).1
  simp only [okW, hi, Bool.and_eq_true, decide_eq_true_eq] at this
  exact ⟨this.1, this.2.1, this.2.2.2.1, this.2.2.2.2⟩
theorem okP_len {p : List Wk} (h : okP p = true) : 1 ≤ p.length ∧ p.length ≤ 4 := by
  simp only [okP, Bool.and_eq_true, decide_eq_true_eq] at h
  exact ⟨h.1, h.2.1⟩
theorem okY_get {p : List Wk} {ys : List (List Str)} (h : okY p ys = true) : ys.length = p.length ∧ ∀ i y, ys[i]? = some y → y.length = shP (shapes p) i := by
  simp only [okY, Bool.and_eq_true, decide_eq_true_eq, List.all_eq_true, List.mem_range] at h
  refine ⟨h.1, fun i y hi => ?_⟩
  have := h.2 i (by have := (List.getElem?_eq_some_iff.mp hi).1; omega)
  simpa [List.getD, hi] using this.1
theorem take_snoc {α : Type} {xs : List α} {n : Nat} {d : α} (h : xs[n]? = some d) : xs.take (n + 1) = xs.take n ++ [d] := by
  rw [List.take_add_one, h]
  rfl
section
variable {K : PySem.W.Frag} {σ : L2.St} {H H' : Hp} {D : Ends} {tu tz : TS} {te : TE}
/-- for x in a tuple that stands in a variable -/
theorem w_forTv {α : Type} {n j : Nat} {v : V} (xs : List α) (f : α → PyData) (hv : σ[n]? = some (some v)) (h : Td K H v (.tuple (xs.map f))) (Pv : Nat → L2.St → Hp → Prop) (h0 : Pv 0 σ H) (hk : ∀ i σ' H', Pv i σ' H' → Keep K H H')
    (hs : ∀ i x v σ' H', xs[i]? = some x → Td K H' v (f x) → Pv i σ' H' → tu { D with nx := Pv (i + 1), ct := Pv (i + 1), bk := D.nx } (σ'.set j (some v)) H')
    (hd : ∀ σ' H', Pv xs.length σ' H' → D.nx σ' H') : tFor (iTup K (tVar n)) (gName j) tu D σ H := by
  refine ⟨v, hv, ?_⟩
  obtain ⟨a, ys, rfl, hx, hall⟩ := h.tup_inv
  have hlen := hall.length
  rw [List.length_map] at hlen
  refine ⟨a, rfl, ⟨ys, hx⟩, for_tup Pv h0 (fun i σ' H' _ p => hk i σ' H' p a ys hx) (fun i x σ' H' hi p => ?_) (fun σ' H' p => hd σ' H' (by rw [← hlen]; exact p))⟩
  obtain ⟨d, hdd, td⟩ := hall.getV hi
  rw [List.getElem?_map] at hdd
  obtain ⟨z, hz, rfl⟩ := Option.map_eq_some_iff.mp hdd
  exact hs i z x σ' H' hz (td.kp (hk i σ' H' p)) p
end
end Hw

set_option maxRecDepth 100000
set_option maxHeartbeats 4000000
/-! RX: words of the run's texts for a text without a run -/
namespace Hw
open PySem PySem.Spec PyProof.Rows L2 Evl
local macro_rules | `(tactic| walk_at "dd") => `(tactic| first | rfl | decide | (simp; done) | omega)
local macro_rules | `(tactic| walk_at "td") => `(tactic| first | assumption | exact Td.int _ | exact Td.bl _ | exact Td.str _ | exact Td.non | exact Td.tup (by assumption) (by assumption))
local macro_rules | `(tactic| walk_at "ev") => `(tactic| first
  | exact ed_ci | exact ed_cs | exact ed_cb | exact ed_cn
  | (apply ed_cg; assumption)
  | (apply ed_var; (rfl); (walk_at "td"))
  | (apply ed_ixT; (walk_at "ev"); (walk_at "ev"); (first | rfl | assumption))
  | (apply ed_rowI; (rfl); (assumption); (walk_at "ev"); (rfl))
  | (apply ed_ixL; (apply EvDL.rd; walk_at "edl"); (walk_at "ev"); (rfl))
  | (apply ed_intb; (walk_at "ev"))
  | (apply ed_len; walk_at "ev")
  | (apply ed_lenV; (apply ev_rowR; (rfl); (assumption); (walk_at "ev"); (rfl)); (assumption))
  | (apply ed_Ii; (walk_at "ev"); (walk_at "ev"); (walk_at "cc"))
  | (apply ed_isi; (walk_at "ev"); (rfl))
  | (apply ed_I0i; (walk_at "ev"); (walk_at "ev"))
  | (apply ed_I0b; (walk_at "ev"); (walk_at "ev"))
  | (apply ed_eqi; (walk_at "ev"); (walk_at "ev"))
  | (apply ed_nei; (walk_at "ev"); (walk_at "ev"))
  | (apply ed_andF; walk_at "ev")
  | (apply ed_andV; (walk_at "ev"); (intro _; walk_at "ev"))
  | (apply ed_orT; walk_at "ev")
  | (apply ed_orV; (walk_at "ev"); (intro _; walk_at "ev"))
  | (apply ed_notT; walk_at "ev")
  | (apply ed_notF; walk_at "ev")
  | (apply ed_notV; walk_at "ev")
  | (apply ed_chain; (walk_at "ev"); (walk_at "ev"); (intro _; walk_at "ev"))
  | (apply ed_eqS; (walk_at "ev"); (walk_at "ev"); (walk_at "bb"); (walk_at "bb"))
  | (apply ed_neS; (walk_at "ev"); (walk_at "ev"); (walk_at "bb"); (walk_at "bb"))
  | (apply ed_inT; (walk_at "ev"); (walk_at "ev"); (rfl); (rfl))
  | (apply ed_niT; (walk_at "ev"); (walk_at "ev"); (rfl); (rfl))
  | (apply ed_tup; (walk_at "eva"); (walk_at "bb"))
  | (apply ed_sl; (walk_at "ev"); (walk_at "evo"); (walk_at "evo"))
  | (apply ed_eqN; (apply EvDL.rd; walk_at "edl"); (walk_at "edl"); (walk_at "bb"))
  | (apply ed_neN; (apply EvDL.rd; walk_at "edl"); (walk_at "edl"); (walk_at "bb"))
  | (apply ed_ixL; (apply edr_var; (rfl); (assumption); (assumption)); (walk_at "ev"); (first | rfl | assumption))
  | (apply ed_lenL; (apply edr_var; (rfl); (assumption); (assumption)))
  | (apply ed_call; (walk_at "eva"); (walk_at "post")))
local macro_rules | `(tactic| walk_at "edl") => `(tactic| first
  | assumption
  | (apply edl_lst; (walk_at "eva"); (walk_at "bb")))
local macro_rules | `(tactic| walk_at "eva") => `(tactic| first
  | exact eda_nil
  | (apply eda_cons; (walk_at "ev"); (walk_at "eva")))
local macro_rules | `(tactic| walk_at "evo") => `(tactic| first
  | exact eok_none
  | (apply eok_some; walk_at "ev"))
local macro_rules | `(tactic| walk_at "bb") => `(tactic| first | rfl | assumption | (simp; done) | (simp; omega) | decide +kernel)
local macro_rules | `(tactic| walk_at "et") => `(tactic| first
  | exact tk_yes
  | (apply tk_andF; walk_at "et")
  | (apply tk_and; (walk_at "et"); (intro _; walk_at "et"))
  | (apply tk_orT; walk_at "et")
  | (apply tk_or; (walk_at "et"); (intro _; walk_at "et"))
  | (apply tk_notT; walk_at "et")
  | (apply tk_notF; walk_at "et")
  | (apply tk_not; walk_at "et")
  | (apply tk_v; walk_at "ev")
  | (apply tk_vB; walk_at "ev"))
local macro_rules | `(tactic| walk_at "if") => `(tactic| first
  | (apply pst_whenF; (walk_at "et"); (walk_at "bb"))
  | (apply pst_whenT; (walk_at "et"); (walk_at "bb")))
local macro_rules | `(tactic| walk_at "post") => `(tactic| first | assumption | exact ⟨_, _, rfl, rfl⟩ | exact ⟨_, _, _, _, rfl, by omega, by omega, rfl⟩ | exact ⟨_, _, _, 0, rfl, by omega, by omega, rfl⟩)
local macro_rules | `(tactic| walk_at "cc") => `(tactic| first | assumption | decide | omega | (refine ⟨?_, ?_⟩ <;> first | decide | omega) | (exact Or.inl (by constructor <;> omega)))

/-- what stands beside S -/
def Ofs (S : List Addr) (H : Hp) : Hp := fun a => if a ∈ S then none else H a
section
variable {K : PySem.W.Frag} {σ : L2.St} {H H' : Hp} {D : Ends} {tu tz : TS} {te tl ta tb : TE} {t : TA} {S : List Addr} {a C dx : Addr} {fs : List (Str × V)} {f : Str} {v : V} {n : Nat} {Q : VK} {E : XK} {sp : Sp}
theorem ofs_ex : Ex (Ofs S H) H := fun p o h => by
  unfold Ofs at h
  split at h
  · cases h
  · exact h
theorem ofs_fr (f : Fr S H H') : Ex (Ofs S H) (Ofs S H') := fun p o h => by
  unfold Ofs at h ⊢
  split at h
  · cases h
  · rename_i hp
    rw [if_neg hp]
    exact f p o hp h
theorem ofs_get {p : Addr} {o : HO} (h : H p = some o) (hp : p ∉ S) : Ofs S H p = some o := by
  unfold Ofs
  rw [if_neg hp]
  exact h
theorem ev_fld (hs : σ[n]? = some (some (.ref a))) (ha : H a = some (.ins C dx fs)) (c : Cls K C) (na : NoAttr K C f) (hl : fs.lookup f = some v) : Ev (tFld K (tVar n) f) σ H v := fun H1 e Q q => ⟨.ref a, hs, a, C, dx, fs, v, rfl, e _ _ ha, c, na, hl, q H1 (Ex.refl H1)⟩
theorem w_fld (hs : σ[n]? = some (some (.ref a))) (ha : H a = some (.ins C dx fs)) (c : Cls K C) (na : NoAttr K C f) (hl : fs.lookup f = some v) (q : Q v H) : tFld K (tVar n) f σ H Q := ⟨.ref a, hs, a, C, dx, fs, v, rfl, ha, c, na, hl, q⟩
theorem ed_fld {d : PyData} (hs : σ[n]? = some (some (.ref a))) (ha : H a = some (.ins C dx fs)) (c : Cls K C) (na : NoAttr K C f) (hl : fs.lookup f = some v) (td : Td K H v d) : EvD K (tFld K (tVar n) f) σ H d := fun H1 e Q q => ⟨.ref a, hs, a, C, dx, fs, v, rfl, e _ _ ha, c, na, hl, q v H1 (Ex.refl H1) (td.ex e)⟩
theorem edr_fld {p : Addr} {xs : List V} {ds : List PyData} (hs : σ[n]? = some (some (.ref a))) (ha : H a = some (.ins C dx fs)) (c : Cls K C) (na : NoAttr K C f) (hl : fs.lookup f = some (.ref p)) (hp : H p = some (.lst xs)) (td : TdAll K H xs ds) : EvDR K (tFld K (tVar n) f) σ H ds := fun H1 e Q q => ⟨.ref a, hs, a, C, dx, fs, .ref p, rfl, e _ _ ha, c, na, hl, q p xs H1 (Ex.refl H1) (SqL.of (e _ _ hp)) (td.ex e)⟩
theorem w_meth {m : Str} {dvs : List V} (hs : σ[n]? = some (some (.ref a))) (ha : H a = some (.ins C dx fs)) (hl : fs.lookup m = none) (h : t σ H fun vs H2 => sp (.ref a :: (vs ++ dvs)) H2 Q E) : tMeth C m sp dvs E (tVar n) t σ H Q := ⟨.ref a, hs, a, dx, fs, rfl, ha, hl, h⟩
/-- o.f = e -/
theorem w_setf (hs : σ[n]? = some (some (.ref a))) (h : te σ H fun y H1 => ∃ C dx fs, H1 a = some (.ins C dx fs) ∧ Cls K C ∧ NoAttr K C f ∧ fs.length < 1000 ∧ D.nx σ (upd H1 a (.ins C dx (putF f y fs)))) : sFld K (tVar n) te f D σ H := by
  have e : (fun (y : V) (H1 : Hp) => tVar n σ H1 fun x H2 => ∃ a C dx fs, x = .ref a ∧ H2 a = some (.ins C dx fs) ∧ Cls K C ∧ NoAttr K C f ∧ fs.length < 1000 ∧ D.nx σ (upd H2 a (.ins C dx (putF f y fs)))) = fun y H1 => ∃ C dx fs, H1 a = some (.ins C dx fs) ∧ Cls K C ∧ NoAttr K C f ∧ fs.length < 1000 ∧ D.nx σ (upd H1 a (.ins C dx (putF f y fs))) := by
    funext y H1
    refine propext ⟨fun ⟨x, h1, a', C', dx, fs, h2, h3⟩ => ?_, fun ⟨C, dx, fs, h3⟩ => ⟨.ref a, hs, a, C, dx, fs, rfl, h3⟩⟩
    rw [hs] at h1
    cases h1
    cases h2
    exact ⟨C', dx, fs, h3⟩
  show te σ H _
  rw [e]
  exact h
/-- o.f.append(e) -/
theorem w_appF {l : Addr} {ys : List V} (hs : σ[n]? = some (some (.ref a))) (ha : H a = some (.ins C dx fs)) (c : Cls K C) (na : NoAttr K C f) (hf : fs.lookup f = some (.ref l)) (hl : H l = some (.lst ys)) (h : te σ H fun x H1 => ∃ xs, H1 l = some (.lst xs) ∧ xs.length < sizeLine ∧ D.nx σ (upd H1 l (.lst (xs ++ [x])))) :
    tDrop (tBM K "list" rAppend (tFld K (tVar n) f) (tCons te tNil)) D σ H := ⟨.ref a, hs, a, C, dx, fs, .ref l, rfl, ha, c, na, hf, .inl ⟨rfl, ys, SqL.of hl⟩, by
    show te σ H fun x H1 => rAppend (.ref l) [x] H1 fun _ H2 => D.nx σ H2
    have e : (fun (x : V) (H1 : Hp) => rAppend (.ref l) [x] H1 fun _ H2 => D.nx σ H2) = fun x H1 => ∃ xs, H1 l = some (.lst xs) ∧ xs.length < sizeLine ∧ D.nx σ (upd H1 l (.lst (xs ++ [x]))) := by
      funext x H1
      refine propext ⟨fun ⟨l2, xs, y, e1, e2, e3, e4, e5⟩ => ?_, fun ⟨xs, e3, e4, e5⟩ => ⟨l, xs, x, rfl, rfl, e3, e4, e5⟩⟩
      cases e1
      cases e2
      exact ⟨xs, e3, e4, e5⟩
    rw [e]
    exact h⟩
end
def nV (ns : List Nat) : List V := ns.map fun n => V.int ((n : Nat) : Int)
def nD (ns : List Nat) : List PyData := ns.map fun n => PyData.int ((n : Nat) : Int)
theorem nV_td {K : PySem.W.Frag} {H : Hp} : ∀ ns : List Nat, TdAll K H (nV ns) (nD ns)
  | [] => .nil
  | n :: r => .cons (.int _) (nV_td r)
section
variable {K : PySem.W.Frag} {σ : L2.St} {H H' : Hp} {D : Ends} {tu tz : TS} {te tl ta tb : TE} {t : TA} {Q : VK} {E : XK}
theorem w_mk {C : Addr} {sp : Sp} {dvs : List V} (h : t σ H fun vs H1 => ∀ x dx, H1 x = none → H1 dx = none → dx ≠ x → sp (.ref x :: (vs ++ dvs)) (upd (upd H1 dx (.own x)) x (.ins C dx [])) (fun v H2 => v = .non ∧ Q (.ref x) H2) E) : tMake C sp dvs E t σ H Q := h
end
theorem atI_zero {α : Type} {x : α} {r : List α} : atI (x :: r) 0 = some x := (show atI (x :: r) ((0 : Nat) : Int) = some x from atI_nat rfl)
def wordT : Th → Str
  | .num _ => "num"
  | .sum _ _ => "sum"
  | .cell _ => "cell"
  | .own _ => "own"
  | .par _ => "par"
theorem encT_word (t : Th) : ∃ ds, encT t = .tuple (.str (wordT t) :: ds) := by cases t <;> exact ⟨_, rfl⟩
theorem wordT_lay (t : Th) : (PyData.str (wordT t)).canLay0 = true := by cases t <;> simp [wordT]
theorem cutD_pre {ds : List PyData} {k : Nat} : cutD ds none (some (k : Int)) = ds.take k := by
  unfold cutD
  rw [HT.sIx_none, HT.sIx_nat, List.drop_zero, Nat.sub_zero]
  rcases Nat.le_total k ds.length with h | h
  · rw [Nat.min_eq_left h]
  · rw [Nat.min_eq_right h, List.take_of_length_le (Nat.le_refl _), List.take_of_length_le h]
theorem tdV {K : PySem.W.Frag} {H : Hp} {cs : List V} {cells : List Nat} (h : TdAll K H cs (nD cells)) : cs = nV cells := by
  induction cells generalizing cs with
  | nil => cases h; rfl
  | cons n r ih =>
    cases h with
    | cons a b =>
      cases a
      rw [ih b]
      rfl
def allCells : List (List Nat) := (List.range 27).map fun k => [k / 9, k / 3 % 3, k % 3]
def cellsD : List PyData := allCells.map fun c => .tuple (nD c)
theorem ifT {b : Bool} {A B : Prop} (hb : b = true) (h : A) : if b = true then A else B := by rw [if_pos hb]; exact h
theorem ifF {b : Bool} {A B : Prop} (hb : b = false) (h : B) : if b = true then A else B := by rw [if_neg (by rw [hb]; decide)]; exact h
theorem okT_wf {ps os : Nat} : ∀ (t : Th) (j : Nat), okT ps os t j = true → wfT ps os t = true ∧ dpT t + j ≤ 4
  | .num n, j, h => by simp [okT] at h; simp [wfT, dpT]; omega
  | .own n, j, h => by simp [okT] at h; simp [wfT, dpT]; omega
  | .par n, j, h => by simp [okT] at h; simp [wfT, dpT]; omega
  | .cell t, j, h => by
    simp only [okT, Bool.and_eq_true, decide_eq_true_eq] at h
    have := okT_wf t (j + 1) h.2
    simp only [wfT, dpT]
    exact ⟨this.1, by omega⟩
  | .sum a b, j, h => by
    simp only [okT, Bool.and_eq_true, decide_eq_true_eq] at h
    have h1 := okT_wf a (j + 1) h.2.1
    have h2 := okT_wf b (j + 1) h.2.2
    simp only [wfT, dpT, Bool.and_eq_true]
    exact ⟨⟨h1.1, h2.1⟩, by omega⟩
section
variable {K : PySem.W.Frag} {σ : L2.St} {H H' : Hp} {D : Ends} {tu tz : TS} {te tl ta tb : TE} {t : TT} {Q : VK}
theorem w_next (h : D.nx σ H) : tNext D σ H := h
theorem w_not {Q : Bool → Hp → Prop} (h : t σ H fun b H1 => Q (!b) H1) : tNot t σ H Q := h
theorem w_tB {Q : Bool → Hp → Prop} (h : te σ H fun x H1 => ∃ c, x = .bl c ∧ Q c H1) : tB te σ H Q := h
/-- for x in a list that is not changed -/
theorem w_forLd {j : Nat} {ds : List PyData} (h : EvDR K tl σ H ds) (Pv : Hp → Nat → L2.St → Hp → Prop) (h0 : ∀ H1, Ex H H1 → Pv H1 0 σ H1) (hk : ∀ H1 i σ' H', Pv H1 i σ' H' → Ex H1 H')
    (hs : ∀ H1 i d v σ' H', ds[i]? = some d → Ex H H1 → Td K H' v d → Pv H1 i σ' H' → tu { D with nx := Pv H1 (i + 1), ct := Pv H1 (i + 1), bk := D.nx } (σ'.set j (some v)) H')
    (hd : ∀ H1 σ' H', Ex H H1 → Pv H1 ds.length σ' H' → D.nx σ' H') : tFor (iList K tl) (gName j) tu D σ H := by
  refine h H (Ex.refl H) _ fun p ys H1 e hx hall => ?_
  have hlen := hall.length
  refine ⟨p, rfl, ⟨ys, hx⟩, for_list (Pv H1) (h0 H1 e) (fun i σ' H' _ q => ex_l (hk H1 i σ' H' q) hx) (fun i x σ' H' hi q => ?_) (fun σ' H' q => hd H1 σ' H' e (by rw [← hlen]; exact q))⟩
  obtain ⟨d, hdd, td⟩ := hall.getV hi
  exact hs H1 i d x σ' H' hdd e (td.ex (hk H1 i σ' H' q)) q
/-- xs.append(e), xs told by something -/
theorem w_appE {l : Addr} {ys : List V} (hev : ∀ Q : VK, Q (.ref l) H → ta σ H Q) (hl : H l = some (.lst ys)) (h : te σ H fun x H1 => ∃ xs, H1 l = some (.lst xs) ∧ xs.length < sizeLine ∧ D.nx σ (upd H1 l (.lst (xs ++ [x])))) :
    tDrop (tBM K "list" rAppend ta (tCons te tNil)) D σ H := hev _ ⟨.inl ⟨rfl, ys, SqL.of hl⟩, by
    show te σ H fun x H1 => rAppend (.ref l) [x] H1 fun _ H2 => D.nx σ H2
    have e : (fun (x : V) (H1 : Hp) => rAppend (.ref l) [x] H1 fun _ H2 => D.nx σ H2) = fun x H1 => ∃ xs, H1 l = some (.lst xs) ∧ xs.length < sizeLine ∧ D.nx σ (upd H1 l (.lst (xs ++ [x]))) := by
      funext x H1
      refine propext ⟨fun ⟨l2, xs, y, e1, e2, e3, e4, e5⟩ => ?_, fun ⟨xs, e3, e4, e5⟩ => ⟨l, xs, x, rfl, rfl, e3, e4, e5⟩⟩
      cases e1
      cases e2
      exact ⟨xs, e3, e4, e5⟩
    rw [e]
    exact h⟩
end
def spLaw (K : PySem.W.Frag) : Sp := fun vs H Q _ => ∃ (s : Addr) (ns : List Int), vs = [.ref s] ∧ SqL K H s (ns.map V.int) ∧ ns.length ≤ 63 ∧ ∀ H', Q (.bl true) H'
section
variable {P : Program} {w : World} {K : PySem.W.Frag} {mg : Str → Option Value} {base : Heap} (T : Tx K mg)
include T
/-- the drawing, put together -/
theorem ok_gen (gT : Fn__law_taken T P w base CX0 1 (spTaken K)) : Fn__law_program T P w base CX0 12 (spProg K) := by
  have g0 := ok_thing T gT 0
  have g1 := ok_thing T gT 1
  have g2 := ok_thing T gT 2
  have gP : Fn__law_place T P w base CX0 4 (spPlace K 1) := ok_place T g1
  have gH : Fn__law_thing T P w base CX0 4 (spThings K) := by
    constructor
    · rintro vs H Q E ⟨n, hn, r, s, ns, v, ps, os, rfl, _⟩
      rfl
    · rintro A outer s H args us vs Q E hr he hb hv ⟨n, hn, h⟩
      rcases (by omega : n = 0 ∨ n = 1 ∨ n = 2) with e | e | e
      · subst e; exact g0.run A outer s H args us vs Q E (hr.mono (by decide)) he hb hv h
      · subst e; exact g1.run A outer s H args us vs Q E (hr.mono (by decide)) he hb hv h
      · subst e; exact g2.run A outer s H args us vs Q E hr he hb hv h
  have b0 : Fn__law_body T P w base CX0 7 (spBody K 0) := ok_body T (by decide) (ok_step (n := 0) (lv := 5) T (by decide) (fun _ _ _ _ => False) (fun h => absurd h (Nat.lt_irrefl 0)) (fn_vac fun _ _ _ _ h => h) gT gH gP) gT
  have b1 : Fn__law_body T P w base CX0 9 (spBody K 1) := ok_body T (by decide) (ok_step (n := 1) (lv := 7) T (by decide) (spBody K 0) (fun _ => rfl) b0 gT gH gP) gT
  have b2 : Fn__law_body T P w base CX0 11 (spBody K 2) := ok_body T (by decide) (ok_step (n := 2) (lv := 9) T (by decide) (spBody K 1) (fun _ => rfl) b1 gT gH gP) gT
  exact ok_program T gT gP b2
/-- the looks at programs and ways, put together -/
theorem ok_np : Fn_need_program T P w base (L2.CX P w) 24 (spNP K) := by
  have gN := ok_is_number (P := P) (w := w) (base := base) T
  have gIT := ok_is_thing T gN 6
  have gIC := ok_is_call T (Nat.le_refl 8) gN gIT
  have gBo := ok_bodyN T gIT gIC 6
  have gBs := ok_bodies_of (P := P) (w := w) (base := base) (k := 0) T
  exact ok_need_program T (ok_is_work T gBo (ok_count T gBs 7))
end
end Hw

set_option maxRecDepth 100000
set_option maxHeartbeats 4000000
/-! NW: programs as texts: the words -/
namespace Hw
open PySem PySem.Spec PyProof.Rows L2 Evl
local macro_rules | `(tactic| walk_at "dd") => `(tactic| first | rfl | decide | (simp; done) | omega)
local macro_rules | `(tactic| walk_at "td") => `(tactic| first | assumption | exact Td.int _ | exact Td.bl _ | exact Td.str _ | exact Td.non | exact Td.tup (by assumption) (by assumption))
local macro_rules | `(tactic| walk_at "ev") => `(tactic| first
  | exact ed_ci | exact ed_cs | exact ed_cb | exact ed_cn
  | (apply ed_cg; assumption)
  | (apply ed_var; (rfl); (walk_at "td"))
  | (apply ed_ixT; (walk_at "ev"); (walk_at "ev"); (first | rfl | assumption))
  | (apply ed_rowI; (rfl); (assumption); (walk_at "ev"); (rfl))
  | (apply ed_ixL; (apply EvDL.rd; walk_at "edl"); (walk_at "ev"); (rfl))
  | (apply ed_intb; (walk_at "ev"))
  | (apply ed_len; walk_at "ev")
  | (apply ed_lenV; (apply ev_rowR; (rfl); (assumption); (walk_at "ev"); (rfl)); (assumption))
  | (apply ed_Ii; (walk_at "ev"); (walk_at "ev"); (walk_at "cc"))
  | (apply ed_isi; (walk_at "ev"); (rfl))
  | (apply ed_I0i; (walk_at "ev"); (walk_at "ev"))
  | (apply ed_I0b; (walk_at "ev"); (walk_at "ev"))
  | (apply ed_eqi; (walk_at "ev"); (walk_at "ev"))
  | (apply ed_nei; (walk_at "ev"); (walk_at "ev"))
  | (apply ed_andF; walk_at "ev")
  | (apply ed_andV; (walk_at "ev"); (intro _; walk_at "ev"))
  | (apply ed_orT; walk_at "ev")
  | (apply ed_orV; (walk_at "ev"); (intro _; walk_at "ev"))
  | (apply ed_notT; walk_at "ev")
  | (apply ed_notF; walk_at "ev")
  | (apply ed_notV; walk_at "ev")
  | (apply ed_chain; (walk_at "ev"); (walk_at "ev"); (intro _; walk_at "ev"))
  | (apply ed_eqS; (walk_at "ev"); (walk_at "ev"); (walk_at "bb"); (walk_at "bb"))
  | (apply ed_neS; (walk_at "ev"); (walk_at "ev"); (walk_at "bb"); (walk_at "bb"))
  | (apply ed_inT; (walk_at "ev"); (walk_at "ev"); (rfl); (rfl))
  | (apply ed_niT; (walk_at "ev"); (walk_at "ev"); (rfl); (rfl))
  | (apply ed_tup; (walk_at "eva"); (walk_at "bb"))
  | (apply ed_sl; (walk_at "ev"); (walk_at "evo"); (walk_at "evo"))
  | (apply ed_eqN; (apply EvDL.rd; walk_at "edl"); (walk_at "edl"); (walk_at "bb"))
  | (apply ed_neN; (apply EvDL.rd; walk_at "edl"); (walk_at "edl"); (walk_at "bb"))
  | (apply ed_ixL; (apply edr_var; (rfl); (assumption); (assumption)); (walk_at "ev"); (first | rfl | assumption))
  | (apply ed_lenL; (apply edr_var; (rfl); (assumption); (assumption)))
  | (apply ed_call; (walk_at "eva"); (walk_at "post")))
local macro_rules | `(tactic| walk_at "edl") => `(tactic| first
  | assumption
  | (apply edl_lst; (walk_at "eva"); (walk_at "bb")))
local macro_rules | `(tactic| walk_at "eva") => `(tactic| first
  | exact eda_nil
  | (apply eda_cons; (walk_at "ev"); (walk_at "eva")))
local macro_rules | `(tactic| walk_at "evo") => `(tactic| first
  | exact eok_none
  | (apply eok_some; walk_at "ev"))
local macro_rules | `(tactic| walk_at "bb") => `(tactic| first | rfl | assumption | (simp; done) | (simp; omega) | decide +kernel)
local macro_rules | `(tactic| walk_at "et") => `(tactic| first
  | exact tk_yes
  | (apply tk_andF; walk_at "et")
  | (apply tk_and; (walk_at "et"); (intro _; walk_at "et"))
  | (apply tk_orT; walk_at "et")
  | (apply tk_or; (walk_at "et"); (intro _; walk_at "et"))
  | (apply tk_notT; walk_at "et")
  | (apply tk_notF; walk_at "et")
  | (apply tk_not; walk_at "et")
  | (apply tk_v; walk_at "ev")
  | (apply tk_vB; walk_at "ev"))
local macro_rules | `(tactic| walk_at "if") => `(tactic| first
  | (apply pst_whenF; (walk_at "et"); (walk_at "bb"))
  | (apply pst_whenT; (walk_at "et"); (walk_at "bb")))
local macro_rules | `(tactic| walk_at "post") => `(tactic| first | assumption | exact ⟨_, _, rfl, rfl⟩ | exact ⟨_, _, _, _, rfl, by omega, by omega, rfl⟩ | exact ⟨_, _, _, 0, rfl, by omega, by omega, rfl⟩)
local macro_rules | `(tactic| walk_at "cc") => `(tactic| first | assumption | decide | omega | (refine ⟨?_, ?_⟩ <;> first | decide | omega) | (exact Or.inl (by constructor <;> omega)))

def strN (n : Nat) : Str := toString (n : Int)
def wT : Th → List Str
  | .num n => [strN n]
  | .sum a b => "+" :: (wT a ++ wT b)
  | .cell t => "cell" :: wT t
  | .own k => ["own", strN k]
  | .par k => ["par", strN k]
mutual
def wS : Stm → List Str
  | .set p t => "set" :: (wT p ++ wT t)
  | .say t => "say" :: wT t
  | .ite t a b => "if" :: (wT t ++ ((("(" : Str) :: (wB a ++ [(")" : Str)])) ++ (("(" : Str) :: (wB b ++ [(")" : Str)]))))
  | .call c ts => "call" :: strN c :: (ts.flatMap wT ++ [("." : Str)])
def wB : List Stm → List Str
  | [] => []
  | s :: r => wS s ++ wB r
end
def lnW (w : Wk) : Str := Txt.join " " (strN w.params :: strN w.owns :: wB w.body)
def txP (p : List Wk) : Str := Txt.join "\n" (p.map lnW)
theorem wB_flat : ∀ b : List Stm, wB b = b.flatMap wS
  | [] => by simp [wB]
  | s :: r => by simp [wB, wB_flat r]
theorem wT_len : ∀ t : Th, (wT t).length + 1 ≤ 3 * 2 ^ dpT t
  | .num n => by simp [wT, dpT]
  | .own n => by simp [wT, dpT]
  | .par n => by simp [wT, dpT]
  | .cell t => by
    have := wT_len t
    simp only [wT, dpT, List.length_cons, Nat.pow_succ, Nat.add_comm 1]
    omega
  | .sum a b => by
    have h1 := wT_len a
    have h2 := wT_len b
    have m1 : 2 ^ dpT a ≤ 2 ^ max (dpT a) (dpT b) := Nat.pow_le_pow_right (by decide) (Nat.le_max_left _ _)
    have m2 : 2 ^ dpT b ≤ 2 ^ max (dpT a) (dpT b) := Nat.pow_le_pow_right (by decide) (Nat.le_max_right _ _)
    simp only [wT, dpT, List.length_cons, List.length_append, Nat.pow_succ, Nat.add_comm 1]
    omega
theorem wT_le {t : Th} (h : dpT t ≤ 4) : (wT t).length ≤ 47 := by
  have := wT_len t
  have m : 2 ^ dpT t ≤ 2 ^ 4 := Nat.pow_le_pow_right (by decide) h
  omega
/-- small works -/
def ShOk (sh : List (Nat × Nat)) : Prop := sh.length ≤ 4 ∧ ∀ c, shP sh c ≤ 3 ∧ shO sh c ≤ 99
theorem flatT_len : ∀ ts : List Th, (∀ t ∈ ts, dpT t ≤ 4) → (ts.flatMap wT).length ≤ 47 * ts.length
  | [], _ => by simp
  | t :: r, h => by
    have h1 := wT_le (h t List.mem_cons_self)
    have h2 := flatT_len r fun u hu => h u (List.mem_cons_of_mem _ hu)
    simp only [List.flatMap_cons, List.length_append, List.length_cons]
    omega
mutual
theorem wS_len {sh : List (Nat × Nat)} {i : Nat} (hs : ShOk sh) : ∀ (x : Stm) (w : Nat), okS sh i x w = true → (wS x).length ≤ 150 * cntS x
  | .set p t, w, h => by
    simp only [okS, Bool.and_eq_true, decide_eq_true_eq] at h
    have h1 := wT_le (t := p) (by have := (okT_wf _ _ h.2.1).2; omega)
    have h2 := wT_le (t := t) (by have := (okT_wf _ _ h.2.2.2).2; omega)
    simp only [wS, cntS, List.length_cons, List.length_append]
    omega
  | .say t, w, h => by
    simp only [okS, Bool.and_eq_true, decide_eq_true_eq] at h
    have h2 := wT_le (t := t) (by have := (okT_wf _ _ h.2).2; omega)
    simp only [wS, cntS, List.length_cons]
    omega
  | .call c ts, w, h => by
    simp only [okS, Bool.and_eq_true, decide_eq_true_eq, List.all_eq_true] at h
    have h1 := flatT_len ts fun t ht => by have := (okT_wf _ _ (h.2.2.2.2 t ht)).2; omega
    have h2 := (hs.2 c).1
    have h3 := h.2.2.2.1
    simp only [wS, cntS, List.length_cons, List.length_append, List.length_nil]
    omega
  | .ite t a b, w, h => by
    simp only [okS, Bool.and_eq_true, decide_eq_true_eq] at h
    have h1 := wT_le (t := t) (by have := (okT_wf _ _ h.2.1).2; omega)
    have h2 := wB_len hs a (w + 1) h.2.2.1
    have h3 := wB_len hs b (w + 1) h.2.2.2
    simp only [wS, cntS, List.length_cons, List.length_append, List.length_nil]
    omega
theorem wB_len {sh : List (Nat × Nat)} {i : Nat} (hs : ShOk sh) : ∀ (b : List Stm) (w : Nat), okB sh i b w = true → (wB b).length ≤ 150 * cntB b
  | [], w, h => by simp [wB]
  | x :: r, w, h => by
    simp only [okB, Bool.and_eq_true] at h
    have h1 := wS_len hs x w h.1
    have h2 := wB_len hs r w h.2
    simp only [wB, cntB, List.length_append]
    omega
end
section
variable {K : PySem.W.Frag} {σ : L2.St} {H H' : Hp} {D : Ends} {te ta tb tl : TE} {tr : TA} {α : Type} {ds es : List PyData}
theorem strs_eq : ∀ {xs : List V} {es : List Str}, TdAll K H xs (es.map PyData.str) → xs = es.map V.str
  | [], [], _ => rfl
  | x :: xs, e :: es, .cons h1 h2 => by
    cases h1
    rw [strs_eq h2]
    rfl
  | _ :: _, [], h => by cases h
  | [], _ :: _, h => by cases h
theorem strs_td : ∀ y : List Str, TdAll K H (y.map V.str) (y.map PyData.str)
  | [] => .nil
  | a :: b => .cons (.str _) (strs_td b)
/-- words -/
def EvW (K : PySem.W.Frag) (te : TE) (σ : L2.St) (H : Hp) (es : List Str) : Prop := EvDL K te σ H (es.map PyData.str)
def spWd (K : PySem.W.Frag) (P : List PyData → List Str → Prop) : Sp := fun vs H Q _ => ∃ ds es, TdAll K H vs ds ∧ P ds es ∧ ∀ q H', H q = none → Ex H H' → H' q = some (.lst (es.map V.str)) → Q (.ref q) H'
theorem spWd_len {P : List PyData → List Str → Prop} {n : Nat} (h : ∀ ds d, P ds d → ds.length = n) (vs : List V) (H : Hp) (Q : VK) (E : XK) (q : spWd K P vs H Q E) : vs.length = n := by
  obtain ⟨ds, d, ht, hp, _⟩ := q
  rw [ht.length]
  exact h _ _ hp
theorem ew_call {P : List PyData → List Str → Prop} {E : XK} {ws : List Str} (h : EvDA K tr σ H ds) (hp : P ds ws) : EvW K (tCall (spWd K P) [] E tr) σ H ws := fun H1 a Q q =>
  h H1 a _ fun vs H2 e2 t2 => by
    rw [List.append_nil]
    exact ⟨ds, ws, t2, hp, fun p H3 hp3 e3 h3 => q p _ H3 (fresh_back e2 hp3) (e2.trans e3) h3 (strs_td _)⟩
theorem ew_cat {u v : List Str} (ha : EvW K ta σ H u) (hb : EvW K tb σ H v) (hl : u.length + v.length ≤ 50000) : EvW K (tOp rCat ta tb) σ H (u ++ v) := fun H1 a Q q =>
  ha H1 a _ fun p xs H2 hp e2 hx ht => hb H2 (a.trans e2) _ fun p' ys H3 hp' e3 hy ht' => ⟨p, p', xs, ys, rfl, rfl, e3 _ _ hx, hy, by rw [ht.length, ht'.length, List.length_map, List.length_map]; exact sz_of (by omega), fun q2 hq => q q2 (xs ++ ys) _ (fresh_back (e2.trans e3) hq) ((e2.trans e3).trans (Ex.new hq)) upd_same (by rw [List.map_append]; exact ((ht.ex e3).append ht').ex (Ex.new hq))⟩
theorem ew_catV {n : Nat} {fl : Addr} {u v : List Str} (hs : σ[n]? = some (some (.ref fl))) (hx : H fl = some (.lst (u.map V.str))) (hb : EvW K tb σ H v) (hl : u.length + v.length ≤ 50000) : EvW K (tOp rCat (tVar n) tb) σ H (u ++ v) := fun H1 a Q q =>
  ⟨.ref fl, hs, hb H1 a _ fun p' ys H3 hp' e3 hy ht' => ⟨fl, p', _, ys, rfl, rfl, (a.trans e3) _ _ hx, hy, by rw [ht'.length, List.length_map, List.length_map]; exact sz_of (by omega), fun q2 hq => q q2 (u.map V.str ++ ys) _ (fresh_back e3 hq) (e3.trans (Ex.new hq)) upd_same (by rw [List.map_append]; exact ((strs_td u).append ht').ex (Ex.new hq))⟩⟩
theorem ew_lst {ws : List Str} (h : EvDA K tr σ H (ws.map PyData.str)) (hl : ws.length ≤ 1000) : EvW K (tLst tr) σ H ws := edl_lst h (by rw [List.length_map]; omega)
theorem ew_is {u v : List Str} (h : EvW K te σ H u) (e : u = v) : EvW K te σ H v := e ▸ h
theorem ed_strN {n : Nat} (h : EvD K te σ H (.int (n : Int))) (hn : n ≤ 1000) : EvD K (tCB (fun xs H Q => ∃ i, xs = [.int i] ∧ i.natAbs.log2 < 1920 ∧ Q (.str (toString i)) H) (tCons te tNil)) σ H (.str (strN n)) := fun H1 e1 Q q =>
  h.iv H1 e1 _ fun H2 e2 => ⟨(n : Int), rfl, by have := Nat.log2_le_self n; show ((n : Int)).natAbs.log2 < 1920; rw [Int.natAbs_natCast]; omega, q _ H2 e2 (.str _)⟩
theorem w_wd {ws : List Str} {Q : VK} (h : EvW K te σ H ws) (k : ∀ p H1, H p = none → Ex H H1 → H1 p = some (.lst (ws.map V.str)) → Q (.ref p) H1) : te σ H Q := w_dl h fun p xs H1 hp e hx ht => k p H1 hp e (by rw [hx, strs_eq ht])
/-- found.extend(words) -/
theorem w_extW {n : Nat} {fl : Addr} {u v : List Str} (hs : σ[n]? = some (some (.ref fl))) (hl : H fl = some (.lst (u.map V.str))) (h : EvW K te σ H v) (hsz : u.length + v.length ≤ 50000) (k : ∀ H', Fr [fl] H H' → H' fl = some (.lst ((u ++ v).map V.str)) → D.nx σ H') :
    tDrop (tBM K "list" rExtend (tVar n) (tCons te tNil)) D σ H := ⟨.ref fl, hs, .inl ⟨rfl, _, SqL.of hl⟩, w_cons (w_dl (K := K) h fun pp xs' H2 hp e2 hx2 ht2 => w_nil ⟨fl, pp, _, xs', rfl, rfl, e2 _ _ hl, hx2, by rw [ht2.length, List.length_map, List.length_map]; exact sz_of (by omega), k _ ((Fr.of e2).trans (Fr.upd (by simp))) (by rw [upd_same, strs_eq ht2, List.map_append])⟩)⟩
/-- for x in a tuple: found.extend(words of x) -/
theorem w_forW {j n : Nat} {fl : Addr} {ws : List Str} (xs : List α) (f : α → PyData) (g : α → List Str) (h : EvD K tl σ H (.tuple (xs.map f))) (hfl : H fl = some (.lst (ws.map V.str))) (h0 : ∃ u, σ = σ.set j u) (hn : ∀ v : Option V, (σ.set j v)[n]? = some (some (.ref fl)))
    (hsz : ws.length + (xs.flatMap g).length ≤ 50000) (he : ∀ x v H', x ∈ xs → Fr [fl] H H' → Td K H' v (f x) → EvW K te (σ.set j (some v)) H' (g x))
    (k : ∀ u H', Fr [fl] H H' → H' fl = some (.lst ((ws ++ xs.flatMap g).map V.str)) → D.nx (σ.set j u) H') : tFor (iTup K tl) (gName j) (tDrop (tBM K "list" rExtend (tVar n) (tCons te tNil))) D σ H := by
  obtain ⟨u0, hu0⟩ := h0
  refine h H (Ex.refl H) _ fun v H1 e1 tv => ?_
  obtain ⟨a, ys, rfl, hx, hall⟩ := tv.tup_inv
  have hlen := hall.length
  rw [List.length_map] at hlen
  have kp : ∀ {H'}, Fr [fl] H1 H' → Keep K H1 H' := fun f1 => f1.keep fun b hb => by
    have : b = fl := by simpa using hb
    rw [this]
    exact ⟨_, e1 _ _ hfl, True.intro⟩
  refine ⟨a, rfl, ⟨ys, hx⟩, for_tup (xs := ys) (fun i σ' H' => ∃ u : Option V, σ' = σ.set j u ∧ Fr [fl] H1 H' ∧ H' fl = some (.lst ((ws ++ (xs.take i).flatMap g).map V.str))) ⟨u0, hu0, Fr.refl, by simpa using e1 _ _ hfl⟩ (fun i σ' H' _ p => ?_) (fun i x σ' H' hi p => ?_) (fun σ' H' p => ?_)⟩
  · obtain ⟨u, _, f1, _⟩ := p
    exact kp f1 a ys hx
  · obtain ⟨u, rfl, f1, hl⟩ := p
    obtain ⟨d, hdd, td⟩ := hall.getV hi
    rw [List.getElem?_map] at hdd
    obtain ⟨z, hz, rfl⟩ := Option.map_eq_some_iff.mp hdd
    have es : (σ.set j u).set j (some x) = σ.set j (some x) := List.set_set ..
    show tDrop (tBM K "list" rExtend (tVar n) (tCons te tNil)) _ ((σ.set j u).set j (some x)) H'
    rw [es]
    have hle : ((xs.take i).flatMap g).length + (g z).length ≤ (xs.flatMap g).length := by
      have e : xs = xs.take i ++ z :: xs.drop (i + 1) := by
        obtain ⟨hi, e⟩ := List.getElem?_eq_some_iff.mp hz
        rw [← e, List.getElem_cons_drop, List.take_append_drop]
      conv => rhs; rw [e]
      simp only [List.flatMap_append, List.flatMap_cons, List.length_append]
      omega
    refine w_extW (hn _) hl (he z x H' (List.mem_of_getElem? hz) ((Fr.of e1).trans f1) (td.kp (kp f1))) (by rw [List.length_append]; omega) fun H3 f3 h3 => ⟨_, rfl, f1.trans f3, ?_⟩
    rw [h3, take_snoc hz]
    simp
  · obtain ⟨u, rfl, f1, hl⟩ := p
    rw [hlen, List.take_length] at hl
    exact k u H' ((Fr.of e1).trans f1) hl
end
theorem cutD_suf {ds : List PyData} {k : Nat} : cutD ds (some (k : Int)) none = ds.drop k := by
  unfold cutD
  rw [HT.sIx_none, HT.sIx_nat]
  rcases Nat.le_total k ds.length with h | h
  · rw [Nat.min_eq_left h, List.take_of_length_le (by simp)]
  · rw [Nat.min_eq_right h, List.drop_of_length_le (Nat.le_refl _), List.drop_of_length_le h]
    simp
section
variable {K : PySem.W.Frag} {σ : L2.St} {H H' H3 : Hp} {D : Ends} {te to : TE} {tr : TA}
theorem ex_fr1 {fl : Addr} (e : Ex H H3) (hfl : H fl = none) (f : Fr [fl] H3 H') : Ex H H' := fun q o h => f q o (by simp only [List.mem_singleton]; intro e2; rw [e2, hfl] at h; cases h) (e _ _ h)
/-- found.append(a word) -/
theorem w_appW {n : Nat} {fl : Addr} {u : List Str} {s : Str} (hs : σ[n]? = some (some (.ref fl))) (hl : H fl = some (.lst (u.map V.str))) (h : EvD K te σ H (.str s)) (hsz : u.length ≤ 50000) (k : ∀ H', Fr [fl] H H' → H' fl = some (.lst ((u ++ [s]).map V.str)) → D.nx σ H') :
    tDrop (tBM K "list" rAppend (tVar n) (tCons te tNil)) D σ H := w_app hs hl (w_d (K := K) h fun v H1 e1 tv => by
  cases tv
  exact ⟨_, e1 _ _ hl, by rw [List.length_map]; exact sz_lt (by omega), k _ ((Fr.of e1).trans (Fr.upd (by simp))) (by rw [upd_same, List.map_append]; rfl)⟩)
/-- text.join(words) -/
theorem ed_join {a : Str} {ws : List Str} (ha : EvD K to σ H (.str a)) (hw : EvW K te σ H ws) (hsz : (ws.map (·.length)).sum + ws.length * a.length ≤ 16777216) : EvD K (tM1 (fun x xs H Q => ∃ a p, ∃ ys : List Str, x = .str a ∧ xs = [.ref p] ∧ (SqL K H p (ys.map V.str) ∨ SqT K H p (ys.map V.str)) ∧
      (ys.map (·.length)).sum + ys.length * a.length ≤ 16777216 ∧ Q (.str (Txt.join a ys)) H) to te) σ H (.str (Txt.join a ws)) := fun H1 e1 Q q =>
  ha H1 e1 _ fun v H2 e2 tv => by
    cases tv
    refine ⟨⟨a, rfl⟩, hw H2 (e1.trans e2) _ fun p xs H3 hp e3 hx ht => ⟨a, p, ws, rfl, rfl, .inl ?_, hsz, q _ H3 (e2.trans e3) (.str _)⟩⟩
    rw [strs_eq ht] at hx
    exact SqL.of hx
theorem ed_joinV {n : Nat} {fl : Addr} {a : Str} {ws : List Str} (ha : EvD K to σ H (.str a)) (hs : σ[n]? = some (some (.ref fl))) (hl : H fl = some (.lst (ws.map V.str))) (hsz : (ws.map (·.length)).sum + ws.length * a.length ≤ 16777216) : EvD K (tM1 (fun x xs H Q => ∃ a p, ∃ ys : List Str, x = .str a ∧ xs = [.ref p] ∧ (SqL K H p (ys.map V.str) ∨ SqT K H p (ys.map V.str)) ∧
      (ys.map (·.length)).sum + ys.length * a.length ≤ 16777216 ∧ Q (.str (Txt.join a ys)) H) to (tVar n)) σ H (.str (Txt.join a ws)) := fun H1 e1 Q q =>
  ha H1 e1 _ fun v H2 e2 tv => by
    cases tv
    exact ⟨⟨a, rfl⟩, .ref fl, hs, a, fl, ws, rfl, rfl, .inl (SqL.of ((e1.trans e2) _ _ hl)), hsz, q _ H2 e2 (.str _)⟩
end
theorem wB_part {b : List Stm} {i : Nat} {x : Stm} (h : b[i]? = some x) : (wB (b.take i)).length + (wS x).length ≤ (wB b).length := by
  have e : b = b.take i ++ x :: b.drop (i + 1) := by
    obtain ⟨hi, e⟩ := List.getElem?_eq_some_iff.mp h
    rw [← e, List.getElem_cons_drop, List.take_append_drop]
  conv => rhs; rw [e]
  rw [wB_flat, wB_flat]
  simp only [List.flatMap_append, List.flatMap_cons, List.length_append]
  omega
theorem wB_snoc {b : List Stm} {i : Nat} {x : Stm} (h : b[i]? = some x) : wB (b.take (i + 1)) = wB (b.take i) ++ wS x := by
  rw [take_snoc h, wB_flat, wB_flat]
  simp
/-! how long words and lines are -/
def goodW (z : Str) : Bool := decide (z.length ≤ 4) && (TL.tl z).all fun c => decide (33 ≤ c) && decide (c < 127)
theorem strN_good : ∀ n < 100, goodW (strN n) = true := by decide +kernel
theorem wT_good {ps os : Nat} (hp : ps ≤ 3) (ho : os ≤ 99) : ∀ t : Th, wfT ps os t = true → ∀ z ∈ wT t, goodW z = true
  | .num n, h, z, hz => by
    simp only [wfT, decide_eq_true_eq] at h
    have : z = strN n := by simpa [wT] using hz
    rw [this]; exact strN_good n (by omega)
  | .own n, h, z, hz => by
    simp only [wfT, decide_eq_true_eq] at h
    rcases (by simpa [wT] using hz : z = "own" ∨ z = strN n) with e | e <;> rw [e]
    · decide +kernel
    · exact strN_good n (by omega)
  | .par n, h, z, hz => by
    simp only [wfT, decide_eq_true_eq] at h
    rcases (by simpa [wT] using hz : z = "par" ∨ z = strN n) with e | e <;> rw [e]
    · decide +kernel
    · exact strN_good n (by omega)
  | .cell t, h, z, hz => by
    simp only [wfT] at h
    rcases (by simpa [wT] using hz : z = "cell" ∨ z ∈ wT t) with e | e
    · rw [e]; decide +kernel
    · exact wT_good hp ho t h z e
  | .sum a b, h, z, hz => by
    simp only [wfT, Bool.and_eq_true] at h
    rcases (by simpa [wT] using hz : z = "+" ∨ z ∈ wT a ∨ z ∈ wT b) with e | e | e
    · rw [e]; decide +kernel
    · exact wT_good hp ho a h.1 z e
    · exact wT_good hp ho b h.2 z e
mutual
theorem wS_good {sh : List (Nat × Nat)} {i : Nat} (hs : ShOk sh) : ∀ (x : Stm) (w : Nat), okS sh i x w = true → ∀ z ∈ wS x, goodW z = true
  | .set p t, w, h, z, hz => by
    simp only [okS, Bool.and_eq_true, decide_eq_true_eq] at h
    rcases (by simpa [wS] using hz : z = "set" ∨ z ∈ wT p ∨ z ∈ wT t) with e | e | e
    · rw [e]; decide +kernel
    · exact wT_good (hs.2 i).1 (hs.2 i).2 p (okT_wf _ _ h.2.1).1 z e
    · exact wT_good (hs.2 i).1 (hs.2 i).2 t (okT_wf _ _ h.2.2.2).1 z e
  | .say t, w, h, z, hz => by
    simp only [okS, Bool.and_eq_true, decide_eq_true_eq] at h
    rcases (by simpa [wS] using hz : z = "say" ∨ z ∈ wT t) with e | e
    · rw [e]; decide +kernel
    · exact wT_good (hs.2 i).1 (hs.2 i).2 t (okT_wf _ _ h.2).1 z e
  | .call c ts, w, h, z, hz => by
    simp only [okS, Bool.and_eq_true, decide_eq_true_eq, List.all_eq_true] at h
    have hl := hs.1
    simp only [wS, List.mem_cons, List.mem_append, List.mem_flatMap, List.not_mem_nil, or_false] at hz
    rcases hz with e | e | ⟨t, ht, e⟩ | e
    · rw [e]; decide +kernel
    · rw [e]; exact strN_good c (by omega)
    · exact wT_good (hs.2 i).1 (hs.2 i).2 t (okT_wf _ _ (h.2.2.2.2 t ht)).1 z e
    · rw [e]; decide +kernel
  | .ite t a b, w, h, z, hz => by
    simp only [okS, Bool.and_eq_true, decide_eq_true_eq] at h
    simp only [wS, List.mem_cons, List.mem_append, List.not_mem_nil, or_false] at hz
    have par : goodW "(" = true ∧ goodW ")" = true ∧ goodW "if" = true := by decide +kernel
    rcases hz with e | e | ((e | e | e) | (e | e | e))
    · rw [e]; exact par.2.2
    · exact wT_good (hs.2 i).1 (hs.2 i).2 t (okT_wf _ _ h.2.1).1 z e
    · rw [e]; exact par.1
    · exact wB_good hs a (w + 1) h.2.2.1 z e
    · rw [e]; exact par.2.1
    · rw [e]; exact par.1
    · exact wB_good hs b (w + 1) h.2.2.2 z e
    · rw [e]; exact par.2.1
theorem wB_good {sh : List (Nat × Nat)} {i : Nat} (hs : ShOk sh) : ∀ (b : List Stm) (w : Nat), okB sh i b w = true → ∀ z ∈ wB b, goodW z = true
  | [], w, h, z, hz => by simp [wB] at hz
  | x :: r, w, h, z, hz => by
    simp only [okB, Bool.and_eq_true] at h
    rcases (by simpa [wB] using hz : z ∈ wS x ∨ z ∈ wB r) with e | e
    · exact wS_good hs x w h.1 z e
    · exact wB_good hs r w h.2 z e
end
theorem good_sum : ∀ {ws : List Str}, (∀ z ∈ ws, goodW z = true) → (ws.map (·.length)).sum ≤ 4 * ws.length
  | [], _ => by simp
  | a :: r, h => by
    have h1 := h a List.mem_cons_self
    have h2 := good_sum (ws := r) fun z hz => h z (List.mem_cons_of_mem _ hz)
    simp only [goodW, Bool.and_eq_true, decide_eq_true_eq] at h1
    simp only [List.map_cons, List.sum_cons, List.length_cons]
    omega
theorem joinL_len (S : List Nat) : ∀ ps : List (List Nat), (TL.joinL S ps).length ≤ (ps.map (·.length)).sum + ps.length * S.length
  | [] => by simp [TL.joinL]
  | [p] => by simp [TL.joinL]
  | p :: q :: r => by
    have ih := joinL_len S (q :: r)
    have e : TL.joinL S (p :: q :: r) = p ++ (S ++ TL.joinL S (q :: r)) := rfl
    rw [e]
    simp only [List.length_append, List.map_cons, List.sum_cons, List.length_cons, Nat.succ_mul] at ih ⊢
    omega
theorem join_len (a : Str) (ys : List Str) : (Txt.join a ys).length ≤ (ys.map (·.length)).sum + ys.length * a.length := by
  have h := joinL_len (TL.tl a) (ys.map TL.tl)
  rw [TL.len_tl, TL.join_eq, TL.tl_join]
  rw [List.map_map, List.length_map, ← TL.len_tl] at h
  have e : (List.length ∘ TL.tl) = fun y : Str => y.length := by funext y; exact (TL.len_tl y).symm
  rw [e] at h
  exact h
theorem shOk_of {p : List Wk} (h : okP p = true) : ShOk (shapes p) := by
  refine ⟨by have := okP_len h; simp [shapes]; omega, fun c => ?_⟩
  by_cases hc : c < p.length
  · have hp : p[c]? = some p[c] := List.getElem?_eq_getElem hc
    rw [shP_get hp, shO_get hp]
    have := okP_get h hp
    exact ⟨this.1, this.2.1⟩
  · have : (shapes p).getD c (0, 0) = (0, 0) := by
      simp [shapes, List.getD, List.getElem?_eq_none (by omega : p.length ≤ c)]
    simp only [shP, shO, this]
    omega
theorem lnW_len {p : List Wk} {i : Nat} {w : Wk} (h : okP p = true) (hi : p[i]? = some w) : (lnW w).length ≤ 100000 ∧ ((strN w.params :: strN w.owns :: wB w.body).map (·.length)).sum + (strN w.params :: strN w.owns :: wB w.body).length * (" " : Str).length ≤ 100000 ∧ ∀ z ∈ strN w.params :: strN w.owns :: wB w.body, goodW z = true := by
  have g := okP_get h hi
  have hs := shOk_of h
  have hl := wB_len hs w.body 0 g.2.2.1
  have hg : ∀ z ∈ strN w.params :: strN w.owns :: wB w.body, goodW z = true := fun z hz => by
    rcases List.mem_cons.mp hz with e | hz
    · rw [e]; exact strN_good _ (by omega)
    rcases List.mem_cons.mp hz with e | hz
    · rw [e]; exact strN_good _ (by omega)
    · exact wB_good hs w.body 0 g.2.2.1 z hz
  have h1 := good_sum hg
  have e1 : (" " : Str).length = 1 := by decide +kernel
  have h2 := join_len " " (strN w.params :: strN w.owns :: wB w.body)
  rw [e1] at h2 ⊢
  simp only [List.length_cons] at h1 h2 ⊢
  refine ⟨?_, ?_, hg⟩
  · unfold lnW
    omega
  · omega
theorem goodW_c {z : Str} (h : goodW z = true) : z.length ≤ 4 ∧ ∀ c ∈ TL.tl z, 33 ≤ c ∧ c < 127 := by
  simp only [goodW, Bool.and_eq_true, decide_eq_true_eq, List.all_eq_true] at h
  exact h
theorem joinL_mem {S : List Nat} {c : Nat} : ∀ {ps : List (List Nat)}, c ∈ TL.joinL S ps → c ∈ S ∨ ∃ p ∈ ps, c ∈ p
  | [], h => by simp [TL.joinL] at h
  | [p], h => .inr ⟨p, by simp, by simpa [TL.joinL] using h⟩
  | p :: q :: r, h => by
    have e : TL.joinL S (p :: q :: r) = p ++ (S ++ TL.joinL S (q :: r)) := rfl
    rw [e, List.mem_append, List.mem_append] at h
    rcases h with h | h | h
    · exact .inr ⟨p, by simp, h⟩
    · exact .inl h
    · rcases joinL_mem h with h | ⟨x, hx, h⟩
      · exact .inl h
      · exact .inr ⟨x, List.mem_cons_of_mem _ hx, h⟩
theorem join_mem {y : Str} {ws : List Str} {c : Nat} (h : c ∈ TL.tl (Txt.join y ws)) : c ∈ TL.tl y ∨ ∃ z ∈ ws, c ∈ TL.tl z := by
  rw [TL.join_eq, TL.tl_join] at h
  rcases joinL_mem h with h | ⟨p, hp, h⟩
  · exact .inl h
  · obtain ⟨z, hz, rfl⟩ := List.mem_map.mp hp
    exact .inr ⟨z, hz, h⟩
theorem str_lay {z : Str} (h : ∀ c ∈ TL.tl z, c < 1000) : (PyData.str z).canLay0 = true := by
  simp only [PyData.canLay0, PyData.strOk, Array.all_eq_true, decide_eq_true_eq]
  intro i hi
  have := h z.cps[i] (by simp [TL.tl])
  omega
theorem tl_sp : TL.tl (" " : Str) = [32] ∧ TL.tl ("\n" : Str) = [10] := by decide +kernel
theorem lnW_c {p : List Wk} {i : Nat} {w : Wk} (h : okP p = true) (hi : p[i]? = some w) : ∀ c ∈ TL.tl (lnW w), 32 ≤ c ∧ c < 127 := fun c hc => by
  rcases join_mem hc with e | ⟨z, hz, hc⟩
  · rw [tl_sp.1] at e
    simp only [List.mem_cons, List.not_mem_nil, or_false] at e
    omega
  · have := (goodW_c ((lnW_len h hi).2.2 z hz)).2 c hc
    omega
theorem txP_lay {p : List Wk} (h : okP p = true) : (PyData.str (txP p)).canLay0 = true := str_lay fun c hc => by
  rcases join_mem hc with e | ⟨z, hz, hc⟩
  · rw [tl_sp.2] at e
    simp only [List.mem_cons, List.not_mem_nil, or_false] at e
    omega
  · obtain ⟨w, hw, rfl⟩ := List.mem_map.mp hz
    obtain ⟨i, hi⟩ := List.mem_iff_getElem?.mp hw
    have := lnW_c h hi c hc
    omega
theorem txP_rows {p : List Wk} (h : okP p = true) : Txt.split (txP p) "\n" = p.map lnW := by
  have h1 := okP_len h
  refine TL.split_join tl_sp.2 (by decide +kernel) (fun e => ?_) fun z hz hc => ?_
  · have := List.map_eq_nil_iff.mp e
    rw [this] at h1
    simp at h1
  · obtain ⟨w, hw, rfl⟩ := List.mem_map.mp hz
    obtain ⟨i, hi⟩ := List.mem_iff_getElem?.mp hw
    have := lnW_c h hi 10 hc
    omega
theorem lnW_words {p : List Wk} {i : Nat} {w : Wk} (h : okP p = true) (hi : p[i]? = some w) : Txt.split (lnW w) " " = strN w.params :: strN w.owns :: wB w.body := by
  refine TL.split_join tl_sp.1 (by decide +kernel) (by simp) fun z hz hc => ?_
  have := (goodW_c ((lnW_len h hi).2.2 z hz)).2 32 hc
  omega
def pWT (n : Nat) (ds : List PyData) (es : List Str) : Prop := ∃ (t : Th) (ps os : Nat), ds = [encT t] ∧ wfT ps os t = true ∧ ps ≤ 3 ∧ os ≤ 99 ∧ dpT t ≤ n ∧ dpT t ≤ 4 ∧ es = wT t
end Hw

set_option maxRecDepth 100000
set_option maxHeartbeats 4000000
/-! NX: thing_words, body_words, written -/
namespace Hw
open PySem PySem.Spec PyProof.Rows L2 Evl
local macro_rules | `(tactic| walk_at "dd") => `(tactic| first | rfl | decide | (simp; done) | omega)
local macro_rules | `(tactic| walk_at "td") => `(tactic| first | assumption | exact Td.int _ | exact Td.bl _ | exact Td.str _ | exact Td.non | exact Td.tup (by assumption) (by assumption))
local macro_rules | `(tactic| walk_at "ev") => `(tactic| first
  | exact ed_ci | exact ed_cs | exact ed_cb | exact ed_cn
  | (apply ed_cg; assumption)
  | (apply ed_var; (rfl); (walk_at "td"))
  | (apply ed_ixT; (walk_at "ev"); (walk_at "ev"); (first | rfl | assumption))
  | (apply ed_rowI; (rfl); (assumption); (walk_at "ev"); (rfl))
  | (apply ed_ixL; (apply EvDL.rd; walk_at "edl"); (walk_at "ev"); (rfl))
  | (apply ed_intb; (walk_at "ev"))
  | (apply ed_len; walk_at "ev")
  | (apply ed_lenV; (apply ev_rowR; (rfl); (assumption); (walk_at "ev"); (rfl)); (assumption))
  | (apply ed_Ii; (walk_at "ev"); (walk_at "ev"); (walk_at "cc"))
  | (apply ed_isi; (walk_at "ev"); (rfl))
  | (apply ed_I0i; (walk_at "ev"); (walk_at "ev"))
  | (apply ed_I0b; (walk_at "ev"); (walk_at "ev"))
  | (apply ed_eqi; (walk_at "ev"); (walk_at "ev"))
  | (apply ed_nei; (walk_at "ev"); (walk_at "ev"))
  | (apply ed_andF; walk_at "ev")
  | (apply ed_andV; (walk_at "ev"); (intro _; walk_at "ev"))
  | (apply ed_orT; walk_at "ev")
  | (apply ed_orV; (walk_at "ev"); (intro _; walk_at "ev"))
  | (apply ed_notT; walk_at "ev")
  | (apply ed_notF; walk_at "ev")
  | (apply ed_notV; walk_at "ev")
  | (apply ed_chain; (walk_at "ev"); (walk_at "ev"); (intro _; walk_at "ev"))
  | (apply ed_eqS; (walk_at "ev"); (walk_at "ev"); (walk_at "bb"); (walk_at "bb"))
  | (apply ed_neS; (walk_at "ev"); (walk_at "ev"); (walk_at "bb"); (walk_at "bb"))
  | (apply ed_inT; (walk_at "ev"); (walk_at "ev"); (rfl); (rfl))
  | (apply ed_niT; (walk_at "ev"); (walk_at "ev"); (rfl); (rfl))
  | (apply ed_tup; (walk_at "eva"); (walk_at "bb"))
  | (apply ed_sl; (walk_at "ev"); (walk_at "evo"); (walk_at "evo"))
  | (apply ed_eqN; (apply EvDL.rd; walk_at "edl"); (walk_at "edl"); (walk_at "bb"))
  | (apply ed_neN; (apply EvDL.rd; walk_at "edl"); (walk_at "edl"); (walk_at "bb"))
  | (apply ed_ixL; (apply edr_var; (rfl); (assumption); (assumption)); (walk_at "ev"); (first | rfl | assumption))
  | (apply ed_lenL; (apply edr_var; (rfl); (assumption); (assumption)))
  | (apply ed_call; (walk_at "eva"); (walk_at "post")))
local macro_rules | `(tactic| walk_at "edl") => `(tactic| first
  | assumption
  | (apply edl_lst; (walk_at "eva"); (walk_at "bb")))
local macro_rules | `(tactic| walk_at "eva") => `(tactic| first
  | exact eda_nil
  | (apply eda_cons; (walk_at "ev"); (walk_at "eva")))
local macro_rules | `(tactic| walk_at "evo") => `(tactic| first
  | exact eok_none
  | (apply eok_some; walk_at "ev"))
local macro_rules | `(tactic| walk_at "bb") => `(tactic| first | rfl | assumption | (simp; done) | (simp; omega) | decide +kernel)
local macro_rules | `(tactic| walk_at "et") => `(tactic| first
  | exact tk_yes
  | (apply tk_andF; walk_at "et")
  | (apply tk_and; (walk_at "et"); (intro _; walk_at "et"))
  | (apply tk_orT; walk_at "et")
  | (apply tk_or; (walk_at "et"); (intro _; walk_at "et"))
  | (apply tk_notT; walk_at "et")
  | (apply tk_notF; walk_at "et")
  | (apply tk_not; walk_at "et")
  | (apply tk_v; walk_at "ev")
  | (apply tk_vB; walk_at "ev"))
local macro_rules | `(tactic| walk_at "if") => `(tactic| first
  | (apply pst_whenF; (walk_at "et"); (walk_at "bb"))
  | (apply pst_whenT; (walk_at "et"); (walk_at "bb")))
local macro_rules | `(tactic| walk_at "post") => `(tactic| first | assumption | exact ⟨_, _, rfl, rfl⟩ | exact ⟨_, _, _, _, rfl, by omega, by omega, rfl⟩ | exact ⟨_, _, _, 0, rfl, by omega, by omega, rfl⟩)
local macro_rules | `(tactic| walk_at "cc") => `(tactic| first | assumption | decide | omega | (refine ⟨?_, ?_⟩ <;> first | decide | omega) | (exact Or.inl (by constructor <;> omega)))

theorem okB_in {sh : List (Nat × Nat)} {i w : Nat} : ∀ {b : List Stm} {x : Stm}, okB sh i b w = true → x ∈ b → okS sh i x w = true
  | y :: r, x, h, hm => by
    simp only [okB, Bool.and_eq_true] at h
    rcases List.mem_cons.mp hm with e | hm
    · rw [e]; exact h.1
    · exact okB_in h.2 hm
theorem cntB_in : ∀ {b : List Stm} {x : Stm}, x ∈ b → cntS x ≤ cntB b
  | y :: r, x, hm => by
    simp only [cntB]
    rcases List.mem_cons.mp hm with e | hm
    · rw [e]; omega
    · have := cntB_in hm
      omega
theorem sum_le {m : Nat} : ∀ {ws : List Str}, (∀ z ∈ ws, z.length ≤ m) → (ws.map (·.length)).sum ≤ m * ws.length
  | [], _ => by simp
  | a :: r, h => by
    have h1 := h a List.mem_cons_self
    have h2 := sum_le (ws := r) fun z hz => h z (List.mem_cons_of_mem _ hz)
    simp only [List.map_cons, List.sum_cons, List.length_cons, Nat.mul_succ]
    omega
/-- a body in brackets -/
def wIn (z : List Stm) : List Str := ("(" : Str) :: (wB z ++ [(")" : Str)])
def pWB (n : Nat) (ds : List PyData) (es : List Str) : Prop := ∃ (b : List Stm) (sh : List (Nat × Nat)) (i w : Nat), ds = [.tuple (encB b)] ∧ ShOk sh ∧ okB sh i b w = true ∧ dpB b ≤ n ∧ cntB b ≤ 100 ∧ es = wB b
section
variable {P : Program} {w : World} {K : PySem.W.Frag} {mg : Str → Option Value} {base : Heap} (T : Tx K mg)
include T
theorem tw_step {n : Nat} (spI : Sp) (hI : 0 < n → spI = spWd K (pWT (n - 1))) (GI : Fn_thing_words T P w base CX0 n spI) : Fn_thing_words T P w base CX0 (n + 1) (spWd K (pWT n)) := by
  have G_thing_words := GI
  refine T.F_thing_words.ok sc_thing_words (spWd_len fun ds d h => by obtain ⟨_, _, _, rfl, _⟩ := h; rfl) fun cdv A outer s0 H vs Q E hr h => ?_
  obtain ⟨ds, es, ht, ⟨t, ps, os, rfl, hwf, hps, hos, hdn, hd4, rfl⟩, k⟩ := h
  obtain _ | ⟨t1, _ | _⟩ := ht
  refine ⟨_, (pss_cons (ps_if (pt_cmpR (kop_eq K hr.units) (pe_ix (kix_tup K) (pv 0) pe_int (fun _ _ => rfl)) pe_str (nomark _))
    (pss_one (ps_ret (pe_lst (pa_cons (pe_callTy call_str_int rfl T.b_str (by decide +kernel) (pa_cons (pe_ix (kix_tup K) (pv 0) pe_int (fun _ _ => rfl)) pa_nil)) pa_nil))))
    pss_nil)
  (pss_cons (ps_if (pt_cmpR (kop_in K) (pe_ix (kix_tup K) (pv 0) pe_int (fun _ _ => rfl)) (pe_tup (pa_cons pe_str (pa_cons pe_str pa_nil))) rfl)
    (pss_one (ps_ret (pe_lst (pa_cons (pe_ix (kix_tup K) (pv 0) pe_int (fun _ _ => rfl)) (pa_cons (pe_callTy call_str_int rfl T.b_str (by decide +kernel) (pa_cons (pe_ix (kix_tup K) (pv 0) pe_int (fun _ _ => rfl)) pa_nil)) pa_nil)))))
    pss_nil)
  (pss_cons (ps_set (i := 1) sc_thing_words.nd rfl (Or.inl rfl) (pe_lst (pa_cons (pe_ifExp (pt_cmpR (kop_eq K hr.units) (pe_ix (kix_tup K) (pv 0) pe_int (fun _ _ => rfl)) pe_str (nomark _)) pe_str pe_str) pa_nil)))
  (pss_cons (ps_for (passes_of rfl) rfl (kpi_tup K (pe_slice (ksl_tup K) (pv 0) (po_some pe_int) po_none)) (pg_name (i := 2) sc_thing_words.nd rfl (Or.inl rfl))
    (pss_one (ps_expr (pe_bm PySem.F.plainAttrs_list PySem.F.slot_list_extend PySem.F.type_list_extend mt_extend (pv 1) (pa_cons (pe_call G_thing_words (hr.mono (by omega)) (by rfl) T.g_thing_words T.k_thing_words T.bd_thing_words .nil pass0 (pa_cons (pv 2) pa_nil)) pa_nil)))))
  (pss_one (ps_ret (pv 1))))))), ?_⟩
  rename_i v
  refine Pst.go (K := K) ?_
  cases t with
  | num m =>
    unfold encT at t1
    simp only [wfT, decide_eq_true_eq] at hwf
    refine pst_when (b := true) ?_ (fun _ => pst_of fun H1 e1 => ?_) (fun hb => by cases hb)
    · apply tk_is
      · walk_at "et"
      · simp
    exact w_ret (w_wd (K := K) (ew_lst (ws := [strN m]) (eda_cons (ed_strN (ed_ixT (i := 1) (ed_var rfl (t1.ex e1)) ed_ci rfl) (by omega)) eda_nil) (by simp)) fun p H2 hp e2 h2 => k p H2 (fresh_back e1 hp) (e1.trans e2) h2)
  | own m =>
    unfold encT at t1
    simp only [wfT, decide_eq_true_eq] at hwf
    refine pst_when (b := false) ?_ (fun hb => by cases hb) (fun _ => ?_)
    · apply tk_is
      · walk_at "et"
      · simp
    refine pst_when (b := true) ?_ (fun _ => pst_of fun H1 e1 => ?_) (fun hb => by cases hb)
    · apply tk_is
      · walk_at "et"
      · simp
    exact w_ret (w_wd (K := K) (ew_lst (ws := ["own", strN m]) (eda_cons (ed_ixT (i := 0) (ed_var rfl (t1.ex e1)) ed_ci rfl) (eda_cons (ed_strN (ed_ixT (i := 1) (ed_var rfl (t1.ex e1)) ed_ci rfl) (by omega)) eda_nil)) (by simp)) fun p H2 hp e2 h2 => k p H2 (fresh_back e1 hp) (e1.trans e2) h2)
  | par m =>
    unfold encT at t1
    simp only [wfT, decide_eq_true_eq] at hwf
    refine pst_when (b := false) ?_ (fun hb => by cases hb) (fun _ => ?_)
    · apply tk_is
      · walk_at "et"
      · simp
    refine pst_when (b := true) ?_ (fun _ => pst_of fun H1 e1 => ?_) (fun hb => by cases hb)
    · apply tk_is
      · walk_at "et"
      · simp
    exact w_ret (w_wd (K := K) (ew_lst (ws := ["par", strN m]) (eda_cons (ed_ixT (i := 0) (ed_var rfl (t1.ex e1)) ed_ci rfl) (eda_cons (ed_strN (ed_ixT (i := 1) (ed_var rfl (t1.ex e1)) ed_ci rfl) (by omega)) eda_nil)) (by simp)) fun p H2 hp e2 h2 => k p H2 (fresh_back e1 hp) (e1.trans e2) h2)
  | cell a =>
    unfold encT at t1
    simp only [wfT] at hwf
    simp only [dpT] at hdn hd4
    have hsp := hI (by omega)
    subst hsp
    refine pst_when (b := false) ?_ (fun hb => by cases hb) (fun _ => ?_)
    · apply tk_is
      · walk_at "et"
      · simp
    refine pst_when (b := false) ?_ (fun hb => by cases hb) (fun _ => ?_)
    · apply tk_is
      · walk_at "et"
      · simp
    refine pst_of fun H1 e1 => ?_
    have t1b := t1.ex e1
    refine w_seq (w_asg (w_lst (w_cons (w_if (w_t (K := K) (b := false) (tk_is (by walk_at "et") (by simp)) fun H2 e2 => ifF rfl (w_c (w_nil ⟨by show 1 ≤ sizeLine; decide, fun fl hfl => ?_⟩)))))))
    have hf : upd H2 fl (.lst [.str "cell"]) fl = some (.lst ((["cell"] : List Str).map V.str)) := upd_same
    have e3 := (e1.trans e2).trans (Ex.new (o := .lst [.str "cell"]) hfl)
    have hfl0 := fresh_back (e1.trans e2) hfl
    generalize upd H2 fl (.lst [.str "cell"]) = H3 at *
    have t3 := t1.ex e3
    dsimp only
    refine w_seq (w_forW (K := K) (fl := fl) (ws := ["cell"]) [a] encT wT (ed_is (ed_sl (lo := some ((1 : Nat) : Int)) (hi := none) (ed_var rfl t3) (eok_some ed_ci) eok_none) (by rw [cutD_suf]; rfl)) hf ⟨_, rfl⟩ (fun _ => rfl) (by have := wT_le (t := a) (by omega); simp; omega) (fun x v H' hx f tv => ew_call (eda_cons (ed_var rfl tv) eda_nil) ⟨x, ps, os, rfl, ?_, hps, hos, ?_, ?_, rfl⟩) fun u H' f h => ?_)
    · have : x = a := by simpa using hx
      rw [this]; exact hwf
    · have : x = a := by simpa using hx
      rw [this]; omega
    · have : x = a := by simpa using hx
      rw [this]; omega
    · dsimp only
      exact w_ret (w_v rfl (k fl H' hfl0 (ex_fr1 e3 hfl0 f) (by simpa [wT] using h)))
  | sum a b =>
    unfold encT at t1
    simp only [wfT, Bool.and_eq_true] at hwf
    simp only [dpT] at hdn hd4
    have hsp := hI (by omega)
    subst hsp
    refine pst_when (b := false) ?_ (fun hb => by cases hb) (fun _ => ?_)
    · apply tk_is
      · walk_at "et"
      · simp
    refine pst_when (b := false) ?_ (fun hb => by cases hb) (fun _ => ?_)
    · apply tk_is
      · walk_at "et"
      · simp
    refine pst_of fun H1 e1 => ?_
    have t1b := t1.ex e1
    refine w_seq (w_asg (w_lst (w_cons (w_if (w_t (K := K) (b := true) (tk_is (by walk_at "et") (by simp)) fun H2 e2 => ifT rfl (w_c (w_nil ⟨by show 1 ≤ sizeLine; decide, fun fl hfl => ?_⟩)))))))
    have hf : upd H2 fl (.lst [.str "+"]) fl = some (.lst ((["+"] : List Str).map V.str)) := upd_same
    have e3 := (e1.trans e2).trans (Ex.new (o := .lst [.str "+"]) hfl)
    have hfl0 := fresh_back (e1.trans e2) hfl
    generalize upd H2 fl (.lst [.str "+"]) = H3 at *
    have t3 := t1.ex e3
    dsimp only
    refine w_seq (w_forW (K := K) (fl := fl) (ws := ["+"]) [a, b] encT wT (ed_is (ed_sl (lo := some ((1 : Nat) : Int)) (hi := none) (ed_var rfl t3) (eok_some ed_ci) eok_none) (by rw [cutD_suf]; rfl)) hf ⟨_, rfl⟩ (fun _ => rfl) (by have h1 := wT_le (t := a) (by omega); have h2 := wT_le (t := b) (by omega); simp; omega) (fun x v H' hx f tv => ew_call (eda_cons (ed_var rfl tv) eda_nil) ⟨x, ps, os, rfl, ?_, hps, hos, ?_, ?_, rfl⟩) fun u H' f h => ?_)
    · rcases (by simpa using hx : x = a ∨ x = b) with e | e <;> rw [e]
      · exact hwf.1
      · exact hwf.2
    · rcases (by simpa using hx : x = a ∨ x = b) with e | e <;> rw [e] <;> omega
    · rcases (by simpa using hx : x = a ∨ x = b) with e | e <;> rw [e] <;> omega
    · dsimp only
      exact w_ret (w_v rfl (k fl H' hfl0 (ex_fr1 e3 hfl0 f) (by simpa [wT] using h)))
theorem ok_tw : ∀ n : Nat, Fn_thing_words T P w base CX0 (n + 1) (spWd K (pWT n))
  | 0 => tw_step T (n := 0) (fun _ _ _ _ => False) (fun h => absurd h (Nat.lt_irrefl _)) (fn_vac fun _ _ _ _ h => h)
  | n + 1 => tw_step T (n := n + 1) (spWd K (pWT n)) (fun _ => rfl) (ok_tw n)
theorem bw_step {n : Nat} (spI : Sp) (hI : 0 < n → spI = spWd K (pWB (n - 1))) (GT : Fn_thing_words T P w base CX0 5 (spWd K (pWT 4))) (GI : Fn_body_words T P w base CX0 (n + 5) spI) : Fn_body_words T P w base CX0 (n + 6) (spWd K (pWB n)) := by
  have G_thing_words := GT
  have G_body_words := GI
  refine T.F_body_words.ok sc_body_words (spWd_len fun ds d h => by obtain ⟨_, _, _, _, rfl, _⟩ := h; rfl) fun cdv A outer s0 H vs Q E hr h => ?_
  obtain ⟨ds, es, ht, ⟨b, sh, i0, w0, rfl, hsh, hok, hdp, hcnt, rfl⟩, k⟩ := h
  obtain _ | ⟨t1, _ | _⟩ := ht
  refine ⟨_, (pss_cons (ps_set (i := 1) sc_body_words.nd rfl (Or.inl rfl) (pe_lst pa_nil))
  (pss_cons (ps_for (passes_of rfl) rfl (kpi_tup K (pv 0)) (pg_name (i := 2) sc_body_words.nd rfl (Or.inl rfl))
    (pss_cons (ps_expr (pe_bm PySem.F.plainAttrs_list PySem.F.slot_list_append PySem.F.type_list_append mt_append (pv 1) (pa_cons (pe_ix (kix_tup K) (pv 2) pe_int (fun _ _ => rfl)) pa_nil)))
    (pss_one (ps_if (pt_cmpR (kop_eq K hr.units) (pe_ix (kix_tup K) (pv 2) pe_int (fun _ _ => rfl)) pe_str (nomark _))
      (pss_cons (ps_expr (pe_bm PySem.F.plainAttrs_list PySem.F.slot_list_append PySem.F.type_list_append mt_append (pv 1) (pa_cons (pe_callTy call_str_int rfl T.b_str (by decide +kernel) (pa_cons (pe_ix (kix_tup K) (pv 2) pe_int (fun _ _ => rfl)) pa_nil)) pa_nil)))
      (pss_cons (ps_for (passes_of rfl) rfl (kpi_tup K (pe_ix (kix_tup K) (pv 2) pe_int (fun _ _ => rfl))) (pg_name (i := 3) sc_body_words.nd rfl (Or.inl rfl))
        (pss_one (ps_expr (pe_bm PySem.F.plainAttrs_list PySem.F.slot_list_extend PySem.F.type_list_extend mt_extend (pv 1) (pa_cons (pe_call G_thing_words (hr.mono (by omega)) (by rfl) T.g_thing_words T.k_thing_words T.bd_thing_words .nil pass0 (pa_cons (pv 3) pa_nil)) pa_nil)))))
      (pss_one (ps_expr (pe_bm PySem.F.plainAttrs_list PySem.F.slot_list_append PySem.F.type_list_append mt_append (pv 1) (pa_cons pe_str pa_nil))))))
      (pss_one (ps_if (pt_cmpR (kop_eq K hr.units) (pe_ix (kix_tup K) (pv 2) pe_int (fun _ _ => rfl)) pe_str (nomark _))
        (pss_cons (ps_expr (pe_bm PySem.F.plainAttrs_list PySem.F.slot_list_extend PySem.F.type_list_extend mt_extend (pv 1) (pa_cons (pe_call G_thing_words (hr.mono (by omega)) (by rfl) T.g_thing_words T.k_thing_words T.bd_thing_words .nil pass0 (pa_cons (pe_ix (kix_tup K) (pv 2) pe_int (fun _ _ => rfl)) pa_nil)) pa_nil)))
        (pss_one (ps_for (passes_of rfl) rfl (kpi_tup K (pe_slice (ksl_tup K) (pv 2) (po_some pe_int) po_none)) (pg_name (i := 4) sc_body_words.nd rfl (Or.inl rfl))
          (pss_one (ps_expr (pe_bm PySem.F.plainAttrs_list PySem.F.slot_list_extend PySem.F.type_list_extend mt_extend (pv 1) (pa_cons (pe_op op_cat (pe_op op_cat (pe_lst (pa_cons pe_str pa_nil)) (pe_call G_body_words (hr.mono (by omega)) (by rfl) T.g_body_words T.k_body_words T.bd_body_words .nil pass0 (pa_cons (pv 4) pa_nil))) (pe_lst (pa_cons pe_str pa_nil))) pa_nil)))))))
        (pss_one (ps_for (passes_of rfl) rfl (kpi_tup K (pe_slice (ksl_tup K) (pv 2) (po_some pe_int) po_none)) (pg_name (i := 3) sc_body_words.nd rfl (Or.inl rfl))
          (pss_one (ps_expr (pe_bm PySem.F.plainAttrs_list PySem.F.slot_list_extend PySem.F.type_list_extend mt_extend (pv 1) (pa_cons (pe_call G_thing_words (hr.mono (by omega)) (by rfl) T.g_thing_words T.k_thing_words T.bd_thing_words .nil pass0 (pa_cons (pv 3) pa_nil)) pa_nil))))))))))))
  (pss_one (ps_ret (pv 1))))), ?_⟩
  rename_i bv
  refine w_seq (w_asg (w_lst (w_nil ⟨Nat.zero_le _, fun fl hfl => ?_⟩)))
  have e1 : Ex H (upd H fl (.lst [])) := Ex.new hfl
  have hf1 : upd H fl (.lst []) fl = some (.lst (([] : List Str).map V.str)) := upd_same
  have tb : Td K (upd H fl (.lst [])) bv (.tuple (b.map encS)) := by
    rw [← encB_map]
    exact t1.ex e1
  dsimp only
  generalize upd H fl (.lst []) = H1 at *
  have hlen := wB_len hsh b w0 hok
  refine w_seq (w_forTv (K := K) b encS rfl tb (fun i σ' H' => ∃ u2 u3 u4 : Option V, σ' = [some bv, some (.ref fl), u2, u3, u4] ∧ Fr [fl] H1 H' ∧ H' fl = some (.lst ((wB (b.take i)).map V.str))) ?_ ?_ ?_ ?_)
  · exact ⟨_, _, _, rfl, Fr.refl, by simpa [wB] using hf1⟩
  · rintro i σ' H' ⟨u2, u3, u4, rfl, f, hx⟩
    refine f.keep fun a ha => ?_
    have : a = fl := by simpa using ha
    rw [this]
    exact ⟨_, hf1, True.intro⟩
  · rintro i x v σ' H2 hx tx ⟨u2, u3, u4, rfl, f2, h2⟩
    have hmem := List.mem_of_getElem? hx
    have hdx := dpB_mem hmem
    have hwx := okB_in hok hmem
    have hcx := cntB_in hmem
    have hpart := wB_part hx
    have kp : ∀ {H' : Hp} {d : PyData}, Fr [fl] H2 H' → Td K H2 v d → Td K H' v d := fun f t => t.kp (f.keep fun a ha => by
      have : a = fl := by simpa using ha
      rw [this]
      exact ⟨_, h2, True.intro⟩)
    have fin : ∀ {H3 : Hp} {u3 u4 : Option V}, Fr [fl] H2 H3 → H3 fl = some (.lst ((wB (b.take i) ++ wS x).map V.str)) → ∃ u2' u3' u4' : Option V, ([some bv, some (.ref fl), some v, u3, u4] : L2.St) = [some bv, some (.ref fl), u2', u3', u4'] ∧ Fr [fl] H1 H3 ∧ H3 fl = some (.lst ((wB (b.take (i + 1))).map V.str)) := fun f h => ⟨_, _, _, rfl, f2.trans f, by rw [wB_snoc hx]; exact h⟩
    dsimp only
    cases x with
    | set pt t =>
      unfold encS at tx
      simp only [okS, Bool.and_eq_true, decide_eq_true_eq] at hwx
      have g1 := okT_wf _ _ hwx.2.1
      have g2 := okT_wf _ _ hwx.2.2.2
      have hs := hsh.2 i0
      have ew : wS (.set pt t) = ("set" : Str) :: (wT pt ++ wT t) := by simp [wS]
      rw [ew] at hpart fin
      simp only [List.length_cons, List.length_append] at hpart
      refine w_seq (w_appW (K := K) rfl h2 (ed_ixT (i := 0) (ed_var rfl tx) ed_ci rfl) (by omega) fun H3 f3 h3 => ?_)
      have tx3 := kp f3 tx
      refine w_ifs (w_t (K := K) (b := false) (tk_is (tk_v (ed_eqS (ed_ixT (i := 0) (ed_var rfl tx3) ed_ci rfl) ed_cs (by simp) (by simp))) (by simp)) fun H4 e4 => ifF rfl ?_)
      have tx4 := tx3.ex e4
      refine w_ifs (w_t (K := K) (b := false) (tk_is (tk_v (ed_eqS (ed_ixT (i := 0) (ed_var rfl tx4) ed_ci rfl) ed_cs (by simp) (by simp))) (by simp)) fun H5 e5 => ifF rfl ?_)
      have tx5 := tx4.ex e5
      refine w_forW (K := K) (fl := fl) (ws := wB (b.take i) ++ [("set" : Str)]) [pt, t] encT wT (ed_is (ed_sl (lo := some ((1 : Nat) : Int)) (hi := none) (ed_var rfl tx5) (eok_some ed_ci) eok_none) (by rw [cutD_suf]; rfl)) ((e4.trans e5) _ _ h3) ⟨_, rfl⟩ (fun _ => rfl) (by simp; omega) (fun y v H' hy f tv => ew_call (eda_cons (ed_var rfl tv) eda_nil) ⟨y, shP sh i0, shO sh i0, rfl, ?_, hs.1, hs.2, ?_, ?_, rfl⟩) fun u H' f h => ?_
      · rcases (by simpa using hy : y = pt ∨ y = t) with e | e <;> rw [e]
        · exact g1.1
        · exact g2.1
      · rcases (by simpa using hy : y = pt ∨ y = t) with e | e <;> rw [e] <;> omega
      · rcases (by simpa using hy : y = pt ∨ y = t) with e | e <;> rw [e] <;> omega
      · exact fin ((f3.trans (Fr.of (e4.trans e5))).trans f) (by simpa using h)
    | say t =>
      unfold encS at tx
      simp only [okS, Bool.and_eq_true, decide_eq_true_eq] at hwx
      have g2 := okT_wf _ _ hwx.2
      have hs := hsh.2 i0
      have ew : wS (.say t) = ("say" : Str) :: wT t := by simp [wS]
      rw [ew] at hpart fin
      simp only [List.length_cons] at hpart
      refine w_seq (w_appW (K := K) rfl h2 (ed_ixT (i := 0) (ed_var rfl tx) ed_ci rfl) (by omega) fun H3 f3 h3 => ?_)
      have tx3 := kp f3 tx
      refine w_ifs (w_t (K := K) (b := false) (tk_is (tk_v (ed_eqS (ed_ixT (i := 0) (ed_var rfl tx3) ed_ci rfl) ed_cs (by simp) (by simp))) (by simp)) fun H4 e4 => ifF rfl ?_)
      have tx4 := tx3.ex e4
      refine w_ifs (w_t (K := K) (b := false) (tk_is (tk_v (ed_eqS (ed_ixT (i := 0) (ed_var rfl tx4) ed_ci rfl) ed_cs (by simp) (by simp))) (by simp)) fun H5 e5 => ifF rfl ?_)
      have tx5 := tx4.ex e5
      refine w_forW (K := K) (fl := fl) (ws := wB (b.take i) ++ [("say" : Str)]) [t] encT wT (ed_is (ed_sl (lo := some ((1 : Nat) : Int)) (hi := none) (ed_var rfl tx5) (eok_some ed_ci) eok_none) (by rw [cutD_suf]; rfl)) ((e4.trans e5) _ _ h3) ⟨_, rfl⟩ (fun _ => rfl) (by simp; omega) (fun y v H' hy f tv => ew_call (eda_cons (ed_var rfl tv) eda_nil) ⟨y, shP sh i0, shO sh i0, rfl, ?_, hs.1, hs.2, ?_, ?_, rfl⟩) fun u H' f h => ?_
      · rw [(by simpa using hy : y = t)]; exact g2.1
      · rw [(by simpa using hy : y = t)]; omega
      · rw [(by simpa using hy : y = t)]; omega
      · exact fin ((f3.trans (Fr.of (e4.trans e5))).trans f) (by simpa using h)
    | call c ts =>
      unfold encS at tx
      simp only [okS, Bool.and_eq_true, decide_eq_true_eq, List.all_eq_true] at hwx
      have hs := hsh.2 i0
      have hsl := hsh.1
      have ew : wS (.call c ts) = ("call" : Str) :: strN c :: (ts.flatMap wT ++ [("." : Str)]) := by simp [wS]
      rw [ew] at hpart fin
      simp only [List.length_cons, List.length_append, List.length_nil] at hpart
      refine w_seq (w_appW (K := K) rfl h2 (ed_ixT (i := 0) (ed_var rfl tx) ed_ci rfl) (by omega) fun H3 f3 h3 => ?_)
      have tx3 := kp f3 tx
      refine w_ifs (w_t (K := K) (b := true) (tk_is (tk_v (ed_eqS (ed_ixT (i := 0) (ed_var rfl tx3) ed_ci rfl) ed_cs (by simp) (by simp))) (by simp)) fun H4 e4 => ifT rfl ?_)
      have tx4 := tx3.ex e4
      refine w_seq (w_appW (K := K) rfl (e4 _ _ h3) (ed_strN (ed_ixT (i := 1) (ed_var rfl tx4) ed_ci rfl) (by omega)) (by simp only [List.length_append, List.length_cons, List.length_nil]; omega) fun H5 f5 h5 => ?_)
      have f35 := (f3.trans (Fr.of e4)).trans f5
      have tx5 := kp f35 tx
      refine w_seq (w_forW (K := K) (fl := fl) (ws := (wB (b.take i) ++ [("call" : Str)]) ++ [strN c]) ts encT wT (ed_ixT (i := 2) (ed_var rfl tx5) ed_ci rfl) h5 ⟨_, rfl⟩ (fun _ => rfl) (by simp only [List.length_append, List.length_cons, List.length_nil]; omega) (fun y v H' hy f tv => ew_call (eda_cons (ed_var rfl tv) eda_nil) ⟨y, shP sh i0, shO sh i0, rfl, (okT_wf _ _ (hwx.2.2.2.2 y hy)).1, hs.1, hs.2, ?_, ?_, rfl⟩) fun u H' f h => ?_)
      · have := (okT_wf _ _ (hwx.2.2.2.2 y hy)).2; omega
      · have := (okT_wf _ _ (hwx.2.2.2.2 y hy)).2; omega
      · dsimp only
        exact w_appW (K := K) rfl h ed_cs (by simp only [List.length_append, List.length_cons, List.length_nil]; omega) fun H7 f7 h7 => fin ((f35.trans f).trans f7) (by simpa using h7)
    | ite t a c =>
      unfold encS at tx
      simp only [okS, Bool.and_eq_true, decide_eq_true_eq] at hwx
      have g1 := okT_wf _ _ hwx.2.1
      have hs := hsh.2 i0
      have hda := bods_dp (s := .ite t a c) (b := a) (by simp [bods])
      have hdc := bods_dp (s := .ite t a c) (b := c) (by simp [bods])
      simp only [cntS] at hcx
      have hsp := hI (by omega)
      subst hsp
      have hla := wB_len hsh a (w0 + 1) hwx.2.2.1
      have hlc := wB_len hsh c (w0 + 1) hwx.2.2.2
      have ew : wS (.ite t a c) = ("if" : Str) :: (wT t ++ ((("(" : Str) :: (wB a ++ [(")" : Str)])) ++ (("(" : Str) :: (wB c ++ [(")" : Str)])))) := by simp [wS]
      rw [ew] at hpart fin
      simp only [List.length_cons, List.length_append, List.length_nil] at hpart
      refine w_seq (w_appW (K := K) rfl h2 (ed_ixT (i := 0) (ed_var rfl tx) ed_ci rfl) (by omega) fun H3 f3 h3 => ?_)
      have tx3 := kp f3 tx
      refine w_ifs (w_t (K := K) (b := false) (tk_is (tk_v (ed_eqS (ed_ixT (i := 0) (ed_var rfl tx3) ed_ci rfl) ed_cs (by simp) (by simp))) (by simp)) fun H4 e4 => ifF rfl ?_)
      have tx4 := tx3.ex e4
      refine w_ifs (w_t (K := K) (b := true) (tk_is (tk_v (ed_eqS (ed_ixT (i := 0) (ed_var rfl tx4) ed_ci rfl) ed_cs (by simp) (by simp))) (by simp)) fun H5 e5 => ifT rfl ?_)
      have tx5 := tx4.ex e5
      refine w_seq (w_extW (K := K) rfl ((e4.trans e5) _ _ h3) (ew_call (eda_cons (ed_ixT (i := 1) (ed_var rfl tx5) ed_ci rfl) eda_nil) ⟨t, shP sh i0, shO sh i0, rfl, g1.1, hs.1, hs.2, by omega, by omega, rfl⟩) (by simp; omega) fun H6 f6 h6 => ?_)
      have f36 := (f3.trans (Fr.of (e4.trans e5))).trans f6
      have tx6 := kp f36 tx
      refine w_forW (K := K) (fl := fl) (ws := (wB (b.take i) ++ [("if" : Str)]) ++ wT t) [a, c] (fun z => .tuple (encB z)) wIn (ed_is (ed_sl (lo := some ((2 : Nat) : Int)) (hi := none) (ed_var rfl tx6) (eok_some ed_ci) eok_none) (by rw [cutD_suf]; rfl)) h6 ⟨_, rfl⟩ (fun _ => rfl) (by simp [wIn]; omega) (fun y v H' hy f tv => ?_) fun u H' f h => ?_
      · have hy2 : okB sh i0 y (w0 + 1) = true ∧ dpB y ≤ n - 1 ∧ cntB y ≤ 100 ∧ (wB y).length ≤ 20000 := by
          rcases (by simpa using hy : y = a ∨ y = c) with e | e <;> rw [e]
          · exact ⟨hwx.2.2.1, by omega, by omega, by omega⟩
          · exact ⟨hwx.2.2.2, by omega, by omega, by omega⟩
        exact ew_is (ew_cat (ew_cat (ew_lst (ws := ["("]) (eda_cons ed_cs eda_nil) (by simp)) (ew_call (eda_cons (ed_var rfl tv) eda_nil) ⟨y, sh, i0, w0 + 1, rfl, hsh, hy2.1, hy2.2.1, hy2.2.2.1, rfl⟩) (by simp; omega)) (ew_lst (ws := [")"]) (eda_cons ed_cs eda_nil) (by simp)) (by simp; omega)) (by simp [wIn])
      · exact fin (f36.trans f) (by simpa [wIn] using h)
  · rintro σ' H2 ⟨u2, u3, u4, rfl, f2, h2⟩
    rw [List.take_length] at h2
    dsimp only
    exact w_ret (w_v rfl (k fl H2 hfl (ex_fr1 e1 hfl f2) h2))
theorem ok_bw (GT : Fn_thing_words T P w base CX0 5 (spWd K (pWT 4))) : ∀ n : Nat, Fn_body_words T P w base CX0 (n + 6) (spWd K (pWB n))
  | 0 => bw_step T (n := 0) (fun _ _ _ _ => False) (fun h => absurd h (Nat.lt_irrefl _)) GT (fn_vac fun _ _ _ _ h => h)
  | n + 1 => bw_step T (n := n + 1) (spWd K (pWB n)) (fun _ => rfl) GT (ok_bw GT n)
end
def spWr (K : PySem.W.Frag) : Sp := fun vs H Q _ => ∃ (pw : V) (p : List Wk), vs = [pw] ∧ Td K H pw (encP p) ∧ okP p = true ∧ smP p ∧ ∀ H', Ex H H' → Q (.str (txP p)) H'
section
variable {P : Program} {w : World} {K : PySem.W.Frag} {mg : Str → Option Value} {base : Heap} (T : Tx K mg)
include T
theorem ok_written (GP : Fn_need_program T P w base (L2.CX P w) 24 (spNP K)) (GB : Fn_body_words T P w base CX0 11 (spWd K (pWB 5))) : Fn_written T P w base (L2.CX P w) 25 (spWr K) := by
  have G_need_program := GP
  have G_body_words := GB
  refine T.F_written.ok sc_written (fun vs H Q E h => by obtain ⟨_, _, rfl, _⟩ := h; rfl) fun cdv A outer s0 H vs Q E hr h => ?_
  obtain ⟨pw, p, rfl, tp, hok, hsm, k⟩ := h
  have hl := okP_len hok
  refine ⟨_, (pss_cons (ps_expr (pe_call G_need_program (hr.mono (by omega)) (by rfl) T.g_need_program T.k_need_program T.bd_need_program .nil (passes_call (takes_of rfl rfl rfl rfl) (fun _ _ _ _ h => h)) (pa_cons (pv 0) pa_nil)))
  (pss_cons (ps_set (i := 1) sc_written.nd rfl (Or.inl rfl) (pe_lst pa_nil))
  (pss_cons (ps_for (passes_of rfl) rfl (kpi_tup K (pv 0)) (kpg_tup K rfl (pgs_cons (pg_name (i := 2) sc_written.nd rfl (Or.inl rfl)) (pgs_cons (pg_name (i := 3) sc_written.nd rfl (Or.inl rfl)) (pgs_cons (pg_name (i := 4) sc_written.nd rfl (Or.inl rfl)) pgs_nil))))
    (pss_one (ps_expr (pe_bm PySem.F.plainAttrs_list PySem.F.slot_list_append PySem.F.type_list_append mt_append (pv 1) (pa_cons (pe_join pe_str (pe_op op_cat (pe_lst (pa_cons (pe_callTy call_str_int rfl T.b_str (by decide +kernel) (pa_cons (pv 2) pa_nil)) (pa_cons (pe_callTy call_str_int rfl T.b_str (by decide +kernel) (pa_cons (pv 3) pa_nil)) pa_nil))) (pe_call G_body_words (hr.mono (by omega)) (by rfl) T.g_body_words T.k_body_words T.bd_body_words .nil pass0 (pa_cons (pv 4) pa_nil)))) pa_nil)))))
  (pss_one (ps_ret (pe_join pe_str (pv 1))))))), ?_⟩
  refine w_seq (w_drop (w_call (w_cons (w_v rfl (w_nil ⟨p, .cons tp .nil, hsm, fun _ H0 e0 => ?_, (fun e => by rw [hok] at e; cases e)⟩)))))
  refine w_seq (w_asg (w_lst (w_nil ⟨Nat.zero_le _, fun fl hfl => ?_⟩)))
  have e1 : Ex H (upd H0 fl (.lst [])) := e0.trans (Ex.new hfl)
  have hfl0 := fresh_back e0 hfl
  have hf1 : upd H0 fl (.lst []) fl = some (.lst (([] : List Str).map V.str)) := upd_same
  dsimp only
  generalize upd H0 fl (.lst []) = H1 at *
  have tp1 := tp.ex e1
  refine w_seq (w_forT3 (K := K) p (fun w => .int (w.params : Int)) (fun w => .int (w.owns : Int)) (fun w => .tuple (encB w.body)) rfl tp1 (fun i σ' H' => ∃ u2 u3 u4 : Option V, σ' = [some pw, some (.ref fl), u2, u3, u4] ∧ Fr [fl] H1 H' ∧ H' fl = some (.lst (((p.take i).map lnW).map V.str))) ?_ ?_ ?_ ?_)
  · exact ⟨_, _, _, rfl, Fr.refl, by simpa using hf1⟩
  · rintro i σ' H' ⟨u2, u3, u4, rfl, f, hx⟩
    refine f.keep fun a ha => ?_
    have : a = fl := by simpa using ha
    rw [this]
    exact ⟨_, hf1, True.intro⟩
  · rintro i w v1 v2 v3 σ' H2 hw t1 t2 t3 ⟨u2, u3, u4, rfl, f2, hx⟩
    cases t1
    cases t2
    dsimp only
    have hwb := okP_get hok hw
    have hsh := shOk_of hok
    have hlen := wB_len hsh w.body 0 hwb.2.2.1
    have hln := lnW_len hok hw
    refine w_appW (K := K) rfl hx (ed_join (ws := strN w.params :: strN w.owns :: wB w.body) ed_cs (ew_is (ew_cat (ew_lst (ws := [strN w.params, strN w.owns]) (eda_cons (ed_strN (ed_var rfl (.int _)) (by omega)) (eda_cons (ed_strN (ed_var rfl (.int _)) (by omega)) eda_nil)) (by simp)) (ew_call (eda_cons (ed_var rfl t3) eda_nil) ⟨w.body, shapes p, i, 0, rfl, hsh, hwb.2.2.1, by have := okB_dp _ _ hwb.2.2.1; omega, hwb.2.2.2, rfl⟩) (by simp; omega)) (by simp)) (by have := hln.2.1; omega)) (by rw [List.length_map, List.length_take]; omega) fun H3 f3 h3 => ⟨_, _, _, rfl, f2.trans f3, ?_⟩
    rw [h3, take_snoc hw, List.map_append (f := lnW)]
    rfl
  · rintro σ' H2 ⟨u2, u3, u4, rfl, f2, hx⟩
    rw [List.take_length] at hx
    dsimp only
    refine w_ret (w_d (K := K) (ed_joinV ed_cs rfl hx ?_) fun v H3 e3 tv => ?_)
    · have e1 : ("\n" : Str).length = 1 := by decide +kernel
      rw [e1, List.length_map]
      have : ((p.map lnW).map (·.length)).sum ≤ 100000 * p.length := by
        have := sum_le (m := 100000) (ws := p.map lnW) fun z hz => ?_
        · rw [List.length_map] at this; exact this
        obtain ⟨w, hw, rfl⟩ := List.mem_map.mp hz
        obtain ⟨i, hi⟩ := List.mem_iff_getElem?.mp hw
        exact (lnW_len hok hi).1
      omega
    · cases tv
      exact k H3 ((ex_fr1 e1 hfl0 f2).trans e3)
end
end Hw

set_option maxRecDepth 100000
set_option maxHeartbeats 4000000
/-! LI1: the law's own look, in plain Lean, over any data -/
namespace Hw
open PySem PySem.Spec PyProof.Rows L2 Evl
def isStrD (s : Str) : PyData → Bool
  | .str z => decide (s = z)
  | _ => false
theorem eqv_strL (s : Str) (d : PyData) : PyData.eqv (.str s) d = isStrD s d := by
  cases d <;> simp [PyData.eqv, isStrD]
  rename_i z
  by_cases h : s = z <;> simp [h]
theorem eqv_strR (s : Str) (d : PyData) : PyData.eqv d (.str s) = isStrD s d := by
  cases d <;> simp [PyData.eqv, isStrD]
  rename_i z
  by_cases h : s = z
  · simp [h]
  · have : ¬ z = s := fun e => h e.symm
    simp [h, this]
@[simp] theorem sd_num_num : isStrD "num" (.str "num") = true := by simp only [isStrD]; decide +kernel
@[simp] theorem sd_num_own : isStrD "num" (.str "own") = false := by simp only [isStrD]; decide +kernel
@[simp] theorem sd_num_par : isStrD "num" (.str "par") = false := by simp only [isStrD]; decide +kernel
@[simp] theorem sd_num_cell : isStrD "num" (.str "cell") = false := by simp only [isStrD]; decide +kernel
@[simp] theorem sd_num_sum : isStrD "num" (.str "sum") = false := by simp only [isStrD]; decide +kernel
@[simp] theorem sd_own_num : isStrD "own" (.str "num") = false := by simp only [isStrD]; decide +kernel
@[simp] theorem sd_own_own : isStrD "own" (.str "own") = true := by simp only [isStrD]; decide +kernel
@[simp] theorem sd_own_par : isStrD "own" (.str "par") = false := by simp only [isStrD]; decide +kernel
@[simp] theorem sd_own_cell : isStrD "own" (.str "cell") = false := by simp only [isStrD]; decide +kernel
@[simp] theorem sd_own_sum : isStrD "own" (.str "sum") = false := by simp only [isStrD]; decide +kernel
@[simp] theorem sd_par_num : isStrD "par" (.str "num") = false := by simp only [isStrD]; decide +kernel
@[simp] theorem sd_par_own : isStrD "par" (.str "own") = false := by simp only [isStrD]; decide +kernel
@[simp] theorem sd_par_par : isStrD "par" (.str "par") = true := by simp only [isStrD]; decide +kernel
@[simp] theorem sd_par_cell : isStrD "par" (.str "cell") = false := by simp only [isStrD]; decide +kernel
@[simp] theorem sd_par_sum : isStrD "par" (.str "sum") = false := by simp only [isStrD]; decide +kernel
@[simp] theorem sd_cell_num : isStrD "cell" (.str "num") = false := by simp only [isStrD]; decide +kernel
@[simp] theorem sd_cell_own : isStrD "cell" (.str "own") = false := by simp only [isStrD]; decide +kernel
@[simp] theorem sd_cell_par : isStrD "cell" (.str "par") = false := by simp only [isStrD]; decide +kernel
@[simp] theorem sd_cell_cell : isStrD "cell" (.str "cell") = true := by simp only [isStrD]; decide +kernel
@[simp] theorem sd_cell_sum : isStrD "cell" (.str "sum") = false := by simp only [isStrD]; decide +kernel
@[simp] theorem sd_sum_num : isStrD "sum" (.str "num") = false := by simp only [isStrD]; decide +kernel
@[simp] theorem sd_sum_own : isStrD "sum" (.str "own") = false := by simp only [isStrD]; decide +kernel
@[simp] theorem sd_sum_par : isStrD "sum" (.str "par") = false := by simp only [isStrD]; decide +kernel
@[simp] theorem sd_sum_cell : isStrD "sum" (.str "cell") = false := by simp only [isStrD]; decide +kernel
@[simp] theorem sd_sum_sum : isStrD "sum" (.str "sum") = true := by simp only [isStrD]; decide +kernel
@[simp] theorem sd_set_set : isStrD "set" (.str "set") = true := by simp only [isStrD]; decide +kernel
@[simp] theorem sd_set_say : isStrD "set" (.str "say") = false := by simp only [isStrD]; decide +kernel
@[simp] theorem sd_set_if : isStrD "set" (.str "if") = false := by simp only [isStrD]; decide +kernel
@[simp] theorem sd_set_call : isStrD "set" (.str "call") = false := by simp only [isStrD]; decide +kernel
@[simp] theorem sd_say_set : isStrD "say" (.str "set") = false := by simp only [isStrD]; decide +kernel
@[simp] theorem sd_say_say : isStrD "say" (.str "say") = true := by simp only [isStrD]; decide +kernel
@[simp] theorem sd_say_if : isStrD "say" (.str "if") = false := by simp only [isStrD]; decide +kernel
@[simp] theorem sd_say_call : isStrD "say" (.str "call") = false := by simp only [isStrD]; decide +kernel
@[simp] theorem sd_if_set : isStrD "if" (.str "set") = false := by simp only [isStrD]; decide +kernel
@[simp] theorem sd_if_say : isStrD "if" (.str "say") = false := by simp only [isStrD]; decide +kernel
@[simp] theorem sd_if_if : isStrD "if" (.str "if") = true := by simp only [isStrD]; decide +kernel
@[simp] theorem sd_if_call : isStrD "if" (.str "call") = false := by simp only [isStrD]; decide +kernel
@[simp] theorem sd_call_set : isStrD "call" (.str "set") = false := by simp only [isStrD]; decide +kernel
@[simp] theorem sd_call_say : isStrD "call" (.str "say") = false := by simp only [isStrD]; decide +kernel
@[simp] theorem sd_call_if : isStrD "call" (.str "if") = false := by simp only [isStrD]; decide +kernel
@[simp] theorem sd_call_call : isStrD "call" (.str "call") = true := by simp only [isStrD]; decide +kernel
theorem isStrD_iff {s : Str} {d : PyData} : isStrD s d = true ↔ d = .str s := by
  cases d <;> simp [isStrD]
  rename_i z
  exact eq_comm
def isTupL : PyData → Bool
  | .tuple _ => true
  | _ => false
theorem isTupL_kit {K : PySem.W.Frag} {H : Hp} {v : V} {d : PyData} (t : Td K H v d) : kitB (tyD d) "tuple" = some (isTupL d) := by
  cases t <;> first | rfl | decide +kernel
/-- a thing, in so many more -/
def isThD (ps os : Nat) : Nat → PyData → Bool
  | n + 1, .tuple [h, a] => (isStrD "cell" h && isThD ps os n a) || ((isStrD "num" h && isNumD a 3) || ((isStrD "par" h && isNumD a (ps : Int)) || (isStrD "own" h && isNumD a (os : Int))))
  | n + 1, .tuple [h, a, b] => isStrD "sum" h && (isThD ps os n a && isThD ps os n b)
  | _, _ => false
def isPlD : PyData → Bool
  | .tuple (h :: _) => isStrD "cell" h || (isStrD "own" h || isStrD "par" h)
  | _ => false
def bdAll (f : PyData → Bool) : PyData → Bool
  | .tuple xs => xs.all f
  | _ => false
def callD (sh : List (Nat × Nat)) (at_ : Nat) (a b : PyData) : Bool := match a, b with
  | .int i, .tuple ts => decide (0 ≤ i) && (decide (i < (sh.length : Int)) && (decide ((at_ : Int) < i) && (decide (ts.length = shP sh i.toNat) && ts.all (isThD (shP sh at_) (shO sh at_) 5))))
  | _, _ => false
/-- a step, in so many more -/
def isStD (sh : List (Nat × Nat)) (at_ : Nat) : Nat → PyData → Bool
  | _ + 1, .tuple [h, a] => isStrD "say" h && isThD (shP sh at_) (shO sh at_) 5 a
  | _ + 1, .tuple [h, a, b] => (isStrD "set" h && (isPlD a && (isThD (shP sh at_) (shO sh at_) 5 a && isThD (shP sh at_) (shO sh at_) 5 b))) || (isStrD "call" h && callD sh at_ a b)
  | n + 1, .tuple [h, a, b, c] => isStrD "if" h && (isThD (shP sh at_) (shO sh at_) 5 a && (bdAll (isStD sh at_ n) b && bdAll (isStD sh at_ n) c))
  | _, _ => false
/-! what is typed -/
theorem isNumD_nat {k b : Nat} : isNumD (.int (k : Int)) (b : Int) = decide (k < b) := by
  simp [isNumD]
theorem isNumD_inv {d : PyData} {b : Int} (h : isNumD d b = true) : ∃ k : Nat, d = .int (k : Int) ∧ (k : Int) < b := by
  cases d <;> simp [isNumD] at h
  rename_i i
  exact ⟨i.toNat, by rw [Int.toNat_of_nonneg h.1], by omega⟩
theorem isThD_enc {ps os : Nat} : ∀ (t : Th) (n w : Nat), n + w = 5 → isThD ps os n (encT t) = okT ps os t w
  | t, 0, w, h => by
    have : w = 5 := by omega
    subst this
    cases t <;> simp [isThD, okT]
  | .num k, n + 1, w, h => by
    have e := isNumD_nat (k := k) (b := 3)
    have : w ≤ 4 := by omega
    have e2 : isNumD (.int (k : Int)) 3 = decide (k < 3) := e
    simp [isThD, encT, okT, isStrD, e2, this, (by decide +kernel : ¬ ("cell" : Str) = "num"), (by decide +kernel : ¬ ("par" : Str) = "num"), (by decide +kernel : ¬ ("own" : Str) = "num")]
  | .own k, n + 1, w, h => by
    have : w ≤ 4 := by omega
    simp [isThD, encT, okT, isStrD, isNumD_nat, this, (by decide +kernel : ¬ ("cell" : Str) = "own"), (by decide +kernel : ¬ ("par" : Str) = "own"), (by decide +kernel : ¬ ("num" : Str) = "own")]
  | .par k, n + 1, w, h => by
    have : w ≤ 4 := by omega
    simp [isThD, encT, okT, isStrD, isNumD_nat, this, (by decide +kernel : ¬ ("cell" : Str) = "par"), (by decide +kernel : ¬ ("own" : Str) = "par"), (by decide +kernel : ¬ ("num" : Str) = "par")]
  | .cell t, n + 1, w, h => by
    have : w ≤ 4 := by omega
    have ih := isThD_enc (ps := ps) (os := os) t n (w + 1) (by omega)
    simp [isThD, encT, okT, isStrD, ih, this, (by decide +kernel : ¬ ("par" : Str) = "cell"), (by decide +kernel : ¬ ("own" : Str) = "cell"), (by decide +kernel : ¬ ("num" : Str) = "cell")]
  | .sum a b, n + 1, w, h => by
    have : w ≤ 4 := by omega
    have ih := isThD_enc (ps := ps) (os := os) a n (w + 1) (by omega)
    have ih2 := isThD_enc (ps := ps) (os := os) b n (w + 1) (by omega)
    simp [isThD, encT, okT, isStrD, ih, ih2, this]
theorem tup_cases (d : PyData) : (∃ h a, d = .tuple [h, a]) ∨ (∃ h a b, d = .tuple [h, a, b]) ∨ (∃ h a b c, d = .tuple [h, a, b, c]) ∨ ((∀ (ps os n : Nat), isThD ps os n d = false) ∧ ∀ (sh : List (Nat × Nat)) (i n : Nat), isStD sh i n d = false) := by
  cases d with
  | tuple ds =>
    match ds with
    | [] => exact .inr (.inr (.inr ⟨fun _ _ n => by cases n <;> simp [isThD], fun _ _ n => by cases n <;> simp [isStD]⟩))
    | [_] => exact .inr (.inr (.inr ⟨fun _ _ n => by cases n <;> simp [isThD], fun _ _ n => by cases n <;> simp [isStD]⟩))
    | [h, a] => exact .inl ⟨h, a, rfl⟩
    | [h, a, b] => exact .inr (.inl ⟨h, a, b, rfl⟩)
    | [h, a, b, c] => exact .inr (.inr (.inl ⟨h, a, b, c, rfl⟩))
    | _ :: _ :: _ :: _ :: _ :: _ => exact .inr (.inr (.inr ⟨fun _ _ n => by cases n <;> simp [isThD], fun _ _ n => by cases n <;> simp [isStD]⟩))
  | _ => exact .inr (.inr (.inr ⟨fun _ _ n => by cases n <;> simp [isThD], fun _ _ n => by cases n <;> simp [isStD]⟩))
theorem isThD_inv {ps os : Nat} : ∀ (n : Nat) (d : PyData), isThD ps os n d = true → ∃ t : Th, d = encT t
  | 0, d, h => by simp [isThD] at h
  | n + 1, d, h => by
    rcases tup_cases d with ⟨hh, a, rfl⟩ | ⟨hh, a, b, rfl⟩ | ⟨hh, a, b, c, rfl⟩ | ⟨hn, _⟩
    · simp only [isThD, Bool.or_eq_true, Bool.and_eq_true] at h
      rcases h with ⟨h1, h2⟩ | ⟨h1, h2⟩ | ⟨h1, h2⟩ | ⟨h1, h2⟩
      · obtain ⟨t, rfl⟩ := isThD_inv n _ h2
        rw [isStrD_iff.mp h1]
        exact ⟨.cell t, rfl⟩
      · obtain ⟨k, rfl, _⟩ := isNumD_inv h2
        rw [isStrD_iff.mp h1]
        exact ⟨.num k, rfl⟩
      · obtain ⟨k, rfl, _⟩ := isNumD_inv h2
        rw [isStrD_iff.mp h1]
        exact ⟨.par k, rfl⟩
      · obtain ⟨k, rfl, _⟩ := isNumD_inv h2
        rw [isStrD_iff.mp h1]
        exact ⟨.own k, rfl⟩
    · simp only [isThD, Bool.and_eq_true] at h
      obtain ⟨h1, h2, h3⟩ := h
      obtain ⟨t, rfl⟩ := isThD_inv n _ h2
      obtain ⟨u, rfl⟩ := isThD_inv n _ h3
      rw [isStrD_iff.mp h1]
      exact ⟨.sum t u, rfl⟩
    · simp [isThD] at h
    · rw [hn] at h
      cases h
theorem isPlD_enc (t : Th) : isPlD (encT t) = isPlace t := by
  cases t <;> simp only [isPlD, encT, isPlace, isStrD] <;> decide +kernel
theorem ths_enc {ps os n w : Nat} (h : n + w = 5) : ∀ ts : List Th, (ts.map encT).all (isThD ps os n) = ts.all fun t => okT ps os t w
  | [] => rfl
  | t :: r => by simp only [List.map_cons, List.all_cons, isThD_enc t n w h, ths_enc h r]
theorem ths_inv {ps os n : Nat} : ∀ ds : List PyData, ds.all (isThD ps os n) = true → ∃ ts : List Th, ds = ts.map encT
  | [], _ => ⟨[], rfl⟩
  | d :: r, h => by
    simp only [List.all_cons, Bool.and_eq_true] at h
    obtain ⟨t, rfl⟩ := isThD_inv _ _ h.1
    obtain ⟨ts, rfl⟩ := ths_inv r h.2
    exact ⟨t :: ts, rfl⟩
theorem callD_enc {sh : List (Nat × Nat)} {at_ : Nat} (c : Nat) (ts : List Th) : callD sh at_ (.int (c : Int)) (.tuple (ts.map encT)) = (decide (c < sh.length) && (decide (at_ < c) && (decide (ts.length = shP sh c) && ts.all fun t => okT (shP sh at_) (shO sh at_) t 0))) := by
  simp only [callD, ths_enc (n := 5) (w := 0) rfl, List.length_map, Int.toNat_natCast]
  simp
theorem w_ne {a b : Str} (h : a ≠ b) : isStrD a (.str b) = false := by simp [isStrD, h]
theorem w_eq {a : Str} : isStrD a (.str a) = true := by simp [isStrD]
mutual
theorem isStD_enc {sh : List (Nat × Nat)} {at_ : Nat} : ∀ (s : Stm) (n w : Nat), n + w = 5 → isStD sh at_ n (encS s) = okS sh at_ s w
  | s, 0, w, h => by
    have : w = 5 := by omega
    subst this
    cases s <;> simp [isStD, okS]
  | .say t, n + 1, w, h => by
    have : w ≤ 4 := by omega
    simp [isStD, encS, okS, w_eq, isThD_enc t 5 0 rfl, this]
  | .set p t, n + 1, w, h => by
    have h4 : w ≤ 4 := by omega
    have e : isStrD "call" (.str "set") = false := w_ne (by decide +kernel)
    simp only [isStD, encS, okS, w_eq, e, isThD_enc p 5 0 rfl, isThD_enc t 5 0 rfl, isPlD_enc, h4, decide_true, Bool.true_and, Bool.false_and, Bool.or_false]
    cases isPlace p <;> simp
  | .call c ts, n + 1, w, h => by
    have h4 : w ≤ 4 := by omega
    have e : isStrD "set" (.str "call") = false := w_ne (by decide +kernel)
    simp only [isStD, encS, okS, w_eq, e, callD_enc, h4, decide_true, Bool.true_and, Bool.false_and, Bool.false_or]
  | .ite t a b, n + 1, w, h => by
    have h4 : w ≤ 4 := by omega
    simp only [isStD, encS, okS, w_eq, bdAll, isThD_enc t 5 0 rfl, isBdD_enc a n (w + 1) (by omega), isBdD_enc b n (w + 1) (by omega), h4, decide_true, Bool.true_and]
theorem isBdD_enc {sh : List (Nat × Nat)} {at_ : Nat} : ∀ (b : List Stm) (n w : Nat), n + w = 5 → (encB b).all (isStD sh at_ n) = okB sh at_ b w
  | [], n, w, h => by simp [encB, okB]
  | s :: r, n, w, h => by simp only [encB, okB, List.all_cons, isStD_enc s n w h, isBdD_enc r n w h]
end
theorem isStD_inv {sh : List (Nat × Nat)} {at_ : Nat} : ∀ (n : Nat) (d : PyData), isStD sh at_ n d = true → ∃ s : Stm, d = encS s
  | 0, d, h => by simp [isStD] at h
  | n + 1, d, h => by
    have bd : ∀ x : PyData, bdAll (isStD sh at_ n) x = true → ∃ b : List Stm, x = .tuple (encB b) := fun x hx => by
      cases x <;> simp only [bdAll] at hx <;> try (cases hx; done)
      rename_i xs
      suffices ∀ xs : List PyData, xs.all (isStD sh at_ n) = true → ∃ b, xs = encB b by
        obtain ⟨b, rfl⟩ := this xs hx
        exact ⟨b, rfl⟩
      intro xs
      induction xs with
      | nil => exact fun _ => ⟨[], rfl⟩
      | cons y r ih =>
        intro hx
        simp only [List.all_cons, Bool.and_eq_true] at hx
        obtain ⟨s, rfl⟩ := isStD_inv n y hx.1
        obtain ⟨b, rfl⟩ := ih hx.2
        exact ⟨s :: b, rfl⟩
    rcases tup_cases d with ⟨hh, a, rfl⟩ | ⟨hh, a, b, rfl⟩ | ⟨hh, a, b, c, rfl⟩ | ⟨_, hn⟩
    · simp only [isStD, Bool.and_eq_true] at h
      obtain ⟨t, rfl⟩ := isThD_inv _ _ h.2
      rw [isStrD_iff.mp h.1]
      exact ⟨.say t, rfl⟩
    · simp only [isStD, Bool.or_eq_true, Bool.and_eq_true] at h
      rcases h with ⟨h1, _, h2, h3⟩ | ⟨h1, h2⟩
      · obtain ⟨t, rfl⟩ := isThD_inv _ _ h2
        obtain ⟨u, rfl⟩ := isThD_inv _ _ h3
        rw [isStrD_iff.mp h1]
        exact ⟨.set t u, rfl⟩
      · rw [isStrD_iff.mp h1]
        unfold callD at h2
        split at h2
        · rename_i i ts
          simp only [Bool.and_eq_true, decide_eq_true_eq] at h2
          obtain ⟨g1, _, _, _, g2⟩ := h2
          obtain ⟨us, rfl⟩ := ths_inv _ g2
          refine ⟨.call i.toNat us, ?_⟩
          simp only [encS, Int.toNat_of_nonneg g1]
        · cases h2
    · simp only [isStD, Bool.and_eq_true] at h
      obtain ⟨h1, h2, h3, h4⟩ := h
      obtain ⟨t, rfl⟩ := isThD_inv _ _ h2
      obtain ⟨a, rfl⟩ := bd _ h3
      obtain ⟨b, rfl⟩ := bd _ h4
      rw [isStrD_iff.mp h1]
      exact ⟨.ite t a b, by simp only [encS]⟩
    · rw [hn] at h
      cases h
theorem isBdD_inv {sh : List (Nat × Nat)} {at_ n : Nat} {d : PyData} (h : bdAll (isStD sh at_ n) d = true) : ∃ b : List Stm, d = .tuple (encB b) := by
  cases d <;> simp only [bdAll] at h <;> try (cases h; done)
  rename_i xs
  suffices ∀ xs : List PyData, xs.all (isStD sh at_ n) = true → ∃ b, xs = encB b by
    obtain ⟨b, rfl⟩ := this xs h
    exact ⟨b, rfl⟩
  intro xs
  induction xs with
  | nil => exact fun _ => ⟨[], rfl⟩
  | cons y r ih =>
    intro hx
    simp only [List.all_cons, Bool.and_eq_true] at hx
    obtain ⟨s, rfl⟩ := isStD_inv n y hx.1
    obtain ⟨b, rfl⟩ := ih hx.2
    exact ⟨s :: b, rfl⟩
/-! lists within are not long -/
mutual
def smD : PyData → Bool
  | .tuple ds => decide (ds.length ≤ 20000) && smDs ds
  | _ => true
def smDs : List PyData → Bool
  | [] => true
  | d :: r => smD d && smDs r
end
theorem smDs_mem : ∀ {ds : List PyData} {d : PyData}, smDs ds = true → d ∈ ds → smD d = true
  | x :: r, d, h, hm => by
    simp only [smDs, Bool.and_eq_true] at h
    rcases List.mem_cons.mp hm with e | hm
    · rw [e]; exact h.1
    · exact smDs_mem h.2 hm
theorem smDs_of : ∀ {ds : List PyData}, (∀ d ∈ ds, smD d = true) → smDs ds = true
  | [], _ => rfl
  | x :: r, h => by
    simp only [smDs, Bool.and_eq_true]
    exact ⟨h x List.mem_cons_self, smDs_of fun d hd => h d (List.mem_cons_of_mem _ hd)⟩
theorem smD_T : ∀ t : Th, smD (encT t) = true
  | .num _ => by simp [encT, smD, smDs]
  | .own _ => by simp [encT, smD, smDs]
  | .par _ => by simp [encT, smD, smDs]
  | .cell t => by simp [encT, smD, smDs, smD_T t]
  | .sum a b => by simp [encT, smD, smDs, smD_T a, smD_T b]
mutual
theorem smD_S : ∀ s : Stm, smS s = true → smD (encS s) = true
  | .set p t, _ => by simp [encS, smD, smDs, smD_T]
  | .say t, _ => by simp [encS, smD, smDs, smD_T]
  | .call c ts, h => by
    simp only [smS, decide_eq_true_eq] at h
    have : smDs (ts.map encT) = true := smDs_of fun d hd => by
      obtain ⟨t, _, rfl⟩ := List.mem_map.mp hd
      exact smD_T t
    simp [encS, smD, smDs, this, h]
  | .ite t a b, h => by
    simp only [smS, Bool.and_eq_true, decide_eq_true_eq] at h
    have h1 := smD_B a h.2.1
    have h2 := smD_B b h.2.2
    simp [encS, smD, smDs, smD_T, h1, h2, encB_length, h.1.1, h.1.2]
theorem smD_B : ∀ b : List Stm, smB b = true → smDs (encB b) = true
  | [], _ => by simp [encB, smDs]
  | s :: r, h => by
    simp only [smB, Bool.and_eq_true] at h
    simp [encB, smDs, smD_S s h.1, smD_B r h.2]
end
end Hw

set_option maxRecDepth 100000
set_option maxHeartbeats 4000000
/-! LI2: the law's own look at things -/
namespace Hw
open PySem PySem.Spec PyProof.Rows L2 Evl
local macro_rules | `(tactic| walk_at "dd") => `(tactic| first | rfl | decide | (simp; done) | omega)
local macro_rules | `(tactic| walk_at "td") => `(tactic| first | assumption | exact Td.int _ | exact Td.bl _ | exact Td.str _ | exact Td.non | exact Td.tup (by assumption) (by assumption))
local macro_rules | `(tactic| walk_at "ev") => `(tactic| first
  | exact ed_ci | exact ed_cs | exact ed_cb | exact ed_cn
  | (apply ed_cg; assumption)
  | (apply ed_var; (rfl); (walk_at "td"))
  | (apply ed_ixT; (walk_at "ev"); (walk_at "ev"); (first | rfl | assumption))
  | (apply ed_rowI; (rfl); (assumption); (walk_at "ev"); (rfl))
  | (apply ed_ixL; (apply EvDL.rd; walk_at "edl"); (walk_at "ev"); (rfl))
  | (apply ed_intb; (walk_at "ev"))
  | (apply ed_len; walk_at "ev")
  | (apply ed_lenV; (apply ev_rowR; (rfl); (assumption); (walk_at "ev"); (rfl)); (assumption))
  | (apply ed_Ii; (walk_at "ev"); (walk_at "ev"); (walk_at "cc"))
  | (apply ed_isi; (walk_at "ev"); (rfl))
  | (apply ed_I0i; (walk_at "ev"); (walk_at "ev"))
  | (apply ed_I0b; (walk_at "ev"); (walk_at "ev"))
  | (apply ed_eqi; (walk_at "ev"); (walk_at "ev"))
  | (apply ed_nei; (walk_at "ev"); (walk_at "ev"))
  | (apply ed_andF; walk_at "ev")
  | (apply ed_andV; (walk_at "ev"); (intro _; walk_at "ev"))
  | (apply ed_orT; walk_at "ev")
  | (apply ed_orV; (walk_at "ev"); (intro _; walk_at "ev"))
  | (apply ed_notT; walk_at "ev")
  | (apply ed_notF; walk_at "ev")
  | (apply ed_notV; walk_at "ev")
  | (apply ed_chain; (walk_at "ev"); (walk_at "ev"); (intro _; walk_at "ev"))
  | (apply ed_eqS; (walk_at "ev"); (walk_at "ev"); (walk_at "bb"); (walk_at "bb"))
  | (apply ed_neS; (walk_at "ev"); (walk_at "ev"); (walk_at "bb"); (walk_at "bb"))
  | (apply ed_inT; (walk_at "ev"); (walk_at "ev"); (rfl); (rfl))
  | (apply ed_niT; (walk_at "ev"); (walk_at "ev"); (rfl); (rfl))
  | (apply ed_tup; (walk_at "eva"); (walk_at "bb"))
  | (apply ed_sl; (walk_at "ev"); (walk_at "evo"); (walk_at "evo"))
  | (apply ed_eqN; (apply EvDL.rd; walk_at "edl"); (walk_at "edl"); (walk_at "bb"))
  | (apply ed_neN; (apply EvDL.rd; walk_at "edl"); (walk_at "edl"); (walk_at "bb"))
  | (apply ed_ixL; (apply edr_var; (rfl); (assumption); (assumption)); (walk_at "ev"); (first | rfl | assumption))
  | (apply ed_lenL; (apply edr_var; (rfl); (assumption); (assumption)))
  | (apply ed_call; (walk_at "eva"); (walk_at "post")))
local macro_rules | `(tactic| walk_at "edl") => `(tactic| first
  | assumption
  | (apply edl_lst; (walk_at "eva"); (walk_at "bb")))
local macro_rules | `(tactic| walk_at "eva") => `(tactic| first
  | exact eda_nil
  | (apply eda_cons; (walk_at "ev"); (walk_at "eva")))
local macro_rules | `(tactic| walk_at "evo") => `(tactic| first
  | exact eok_none
  | (apply eok_some; walk_at "ev"))
local macro_rules | `(tactic| walk_at "bb") => `(tactic| first | rfl | assumption | (simp; done) | (simp; omega) | decide +kernel)
local macro_rules | `(tactic| walk_at "et") => `(tactic| first
  | exact tk_yes
  | (apply tk_andF; walk_at "et")
  | (apply tk_and; (walk_at "et"); (intro _; walk_at "et"))
  | (apply tk_orT; walk_at "et")
  | (apply tk_or; (walk_at "et"); (intro _; walk_at "et"))
  | (apply tk_notT; walk_at "et")
  | (apply tk_notF; walk_at "et")
  | (apply tk_not; walk_at "et")
  | (apply tk_v; walk_at "ev")
  | (apply tk_vB; walk_at "ev"))
local macro_rules | `(tactic| walk_at "if") => `(tactic| first
  | (apply pst_whenF; (walk_at "et"); (walk_at "bb"))
  | (apply pst_whenT; (walk_at "et"); (walk_at "bb")))
local macro_rules | `(tactic| walk_at "post") => `(tactic| first | assumption | exact ⟨_, _, rfl, rfl⟩ | exact ⟨_, _, _, _, rfl, by omega, by omega, rfl⟩ | exact ⟨_, _, _, 0, rfl, by omega, by omega, rfl⟩)
local macro_rules | `(tactic| walk_at "cc") => `(tactic| first | assumption | decide | omega | (refine ⟨?_, ?_⟩ <;> first | decide | omega) | (exact Or.inl (by constructor <;> omega)))

/-! in, over a tuple of texts, of any data -/
def rInTD (K : PySem.W.Frag) : R2 := fun x y H Q => ∃ d ds, Dp K H x d ∧ Dp K H y (.tuple ds) ∧ d.canLay0 = true ∧ PyData.canLayAll0 ds = true ∧ PyData.depthAll ds ≤ 64 ∧ Q (.bl (ds.any fun z => PyData.eqv z d)) H
def rNiTD (K : PySem.W.Frag) : R2 := fun x y H Q => ∃ d ds, Dp K H x d ∧ Dp K H y (.tuple ds) ∧ d.canLay0 = true ∧ PyData.canLayAll0 ds = true ∧ PyData.depthAll ds ≤ 64 ∧ Q (.bl (!ds.any fun z => PyData.eqv z d)) H
section
variable {X : Cx} {K : PySem.W.Frag}
theorem op_inTD (hu : X.A.units + 65 < cLine) : OpR X (compareOp .In) (rInTD X.K) := by
  intro pins s σ H x y v u Q I rx ry h
  obtain ⟨d, ds, hd, he, sd, se, sm, q⟩ := h
  obtain ⟨as, r1⟩ := Dp.reads I d x v hd rx
  obtain ⟨bs, r2⟩ := Dp.reads I (.tuple ds) y u he ry
  exact SeqAt.in_tuple_reads r2 r1 se sd (by have := Nat.min_le_left (PyData.depthAll ds) d.depth; omega) ⟨.bl _, H, I, rfl, q⟩
theorem op_niTD (hu : X.A.units + 65 < cLine) : OpR X (compareOp .NotIn) (rNiTD X.K) := by
  intro pins s σ H x y v u Q I rx ry h
  obtain ⟨d, ds, hd, he, sd, se, sm, q⟩ := h
  obtain ⟨as, r1⟩ := Dp.reads I d x v hd rx
  obtain ⟨bs, r2⟩ := Dp.reads I (.tuple ds) y u he ry
  exact SeqAt.notIn_tuple_reads r2 r1 se sd (by have := Nat.min_le_left (PyData.depthAll ds) d.depth; omega) ⟨.bl _, H, I, rfl, q⟩
variable (K)
theorem kop_inTD (hu : X.A.units + 65 < cLine) (h : X.K = K := by rfl) : OpR X (compareOp .In) (rInTD K) := by subst h; exact op_inTD hu
theorem kop_niTD (hu : X.A.units + 65 < cLine) (h : X.K = K := by rfl) : OpR X (compareOp .NotIn) (rNiTD K) := by subst h; exact op_niTD hu
end
def strsD (zs : List Str) : List PyData := zs.map PyData.str
theorem strsD_depth : ∀ zs : List Str, PyData.depthAll (strsD zs) = 0
  | [] => rfl
  | z :: r => by
    have := strsD_depth r
    simp only [strsD, List.map_cons, PyData.depthAll, PyData.depth] at this ⊢
    omega
theorem any_strs (d : PyData) : ∀ zs : List Str, ((strsD zs).any fun z => PyData.eqv z d) = zs.any fun z => isStrD z d
  | [] => rfl
  | z :: r => by
    have := any_strs d r
    simp only [strsD, List.map_cons, List.any_cons, eqv_strL] at this ⊢
    rw [this]
section
variable {K : PySem.W.Frag} {σ : L2.St} {H H' : Hp} {ta tb te : TE} {tr : TA} {d : PyData} {a b : Bool}
theorem eda_strs {zs : List Str} (h : EvDA K tr σ H (strsD zs)) : EvDA K tr σ H (strsD zs) := h
theorem ed_inTD (zs : List Str) (ha : EvD K ta σ H d) (hb : EvDA K tr σ H (strsD zs)) (sd : d.canLay0 = true) (sz : PyData.canLayAll0 (strsD zs) = true) (hl : zs.length ≤ 100) : EvD K (tOp (rInTD K) ta (tTup tr)) σ H (.bool (zs.any fun z => isStrD z d)) := fun H1 e Q q =>
  ha H1 e _ fun v H2 e2 t2 => ed_tup hb (by simp only [strsD, List.length_map]; omega) H2 (e.trans e2) _ fun w H3 e3 t3 => ⟨d, strsD zs, (t2.ex e3).dp, t3.dp, sd, sz, by rw [strsD_depth]; omega, by rw [any_strs]; exact q _ H3 (e2.trans e3) (.bl _)⟩
theorem ed_niTD (zs : List Str) (ha : EvD K ta σ H d) (hb : EvDA K tr σ H (strsD zs)) (sd : d.canLay0 = true) (sz : PyData.canLayAll0 (strsD zs) = true) (hl : zs.length ≤ 100) : EvD K (tOp (rNiTD K) ta (tTup tr)) σ H (.bool (!zs.any fun z => isStrD z d)) := fun H1 e Q q =>
  ha H1 e _ fun v H2 e2 t2 => ed_tup hb (by simp only [strsD, List.length_map]; omega) H2 (e.trans e2) _ fun w H3 e3 t3 => ⟨d, strsD zs, (t2.ex e3).dp, t3.dp, sd, sz, by rw [strsD_depth]; omega, by rw [any_strs]; exact q _ H3 (e2.trans e3) (.bl _)⟩
theorem ed_eqT {s : Str} (ha : EvD K ta σ H d) (sd : d.canLay0 = true) (ss : (PyData.str s).canLay0 = true) : EvD K (tOp (rEqM K) ta (tC (.str s))) σ H (.bool (isStrD s d)) := ed_is (ed_eqS ha ed_cs sd ss) (by rw [eqv_strR])
/-- a written dict's value, at once -/
theorem ev_dgetD {trs : List (TE × TE)} {s : Str} {v : V} (kvs : List (Key × V)) (h : EvPs trs σ H (kvs.map fun kv => (kV kv.1, kv.2))) (hl : kvs.length ≤ 15) (hk : EvD K te σ H (.str s)) (hv : valV (mergeK [] kvs) (Sum.inr s) = some v) : Ev (tDGet (tDisp trs) te) σ H v := fun H1 a Q q => by
  intro p hp
  refine h _ (a.trans (Ex.new hp)) _ fun H2 e2 => ⟨e2 p _ upd_same, kvs, rfl, hl, ?_⟩
  have hp0 := fresh_back a hp
  have e12 : Ex H1 (upd H2 p (.dK (mergeK [] kvs))) := Ex.mut ((Ex.new hp).trans e2) hp
  refine hk.sv _ (a.trans e12) _ fun H3 e3 => ⟨p, v, rfl, ?_, q H3 (e12.trans e3)⟩
  have := DGet.k (k := Sum.inr s) (e3 p _ upd_same)
  rw [hv] at this
  exact this
end
theorem flt_id (f : PyData → Bool) (L : List PyData) : ((L.filter fun y => !f y).map fun y => y).isEmpty = L.all f := by
  rw [List.map_id']
  exact filter_not_isEmpty L
theorem layAll_flt {p : PyData → Bool} {L : List PyData} (h : PyData.canLayAll0 L = true) : PyData.canLayAll0 ((L.filter p).map fun y => y) = true := by
  rw [List.map_id']
  exact layAll_filter h
theorem isThD_len {ps os n : Nat} {ds : List PyData} (h2 : ds.length ≠ 2) (h3 : ds.length ≠ 3) : isThD ps os n (.tuple ds) = false := by
  match n, ds with
  | 0, _ => simp [isThD]
  | n + 1, [] => simp [isThD]
  | n + 1, [_] => simp [isThD]
  | n + 1, [_, _] => simp at h2
  | n + 1, [_, _, _] => simp at h3
  | n + 1, _ :: _ :: _ :: _ :: _ => simp [isThD]
theorem two_or_three {α : Type} {ds : List α} (h : ds.length = 2 ∨ ds.length = 3) : (∃ h a, ds = [h, a]) ∨ ∃ h a b, ds = [h, a, b] := by
  match ds, h with
  | [h, a], _ => exact .inl ⟨h, a, rfl⟩
  | [h, a, b], _ => exact .inr ⟨h, a, b, rfl⟩
  | [], h => simp at h
  | [_], h => simp at h
  | _ :: _ :: _ :: _ :: _, h =>
    simp only [List.length_cons] at h
    omega
theorem five_words (h : PyData) : h = .str "num" ∨ h = .str "own" ∨ h = .str "par" ∨ h = .str "cell" ∨ h = .str "sum" ∨ (isStrD "num" h = false ∧ isStrD "own" h = false ∧ isStrD "par" h = false ∧ isStrD "cell" h = false ∧ isStrD "sum" h = false) := by
  by_cases h1 : h = .str "num"
  · exact .inl h1
  by_cases h2 : h = .str "own"
  · exact .inr (.inl h2)
  by_cases h3 : h = .str "par"
  · exact .inr (.inr (.inl h3))
  by_cases h4 : h = .str "cell"
  · exact .inr (.inr (.inr (.inl h4)))
  by_cases h5 : h = .str "sum"
  · exact .inr (.inr (.inr (.inr (.inl h5))))
  have no : ∀ {s : Str}, ¬ h = .str s → isStrD s h = false := fun {s} e => by
    cases hh : isStrD s h with
    | false => rfl
    | true => exact absurd (isStrD_iff.mp hh) e
  exact .inr (.inr (.inr (.inr (.inr ⟨no h1, no h2, no h3, no h4, no h5⟩))))
def pLTh (n : Nat) (ds : List PyData) (d : PyData) : Prop := ∃ (x : PyData) (ps os w : Nat), ds = [x, .tuple [.int (ps : Int), .int (os : Int)], .int (w : Int)] ∧ w + n = 5 ∧ x.canLay0 = true ∧ d = .bool (isThD ps os n x)
section
variable {P : Program} {w : World} {K : PySem.W.Frag} {mg : Str → Option Value} {base : Heap} (T : Tx K mg)
include T
theorem ok_lnumber : Fn__law_is_number T P w base CX0 1 (spF K pNumber) := by
  refine T.F__law_is_number.ok sc__law_is_number (spF_len fun ds d h => by obtain ⟨x, b, rfl, _⟩ := h; rfl) fun cdv A outer s H vs Q E hr h => ?_
  obtain ⟨ds, d, ht, ⟨x, b, rfl, rfl⟩, k⟩ := h
  obtain _ | ⟨t1, _ | ⟨t2, _ | _⟩⟩ := ht
  refine ⟨_, (pss_one (ps_ret (pe_and (pe_callB (kc_isi K) rfl T.b_isinstance (by decide +kernel) (pa_cons (pv 0) (pa_cons (pe_bltn (v := .ty "int") rfl T.b_int (by decide +kernel) rfl) pa_nil))) (pe_and (pe_not (pe_callB (kc_isi K) rfl T.b_isinstance (by decide +kernel) (pa_cons (pv 0) (pa_cons (pe_bltn (v := .ty "bool") rfl T.b_bool (by decide +kernel) rfl) pa_nil)))) (pe_one (pe_chain op_le op_lt pe_int (pv 0) (pv 1))))))), ?_⟩
  cases t2
  cases x with
  | list _ => cases t1
  | dict _ => cases t1
  | _ =>
    (try cases t1)
    refine sd_ret ?_ k
    apply ed_is
    · walk_at "ev"
    · first | rfl | simp [isNumD]
theorem lth_step {n : Nat} (spI : Sp) (hI : 0 < n → spI = spF K (pLTh (n - 1))) (GN : Fn__law_is_number T P w base CX0 1 (spF K pNumber)) (GI : Fn__law_is_thing T P w base CX0 (n + 1) spI) : Fn__law_is_thing T P w base CX0 (n + 2) (spF K (pLTh n)) := by
  have G__law_is_number := GN
  have G__law_is_thing := GI
  refine T.F__law_is_thing.ok sc__law_is_thing (spF_len fun ds d h => by obtain ⟨_, _, _, _, rfl, _⟩ := h; rfl) fun cdv A outer s H vs Q E hr h => ?_
  obtain ⟨ds, d, ht, ⟨x, ps, os, w, rfl, hw, hx, rfl⟩, k⟩ := h
  obtain _ | ⟨t1, _ | ⟨t2, _ | ⟨t3, _ | _⟩⟩⟩ := ht
  refine ⟨_, (pss_cons (ps_if (PW.pt (pw_or (pt_not (pt_val (pe_callB (kc_isi K) rfl T.b_isinstance (by decide +kernel) (pa_cons (pv 0) (pa_cons (pe_bltn (v := .ty "tuple") rfl T.b_tuple (by decide +kernel) rfl) pa_nil))))) (pw_or (pt_cmpR op_gt (pv 2) pe_int (nomark _)) (pw_or1 (pt_cmpR (kop_ni K) (pe_callB (kc_len K) rfl T.b_len PySem.boot_len (pa_cons (pv 0) pa_nil)) (pe_tup (pa_cons pe_int (pa_cons pe_int pa_nil))) rfl)))))
    (pss_one (ps_ret pe_bl))
    pss_nil)
  (pss_cons (ps_if (PW.pt (pw_or (pt_cmpR (kop_niTD K (units65 hr)) (pe_ix (kix_tup K) (pv 0) pe_int (fun _ _ => rfl)) (pe_tup (pa_cons pe_str (pa_cons pe_str (pa_cons pe_str (pa_cons pe_str (pa_cons pe_str pa_nil)))))) rfl) (pw_or1 (pt_cmpR (kop_ne K hr.units) (pe_cmpR (kop_eq K hr.units) (pe_ix (kix_tup K) (pv 0) pe_int (fun _ _ => rfl)) pe_str (nomark _)) (pe_cmpR op_eq (pe_callB (kc_len K) rfl T.b_len PySem.boot_len (pa_cons (pv 0) pa_nil)) pe_int (nomark _)) (nomark _)))))
    (pss_one (ps_ret pe_bl))
    pss_nil)
  (pss_cons (ps_if (pt_cmpR (kop_inTD K (units65 hr)) (pe_ix (kix_tup K) (pv 0) pe_int (fun _ _ => rfl)) (pe_tup (pa_cons pe_str (pa_cons pe_str pa_nil))) rfl)
    (pss_one (ps_ret (pe_cmpR (kop_eq K hr.units) (pe_lc (own := [("_law_part", 3)]) (g := gName 3) (tt := _) rfl sc__law_is_thing.nd (kpi_tup K (pe_slice (ksl_tup K) (pv 0) (po_some pe_int) po_none)) (blkOk_by (N := ["_law_thing_here", "_law_sizes", "_law_within", "_law_part"]) (sc := defScope s__law_is_thing) (by decide +kernel)) (fun _ _ _ _ _ => (pg_name (i := 3) sc__law_is_thing.nd rfl (Or.inl rfl))) (fun _ _ _ _ _ => (pts_one (pt_not (pt_val (pe_call G__law_is_thing (hr.mono (by omega)) (by rfl) T.g__law_is_thing T.k__law_is_thing T.bd__law_is_thing .nil pass0 (pa_cons (pv 3) (pa_cons (pv 1) (pa_cons (pe_op op_add (pv 2) pe_int) pa_nil)))))))) (fun _ _ _ _ _ => (pv 3))) (pe_lst pa_nil) (nomark _))))
    pss_nil)
  (pss_one (ps_ret (pe_call G__law_is_number (hr.mono (by omega)) (by rfl) T.g__law_is_number T.k__law_is_number T.bd__law_is_number .nil pass0 (pa_cons (pe_ix (kix_tup K) (pv 0) pe_int (fun _ _ => rfl)) (pa_cons (pe_dget (hu_of hr) (pe_disp (pps_cons pe_str pe_int (pps_cons pe_str (pe_ix (kix_tup K) (pv 1) pe_int (fun _ _ => rfl)) (pps_cons pe_str (pe_ix (kix_tup K) (pv 1) pe_int (fun _ _ => rfl)) pps_nil))) (by rfl) (by rfl) (fun z => by cases z) (by decide)) (pe_ix (kix_tup K) (pv 0) pe_int (fun _ _ => rfl)) (fun _ _ => rfl)) pa_nil)))))))), ?_⟩
  cases t3
  refine Pst.go (K := K) ?_
  cases x with
  | list _ => cases t1
  | dict _ => cases t1
  | tuple ds =>
    refine pst_when (tk_or (tk_notT (tk_vB (ed_isi (b := true) (ed_var rfl t1) (by rfl)))) fun _ => tk_or (tk_v (ed_I0b (ed_var rfl (.int _)) ed_ci)) fun _ => tk_v (ed_niT (ed_len (ed_var rfl t1)) (ed_tup (eda_cons ed_ci (eda_cons ed_ci eda_nil)) (by decide)) rfl rfl)) (fun hb => ?_) (fun hb => ?_)
    · refine pst_ret ?_ k
      rw [show isThD ps os n (.tuple ds) = false from ?_]
      · exact ed_cb
      · simp [PyData.eqv] at hb
        rcases hb with hb | hb
        · have : n = 0 := by omega
          subst this
          simp [isThD]
        · exact isThD_len (by omega) (by omega)
    · simp [PyData.eqv] at hb
      obtain ⟨h4, hlen⟩ := hb
      obtain ⟨m, rfl⟩ : ∃ m, n = m + 1 := ⟨n - 1, by omega⟩
      have hsp := hI (by omega)
      subst hsp
      simp only [Nat.add_sub_cancel] at *
      obtain ⟨h, a, rfl⟩ | ⟨h, a, b, rfl⟩ := two_or_three (ds := ds) (by omega)
      ·
        simp only [PyData.canLay0, PyData.canLayAll0, Bool.and_eq_true, and_true] at hx
        obtain ⟨hh, ha⟩ := hx
        have lay : ∀ y ∈ [a], y.canLay0 = true := by simp [ha]
        have lays : PyData.canLayAll0 [a] = true := by simp [PyData.canLayAll0, ha]
        rcases five_words h with rfl | rfl | rfl | rfl | rfl | ⟨f1, f2, f3, f4, f5⟩
        · skip
          refine pst_whenF (tk_is (tk_or (tk_v (ed_niTD ["num", "own", "par", "cell", "sum"] (ed_ixT (i := 0) (ed_var rfl t1) ed_ci atI_zero) (eda_cons ed_cs (eda_cons ed_cs (eda_cons ed_cs (eda_cons ed_cs (eda_cons ed_cs eda_nil))))) hh (by decide +kernel) (by decide))) fun _ => tk_v (ed_neB (ed_eqT (ed_ixT (i := 0) (ed_var rfl t1) ed_ci atI_zero) hh (by decide +kernel)) (ed_eqi (ed_len (ed_var rfl t1)) ed_ci))) (by first | (simp; done) | (simp [f1, f2, f3, f4, f5]; done))) rfl ?_
          refine pst_whenF (tk_is (tk_v (ed_inTD ["cell", "sum"] (ed_ixT (i := 0) (ed_var rfl t1) ed_ci atI_zero) (eda_cons ed_cs (eda_cons ed_cs eda_nil)) hh (by decide +kernel) (by decide))) (by simp)) rfl ?_
          refine pst_ret (ed_is (ed_call (eda_cons (ed_ixT (i := 1) (ed_var rfl t1) ed_ci rfl) (eda_cons (ed_i (ev_dgetD (K := K) (s := "num") [(Sum.inr "num", .int 3), (Sum.inr "par", .int (ps : Int)), (Sum.inr "own", .int (os : Int))] (eps_cons ev_c ev_c (eps_cons ev_c (EvD.iv (K := K) (ed_ixT (i := 0) (ed_var rfl t2) ed_ci atI_zero)) (eps_cons ev_c (EvD.iv (K := K) (ed_ixT (i := 1) (ed_var rfl t2) ed_ci rfl)) eps_nil))) (by simp) (ed_ixT (i := 0) (ed_var rfl t1) ed_ci atI_zero) rfl)) eda_nil)) ⟨_, _, rfl, rfl⟩) ?_) k
          simp [isThD]
        · skip
          refine pst_whenF (tk_is (tk_or (tk_v (ed_niTD ["num", "own", "par", "cell", "sum"] (ed_ixT (i := 0) (ed_var rfl t1) ed_ci atI_zero) (eda_cons ed_cs (eda_cons ed_cs (eda_cons ed_cs (eda_cons ed_cs (eda_cons ed_cs eda_nil))))) hh (by decide +kernel) (by decide))) fun _ => tk_v (ed_neB (ed_eqT (ed_ixT (i := 0) (ed_var rfl t1) ed_ci atI_zero) hh (by decide +kernel)) (ed_eqi (ed_len (ed_var rfl t1)) ed_ci))) (by first | (simp; done) | (simp [f1, f2, f3, f4, f5]; done))) rfl ?_
          refine pst_whenF (tk_is (tk_v (ed_inTD ["cell", "sum"] (ed_ixT (i := 0) (ed_var rfl t1) ed_ci atI_zero) (eda_cons ed_cs (eda_cons ed_cs eda_nil)) hh (by decide +kernel) (by decide))) (by simp)) rfl ?_
          refine pst_ret (ed_is (ed_call (eda_cons (ed_ixT (i := 1) (ed_var rfl t1) ed_ci rfl) (eda_cons (ed_i (ev_dgetD (K := K) (s := "own") [(Sum.inr "num", .int 3), (Sum.inr "par", .int (ps : Int)), (Sum.inr "own", .int (os : Int))] (eps_cons ev_c ev_c (eps_cons ev_c (EvD.iv (K := K) (ed_ixT (i := 0) (ed_var rfl t2) ed_ci atI_zero)) (eps_cons ev_c (EvD.iv (K := K) (ed_ixT (i := 1) (ed_var rfl t2) ed_ci rfl)) eps_nil))) (by simp) (ed_ixT (i := 0) (ed_var rfl t1) ed_ci atI_zero) rfl)) eda_nil)) ⟨_, _, rfl, rfl⟩) ?_) k
          simp [isThD]
        · skip
          refine pst_whenF (tk_is (tk_or (tk_v (ed_niTD ["num", "own", "par", "cell", "sum"] (ed_ixT (i := 0) (ed_var rfl t1) ed_ci atI_zero) (eda_cons ed_cs (eda_cons ed_cs (eda_cons ed_cs (eda_cons ed_cs (eda_cons ed_cs eda_nil))))) hh (by decide +kernel) (by decide))) fun _ => tk_v (ed_neB (ed_eqT (ed_ixT (i := 0) (ed_var rfl t1) ed_ci atI_zero) hh (by decide +kernel)) (ed_eqi (ed_len (ed_var rfl t1)) ed_ci))) (by first | (simp; done) | (simp [f1, f2, f3, f4, f5]; done))) rfl ?_
          refine pst_whenF (tk_is (tk_v (ed_inTD ["cell", "sum"] (ed_ixT (i := 0) (ed_var rfl t1) ed_ci atI_zero) (eda_cons ed_cs (eda_cons ed_cs eda_nil)) hh (by decide +kernel) (by decide))) (by simp)) rfl ?_
          refine pst_ret (ed_is (ed_call (eda_cons (ed_ixT (i := 1) (ed_var rfl t1) ed_ci rfl) (eda_cons (ed_i (ev_dgetD (K := K) (s := "par") [(Sum.inr "num", .int 3), (Sum.inr "par", .int (ps : Int)), (Sum.inr "own", .int (os : Int))] (eps_cons ev_c ev_c (eps_cons ev_c (EvD.iv (K := K) (ed_ixT (i := 0) (ed_var rfl t2) ed_ci atI_zero)) (eps_cons ev_c (EvD.iv (K := K) (ed_ixT (i := 1) (ed_var rfl t2) ed_ci rfl)) eps_nil))) (by simp) (ed_ixT (i := 0) (ed_var rfl t1) ed_ci atI_zero) rfl)) eda_nil)) ⟨_, _, rfl, rfl⟩) ?_) k
          simp [isThD]
        · skip
          refine pst_whenF (tk_is (tk_or (tk_v (ed_niTD ["num", "own", "par", "cell", "sum"] (ed_ixT (i := 0) (ed_var rfl t1) ed_ci atI_zero) (eda_cons ed_cs (eda_cons ed_cs (eda_cons ed_cs (eda_cons ed_cs (eda_cons ed_cs eda_nil))))) hh (by decide +kernel) (by decide))) fun _ => tk_v (ed_neB (ed_eqT (ed_ixT (i := 0) (ed_var rfl t1) ed_ci atI_zero) hh (by decide +kernel)) (ed_eqi (ed_len (ed_var rfl t1)) ed_ci))) (by first | (simp; done) | (simp [f1, f2, f3, f4, f5]; done))) rfl ?_
          refine pst_whenT (tk_is (tk_v (ed_inTD ["cell", "sum"] (ed_ixT (i := 0) (ed_var rfl t1) ed_ci atI_zero) (eda_cons ed_cs (eda_cons ed_cs eda_nil)) hh (by decide +kernel) (by decide))) (by simp)) rfl ?_
          refine pst_ret (ed_is (ed_eqN (EvDL.rd (edl_lcM (xs := [a]) (f := fun y => y) (p := fun y => !isThD ps os m y) (g := fun y => y) (ed_is (ed_sl (lo := some ((1 : Nat) : Int)) (hi := none) (ed_var rfl t1) (eok_some ed_ci) eok_none) (by rw [cutD_suf]; rfl)) rfl (by simp) (fun x => rfl) (fun y v H1 e1 hy ty => tk_not (tk_vB (ed_call (eda_cons (ed_var rfl ty) (eda_cons (ed_var rfl (t2.ex e1)) (eda_cons (ed_is (ed_I0i (ed_var rfl (.int _)) ed_ci) rfl) eda_nil))) ⟨y, ps, os, w + 1, rfl, by omega, lay y hy, rfl⟩))) (fun y v H1 e1 hy _ ty => ed_var rfl ty))) (edl_lst eda_nil (by decide)) (layAll_flt lays)) ?_) k
          rw [flt_id]
          simp [isThD]
        · skip
          refine pst_whenT (tk_is (tk_or (tk_v (ed_niTD ["num", "own", "par", "cell", "sum"] (ed_ixT (i := 0) (ed_var rfl t1) ed_ci atI_zero) (eda_cons ed_cs (eda_cons ed_cs (eda_cons ed_cs (eda_cons ed_cs (eda_cons ed_cs eda_nil))))) hh (by decide +kernel) (by decide))) fun _ => tk_v (ed_neB (ed_eqT (ed_ixT (i := 0) (ed_var rfl t1) ed_ci atI_zero) hh (by decide +kernel)) (ed_eqi (ed_len (ed_var rfl t1)) ed_ci))) (by first | (simp; done) | (simp [f1, f2, f3, f4, f5]; done))) rfl ?_
          exact pst_ret (by rw [(by first | (simp [isThD]; done) | (simp [isThD, f1, f2, f3, f4, f5]; done) : isThD ps os (m + 1) _ = false)]; exact ed_cb) k
        · skip
          refine pst_whenT (tk_is (tk_or (tk_v (ed_niTD ["num", "own", "par", "cell", "sum"] (ed_ixT (i := 0) (ed_var rfl t1) ed_ci atI_zero) (eda_cons ed_cs (eda_cons ed_cs (eda_cons ed_cs (eda_cons ed_cs (eda_cons ed_cs eda_nil))))) hh (by decide +kernel) (by decide))) fun _ => tk_v (ed_neB (ed_eqT (ed_ixT (i := 0) (ed_var rfl t1) ed_ci atI_zero) hh (by decide +kernel)) (ed_eqi (ed_len (ed_var rfl t1)) ed_ci))) (by first | (simp; done) | (simp [f1, f2, f3, f4, f5]; done))) rfl ?_
          exact pst_ret (by rw [(by first | (simp [isThD]; done) | (simp [isThD, f1, f2, f3, f4, f5]; done) : isThD ps os (m + 1) _ = false)]; exact ed_cb) k
      ·
        simp only [PyData.canLay0, PyData.canLayAll0, Bool.and_eq_true, and_true] at hx
        obtain ⟨hh, ha, hb⟩ := hx
        have lay : ∀ y ∈ [a, b], y.canLay0 = true := by simp [ha, hb]
        have lays : PyData.canLayAll0 [a, b] = true := by simp [PyData.canLayAll0, ha, hb]
        rcases five_words h with rfl | rfl | rfl | rfl | rfl | ⟨f1, f2, f3, f4, f5⟩
        · skip
          refine pst_whenT (tk_is (tk_or (tk_v (ed_niTD ["num", "own", "par", "cell", "sum"] (ed_ixT (i := 0) (ed_var rfl t1) ed_ci atI_zero) (eda_cons ed_cs (eda_cons ed_cs (eda_cons ed_cs (eda_cons ed_cs (eda_cons ed_cs eda_nil))))) hh (by decide +kernel) (by decide))) fun _ => tk_v (ed_neB (ed_eqT (ed_ixT (i := 0) (ed_var rfl t1) ed_ci atI_zero) hh (by decide +kernel)) (ed_eqi (ed_len (ed_var rfl t1)) ed_ci))) (by first | (simp; done) | (simp [f1, f2, f3, f4, f5]; done))) rfl ?_
          exact pst_ret (by rw [(by first | (simp [isThD]; done) | (simp [isThD, f1, f2, f3, f4, f5]; done) : isThD ps os (m + 1) _ = false)]; exact ed_cb) k
        · skip
          refine pst_whenT (tk_is (tk_or (tk_v (ed_niTD ["num", "own", "par", "cell", "sum"] (ed_ixT (i := 0) (ed_var rfl t1) ed_ci atI_zero) (eda_cons ed_cs (eda_cons ed_cs (eda_cons ed_cs (eda_cons ed_cs (eda_cons ed_cs eda_nil))))) hh (by decide +kernel) (by decide))) fun _ => tk_v (ed_neB (ed_eqT (ed_ixT (i := 0) (ed_var rfl t1) ed_ci atI_zero) hh (by decide +kernel)) (ed_eqi (ed_len (ed_var rfl t1)) ed_ci))) (by first | (simp; done) | (simp [f1, f2, f3, f4, f5]; done))) rfl ?_
          exact pst_ret (by rw [(by first | (simp [isThD]; done) | (simp [isThD, f1, f2, f3, f4, f5]; done) : isThD ps os (m + 1) _ = false)]; exact ed_cb) k
        · skip
          refine pst_whenT (tk_is (tk_or (tk_v (ed_niTD ["num", "own", "par", "cell", "sum"] (ed_ixT (i := 0) (ed_var rfl t1) ed_ci atI_zero) (eda_cons ed_cs (eda_cons ed_cs (eda_cons ed_cs (eda_cons ed_cs (eda_cons ed_cs eda_nil))))) hh (by decide +kernel) (by decide))) fun _ => tk_v (ed_neB (ed_eqT (ed_ixT (i := 0) (ed_var rfl t1) ed_ci atI_zero) hh (by decide +kernel)) (ed_eqi (ed_len (ed_var rfl t1)) ed_ci))) (by first | (simp; done) | (simp [f1, f2, f3, f4, f5]; done))) rfl ?_
          exact pst_ret (by rw [(by first | (simp [isThD]; done) | (simp [isThD, f1, f2, f3, f4, f5]; done) : isThD ps os (m + 1) _ = false)]; exact ed_cb) k
        · skip
          refine pst_whenT (tk_is (tk_or (tk_v (ed_niTD ["num", "own", "par", "cell", "sum"] (ed_ixT (i := 0) (ed_var rfl t1) ed_ci atI_zero) (eda_cons ed_cs (eda_cons ed_cs (eda_cons ed_cs (eda_cons ed_cs (eda_cons ed_cs eda_nil))))) hh (by decide +kernel) (by decide))) fun _ => tk_v (ed_neB (ed_eqT (ed_ixT (i := 0) (ed_var rfl t1) ed_ci atI_zero) hh (by decide +kernel)) (ed_eqi (ed_len (ed_var rfl t1)) ed_ci))) (by first | (simp; done) | (simp [f1, f2, f3, f4, f5]; done))) rfl ?_
          exact pst_ret (by rw [(by first | (simp [isThD]; done) | (simp [isThD, f1, f2, f3, f4, f5]; done) : isThD ps os (m + 1) _ = false)]; exact ed_cb) k
        · skip
          refine pst_whenF (tk_is (tk_or (tk_v (ed_niTD ["num", "own", "par", "cell", "sum"] (ed_ixT (i := 0) (ed_var rfl t1) ed_ci atI_zero) (eda_cons ed_cs (eda_cons ed_cs (eda_cons ed_cs (eda_cons ed_cs (eda_cons ed_cs eda_nil))))) hh (by decide +kernel) (by decide))) fun _ => tk_v (ed_neB (ed_eqT (ed_ixT (i := 0) (ed_var rfl t1) ed_ci atI_zero) hh (by decide +kernel)) (ed_eqi (ed_len (ed_var rfl t1)) ed_ci))) (by first | (simp; done) | (simp [f1, f2, f3, f4, f5]; done))) rfl ?_
          refine pst_whenT (tk_is (tk_v (ed_inTD ["cell", "sum"] (ed_ixT (i := 0) (ed_var rfl t1) ed_ci atI_zero) (eda_cons ed_cs (eda_cons ed_cs eda_nil)) hh (by decide +kernel) (by decide))) (by simp)) rfl ?_
          refine pst_ret (ed_is (ed_eqN (EvDL.rd (edl_lcM (xs := [a, b]) (f := fun y => y) (p := fun y => !isThD ps os m y) (g := fun y => y) (ed_is (ed_sl (lo := some ((1 : Nat) : Int)) (hi := none) (ed_var rfl t1) (eok_some ed_ci) eok_none) (by rw [cutD_suf]; rfl)) rfl (by simp) (fun x => rfl) (fun y v H1 e1 hy ty => tk_not (tk_vB (ed_call (eda_cons (ed_var rfl ty) (eda_cons (ed_var rfl (t2.ex e1)) (eda_cons (ed_is (ed_I0i (ed_var rfl (.int _)) ed_ci) rfl) eda_nil))) ⟨y, ps, os, w + 1, rfl, by omega, lay y hy, rfl⟩))) (fun y v H1 e1 hy _ ty => ed_var rfl ty))) (edl_lst eda_nil (by decide)) (layAll_flt lays)) ?_) k
          rw [flt_id]
          simp [isThD]
        · skip
          refine pst_whenT (tk_is (tk_or (tk_v (ed_niTD ["num", "own", "par", "cell", "sum"] (ed_ixT (i := 0) (ed_var rfl t1) ed_ci atI_zero) (eda_cons ed_cs (eda_cons ed_cs (eda_cons ed_cs (eda_cons ed_cs (eda_cons ed_cs eda_nil))))) hh (by decide +kernel) (by decide))) fun _ => tk_v (ed_neB (ed_eqT (ed_ixT (i := 0) (ed_var rfl t1) ed_ci atI_zero) hh (by decide +kernel)) (ed_eqi (ed_len (ed_var rfl t1)) ed_ci))) (by first | (simp; done) | (simp [f1, f2, f3, f4, f5]; done))) rfl ?_
          exact pst_ret (by rw [(by first | (simp [isThD]; done) | (simp [isThD, f1, f2, f3, f4, f5]; done) : isThD ps os (m + 1) _ = false)]; exact ed_cb) k
  | _ =>
    refine pst_whenT (tk_orT (tk_notF (tk_vB (ed_isi (b := false) (ed_var rfl t1) (by rfl))))) rfl (pst_ret ?_ k)
    rw [show isThD ps os n _ = false from by cases n <;> simp [isThD]]
    exact ed_cb
theorem ok_lth (GN : Fn__law_is_number T P w base CX0 1 (spF K pNumber)) : ∀ n : Nat, Fn__law_is_thing T P w base CX0 (n + 2) (spF K (pLTh n))
  | 0 => lth_step T (n := 0) (fun _ _ _ _ => False) (fun h => absurd h (Nat.lt_irrefl _)) GN (fn_vac fun _ _ _ _ h => h)
  | n + 1 => lth_step T (n := n + 1) (spF K (pLTh n)) (fun _ => rfl) GN (ok_lth GN n)
end
end Hw

set_option maxRecDepth 100000
set_option maxHeartbeats 4000000
/-! LI3: the law's own look at steps and bodies -/
namespace Hw
open PySem PySem.Spec PyProof.Rows L2 Evl
local macro_rules | `(tactic| walk_at "dd") => `(tactic| first | rfl | decide | (simp; done) | omega)
local macro_rules | `(tactic| walk_at "td") => `(tactic| first | assumption | exact Td.int _ | exact Td.bl _ | exact Td.str _ | exact Td.non | exact Td.tup (by assumption) (by assumption))
local macro_rules | `(tactic| walk_at "ev") => `(tactic| first
  | exact ed_ci | exact ed_cs | exact ed_cb | exact ed_cn
  | (apply ed_cg; assumption)
  | (apply ed_var; (rfl); (walk_at "td"))
  | (apply ed_ixT; (walk_at "ev"); (walk_at "ev"); (first | rfl | assumption))
  | (apply ed_rowI; (rfl); (assumption); (walk_at "ev"); (rfl))
  | (apply ed_ixL; (apply EvDL.rd; walk_at "edl"); (walk_at "ev"); (rfl))
  | (apply ed_intb; (walk_at "ev"))
  | (apply ed_len; walk_at "ev")
  | (apply ed_lenV; (apply ev_rowR; (rfl); (assumption); (walk_at "ev"); (rfl)); (assumption))
  | (apply ed_Ii; (walk_at "ev"); (walk_at "ev"); (walk_at "cc"))
  | (apply ed_isi; (walk_at "ev"); (rfl))
  | (apply ed_I0i; (walk_at "ev"); (walk_at "ev"))
  | (apply ed_I0b; (walk_at "ev"); (walk_at "ev"))
  | (apply ed_eqi; (walk_at "ev"); (walk_at "ev"))
  | (apply ed_nei; (walk_at "ev"); (walk_at "ev"))
  | (apply ed_andF; walk_at "ev")
  | (apply ed_andV; (walk_at "ev"); (intro _; walk_at "ev"))
  | (apply ed_orT; walk_at "ev")
  | (apply ed_orV; (walk_at "ev"); (intro _; walk_at "ev"))
  | (apply ed_notT; walk_at "ev")
  | (apply ed_notF; walk_at "ev")
  | (apply ed_notV; walk_at "ev")
  | (apply ed_chain; (walk_at "ev"); (walk_at "ev"); (intro _; walk_at "ev"))
  | (apply ed_eqS; (walk_at "ev"); (walk_at "ev"); (walk_at "bb"); (walk_at "bb"))
  | (apply ed_neS; (walk_at "ev"); (walk_at "ev"); (walk_at "bb"); (walk_at "bb"))
  | (apply ed_inT; (walk_at "ev"); (walk_at "ev"); (rfl); (rfl))
  | (apply ed_niT; (walk_at "ev"); (walk_at "ev"); (rfl); (rfl))
  | (apply ed_tup; (walk_at "eva"); (walk_at "bb"))
  | (apply ed_sl; (walk_at "ev"); (walk_at "evo"); (walk_at "evo"))
  | (apply ed_eqN; (apply EvDL.rd; walk_at "edl"); (walk_at "edl"); (walk_at "bb"))
  | (apply ed_neN; (apply EvDL.rd; walk_at "edl"); (walk_at "edl"); (walk_at "bb"))
  | (apply ed_ixL; (apply edr_var; (rfl); (assumption); (assumption)); (walk_at "ev"); (first | rfl | assumption))
  | (apply ed_lenL; (apply edr_var; (rfl); (assumption); (assumption)))
  | (apply ed_call; (walk_at "eva"); (walk_at "post")))
local macro_rules | `(tactic| walk_at "edl") => `(tactic| first
  | assumption
  | (apply edl_lst; (walk_at "eva"); (walk_at "bb")))
local macro_rules | `(tactic| walk_at "eva") => `(tactic| first
  | exact eda_nil
  | (apply eda_cons; (walk_at "ev"); (walk_at "eva")))
local macro_rules | `(tactic| walk_at "evo") => `(tactic| first
  | exact eok_none
  | (apply eok_some; walk_at "ev"))
local macro_rules | `(tactic| walk_at "bb") => `(tactic| first | rfl | assumption | (simp; done) | (simp; omega) | decide +kernel)
local macro_rules | `(tactic| walk_at "et") => `(tactic| first
  | exact tk_yes
  | (apply tk_andF; walk_at "et")
  | (apply tk_and; (walk_at "et"); (intro _; walk_at "et"))
  | (apply tk_orT; walk_at "et")
  | (apply tk_or; (walk_at "et"); (intro _; walk_at "et"))
  | (apply tk_notT; walk_at "et")
  | (apply tk_notF; walk_at "et")
  | (apply tk_not; walk_at "et")
  | (apply tk_v; walk_at "ev")
  | (apply tk_vB; walk_at "ev"))
local macro_rules | `(tactic| walk_at "if") => `(tactic| first
  | (apply pst_whenF; (walk_at "et"); (walk_at "bb"))
  | (apply pst_whenT; (walk_at "et"); (walk_at "bb")))
local macro_rules | `(tactic| walk_at "post") => `(tactic| first | assumption | exact ⟨_, _, rfl, rfl⟩ | exact ⟨_, _, _, _, rfl, by omega, by omega, rfl⟩ | exact ⟨_, _, _, 0, rfl, by omega, by omega, rfl⟩)
local macro_rules | `(tactic| walk_at "cc") => `(tactic| first | assumption | decide | omega | (refine ⟨?_, ?_⟩ <;> first | decide | omega) | (exact Or.inl (by constructor <;> omega)))

def encSh (x : Nat × Nat) : PyData := .tuple [.int (x.1 : Int), .int (x.2 : Int)]
theorem shP_at {sh : List (Nat × Nat)} {i : Nat} {x : Nat × Nat} (h : sh[i]? = some x) : shP sh i = x.1 ∧ shO sh i = x.2 := by
  simp [shP, shO, List.getD, h]
structure ShAt (K : PySem.W.Frag) (sl : Addr) (sh : List (Nat × Nat)) (H : Hp) : Prop where
  hs : ∃ xs, SqL K H sl xs ∧ TdAll K H xs (sh.map encSh)
  l4 : sh.length ≤ 4
def spLS (K : PySem.W.Frag) (f : List (Nat × Nat) → Nat → PyData → Bool) (n : Nat) : Sp := fun vs H Q _ => ∃ (sl : Addr) (sh : List (Nat × Nat)) (i : Nat) (v : V) (x : PyData) (w : Nat), vs = [.ref sl, .int (i : Int), v, .int (w : Int)] ∧ ShAt K sl sh H ∧ Td K H v x ∧ i < sh.length ∧ w + n = 5 ∧ x.canLay0 = true ∧ smD x = true ∧ ∀ H', Ex H H' → Q (.bl (f sh i x)) H'
def fSt (n : Nat) (sh : List (Nat × Nat)) (i : Nat) (x : PyData) : Bool := isStD sh i n x
def fBd (n : Nat) (sh : List (Nat × Nat)) (i : Nat) (x : PyData) : Bool := bdAll (isStD sh i n) x
theorem layAll_mem : ∀ {L : List PyData} {y : PyData}, PyData.canLayAll0 L = true → y ∈ L → y.canLay0 = true
  | x :: r, y, h, hm => by
    simp only [PyData.canLayAll0, Bool.and_eq_true] at h
    rcases List.mem_cons.mp hm with e | hm
    · rw [e]; exact h.1
    · exact layAll_mem h.2 hm
section
variable {K : PySem.W.Frag} {σ : L2.St} {H H' : Hp} {sl : Addr} {sh : List (Nat × Nat)} {te tf tg ti tl ta tb : TE} {E : XK} {i w n : Nat} {x d : PyData} {f : List (Nat × Nat) → Nat → PyData → Bool}
theorem ShAt.ex (h : ShAt K sl sh H) (e : Ex H H') : ShAt K sl sh H' := by
  obtain ⟨⟨xs, h1, h2⟩, h3⟩ := h
  exact ⟨⟨xs, ex_l e h1, h2.ex e⟩, h3⟩
theorem ShAt.rd {j : Nat} (h : ShAt K sl sh H) (hs : σ[j]? = some (some (.ref sl))) : EvDR K (tVar j) σ H (sh.map encSh) := by
  obtain ⟨⟨xs, h1, h2⟩, h3⟩ := h
  exact edr_var hs h1 h2
theorem ShAt.at {j : Nat} (h : ShAt K sl sh H) (hs : σ[j]? = some (some (.ref sl))) (hi : EvD K ti σ H (.int (i : Int))) (hl : i < sh.length) : EvD K (tOp (rIxL K) (tVar j) ti) σ H (.tuple [.int (shP sh i : Int), .int (shO sh i : Int)]) := by
  have hg : sh[i]? = some sh[i] := List.getElem?_eq_getElem hl
  obtain ⟨e1, e2⟩ := shP_at hg
  exact ed_is (ed_ixL (h.rd hs) hi (atI_nat (by rw [List.getElem?_map, hg]; rfl))) (by rw [e1, e2]; rfl)
theorem ed_ls {j : Nat} (h : ShAt K sl sh H) (hs : σ[j]? = some (some (.ref sl))) (h1 : EvD K te σ H (.int (i : Int))) (h2 : EvD K tf σ H x) (h3 : EvD K tg σ H (.int (w : Int))) (hi : i < sh.length) (hw : w + n = 5) (hl : x.canLay0 = true) (hm : smD x = true) :
    EvD K (tCall (spLS K f n) [] E (tCons (tVar j) (tCons te (tCons tf (tCons tg tNil))))) σ H (.bool (f sh i x)) := fun H1 e1 Q q =>
  ⟨.ref sl, hs, h1.iv H1 e1 _ fun H2 e2 => h2 H2 (e1.trans e2) _ fun v H3 e3 tv => h3.iv H3 ((e1.trans e2).trans e3) _ fun H4 e4 => ⟨sl, sh, i, v, x, w, rfl, h.ex (((e1.trans e2).trans e3).trans e4), tv.ex e4, hi, hw, hl, hm, fun H5 e5 => q _ H5 (((e2.trans e3).trans e4).trans e5) (.bl _)⟩⟩
end
theorem fSt_not {n : Nat} {sh : List (Nat × Nat)} {i : Nat} {x : PyData} (h : isTupL x = false) : fSt n sh i x = false := by
  cases x <;> first | (cases h; done) | (cases n <;> simp [fSt, isStD])
theorem four_words (h : PyData) : h = .str "set" ∨ h = .str "say" ∨ h = .str "if" ∨ h = .str "call" ∨ (isStrD "set" h = false ∧ isStrD "say" h = false ∧ isStrD "if" h = false ∧ isStrD "call" h = false) := by
  by_cases h1 : h = .str "set"
  · exact .inl h1
  by_cases h2 : h = .str "say"
  · exact .inr (.inl h2)
  by_cases h3 : h = .str "if"
  · exact .inr (.inr (.inl h3))
  by_cases h4 : h = .str "call"
  · exact .inr (.inr (.inr (.inl h4)))
  have no : ∀ {s : Str}, ¬ h = .str s → isStrD s h = false := fun {s} e => by
    cases hh : isStrD s h with
    | false => rfl
    | true => exact absurd (isStrD_iff.mp hh) e
  exact .inr (.inr (.inr (.inr ⟨no h1, no h2, no h3, no h4⟩)))
theorem isStD_no {sh : List (Nat × Nat)} {i n : Nat} {h : PyData} {r : List PyData} (g : isStrD "set" h = false ∧ isStrD "say" h = false ∧ isStrD "if" h = false ∧ isStrD "call" h = false) : isStD sh i n (.tuple (h :: r)) = false := by
  obtain ⟨g1, g2, g3, g4⟩ := g
  match n, r with
  | 0, _ => simp [isStD]
  | n + 1, [] => simp [isStD]
  | n + 1, [_] => simp [isStD, g2]
  | n + 1, [_, _] => simp [isStD, g1, g4]
  | n + 1, [_, _, _] => simp [isStD, g3]
  | n + 1, _ :: _ :: _ :: _ :: _ => simp [isStD]
theorem lw4 : isStrD "set" (.str "set") = true ∧ isStrD "set" (.str "say") = false ∧ isStrD "set" (.str "if") = false ∧ isStrD "set" (.str "call") = false ∧ isStrD "say" (.str "set") = false ∧ isStrD "say" (.str "say") = true ∧ isStrD "say" (.str "if") = false ∧ isStrD "say" (.str "call") = false ∧
    isStrD "if" (.str "set") = false ∧ isStrD "if" (.str "say") = false ∧ isStrD "if" (.str "if") = true ∧ isStrD "if" (.str "call") = false ∧ isStrD "call" (.str "set") = false ∧ isStrD "call" (.str "say") = false ∧ isStrD "call" (.str "if") = false ∧ isStrD "call" (.str "call") = true := by
  refine ⟨?_, ?_, ?_, ?_, ?_, ?_, ?_, ?_, ?_, ?_, ?_, ?_, ?_, ?_, ?_, ?_⟩ <;> (simp only [isStrD]; decide +kernel)
def lenW : Str → Nat := fun s => if s = "set" then 3 else if s = "say" then 2 else if s = "if" then 4 else 3
theorem isStD_ln {sh : List (Nat × Nat)} {i n : Nat} {s : Str} {r : List PyData} (h4 : s = "set" ∨ s = "say" ∨ s = "if" ∨ s = "call") (hl : r.length + 1 ≠ lenW s) : isStD sh i n (.tuple (.str s :: r)) = false := by
  obtain ⟨a1, a2, a3, a4, b1, b2, b3, b4, c1, c2, c3, c4, d1, d2, d3, d4⟩ := lw4
  have l1 : lenW "set" = 3 := by decide +kernel
  have l2 : lenW "say" = 2 := by decide +kernel
  have l3 : lenW "if" = 4 := by decide +kernel
  have l4 : lenW "call" = 3 := by decide +kernel
  match n, r with
  | 0, _ => simp [isStD]
  | n + 1, [] => simp [isStD]
  | n + 1, [_] => rcases h4 with rfl | rfl | rfl | rfl <;> simp_all [isStD]
  | n + 1, [_, _] => rcases h4 with rfl | rfl | rfl | rfl <;> simp_all [isStD]
  | n + 1, [_, _, _] => rcases h4 with rfl | rfl | rfl | rfl <;> simp_all [isStD]
  | n + 1, _ :: _ :: _ :: _ :: _ => simp [isStD]
section
variable {P : Program} {w : World} {K : PySem.W.Frag} {mg : Str → Option Value} {base : Heap} (T : Tx K mg)
include T
theorem ok_lbd {k n : Nat} (G : Fn__law_is_step T P w base CX0 k (spLS K (fSt n) n)) : Fn__law_is_body T P w base CX0 (k + 1) (spLS K (fBd n) n) := by
  have G__law_is_step := G
  refine T.F__law_is_body.ok sc__law_is_body (fun vs H Q E h => by obtain ⟨_, _, _, _, _, _, rfl, _⟩ := h; rfl) fun cdv A outer s H vs Q E hr h => ?_
  obtain ⟨sl, sh, i, v, x, w, rfl, hS, t1, hi, hw, hl, hm, q⟩ := h
  refine ⟨_, (pss_cons (ps_if (pt_not (pt_val (pe_callB (kc_isi K) rfl T.b_isinstance (by decide +kernel) (pa_cons (pv 2) (pa_cons (pe_bltn (v := .ty "tuple") rfl T.b_tuple (by decide +kernel) rfl) pa_nil)))))
    (pss_one (ps_ret pe_bl))
    pss_nil)
  (pss_one (ps_ret (pe_cmpR (kop_eq K hr.units) (pe_lc (own := [("_law_step_here", 4)]) (g := gName 4) (tt := _) rfl sc__law_is_body.nd (kpi_tup K (pv 2)) (blkOk_by (N := ["_law_shapes", "_law_at", "_law_body_here", "_law_within", "_law_step_here"]) (sc := defScope s__law_is_body) (by decide +kernel)) (fun _ _ _ _ _ => (pg_name (i := 4) sc__law_is_body.nd rfl (Or.inl rfl))) (fun _ _ _ _ _ => (pts_one (pt_not (pt_val (pe_call G__law_is_step (hr.mono (by omega)) (by rfl) T.g__law_is_step T.k__law_is_step T.bd__law_is_step .nil pass0 (pa_cons (pv 0) (pa_cons (pv 1) (pa_cons (pv 4) (pa_cons (pv 3) pa_nil))))))))) (fun _ _ _ _ _ => (pv 4))) (pe_lst pa_nil) (nomark _))))), ?_⟩
  cases x with
  | list _ => cases t1
  | dict _ => cases t1
  | tuple ds =>
    refine w_seq (w_ifs (w_t (K := K) (b := false) (tk_notT (tk_vB (ed_isi (b := true) (ed_var rfl t1) (by rfl)))) fun H1 e1 => ifF rfl (w_next ?_)))
    simp only [PyData.canLay0] at hl
    simp only [smD, Bool.and_eq_true, decide_eq_true_eq] at hm
    refine w_ret (w_d (K := K) (ed_is (ed_eqN (EvDL.rd (edl_lcM (xs := ds) (f := fun y => y) (p := fun y => !isStD sh i n y) (g := fun y => y) (ed_var rfl (t1.ex e1)) (List.map_id' _).symm (by omega) (fun x => rfl) (fun y v H2 e2 hy ty => tk_not (tk_vB (ed_ls (f := fSt n) (hS.ex (e1.trans e2)) rfl (ed_var rfl (.int _)) (ed_var rfl ty) (ed_var rfl (.int _)) hi hw (layAll_mem hl hy) (smDs_mem hm.2 hy)))) (fun y v H2 e2 hy _ ty => ed_var rfl ty))) (edl_lst eda_nil (by decide)) (layAll_flt hl)) (by rw [flt_id])) fun v H2 e2 tv => ?_)
    cases tv
    exact q H2 (e1.trans e2)
  | _ =>
    refine w_seq (w_ifs (w_t (K := K) (b := true) (tk_notF (tk_vB (ed_isi (b := false) (ed_var rfl t1) (by rfl)))) fun H1 e1 => ifT rfl (w_ret (w_c (q H1 e1)))))
theorem ok_lst {k n : Nat} (hk : 7 ≤ k) (spB : Sp) (hB : 0 < n → spB = spLS K (fBd (n - 1)) (n - 1)) (GN : Fn__law_is_number T P w base CX0 1 (spF K pNumber)) (GT : Fn__law_is_thing T P w base CX0 7 (spF K (pLTh 5))) (G : Fn__law_is_body T P w base CX0 k spB) : Fn__law_is_step T P w base CX0 (k + 1) (spLS K (fSt n) n) := by
  have G__law_is_number := GN
  have G__law_is_thing := GT
  have G__law_is_body := G
  obtain ⟨a1, a2, a3, a4, b1, b2, b3, b4, c1, c2, c3, c4, d1, d2, d3, d4⟩ := lw4
  refine T.F__law_is_step.ok sc__law_is_step (fun vs H Q E h => by obtain ⟨_, _, _, _, _, _, rfl, _⟩ := h; rfl) fun cdv A outer s H vs Q E hr h => ?_
  obtain ⟨sl, sh, i, v, x, w, rfl, hS, t1, hi, hw, hl, hm, q⟩ := h
  refine ⟨_, (pss_cons (ps_if (PW.pt (pw_or (pt_not (pt_val (pe_callB (kc_isi K) rfl T.b_isinstance (by decide +kernel) (pa_cons (pv 2) (pa_cons (pe_bltn (v := .ty "tuple") rfl T.b_tuple (by decide +kernel) rfl) pa_nil))))) (pw_or (pt_cmpR op_gt (pv 3) pe_int (nomark _)) (pw_or1 (pt_cmpR (kop_eq K hr.units) (pv 2) (pe_tup pa_nil) (nomark _))))))
    (pss_one (ps_ret pe_bl))
    pss_nil)
  (pss_cons (ps_if (PW.pt (pw_or (pt_cmpR (kop_niTD K (units65 hr)) (pe_ix (kix_tup K) (pv 2) pe_int (fun _ _ => rfl)) (pe_tup (pa_cons pe_str (pa_cons pe_str (pa_cons pe_str (pa_cons pe_str pa_nil))))) rfl) (pw_or1 (pt_cmpR op_ne (pe_callB (kc_len K) rfl T.b_len PySem.boot_len (pa_cons (pv 2) pa_nil)) (pe_dget (hu_of hr) (pe_disp (pps_cons pe_str pe_int (pps_cons pe_str pe_int (pps_cons pe_str pe_int (pps_cons pe_str pe_int pps_nil)))) (by rfl) (by rfl) (fun z => by cases z) (by decide)) (pe_ix (kix_tup K) (pv 2) pe_int (fun _ _ => rfl)) (fun _ _ => rfl)) (nomark _)))))
    (pss_one (ps_ret pe_bl))
    pss_nil)
  (pss_cons (ps_if (pt_cmpR (kop_eq K hr.units) (pe_ix (kix_tup K) (pv 2) pe_int (fun _ _ => rfl)) pe_str (nomark _))
    (pss_cons (ps_if (PW.pt (pw_or (pt_not (pt_val (pe_call G__law_is_number (hr.mono (by omega)) (by rfl) T.g__law_is_number T.k__law_is_number T.bd__law_is_number .nil pass0 (pa_cons (pe_ix (kix_tup K) (pv 2) pe_int (fun _ _ => rfl)) (pa_cons (pe_callB (kc_len K) rfl T.b_len PySem.boot_len (pa_cons (pv 0) pa_nil)) pa_nil))))) (pw_or (pt_cmpR op_le (pe_ix (kix_tup K) (pv 2) pe_int (fun _ _ => rfl)) (pv 1) (nomark _)) (pw_or1 (pt_not (pt_val (pe_callB (kc_isi K) rfl T.b_isinstance (by decide +kernel) (pa_cons (pe_ix (kix_tup K) (pv 2) pe_int (fun _ _ => rfl)) (pa_cons (pe_bltn (v := .ty "tuple") rfl T.b_tuple (by decide +kernel) rfl) pa_nil)))))))))
      (pss_one (ps_ret pe_bl))
      pss_nil)
    (pss_cons (ps_set (i := 4) sc__law_is_step.nd rfl (Or.inl rfl) (pe_ix (kix_tup K) (pv 2) pe_int (fun _ _ => rfl)))
    (pss_one (ps_if (pt_cmpR op_ne (pe_callB (kc_len K) rfl T.b_len PySem.boot_len (pa_cons (pv 4) pa_nil)) (pe_ix (kix_tup K) (pe_ix (kix_list K) (pv 0) (pe_ix (kix_tup K) (pv 2) pe_int (fun _ _ => rfl)) (fun _ _ => rfl)) pe_int (fun _ _ => rfl)) (nomark _))
      (pss_one (ps_ret pe_bl))
      pss_nil))))
    (pss_one (ps_set (i := 4) sc__law_is_step.nd rfl (Or.inl rfl) (pe_ifExp (pt_cmpR (kop_eq K hr.units) (pe_ix (kix_tup K) (pv 2) pe_int (fun _ _ => rfl)) pe_str (nomark _)) (pe_slice (ksl_tup K) (pv 2) (po_some pe_int) (po_some pe_int)) (pe_slice (ksl_tup K) (pv 2) (po_some pe_int) po_none)))))
  (pss_cons (ps_if (pt_cmpR (kop_ne K hr.units) (pe_lc (own := [("_law_thing_here", 6)]) (g := gName 6) (tt := _) rfl sc__law_is_step.nd (kpi_tup K (pv 4)) (blkOk_by (N := ["_law_shapes", "_law_at", "_law_step_here", "_law_within", "_law_things", "_law_bodies", "_law_thing_here", "_law_body_here"]) (sc := defScope s__law_is_step) (by decide +kernel)) (fun _ _ _ _ _ => (pg_name (i := 6) sc__law_is_step.nd rfl (Or.inl rfl))) (fun _ _ _ _ _ => (pts_one (pt_not (pt_val (pe_call G__law_is_thing (hr.mono (by omega)) (by rfl) T.g__law_is_thing T.k__law_is_thing T.bd__law_is_thing .nil pass0 (pa_cons (pv 6) (pa_cons (pe_ix (kix_list K) (pv 0) (pv 1) (fun _ _ => rfl)) (pa_cons pe_int pa_nil)))))))) (fun _ _ _ _ _ => (pv 6))) (pe_lst pa_nil) (nomark _))
    (pss_one (ps_ret pe_bl))
    pss_nil)
  (pss_cons (ps_set (i := 5) sc__law_is_step.nd rfl (Or.inl rfl) (pe_ifExp (pt_cmpR (kop_eq K hr.units) (pe_ix (kix_tup K) (pv 2) pe_int (fun _ _ => rfl)) pe_str (nomark _)) (pe_slice (ksl_tup K) (pv 2) (po_some pe_int) po_none) (pe_tup pa_nil)))
  (pss_cons (ps_if (PW.pt (pw_and (pt_cmpR (kop_eq K hr.units) (pe_ix (kix_tup K) (pv 2) pe_int (fun _ _ => rfl)) pe_str (nomark _)) (pw_and1 (pt_cmpR (kop_niTD K (units65 hr)) (pe_ix (kix_tup K) (pe_ix (kix_tup K) (pv 2) pe_int (fun _ _ => rfl)) pe_int (fun _ _ => rfl)) (pe_tup (pa_cons pe_str (pa_cons pe_str (pa_cons pe_str pa_nil)))) rfl))))
    (pss_one (ps_ret pe_bl))
    pss_nil)
  (pss_one (ps_ret (pe_cmpR (kop_eq K hr.units) (pe_lc (own := [("_law_body_here", 7)]) (g := gName 7) (tt := _) rfl sc__law_is_step.nd (kpi_tup K (pv 5)) (blkOk_by (N := ["_law_shapes", "_law_at", "_law_step_here", "_law_within", "_law_things", "_law_bodies", "_law_thing_here", "_law_body_here"]) (sc := defScope s__law_is_step) (by decide +kernel)) (fun _ _ _ _ _ => (pg_name (i := 7) sc__law_is_step.nd rfl (Or.inl rfl))) (fun _ _ _ _ _ => (pts_one (pt_not (pt_val (pe_call G__law_is_body (hr.mono (by omega)) (by rfl) T.g__law_is_body T.k__law_is_body T.bd__law_is_body .nil pass0 (pa_cons (pv 0) (pa_cons (pv 1) (pa_cons (pv 7) (pa_cons (pe_op op_add (pv 3) pe_int) pa_nil))))))))) (fun _ _ _ _ _ => (pv 7))) (pe_lst pa_nil) (nomark _)))))))))), ?_⟩
  cases x with
  | list _ => cases t1
  | dict _ => cases t1
  | tuple ds =>
    cases ds with
    | nil =>
      refine w_seq (w_ifs (w_t (K := K) (b := true) (tk_is (tk_or (tk_notT (tk_vB (ed_isi (b := true) (ed_var rfl t1) (by rfl)))) fun _ => tk_or (tk_v (ed_I0b (ed_var rfl (.int _)) ed_ci)) fun _ => tk_v (ed_eqM (ed_var rfl t1) (ed_tup eda_nil (by decide)) (by decide +kernel) (by decide +kernel) (by simp [PyData.depth, PyData.depthAll]))) (by simp [PyData.eqv, PyData.eqvAll])) fun H1 e1 => ifT rfl (w_ret (w_c ?_))))
      rw [show (false : Bool) = fSt n sh i (.tuple []) from by cases n <;> simp [fSt, isStD]]
      exact q H1 e1
    | cons h r =>
      refine w_seq (w_ifs (w_t (K := K) (b := decide (4 < w)) (tk_is (tk_or (tk_notT (tk_vB (ed_isi (b := true) (ed_var rfl t1) (by rfl)))) fun _ => tk_or (tk_v (ed_I0b (ed_var rfl (.int _)) ed_ci)) fun _ => tk_v (ed_eqM (ed_var rfl t1) (ed_tup eda_nil (by decide)) hl (by decide +kernel) (by simp [PyData.depth, PyData.depthAll]))) (by simp [PyData.eqv, PyData.eqvAll]; try omega)) fun H1 e1 => ?_))
      by_cases h4 : 4 < w
      · refine ifT (by simpa using h4) (w_ret (w_c ?_))
        have : n = 0 := by omega
        subst this
        rw [show (false : Bool) = fSt 0 sh i (.tuple (h :: r)) from by simp [fSt, isStD]]
        exact q H1 e1
      · refine ifF (by simpa using h4) (w_next ?_)
        obtain ⟨m, rfl⟩ : ∃ m, n = m + 1 := ⟨n - 1, by omega⟩
        have hsp := hB (by omega)
        subst hsp
        simp only [Nat.add_sub_cancel] at *
        replace t1 := t1.ex e1
        have hl0 := hl
        simp only [PyData.canLay0, PyData.canLayAll0, Bool.and_eq_true] at hl
        simp only [smD, smDs, Bool.and_eq_true, decide_eq_true_eq, List.length_cons] at hm
        have hh := hl.1
        have hlr := hl.2
        have hmr := hm.2.2
        have no4 : ∀ s : Str, h = .str s → (s = "set" ∨ s = "say" ∨ s = "if" ∨ s = "call") → r.length + 1 ≠ lenW s → fSt (m + 1) sh i (.tuple (h :: r)) = false := fun s e h4 hl => by
          rw [e]
          exact isStD_ln h4 hl
        rcases four_words h with rfl | rfl | rfl | rfl | g4
        · -- set
          by_cases hlen : r.length + 1 = 3
          · obtain ⟨a, b, rfl⟩ : ∃ a b, r = [a, b] := by
              match r, hlen with
              | [a, b], _ => exact ⟨a, b, rfl⟩
            refine w_seq (w_ifs (w_t (K := K) (b := false) (tk_is (tk_or (tk_v (ed_niTD ["set", "say", "if", "call"] (ed_ixT (i := 0) (ed_var rfl t1) ed_ci atI_zero) (eda_cons ed_cs (eda_cons ed_cs (eda_cons ed_cs (eda_cons ed_cs eda_nil)))) hh (by decide +kernel) (by decide))) fun _ => tk_v (ed_nei (ed_len (ed_var rfl t1)) (ed_i (ev_dgetD (K := K) (s := "set") [(Sum.inr "set", .int 3), (Sum.inr "say", .int 2), (Sum.inr "if", .int 4), (Sum.inr "call", .int 3)] (eps_cons ev_c ev_c (eps_cons ev_c ev_c (eps_cons ev_c ev_c (eps_cons ev_c ev_c eps_nil)))) (by simp) (ed_ixT (i := 0) (ed_var rfl t1) ed_ci atI_zero) rfl)))) ?_) fun H2 e2 => ?_))
            · simp
            refine ifF rfl (w_next ?_)
            replace t1 := t1.ex e2
            dsimp only
            refine seq_cut (fun σ' H' => ∃ u, σ' = [some (.ref sl), some (.int (i : Int)), some v, some (.int (w : Int)), some u, none, none, none] ∧ Ex H2 H' ∧ Td K H' u (.tuple [a, b])) ?_ fun N hN => ?_
            · rintro σ' H6 ⟨u, rfl, e6, t6⟩
              have e06 := (e1.trans e2).trans e6
              have S6 := hS.ex e06
              replace t1 := t1.ex e6
              have lay2 : PyData.canLayAll0 [a, b] = true := hlr
              refine w_seq (w_ifs (w_t (K := K) (b := !([a, b] : List PyData).all (isThD (shP sh i) (shO sh i) 5)) (tk_is (tk_v (ed_neN (EvDL.rd (edl_lcM (xs := [a, b]) (f := fun y => y) (p := fun y => !isThD (shP sh i) (shO sh i) 5 y) (g := fun y => y) (ed_var rfl t6) (List.map_id' _).symm (by simp) (fun x => rfl) (fun y v Hc ec hy ty => tk_not (tk_vB (ed_call (eda_cons (ed_var rfl ty) (eda_cons ((S6.ex ec).at rfl (ed_var rfl (.int _)) hi) (eda_cons ed_ci eda_nil))) ⟨y, shP sh i, shO sh i, 0, rfl, rfl, layAll_mem lay2 hy, rfl⟩))) (fun y v Hc ec hy _ ty => ed_var rfl ty))) (edl_lst eda_nil (by decide)) (layAll_flt lay2))) (by rw [flt_id])) fun H7 e7 => ?_))
              have e07 := e06.trans e7
              replace t1 := t1.ex e7
              cases hth : ([a, b] : List PyData).all (isThD (shP sh i) (shO sh i) 5) with
              | false =>
                refine ifT (by simp) (w_ret (w_c ?_))
                rw [show (false : Bool) = fSt (m + 1) sh i (.tuple [.str "set", a, b]) from ?_]
                · exact q H7 e07
                · simp only [List.all_cons, List.all_nil, Bool.and_true] at hth
                  simp only [fSt, isStD, a1, d1, Bool.true_and, Bool.false_and, Bool.or_false, hth, Bool.and_false]
              | true =>
                refine ifF (by simp) (w_next ?_)
                simp only [List.all_cons, List.all_nil, Bool.and_true, Bool.and_eq_true] at hth
                obtain ⟨ta, rfl⟩ := isThD_inv _ _ hth.1
                dsimp only
                refine w_seq (w_asg (w_d (K := K) (ed_ifF (tk_is (tk_v (ed_eqT (s := "if") (ed_ixT (i := 0) (ed_var rfl t1) ed_ci atI_zero) hh (by decide +kernel))) c1) (ed_tup eda_nil (by decide))) fun u8 H8 e8 t8 => ?_))
                replace t1 := t1.ex e8
                dsimp only
                obtain ⟨wd, dr, hwd, hwl⟩ : ∃ wd dr, encT ta = .tuple (.str wd :: dr) ∧ (PyData.str wd).canLay0 = true := by cases ta <;> exact ⟨_, _, rfl, by decide +kernel⟩
                refine w_seq (w_ifs (w_t (K := K) (b := !isPlD (encT ta)) (tk_is (tk_and (tk_v (ed_eqT (s := "set") (ed_ixT (i := 0) (ed_var rfl t1) ed_ci atI_zero) hh (by decide +kernel))) fun _ => tk_v (ed_niTD ["cell", "own", "par"] (ed_ixT (i := 0) (ds := .str wd :: dr) (d := .str wd) (ed_is (ed_ixT (i := 1) (ed_var rfl t1) ed_ci rfl) hwd) ed_ci atI_zero) (eda_cons ed_cs (eda_cons ed_cs (eda_cons ed_cs eda_nil))) hwl (by decide +kernel) (by decide))) (by rw [a1, hwd]; simp [isPlD])) fun H9 e9 => ?_))
                have e09 := (e07.trans e8).trans e9
                cases hpl : isPlD (encT ta) with
                | false =>
                  refine ifT rfl (w_ret (w_c ?_))
                  rw [show (false : Bool) = fSt (m + 1) sh i (.tuple [.str "set", encT ta, b]) from ?_]
                  · exact q H9 e09
                  · simp only [fSt, isStD, a1, d1, hpl, Bool.true_and, Bool.false_and, Bool.or_false]
                | true =>
                  refine ifF rfl (w_next ?_)
                  dsimp only
                  refine w_ret (w_d (K := K) (ed_is (ed_eqN (EvDL.rd (edl_lcM (xs := []) (f := fun y => y) (p := fun y => !fBd m sh i y) (g := fun y => y) (ed_var rfl (t8.ex e9)) rfl (by simp) (fun x => rfl) (fun y v Hc ec hy ty => absurd hy (by simp)) (fun y v Hc ec hy _ ty => ed_var rfl ty))) (edl_lst eda_nil (by decide)) rfl) (e := .bool true) rfl) fun v10 H10 e10 t10 => ?_)
                  cases t10
                  rw [show (true : Bool) = fSt (m + 1) sh i (.tuple [.str "set", encT ta, b]) from ?_]
                  · exact q H10 (e09.trans e10)
                  · simp only [fSt, isStD, a1, d1, hpl, hth.1, hth.2, Bool.true_and, Bool.false_and, Bool.or_false, Bool.and_self]
            · refine w_ifs (w_t (K := K) (b := false) (tk_is (tk_v (ed_eqT (s := "call") (ed_ixT (i := 0) (ed_var rfl t1) ed_ci atI_zero) hh (by decide +kernel))) d1) fun H3 e3 => ifF rfl ?_)
              replace t1 := t1.ex e3
              refine w_asg (w_d (K := K) (ed_ifF (tk_is (tk_v (ed_eqT (s := "if") (ed_ixT (i := 0) (ed_var rfl t1) ed_ci atI_zero) hh (by decide +kernel))) c1) (ed_is (ed_sl (lo := some ((1 : Nat) : Int)) (hi := none) (ed_var rfl t1) (eok_some ed_ci) eok_none) (by rw [cutD_suf]; rfl))) fun u H4 e4 t4 => hN _ _ ⟨u, rfl, e3.trans e4, t4⟩)
          · skip
            refine w_seq (w_ifs (w_t (K := K) (b := true) (tk_is (tk_or (tk_v (ed_niTD ["set", "say", "if", "call"] (ed_ixT (i := 0) (ed_var rfl t1) ed_ci atI_zero) (eda_cons ed_cs (eda_cons ed_cs (eda_cons ed_cs (eda_cons ed_cs eda_nil)))) hh (by decide +kernel) (by decide))) fun _ => tk_v (ed_nei (ed_len (ed_var rfl t1)) (ed_i (ev_dgetD (K := K) (s := "set") [(Sum.inr "set", .int 3), (Sum.inr "say", .int 2), (Sum.inr "if", .int 4), (Sum.inr "call", .int 3)] (eps_cons ev_c ev_c (eps_cons ev_c ev_c (eps_cons ev_c ev_c (eps_cons ev_c ev_c eps_nil)))) (by simp) (ed_ixT (i := 0) (ed_var rfl t1) ed_ci atI_zero) rfl)))) ?_) fun H2 e2 => ?_))
            · simp; omega
            refine ifT rfl (w_ret (w_c ?_))
            rw [← no4 "set" rfl (.inl rfl) (by rw [(by decide +kernel : lenW "set" = 3)]; exact hlen)]
            exact q H2 (e1.trans e2)
        · -- say
          by_cases hlen : r.length + 1 = 2
          · obtain ⟨a, rfl⟩ : ∃ a, r = [a] := by
              match r, hlen with
              | [a], _ => exact ⟨a, rfl⟩
            refine w_seq (w_ifs (w_t (K := K) (b := false) (tk_is (tk_or (tk_v (ed_niTD ["set", "say", "if", "call"] (ed_ixT (i := 0) (ed_var rfl t1) ed_ci atI_zero) (eda_cons ed_cs (eda_cons ed_cs (eda_cons ed_cs (eda_cons ed_cs eda_nil)))) hh (by decide +kernel) (by decide))) fun _ => tk_v (ed_nei (ed_len (ed_var rfl t1)) (ed_i (ev_dgetD (K := K) (s := "say") [(Sum.inr "set", .int 3), (Sum.inr "say", .int 2), (Sum.inr "if", .int 4), (Sum.inr "call", .int 3)] (eps_cons ev_c ev_c (eps_cons ev_c ev_c (eps_cons ev_c ev_c (eps_cons ev_c ev_c eps_nil)))) (by simp) (ed_ixT (i := 0) (ed_var rfl t1) ed_ci atI_zero) rfl)))) ?_) fun H2 e2 => ?_))
            · simp
            refine ifF rfl (w_next ?_)
            replace t1 := t1.ex e2
            dsimp only
            refine seq_cut (fun σ' H' => ∃ u, σ' = [some (.ref sl), some (.int (i : Int)), some v, some (.int (w : Int)), some u, none, none, none] ∧ Ex H2 H' ∧ Td K H' u (.tuple [a])) ?_ fun N hN => ?_
            · rintro σ' H6 ⟨u, rfl, e6, t6⟩
              have e06 := (e1.trans e2).trans e6
              have S6 := hS.ex e06
              replace t1 := t1.ex e6
              refine w_seq (w_ifs (w_t (K := K) (b := !([a] : List PyData).all (isThD (shP sh i) (shO sh i) 5)) (tk_is (tk_v (ed_neN (EvDL.rd (edl_lcM (xs := [a]) (f := fun y => y) (p := fun y => !isThD (shP sh i) (shO sh i) 5 y) (g := fun y => y) (ed_var rfl t6) (List.map_id' _).symm (by simp) (fun x => rfl) (fun y v Hc ec hy ty => tk_not (tk_vB (ed_call (eda_cons (ed_var rfl ty) (eda_cons ((S6.ex ec).at rfl (ed_var rfl (.int _)) hi) (eda_cons ed_ci eda_nil))) ⟨y, shP sh i, shO sh i, 0, rfl, rfl, layAll_mem hlr hy, rfl⟩))) (fun y v Hc ec hy _ ty => ed_var rfl ty))) (edl_lst eda_nil (by decide)) (layAll_flt hlr))) (by rw [flt_id])) fun H7 e7 => ?_))
              have e07 := e06.trans e7
              replace t1 := t1.ex e7
              cases hth : ([a] : List PyData).all (isThD (shP sh i) (shO sh i) 5) with
              | false =>
                refine ifT (by simp) (w_ret (w_c ?_))
                rw [show (false : Bool) = fSt (m + 1) sh i (.tuple [.str "say", a]) from ?_]
                · exact q H7 e07
                · simp only [List.all_cons, List.all_nil, Bool.and_true] at hth
                  simp only [fSt, isStD, b2, Bool.true_and, hth]
              | true =>
                refine ifF (by simp) (w_next ?_)
                simp only [List.all_cons, List.all_nil, Bool.and_true] at hth
                dsimp only
                refine w_seq (w_asg (w_d (K := K) (ed_ifF (tk_is (tk_v (ed_eqT (s := "if") (ed_ixT (i := 0) (ed_var rfl t1) ed_ci atI_zero) hh (by decide +kernel))) c2) (ed_tup eda_nil (by decide))) fun u8 H8 e8 t8 => ?_))
                replace t1 := t1.ex e8
                dsimp only
                refine w_seq (w_ifs (w_t (K := K) (b := false) (tk_andF (tk_is (tk_v (ed_eqT (s := "set") (ed_ixT (i := 0) (ed_var rfl t1) ed_ci atI_zero) hh (by decide +kernel))) a2)) fun H9 e9 => ifF rfl (w_next ?_)))
                have e09 := (e07.trans e8).trans e9
                dsimp only
                refine w_ret (w_d (K := K) (ed_is (ed_eqN (EvDL.rd (edl_lcM (xs := []) (f := fun y => y) (p := fun y => !fBd m sh i y) (g := fun y => y) (ed_var rfl (t8.ex e9)) rfl (by simp) (fun x => rfl) (fun y v Hc ec hy ty => absurd hy (by simp)) (fun y v Hc ec hy _ ty => ed_var rfl ty))) (edl_lst eda_nil (by decide)) rfl) (e := .bool true) rfl) fun v10 H10 e10 t10 => ?_)
                cases t10
                rw [show (true : Bool) = fSt (m + 1) sh i (.tuple [.str "say", a]) from ?_]
                · exact q H10 (e09.trans e10)
                · simp only [fSt, isStD, b2, hth, Bool.true_and]
            · refine w_ifs (w_t (K := K) (b := false) (tk_is (tk_v (ed_eqT (s := "call") (ed_ixT (i := 0) (ed_var rfl t1) ed_ci atI_zero) hh (by decide +kernel))) d2) fun H3 e3 => ifF rfl ?_)
              replace t1 := t1.ex e3
              refine w_asg (w_d (K := K) (ed_ifF (tk_is (tk_v (ed_eqT (s := "if") (ed_ixT (i := 0) (ed_var rfl t1) ed_ci atI_zero) hh (by decide +kernel))) c2) (ed_is (ed_sl (lo := some ((1 : Nat) : Int)) (hi := none) (ed_var rfl t1) (eok_some ed_ci) eok_none) (by rw [cutD_suf]; rfl))) fun u H4 e4 t4 => hN _ _ ⟨u, rfl, e3.trans e4, t4⟩)
          · skip
            refine w_seq (w_ifs (w_t (K := K) (b := true) (tk_is (tk_or (tk_v (ed_niTD ["set", "say", "if", "call"] (ed_ixT (i := 0) (ed_var rfl t1) ed_ci atI_zero) (eda_cons ed_cs (eda_cons ed_cs (eda_cons ed_cs (eda_cons ed_cs eda_nil)))) hh (by decide +kernel) (by decide))) fun _ => tk_v (ed_nei (ed_len (ed_var rfl t1)) (ed_i (ev_dgetD (K := K) (s := "say") [(Sum.inr "set", .int 3), (Sum.inr "say", .int 2), (Sum.inr "if", .int 4), (Sum.inr "call", .int 3)] (eps_cons ev_c ev_c (eps_cons ev_c ev_c (eps_cons ev_c ev_c (eps_cons ev_c ev_c eps_nil)))) (by simp) (ed_ixT (i := 0) (ed_var rfl t1) ed_ci atI_zero) rfl)))) ?_) fun H2 e2 => ?_))
            · simp; omega
            refine ifT rfl (w_ret (w_c ?_))
            rw [← no4 "say" rfl (.inr (.inl rfl)) (by rw [(by decide +kernel : lenW "say" = 2)]; exact hlen)]
            exact q H2 (e1.trans e2)
        · -- if
          by_cases hlen : r.length + 1 = 4
          · obtain ⟨a, b, c, rfl⟩ : ∃ a b c, r = [a, b, c] := by
              match r, hlen with
              | [a, b, c], _ => exact ⟨a, b, c, rfl⟩
            refine w_seq (w_ifs (w_t (K := K) (b := false) (tk_is (tk_or (tk_v (ed_niTD ["set", "say", "if", "call"] (ed_ixT (i := 0) (ed_var rfl t1) ed_ci atI_zero) (eda_cons ed_cs (eda_cons ed_cs (eda_cons ed_cs (eda_cons ed_cs eda_nil)))) hh (by decide +kernel) (by decide))) fun _ => tk_v (ed_nei (ed_len (ed_var rfl t1)) (ed_i (ev_dgetD (K := K) (s := "if") [(Sum.inr "set", .int 3), (Sum.inr "say", .int 2), (Sum.inr "if", .int 4), (Sum.inr "call", .int 3)] (eps_cons ev_c ev_c (eps_cons ev_c ev_c (eps_cons ev_c ev_c (eps_cons ev_c ev_c eps_nil)))) (by simp) (ed_ixT (i := 0) (ed_var rfl t1) ed_ci atI_zero) rfl)))) ?_) fun H2 e2 => ?_))
            · simp
            refine ifF rfl (w_next ?_)
            replace t1 := t1.ex e2
            dsimp only
            simp only [PyData.canLayAll0, Bool.and_eq_true] at hlr
            simp only [smDs, Bool.and_eq_true] at hmr
            have la : PyData.canLayAll0 [a] = true := by simp [PyData.canLayAll0, hlr.1]
            have lbc : PyData.canLayAll0 [b, c] = true := by simp [PyData.canLayAll0, hlr.2.1, hlr.2.2.1]
            have mbc : smDs [b, c] = true := by simp [smDs, hmr.2.1, hmr.2.2.1]
            refine seq_cut (fun σ' H' => ∃ u, σ' = [some (.ref sl), some (.int (i : Int)), some v, some (.int (w : Int)), some u, none, none, none] ∧ Ex H2 H' ∧ Td K H' u (.tuple [a])) ?_ fun N hN => ?_
            · rintro σ' H6 ⟨u, rfl, e6, t6⟩
              have e06 := (e1.trans e2).trans e6
              have S6 := hS.ex e06
              replace t1 := t1.ex e6
              refine w_seq (w_ifs (w_t (K := K) (b := !([a] : List PyData).all (isThD (shP sh i) (shO sh i) 5)) (tk_is (tk_v (ed_neN (EvDL.rd (edl_lcM (xs := [a]) (f := fun y => y) (p := fun y => !isThD (shP sh i) (shO sh i) 5 y) (g := fun y => y) (ed_var rfl t6) (List.map_id' _).symm (by simp) (fun x => rfl) (fun y v Hc ec hy ty => tk_not (tk_vB (ed_call (eda_cons (ed_var rfl ty) (eda_cons ((S6.ex ec).at rfl (ed_var rfl (.int _)) hi) (eda_cons ed_ci eda_nil))) ⟨y, shP sh i, shO sh i, 0, rfl, rfl, layAll_mem la hy, rfl⟩))) (fun y v Hc ec hy _ ty => ed_var rfl ty))) (edl_lst eda_nil (by decide)) (layAll_flt la))) (by rw [flt_id])) fun H7 e7 => ?_))
              have e07 := e06.trans e7
              replace t1 := t1.ex e7
              cases hth : ([a] : List PyData).all (isThD (shP sh i) (shO sh i) 5) with
              | false =>
                refine ifT (by simp) (w_ret (w_c ?_))
                rw [show (false : Bool) = fSt (m + 1) sh i (.tuple [.str "if", a, b, c]) from ?_]
                · exact q H7 e07
                · simp only [List.all_cons, List.all_nil, Bool.and_true] at hth
                  simp only [fSt, isStD, c3, Bool.true_and, hth, Bool.false_and]
              | true =>
                refine ifF (by simp) (w_next ?_)
                simp only [List.all_cons, List.all_nil, Bool.and_true] at hth
                dsimp only
                refine w_seq (w_asg (w_d (K := K) (ed_ifT (tk_is (tk_v (ed_eqT (s := "if") (ed_ixT (i := 0) (ed_var rfl t1) ed_ci atI_zero) hh (by decide +kernel))) c3) (ed_is (ed_sl (lo := some ((2 : Nat) : Int)) (hi := none) (ed_var rfl t1) (eok_some ed_ci) eok_none) (by rw [cutD_suf] <;> rfl))) fun u8 H8 e8 t8 => ?_))
                replace t1 := t1.ex e8
                dsimp only
                refine w_seq (w_ifs (w_t (K := K) (b := false) (tk_andF (tk_is (tk_v (ed_eqT (s := "set") (ed_ixT (i := 0) (ed_var rfl t1) ed_ci atI_zero) hh (by decide +kernel))) a3)) fun H9 e9 => ifF rfl (w_next ?_)))
                have e09 := (e07.trans e8).trans e9
                dsimp only
                have t8' : Td K H9 u8 (.tuple [b, c]) := t8.ex e9
                refine w_ret (w_d (K := K) (ed_is (ed_eqN (EvDL.rd (edl_lcM (xs := [b, c]) (f := fun y => y) (p := fun y => !fBd m sh i y) (g := fun y => y) (ed_var rfl t8') rfl (by simp) (fun x => rfl) (fun y v Hc ec hy ty => tk_not (tk_vB (ed_ls (f := fBd m) (hS.ex (e09.trans ec)) rfl (ed_var rfl (.int _)) (ed_var rfl ty) (ed_is (ed_I0i (ed_var rfl (.int _)) ed_ci) rfl) hi (by omega : (w + 1) + m = 5) (layAll_mem lbc hy) (smDs_mem mbc hy)))) (fun y v Hc ec hy _ ty => ed_var rfl ty))) (edl_lst eda_nil (by decide)) (layAll_flt lbc)) (by rw [flt_id])) fun v10 H10 e10 t10 => ?_)
                cases t10
                rw [show ([b, c] : List PyData).all (fBd m sh i) = fSt (m + 1) sh i (.tuple [.str "if", a, b, c]) from ?_]
                · exact q H10 (e09.trans e10)
                · simp only [fSt, isStD, c3, hth, Bool.true_and, List.all_cons, List.all_nil, Bool.and_true]
                  rfl
            · refine w_ifs (w_t (K := K) (b := false) (tk_is (tk_v (ed_eqT (s := "call") (ed_ixT (i := 0) (ed_var rfl t1) ed_ci atI_zero) hh (by decide +kernel))) d3) fun H3 e3 => ifF rfl ?_)
              replace t1 := t1.ex e3
              refine w_asg (w_d (K := K) (ed_ifT (tk_is (tk_v (ed_eqT (s := "if") (ed_ixT (i := 0) (ed_var rfl t1) ed_ci atI_zero) hh (by decide +kernel))) c3) (ed_is (ed_sl (lo := some ((1 : Nat) : Int)) (hi := some ((2 : Nat) : Int)) (ed_var rfl t1) (eok_some ed_ci) (eok_some ed_ci)) (by rfl))) fun u H4 e4 t4 => hN _ _ ⟨u, rfl, e3.trans e4, t4⟩)
          · skip
            refine w_seq (w_ifs (w_t (K := K) (b := true) (tk_is (tk_or (tk_v (ed_niTD ["set", "say", "if", "call"] (ed_ixT (i := 0) (ed_var rfl t1) ed_ci atI_zero) (eda_cons ed_cs (eda_cons ed_cs (eda_cons ed_cs (eda_cons ed_cs eda_nil)))) hh (by decide +kernel) (by decide))) fun _ => tk_v (ed_nei (ed_len (ed_var rfl t1)) (ed_i (ev_dgetD (K := K) (s := "if") [(Sum.inr "set", .int 3), (Sum.inr "say", .int 2), (Sum.inr "if", .int 4), (Sum.inr "call", .int 3)] (eps_cons ev_c ev_c (eps_cons ev_c ev_c (eps_cons ev_c ev_c (eps_cons ev_c ev_c eps_nil)))) (by simp) (ed_ixT (i := 0) (ed_var rfl t1) ed_ci atI_zero) rfl)))) ?_) fun H2 e2 => ?_))
            · simp; omega
            refine ifT rfl (w_ret (w_c ?_))
            rw [← no4 "if" rfl (.inr (.inr (.inl rfl))) (by rw [(by decide +kernel : lenW "if" = 4)]; exact hlen)]
            exact q H2 (e1.trans e2)
        · -- call
          by_cases hlen : r.length + 1 = 3
          · obtain ⟨a, b, rfl⟩ : ∃ a b, r = [a, b] := by
              match r, hlen with
              | [a, b], _ => exact ⟨a, b, rfl⟩
            refine w_seq (w_ifs (w_t (K := K) (b := false) (tk_is (tk_or (tk_v (ed_niTD ["set", "say", "if", "call"] (ed_ixT (i := 0) (ed_var rfl t1) ed_ci atI_zero) (eda_cons ed_cs (eda_cons ed_cs (eda_cons ed_cs (eda_cons ed_cs eda_nil)))) hh (by decide +kernel) (by decide))) fun _ => tk_v (ed_nei (ed_len (ed_var rfl t1)) (ed_i (ev_dgetD (K := K) (s := "call") [(Sum.inr "set", .int 3), (Sum.inr "say", .int 2), (Sum.inr "if", .int 4), (Sum.inr "call", .int 3)] (eps_cons ev_c ev_c (eps_cons ev_c ev_c (eps_cons ev_c ev_c (eps_cons ev_c ev_c eps_nil)))) (by simp) (ed_ixT (i := 0) (ed_var rfl t1) ed_ci atI_zero) rfl)))) ?_) fun H2 e2 => ?_))
            · simp
            refine ifF rfl (w_next ?_)
            replace t1 := t1.ex e2
            dsimp only
            simp only [PyData.canLayAll0, Bool.and_eq_true] at hlr
            simp only [smDs, Bool.and_eq_true] at hmr
            have fe : fSt (m + 1) sh i (.tuple [.str "call", a, b]) = callD sh i a b := by
              simp only [fSt, isStD, a4, d4, Bool.true_and, Bool.false_and, Bool.false_or]
            rw [fe] at q
            obtain ⟨pa, xs, rfl, hsx, hall⟩ := t1.tup_inv
            obtain _ | ⟨_, _ | ⟨ua, _ | ⟨ub, _ | _⟩⟩⟩ := hall
            refine seq_cut (fun σ' H' => ∃ u ts, b = .tuple ts ∧ callD sh i a b = ts.all (isThD (shP sh i) (shO sh i) 5) ∧ σ' = [some (.ref sl), some (.int (i : Int)), some (.ref pa), some (.int (w : Int)), some u, none, none, none] ∧ Ex H2 H' ∧ Td K H' u (.tuple ts)) ?_ fun N hN => ?_
            · rintro σ' H6 ⟨u, ts, rfl, hcd, rfl, e6, t6⟩
              have e06 := (e1.trans e2).trans e6
              have S6 := hS.ex e06
              replace t1 := t1.ex e6
              have hly := hlr.2.1
              have hmy := hmr.2.1
              simp only [PyData.canLay0] at hly
              simp only [smD, Bool.and_eq_true, decide_eq_true_eq] at hmy
              rw [hcd] at q
              refine w_seq (w_ifs (w_t (K := K) (b := !(ts : List PyData).all (isThD (shP sh i) (shO sh i) 5)) (tk_is (tk_v (ed_neN (EvDL.rd (edl_lcM (xs := ts) (f := fun y => y) (p := fun y => !isThD (shP sh i) (shO sh i) 5 y) (g := fun y => y) (ed_var rfl t6) (List.map_id' _).symm (by omega) (fun x => rfl) (fun y v Hc ec hy ty => tk_not (tk_vB (ed_call (eda_cons (ed_var rfl ty) (eda_cons ((S6.ex ec).at rfl (ed_var rfl (.int _)) hi) (eda_cons ed_ci eda_nil))) ⟨y, shP sh i, shO sh i, 0, rfl, rfl, layAll_mem hly hy, rfl⟩))) (fun y v Hc ec hy _ ty => ed_var rfl ty))) (edl_lst eda_nil (by decide)) (layAll_flt hly))) (by rw [flt_id])) fun H7 e7 => ?_))
              have e07 := e06.trans e7
              replace t1 := t1.ex e7
              cases hth : (ts : List PyData).all (isThD (shP sh i) (shO sh i) 5) with
              | false =>
                rw [hth] at q
                exact ifT (by simp) (w_ret (w_c (q H7 e07)))
              | true =>
                rw [hth] at q
                refine ifF (by simp) (w_next ?_)
                dsimp only
                refine w_seq (w_asg (w_d (K := K) (ed_ifF (tk_is (tk_v (ed_eqT (s := "if") (ed_ixT (i := 0) (ed_var rfl t1) ed_ci atI_zero) hh (by decide +kernel))) c4) (ed_tup eda_nil (by decide))) fun u8 H8 e8 t8 => ?_))
                replace t1 := t1.ex e8
                dsimp only
                refine w_seq (w_ifs (w_t (K := K) (b := false) (tk_andF (tk_is (tk_v (ed_eqT (s := "set") (ed_ixT (i := 0) (ed_var rfl t1) ed_ci atI_zero) hh (by decide +kernel))) a4)) fun H9 e9 => ifF rfl (w_next ?_)))
                have e09 := (e07.trans e8).trans e9
                dsimp only
                refine w_ret (w_d (K := K) (ed_is (ed_eqN (EvDL.rd (edl_lcM (xs := []) (f := fun y => y) (p := fun y => !fBd m sh i y) (g := fun y => y) (ed_var rfl (t8.ex e9)) rfl (by simp) (fun x => rfl) (fun y v Hc ec hy ty => absurd hy (by simp)) (fun y v Hc ec hy _ ty => ed_var rfl ty))) (edl_lst eda_nil (by decide)) rfl) (e := .bool true) rfl) fun v10 H10 e10 t10 => ?_)
                cases t10
                exact q H10 (e09.trans e10)
            · refine w_ifs (w_t (K := K) (b := true) (tk_is (tk_v (ed_eqT (s := "call") (ed_ixT (i := 0) (ed_var rfl t1) ed_ci atI_zero) hh (by decide +kernel))) d4) fun H3 e3 => ifT rfl ?_)
              replace t1 := t1.ex e3
              have e03 := (e1.trans e2).trans e3
              have S3 := hS.ex e03
              have ea : EvD K (tOp (rIxT K) (tVar 2) (tC (.int 1))) [some (.ref sl), some (.int (i : Int)), some (.ref pa), some (.int (w : Int)), none, none, none, none] H3 a := ed_ixT (i := 1) (ed_var rfl t1) ed_ci rfl
              have eb : EvD K (tOp (rIxT K) (tVar 2) (tC (.int 2))) [some (.ref sl), some (.int (i : Int)), some (.ref pa), some (.int (w : Int)), none, none, none, none] H3 b := ed_ixT (i := 2) (ed_var rfl t1) ed_ci rfl
              have enum : EvTK K (tNot (tB (tCall (spF K pNumber) [] (fun _ _ _ => False) (tCons (tOp (rIxT K) (tVar 2) (tC (.int 1))) (tCons (tCB (rLenS K) (tCons (tVar 0) tNil)) tNil))))) [some (.ref sl), some (.int (i : Int)), some (.ref pa), some (.int (w : Int)), none, none, none, none] H3 (!isNumD a (sh.length : Int)) := tk_not (tk_vB (ed_call (eda_cons ea (eda_cons (ed_is (ed_lenL (S3.rd rfl)) (by rw [List.length_map])) eda_nil)) ⟨_, _, rfl, rfl⟩))
              by_cases hnum : isNumD a (sh.length : Int) = true
              · obtain ⟨c, rfl, hc⟩ := isNumD_inv hnum
                have hcl : c < sh.length := by omega
                have hsc : sh[c]? = some sh[c] := List.getElem?_eq_getElem hcl
                rw [hnum] at enum
                by_cases hci : i < c
                · cases hbt : isTupL b with
                  | false =>
                    refine w_seq (w_ifs (w_t (K := K) (b := true) (tk_is (tk_or enum fun _ => tk_or (tk_v (ed_I0b ea (ed_var rfl (.int _)))) fun _ => tk_not (tk_vB (ed_isi (b := isTupL b) eb (isTupL_kit ub)))) (by rw [hbt]; simp)) fun H4 e4 => ifT rfl (w_ret (w_c ?_))))
                    have : callD sh i (.int (c : Int)) b = false := by
                      cases b <;> first | rfl | cases hbt
                    rw [this] at q
                    exact q H4 (e03.trans e4)
                  | true =>
                    refine w_seq (w_ifs (w_t (K := K) (b := false) (tk_is (tk_or enum fun _ => tk_or (tk_v (ed_I0b ea (ed_var rfl (.int _)))) fun _ => tk_not (tk_vB (ed_isi (b := isTupL b) eb (isTupL_kit ub)))) (by rw [hbt]; simp; omega)) fun H4 e4 => ifF rfl (w_next ?_)))
                    obtain ⟨ts, rfl⟩ : ∃ ts, b = .tuple ts := by
                      cases b <;> first | exact ⟨_, rfl⟩ | cases hbt
                    replace t1 := t1.ex e4
                    dsimp only
                    refine w_seq (w_asg (w_d (K := K) (ed_ixT (i := 2) (ed_var rfl t1) ed_ci rfl) fun u H5 e5 t5 => ?_))
                    replace t1 := t1.ex e5
                    have S5 := S3.ex (e4.trans e5)
                    obtain ⟨s1, s2⟩ := shP_at hsc
                    dsimp only
                    refine w_ifs (w_t (K := K) (b := !decide (ts.length = shP sh c)) (tk_is (tk_v (ed_nei (ed_len (ed_var rfl t5)) (ed_ixT (i := 0) (ed_ixL (i := (c : Int)) (S5.rd rfl) (ed_ixT (i := 1) (ed_var rfl t1) ed_ci rfl) (atI_nat (by rw [List.getElem?_map, hsc]; rfl))) ed_ci atI_zero))) (by rw [s1]; congr 1; exact decide_eq_decide.mpr (by omega))) fun H6 e6 => ?_)
                    by_cases hts : ts.length = shP sh c
                    · refine ifF (by simp [hts]) (w_next ?_)
                      refine hN _ _ ⟨u, ts, rfl, ?_, rfl, ((e3.trans e4).trans e5).trans e6, t5.ex e6⟩
                      simp only [callD, Int.toNat_natCast, hts]
                      simp [hcl, hci]
                    · refine ifT (by simp [hts]) (w_ret (w_c ?_))
                      have : callD sh i (.int (c : Int)) (.tuple ts) = false := by simp [callD, hts]
                      rw [this] at q
                      exact q H6 (((e03.trans e4).trans e5).trans e6)
                · refine w_seq (w_ifs (w_t (K := K) (b := true) (tk_is (tk_or enum fun _ => tk_orT (tk_is (tk_v (ed_I0b ea (ed_var rfl (.int _)))) (by simp; omega))) (by simp)) fun H4 e4 => ifT rfl (w_ret (w_c ?_))))
                  have : callD sh i (.int (c : Int)) b = false := by
                    cases b <;> simp [callD, hci]
                  rw [this] at q
                  exact q H4 (e03.trans e4)
              · refine w_seq (w_ifs (w_t (K := K) (b := true) (tk_orT (tk_is enum (by simp [hnum]))) fun H4 e4 => ifT rfl (w_ret (w_c ?_))))
                have : callD sh i a b = false := by
                  cases a <;> try rfl
                  cases b <;> try rfl
                  simp only [isNumD, Bool.not_eq_true, Bool.and_eq_false_iff] at hnum
                  simp only [callD, Bool.and_eq_false_iff]
                  rcases hnum with h | h
                  · exact .inl h
                  · exact .inr (.inl h)
                rw [this] at q
                exact q H4 (e03.trans e4)
          · skip
            refine w_seq (w_ifs (w_t (K := K) (b := true) (tk_is (tk_or (tk_v (ed_niTD ["set", "say", "if", "call"] (ed_ixT (i := 0) (ed_var rfl t1) ed_ci atI_zero) (eda_cons ed_cs (eda_cons ed_cs (eda_cons ed_cs (eda_cons ed_cs eda_nil)))) hh (by decide +kernel) (by decide))) fun _ => tk_v (ed_nei (ed_len (ed_var rfl t1)) (ed_i (ev_dgetD (K := K) (s := "call") [(Sum.inr "set", .int 3), (Sum.inr "say", .int 2), (Sum.inr "if", .int 4), (Sum.inr "call", .int 3)] (eps_cons ev_c ev_c (eps_cons ev_c ev_c (eps_cons ev_c ev_c (eps_cons ev_c ev_c eps_nil)))) (by simp) (ed_ixT (i := 0) (ed_var rfl t1) ed_ci atI_zero) rfl)))) ?_) fun H2 e2 => ?_))
            · simp; omega
            refine ifT rfl (w_ret (w_c ?_))
            rw [← no4 "call" rfl (.inr (.inr (.inr rfl))) (by rw [(by decide +kernel : lenW "call" = 3)]; exact hlen)]
            exact q H2 (e1.trans e2)
        · skip
          refine w_seq (w_ifs (w_t (K := K) (b := true) (tk_orT (tk_is (tk_v (ed_niTD ["set", "say", "if", "call"] (ed_ixT (i := 0) (ed_var rfl t1) ed_ci atI_zero) (eda_cons ed_cs (eda_cons ed_cs (eda_cons ed_cs (eda_cons ed_cs eda_nil)))) hh (by decide +kernel) (by decide))) (by simp [g4.1, g4.2.1, g4.2.2.1, g4.2.2.2]))) fun H2 e2 => ifT rfl (w_ret (w_c ?_))))
          rw [show (false : Bool) = fSt (m + 1) sh i (.tuple (h :: r)) from (isStD_no g4).symm]
          exact q H2 (e1.trans e2)
  | _ =>
    refine w_seq (w_ifs (w_t (K := K) (b := true) (tk_orT (tk_notF (tk_vB (ed_isi (b := false) (ed_var rfl t1) (by rfl))))) fun H1 e1 => ifT rfl (w_ret (w_c ?_))))
    have := q H1 e1
    rw [fSt_not rfl] at this
    exact this
end
end Hw

set_option maxRecDepth 100000
set_option maxHeartbeats 4000000
/-! LI4: the law's own look at programs -/
namespace Hw
open PySem PySem.Spec PyProof.Rows L2 Evl
local macro_rules | `(tactic| walk_at "dd") => `(tactic| first | rfl | decide | (simp; done) | omega)
local macro_rules | `(tactic| walk_at "td") => `(tactic| first | assumption | exact Td.int _ | exact Td.bl _ | exact Td.str _ | exact Td.non | exact Td.tup (by assumption) (by assumption))
local macro_rules | `(tactic| walk_at "ev") => `(tactic| first
  | exact ed_ci | exact ed_cs | exact ed_cb | exact ed_cn
  | (apply ed_cg; assumption)
  | (apply ed_var; (rfl); (walk_at "td"))
  | (apply ed_ixT; (walk_at "ev"); (walk_at "ev"); (first | rfl | assumption))
  | (apply ed_rowI; (rfl); (assumption); (walk_at "ev"); (rfl))
  | (apply ed_ixL; (apply EvDL.rd; walk_at "edl"); (walk_at "ev"); (rfl))
  | (apply ed_intb; (walk_at "ev"))
  | (apply ed_len; walk_at "ev")
  | (apply ed_lenV; (apply ev_rowR; (rfl); (assumption); (walk_at "ev"); (rfl)); (assumption))
  | (apply ed_Ii; (walk_at "ev"); (walk_at "ev"); (walk_at "cc"))
  | (apply ed_isi; (walk_at "ev"); (rfl))
  | (apply ed_I0i; (walk_at "ev"); (walk_at "ev"))
  | (apply ed_I0b; (walk_at "ev"); (walk_at "ev"))
  | (apply ed_eqi; (walk_at "ev"); (walk_at "ev"))
  | (apply ed_nei; (walk_at "ev"); (walk_at "ev"))
  | (apply ed_andF; walk_at "ev")
  | (apply ed_andV; (walk_at "ev"); (intro _; walk_at "ev"))
  | (apply ed_orT; walk_at "ev")
  | (apply ed_orV; (walk_at "ev"); (intro _; walk_at "ev"))
  | (apply ed_notT; walk_at "ev")
  | (apply ed_notF; walk_at "ev")
  | (apply ed_notV; walk_at "ev")
  | (apply ed_chain; (walk_at "ev"); (walk_at "ev"); (intro _; walk_at "ev"))
  | (apply ed_eqS; (walk_at "ev"); (walk_at "ev"); (walk_at "bb"); (walk_at "bb"))
  | (apply ed_neS; (walk_at "ev"); (walk_at "ev"); (walk_at "bb"); (walk_at "bb"))
  | (apply ed_inT; (walk_at "ev"); (walk_at "ev"); (rfl); (rfl))
  | (apply ed_niT; (walk_at "ev"); (walk_at "ev"); (rfl); (rfl))
  | (apply ed_tup; (walk_at "eva"); (walk_at "bb"))
  | (apply ed_sl; (walk_at "ev"); (walk_at "evo"); (walk_at "evo"))
  | (apply ed_eqN; (apply EvDL.rd; walk_at "edl"); (walk_at "edl"); (walk_at "bb"))
  | (apply ed_neN; (apply EvDL.rd; walk_at "edl"); (walk_at "edl"); (walk_at "bb"))
  | (apply ed_ixL; (apply edr_var; (rfl); (assumption); (assumption)); (walk_at "ev"); (first | rfl | assumption))
  | (apply ed_lenL; (apply edr_var; (rfl); (assumption); (assumption)))
  | (apply ed_call; (walk_at "eva"); (walk_at "post")))
local macro_rules | `(tactic| walk_at "edl") => `(tactic| first
  | assumption
  | (apply edl_lst; (walk_at "eva"); (walk_at "bb")))
local macro_rules | `(tactic| walk_at "eva") => `(tactic| first
  | exact eda_nil
  | (apply eda_cons; (walk_at "ev"); (walk_at "eva")))
local macro_rules | `(tactic| walk_at "evo") => `(tactic| first
  | exact eok_none
  | (apply eok_some; walk_at "ev"))
local macro_rules | `(tactic| walk_at "bb") => `(tactic| first | rfl | assumption | (simp; done) | (simp; omega) | decide +kernel)
local macro_rules | `(tactic| walk_at "et") => `(tactic| first
  | exact tk_yes
  | (apply tk_andF; walk_at "et")
  | (apply tk_and; (walk_at "et"); (intro _; walk_at "et"))
  | (apply tk_orT; walk_at "et")
  | (apply tk_or; (walk_at "et"); (intro _; walk_at "et"))
  | (apply tk_notT; walk_at "et")
  | (apply tk_notF; walk_at "et")
  | (apply tk_not; walk_at "et")
  | (apply tk_v; walk_at "ev")
  | (apply tk_vB; walk_at "ev"))
local macro_rules | `(tactic| walk_at "if") => `(tactic| first
  | (apply pst_whenF; (walk_at "et"); (walk_at "bb"))
  | (apply pst_whenT; (walk_at "et"); (walk_at "bb")))
local macro_rules | `(tactic| walk_at "post") => `(tactic| first | assumption | exact ⟨_, _, rfl, rfl⟩ | exact ⟨_, _, _, _, rfl, by omega, by omega, rfl⟩ | exact ⟨_, _, _, 0, rfl, by omega, by omega, rfl⟩)
local macro_rules | `(tactic| walk_at "cc") => `(tactic| first | assumption | decide | omega | (refine ⟨?_, ?_⟩ <;> first | decide | omega) | (exact Or.inl (by constructor <;> omega)))

def extS : Stm → Nat
  | .ite _ a b => cntB a + cntB b
  | _ => 0
theorem cntB_ext : ∀ b : List Stm, cntB b = b.length + (b.map extS).sum
  | [] => by simp [cntB]
  | s :: r => by
    have := cntB_ext r
    cases s <;> simp [cntB, cntS, extS] at this ⊢ <;> omega
theorem sum_take {b : List Stm} {i : Nat} {x : Stm} (h : b[i]? = some x) : ((b.take (i + 1)).map extS).sum = ((b.take i).map extS).sum + extS x := by
  rw [take_snoc h]
  simp
/-- how many steps -/
def cntD : Nat → List PyData → Nat
  | 0, _ => 0
  | n + 1, ds => (ds.map fun d => match d with
    | .tuple [h, _, .tuple b, .tuple c] => if isStrD "if" h then 1 + (cntD n b + cntD n c) else 1
    | _ => 1).sum
theorem cntD_enc : ∀ (n : Nat) (b : List Stm), dpB b < n → cntD n (encB b) = cntB b
  | 0, b, h => by omega
  | n + 1, [], h => by simp [cntD, encB, cntB]
  | n + 1, s :: r, h => by
    have hs : dpS s < n + 1 ∧ dpB r < n + 1 := by simp only [dpB] at h; omega
    have ih := cntD_enc (n + 1) r hs.2
    simp only [cntD, encB, List.map_cons, List.sum_cons, cntB] at ih ⊢
    rw [ih]
    congr 1
    cases s with
    | ite t a c =>
      have hd : dpB a < n ∧ dpB c < n := by have := hs.1; simp only [dpS] at this; omega
      simp only [encS, cntS, cntD_enc n a hd.1, cntD_enc n c hd.2, sd_if_if, if_true]
    | _ => simp [encS, cntS]
  termination_by n b => (n, b.length)
structure WkD where
  ps : Int
  os : Int
  body : PyData
def encWD (w : WkD) : PyData := .tuple [.int w.ps, .int w.os, w.body]
def shD (ws : List WkD) : List (Nat × Nat) := ws.map fun w => (w.ps.toNat, w.os.toNat)
def inD : PyData → List PyData
  | .tuple ds => ds
  | _ => []
def okWD (ws : List WkD) (i : Nat) : Bool := match ws[i]? with
  | some w => bdAll (isStD (shD ws) i 5) w.body && decide (cntD 6 (inD w.body) ≤ 100)
  | none => false
def rgD (w : WkD) : Bool := (decide (0 ≤ w.ps) && decide (w.ps ≤ 3)) && (decide (0 ≤ w.os) && decide (w.os ≤ 99))
def firstD0 (ws : List WkD) : Bool := match ws with
  | w :: _ => decide (w.ps = 0)
  | [] => true
/-- whether works are a program -/
def isPrD (ws : List WkD) : Bool := (decide (1 ≤ ws.length) && decide (ws.length ≤ 4)) && (firstD0 ws && (ws.all rgD && (List.range ws.length).all (okWD ws)))
def toD (w : Wk) : WkD := ⟨w.params, w.owns, .tuple (encB w.body)⟩
theorem shD_toD (p : List Wk) : shD (p.map toD) = shapes p := by
  simp [shD, shapes, toD, Function.comp_def]
theorem encWD_toD (p : List Wk) : (p.map toD).map encWD = p.map encW := by
  simp [encWD, toD, encW, Function.comp_def]
theorem okWD_toD {p : List Wk} {i : Nat} {w : Wk} (h : p[i]? = some w) : okWD (p.map toD) i = (okB (shapes p) i w.body 0 && decide (cntB w.body ≤ 100)) := by
  simp only [okWD, List.getElem?_map, h, Option.map_some, shD_toD, toD, bdAll, inD]
  rw [isBdD_enc w.body 5 0 rfl]
  cases hb : okB (shapes p) i w.body 0 with
  | false => rfl
  | true =>
    congr 1
    refine decide_eq_decide.mpr ?_
    show cntD 6 (encB w.body) ≤ 100 ↔ _
    rw [cntD_enc 6 w.body (by have := okB_dp _ _ hb; omega)]
theorem isPrD_toD (p : List Wk) : isPrD (p.map toD) = okP p := by
  have hr : ∀ w : Wk, rgD (toD w) = (decide (w.params ≤ 3) && decide (w.owns ≤ 99)) := fun w => by
    show ((decide ((0 : Int) ≤ (w.params : Int)) && decide ((w.params : Int) ≤ 3)) && (decide ((0 : Int) ≤ (w.owns : Int)) && decide ((w.owns : Int) ≤ 99))) = _
    rw [Bool.eq_iff_iff]
    simp only [Bool.and_eq_true, decide_eq_true_eq]
    omega
  rw [Bool.eq_iff_iff]
  simp only [isPrD, okP, Bool.and_eq_true, decide_eq_true_eq, List.length_map, List.all_eq_true, List.mem_range]
  constructor
  · rintro ⟨⟨h1, h2⟩, h3, h4, h5⟩
    refine ⟨h1, h2, fun i hi => ?_⟩
    have hg : p[i]? = some p[i] := List.getElem?_eq_getElem hi
    have g4 := h4 (toD p[i]) (List.mem_map_of_mem (List.getElem_mem hi))
    rw [hr] at g4
    have g5 := h5 i hi
    rw [okWD_toD hg] at g5
    simp only [Bool.and_eq_true, decide_eq_true_eq] at g4 g5
    simp only [okW, hg, Bool.and_eq_true, Bool.or_eq_true, decide_eq_true_eq]
    refine ⟨g4.1, g4.2, ?_, g5.1, g5.2⟩
    by_cases e : i = 0
    · subst e
      refine .inr ?_
      cases p with
      | nil => simp at hi
      | cons w r =>
        simp only [firstD0, List.map_cons, toD, decide_eq_true_eq] at h3
        simpa using h3
    · exact .inl e
  · rintro ⟨h1, h2, h3⟩
    have hw : ∀ i (hi : i < p.length), p[i].params ≤ 3 ∧ p[i].owns ≤ 99 ∧ (i ≠ 0 ∨ p[i].params = 0) ∧ okB (shapes p) i p[i].body 0 = true ∧ cntB p[i].body ≤ 100 := fun i hi => by
      have hg : p[i]? = some p[i] := List.getElem?_eq_getElem hi
      have := h3 i hi
      simpa only [okW, hg, Bool.and_eq_true, Bool.or_eq_true, decide_eq_true_eq] using this
    refine ⟨⟨h1, h2⟩, ?_, fun x hx => ?_, fun i hi => ?_⟩
    · cases p with
      | nil => rfl
      | cons w r =>
        have := (hw 0 (by simp)).2.2.1
        simp only [List.getElem_cons_zero] at this
        simp only [firstD0, List.map_cons, toD, decide_eq_true_eq]
        rcases this with h | h
        · exact absurd rfl h
        · omega
    · obtain ⟨w, hm, rfl⟩ := List.mem_map.mp hx
      obtain ⟨i, hi, rfl⟩ := List.mem_iff_getElem.mp hm
      have := hw i hi
      rw [hr]
      simp [this.1, this.2.1]
    · have hg : p[i]? = some p[i] := List.getElem?_eq_getElem hi
      rw [okWD_toD hg]
      have := hw i hi
      simp [this.2.2.2.1, this.2.2.2.2]
mutual
theorem smDs_S : ∀ s : Stm, smD (encS s) = true → smS s = true
  | .set p t, _ => rfl
  | .say t, _ => rfl
  | .call c ts, h => by
    simp only [encS, smD, smDs, Bool.and_eq_true, decide_eq_true_eq, List.length_map] at h
    simp only [smS, decide_eq_true_eq]
    exact h.2.2.2.1.1
  | .ite t a b, h => by
    simp only [encS, smD, smDs, Bool.and_eq_true, decide_eq_true_eq, encB_length] at h
    simp only [smS, Bool.and_eq_true, decide_eq_true_eq]
    exact ⟨⟨h.2.2.2.1.1, h.2.2.2.2.1.1⟩, smDs_B a h.2.2.2.1.2, smDs_B b h.2.2.2.2.1.2⟩
theorem smDs_B : ∀ b : List Stm, smDs (encB b) = true → smB b = true
  | [], _ => rfl
  | s :: r, h => by
    simp only [encB, smDs, Bool.and_eq_true] at h
    simp only [smB, Bool.and_eq_true]
    exact ⟨smDs_S s h.1, smDs_B r h.2⟩
end
def pLP (ds : List PyData) (d : PyData) : Prop := ∃ ws : List WkD, ds = [.tuple (ws.map encWD)] ∧ ws.length ≤ 1000 ∧ (∀ w ∈ ws, w.body.canLay0 = true ∧ smD w.body = true) ∧ d = .bool (isPrD ws)
theorem layAll_of : ∀ {L : List PyData}, (∀ y ∈ L, y.canLay0 = true) → PyData.canLayAll0 L = true
  | [], _ => by simp [PyData.canLayAll0]
  | x :: r, h => by
    simp only [PyData.canLayAll0, Bool.and_eq_true]
    exact ⟨h x List.mem_cons_self, layAll_of fun y hy => h y (List.mem_cons_of_mem _ hy)⟩
section
variable {P : Program} {w : World} {K : PySem.W.Frag} {mg : Str → Option Value} {base : Heap} (T : Tx K mg)
include T
theorem lcnt_step {n : Nat} (spI : Sp) (hI : 0 < n → spI = spF K (pCount n)) (GI : Fn__law_count T P w base CX0 n spI) : Fn__law_count T P w base CX0 (n + 1) (spF K (pCount (n + 1))) := by
  have G__law_count := GI
  refine T.F__law_count.ok sc__law_count (spF_len fun ds d h => by obtain ⟨_, rfl, _⟩ := h; rfl) fun cdv A outer s H vs Q E hr h => ?_
  obtain ⟨ds, d, ht, ⟨b, rfl, hl, hs, hd, rfl⟩, k⟩ := h
  obtain _ | ⟨t1, _ | _⟩ := ht
  refine ⟨_, (pss_cons (ps_set (i := 1) sc__law_count.nd rfl (Or.inl rfl) (pe_callB (kc_len K) rfl T.b_len PySem.boot_len (pa_cons (pv 0) pa_nil)))
  (pss_cons (ps_for (passes_of rfl) rfl (kpi_tup K (pv 0)) (pg_name (i := 2) sc__law_count.nd rfl (Or.inl rfl))
    (pss_one (ps_if (pt_cmpR (kop_eq K hr.units) (pe_ix (kix_tup K) (pv 2) pe_int (fun _ _ => rfl)) pe_str (nomark _))
      (pss_one (ps_set (i := 1) sc__law_count.nd rfl (Or.inl rfl) (pe_op op_add (pe_op op_add (pv 1) (pe_call G__law_count (hr.mono (by omega)) (by rfl) T.g__law_count T.k__law_count T.bd__law_count .nil pass0 (pa_cons (pe_ix (kix_tup K) (pv 2) pe_int (fun _ _ => rfl)) pa_nil))) (pe_call G__law_count (hr.mono (by omega)) (by rfl) T.g__law_count T.k__law_count T.bd__law_count .nil pass0 (pa_cons (pe_ix (kix_tup K) (pv 2) pe_int (fun _ _ => rfl)) pa_nil)))))
      pss_nil)))
  (pss_one (ps_ret (pv 1))))), ?_⟩
  rename_i v
  have t0 := t1
  rw [encB_map] at t1
  refine w_seq (w_asg (w_d (K := K) (d := .int (b.length : Int)) (ed_is (ed_len (ed_var rfl t1)) (by rw [List.length_map])) fun u H1 e1 tu => ?_))
  cases tu
  replace t1 := t1.ex e1
  dsimp only
  refine w_seq (w_forTv (K := K) (n := 0) (j := 2) b encS rfl t1 (fun i σ' H' => ∃ u2 : Option V, σ' = [some v, some (.int ((b.length + ((b.take i).map extS).sum : Nat) : Int)), u2] ∧ Ex H1 H') ⟨none, by simp; rfl, Ex.refl _⟩ ?_ ?_ ?_)
  · rintro i σ' H' ⟨_, rfl, e⟩
    exact ex_keep e
  · rintro i x v2 σ' H2 hx tx ⟨u2, rfl, e2⟩
    have hm : x ∈ b := List.mem_of_getElem? hx
    have hsx := smB_mem hs hm
    have hdx := dpB_mem hm
    dsimp only
    cases x with
    | ite t a c =>
      simp only [encS] at tx
      simp only [smS, Bool.and_eq_true, decide_eq_true_eq] at hsx
      simp only [dpS] at hdx
      have hsp := hI (by omega)
      subst hsp
      refine w_ifs (w_t (K := K) (b := true) (tk_is (tk_v (ed_eqT (s := "if") (ed_ixT (i := 0) (ed_var rfl tx) ed_ci atI_zero) (by decide +kernel) (by decide +kernel))) (by simp)) fun H3 e3 => ifT rfl ?_)
      replace tx := tx.ex e3
      refine w_asg (w_d (K := K) (ed_I0i (ed_I0i (ed_var rfl (.int _)) (ed_call (eda_cons (ed_ixT (i := 2) (ed_var rfl tx) ed_ci rfl) eda_nil) ⟨a, rfl, hsx.1.1, hsx.2.1, by omega, rfl⟩)) (ed_call (eda_cons (ed_ixT (i := 3) (ed_var rfl tx) ed_ci rfl) eda_nil) ⟨c, rfl, hsx.1.2, hsx.2.2, by omega, rfl⟩)) fun u H4 e4 tu => ?_)
      cases tu
      refine ⟨some v2, ?_, (e2.trans e3).trans e4⟩
      rw [sum_take hx]
      simp only [extS, List.set, Int.natCast_add, Int.add_assoc]
    | _ =>
      simp only [encS] at tx
      refine w_ifs (w_t (K := K) (b := false) (tk_is (tk_v (ed_eqT (s := "if") (ed_ixT (i := 0) (ed_var rfl tx) ed_ci atI_zero) (by decide +kernel) (by decide +kernel))) (by simp)) fun H3 e3 => ifF rfl (w_next ?_))
      refine ⟨some v2, ?_, e2.trans e3⟩
      rw [sum_take hx]
      simp only [extS, List.set, Nat.add_zero]
  · rintro σ' H2 ⟨u2, rfl, e2⟩
    rw [List.take_length]
    dsimp only
    refine w_ret (w_v rfl ?_)
    have := k (.int (cntB b : Int)) H2 (e1.trans e2) (.int _)
    rw [cntB_ext b] at this
    exact this
theorem ok_lcnt : ∀ n : Nat, Fn__law_count T P w base CX0 (n + 1) (spF K (pCount (n + 1)))
  | 0 => lcnt_step T (n := 0) (fun _ _ _ _ => False) (fun h => absurd h (Nat.lt_irrefl _)) (fn_vac fun _ _ _ _ h => h)
  | n + 1 => lcnt_step T (n := n + 1) (spF K (pCount (n + 1))) (fun _ => rfl) (ok_lcnt n)
theorem ok_lpr (GB : Fn__law_is_body T P w base CX0 19 (spLS K (fBd 5) 5)) (GC : Fn__law_count T P w base CX0 7 (spF K (pCount 7))) : Fn__law_is_program T P w base CX0 20 (spF K pLP) := by
  have G__law_is_body := GB
  have G__law_count := GC
  refine T.F__law_is_program.ok sc__law_is_program (spF_len fun ds d h => by obtain ⟨_, rfl, _⟩ := h; rfl) fun cdv A outer s H vs Q E hr h => ?_
  obtain ⟨ds, d, ht, ⟨ws, rfl, hz, hb, rfl⟩, k⟩ := h
  obtain _ | ⟨t1, _ | _⟩ := ht
  rename_i v
  refine ⟨_, (pss_cons (ps_setLc (i := 1) (own := [("_law_work", 3)]) (g := gName 3) (tt := tYes) rfl sc__law_is_program.nd rfl rfl (sw_true rfl rfl rfl (by decide +kernel)) (kpi_tup K (pv 0)) (blkOk_by (N := ["_law_program_here", "_law_shapes", "_law_at", "_law_work", "_law_one"]) (sc := defScope s__law_is_program) (by decide +kernel)) (fun _ _ _ _ _ => (pg_name (i := 3) sc__law_is_program.nd rfl (Or.inl rfl))) (fun _ _ _ _ _ => pts_nil) (fun _ _ _ _ _ => (pe_slice (ksl_tup K) (pv 3) po_none (po_some pe_int))))
  (pss_cons (ps_if (PW.pt (pw_or (pt_not (pt_chain op_le op_le pe_int (pe_callB (kc_len K) rfl T.b_len PySem.boot_len (pa_cons (pv 1) pa_nil)) pe_int)) (pw_or1 (pt_cmpR op_ne (pe_ix (kix_tup K) (pe_ix (kix_list K) (pv 1) pe_int (fun _ _ => rfl)) pe_int (fun _ _ => rfl)) pe_int (nomark _)))))
    (pss_one (ps_ret pe_bl))
    pss_nil)
  (pss_cons (ps_if (pt_cmpR (kop_ne K hr.units) (pe_lc (own := [("_law_one", 4)]) (g := gName 4) (tt := _) rfl sc__law_is_program.nd (kpi_list K (pv 1)) (blkOk_by (N := ["_law_program_here", "_law_shapes", "_law_at", "_law_work", "_law_one"]) (sc := defScope s__law_is_program) (by decide +kernel)) (fun _ _ _ _ _ => (pg_name (i := 4) sc__law_is_program.nd rfl (Or.inl rfl))) (fun _ _ _ _ _ => (pts_one (PW.pt (pw_or (pt_not (pt_chain op_le op_le pe_int (pe_ix (kix_tup K) (pv 4) pe_int (fun _ _ => rfl)) pe_int)) (pw_or1 (pt_not (pt_chain op_le op_le pe_int (pe_ix (kix_tup K) (pv 4) pe_int (fun _ _ => rfl)) pe_int))))))) (fun _ _ _ _ _ => (pv 4))) (pe_lst pa_nil) (nomark _))
    (pss_one (ps_ret pe_bl))
    pss_nil)
  (pss_cons (ps_for (passes_of rfl) rfl (pi_range1 rfl T.b_range (pa_cons (pe_callB (kc_len K) rfl T.b_len PySem.boot_len (pa_cons (pv 0) pa_nil)) pa_nil)) (pg_name (i := 2) sc__law_is_program.nd rfl (Or.inl rfl))
    (pss_one (ps_if (PW.pt (pw_or (pt_not (pt_val (pe_call G__law_is_body (hr.mono (by omega)) (by rfl) T.g__law_is_body T.k__law_is_body T.bd__law_is_body .nil pass0 (pa_cons (pv 1) (pa_cons (pv 2) (pa_cons (pe_ix (kix_tup K) (pe_ix (kix_tup K) (pv 0) (pv 2) (fun _ _ => rfl)) pe_int (fun _ _ => rfl)) (pa_cons pe_int pa_nil))))))) (pw_or1 (pt_cmpR op_gt (pe_call G__law_count (hr.mono (by omega)) (by rfl) T.g__law_count T.k__law_count T.bd__law_count .nil pass0 (pa_cons (pe_ix (kix_tup K) (pe_ix (kix_tup K) (pv 0) (pv 2) (fun _ _ => rfl)) pe_int (fun _ _ => rfl)) pa_nil)) pe_int (nomark _)))))
      (pss_one (ps_ret pe_bl))
      pss_nil)))
  (pss_one (ps_ret pe_bl)))))), ?_⟩
  have kq : ∀ b H', isPrD ws = b → Ex H H' → Q (.bl b) H' := fun b H' e h => k (.bl b) H' h (by rw [e]; exact .bl _)
  clear k
  refine w_seq (w_asg (w_dl (K := K) (edl_lcM (xs := ws) (f := encWD) (p := fun _ => true) (g := fun w => .tuple [.int w.ps, .int w.os]) (ed_var rfl t1) rfl (by omega) (fun x => rfl) (fun x v H1 e1 hx tx => tk_yes) (fun x v H1 e1 hx _ tx => ed_is (ed_sl (lo := none) (hi := some ((2 : Nat) : Int)) (ed_var rfl tx) eok_none (eok_some ed_ci)) (by rfl))) fun sl xs H1 hp e1 hsl ta => ?_))
  rw [filter_yes] at ta
  replace t1 := t1.ex e1
  dsimp only
  have elen : EvD K (tCB (rLenS K) (tCons (tVar 1) tNil)) [some v, some (.ref sl), none, none, none] H1 (.int (ws.length : Int)) := ed_is (ed_lenL (edr_var rfl (SqL.of hsl) ta)) (by rw [List.length_map])
  by_cases hlen : 1 ≤ ws.length ∧ ws.length ≤ 4
  · obtain ⟨w0, r, rfl⟩ : ∃ w0 r, ws = w0 :: r := by
      cases ws with
      | nil => simp at hlen
      | cons a b => exact ⟨a, b, rfl⟩
    have hle : (1 : Int) ≤ ((w0 :: r).length : Int) ∧ ((w0 :: r).length : Int) ≤ 4 := by omega
    refine w_seq (w_ifs (w_t (K := K) (b := !decide (w0.ps = 0)) (tk_is (tk_or (tk_not (tk_v (ed_chain (i := 1) (k := 4) ed_ci elen fun _ => ed_ci))) fun _ => tk_v (ed_nei (ed_ixT (i := 0) (ed_ixL (i := 0) (d := .tuple [.int w0.ps, .int w0.os]) (edr_var rfl (SqL.of hsl) ta) ed_ci atI_zero) ed_ci atI_zero) ed_ci)) (by rw [decide_eq_true hle.1, decide_eq_true hle.2]; simp)) fun H2 e2 => ?_))
    by_cases h0 : w0.ps = 0
    · refine ifF (by simp [h0]) (w_next ?_)
      have ta2 := ta.ex e2
      have hsl2 := e2 _ _ hsl
      dsimp only
      refine w_seq (w_ifs (w_t (K := K) (b := !(w0 :: r).all rgD) (tk_is (tk_v (ed_neN (EvDL.rd (edl_lcML (xs := w0 :: r) (f := fun w => .tuple [.int w.ps, .int w.os]) (p := fun w => !rgD w) (g := fun w => .tuple [.int w.ps, .int w.os]) (edr_var rfl (SqL.of hsl2) ta2) rfl (by omega) (fun x => rfl) (fun x v H3 e3 hx tx => tk_is (tk_or (tk_not (tk_v (ed_chain (i := 0) (k := 3) ed_ci (ed_ixT (i := 0) (ed_var rfl tx) ed_ci atI_zero) fun _ => ed_ci))) fun _ => tk_not (tk_v (ed_chain (i := 0) (k := 99) ed_ci (ed_ixT (i := 1) (ed_var rfl tx) ed_ci rfl) fun _ => ed_ci))) (Bool.not_and _ _).symm) (fun x v H3 e3 hx _ tx => ed_var rfl tx))) (edl_lst eda_nil (by decide)) (layAll_of fun y hy => by obtain ⟨x, _, rfl⟩ := List.mem_map.mp hy; simp [PyData.canLay0, PyData.canLayAll0]))) (by rw [List.isEmpty_map, filter_not_isEmpty])) fun H3 e3 => ?_))
      cases hrg : (w0 :: r).all rgD with
      | false =>
        refine ifT rfl (w_ret (w_c (kq false H3 (by simp only [isPrD, hrg, Bool.false_and, Bool.and_false]) ((e1.trans e2).trans e3))))
      | true =>
        refine ifF rfl (w_next ?_)
        have hS : ShAt K sl (shD (w0 :: r)) H3 := by
          refine ⟨⟨xs, SqL.of (e3 _ _ hsl2), ?_⟩, by simp only [shD, List.length_map]; omega⟩
          have e : (shD (w0 :: r)).map encSh = (w0 :: r).map fun w => .tuple [.int w.ps, .int w.os] := by
            simp only [shD, List.map_map]
            refine List.map_congr_left fun w hw => ?_
            have := List.all_eq_true.mp hrg w hw
            simp only [rgD, Bool.and_eq_true, decide_eq_true_eq] at this
            simp only [Function.comp_apply, encSh, Int.toNat_of_nonneg this.1.1, Int.toNat_of_nonneg this.2.1]
          rw [e]
          exact ta2.ex e3
        have e03 := (e1.trans e2).trans e3
        replace t1 := (t1.ex e2).ex e3
        have hpr : isPrD (w0 :: r) = (List.range (w0 :: r).length).all (okWD (w0 :: r)) := by
          simp only [isPrD, hrg, firstD0, h0, hlen.1, hlen.2, decide_true, Bool.true_and]
        generalize w0 :: r = ws at *
        dsimp only
        refine w_seq (w_forR (K := K) (n := ws.length) (eda_cons (ed_is (ed_len (ed_var rfl t1)) (by rw [List.length_map])) eda_nil) (by omega) (fun i σ' H' => ∃ u, σ' = [some v, some (.ref sl), u, none, none] ∧ Ex H3 H' ∧ ∀ j < i, okWD ws j = true) ?_ ?_ ?_)
        · exact fun H4 e4 => ⟨_, rfl, e4, fun j hj => absurd hj (Nat.not_lt_zero j)⟩
        · rintro i σ' H4 hi ⟨u, rfl, e4, hj⟩
          have hg : ws[i]? = some ws[i] := List.getElem?_eq_getElem hi
          obtain ⟨hb1, hb2⟩ := hb ws[i] (List.getElem_mem hi)
          have S4 := hS.ex e4
          have t4 := t1.ex e4
          have hsi : i < (shD ws).length := by simp only [shD, List.length_map]; exact hi
          have ebd : EvD K (tOp (rIxT K) (tOp (rIxT K) (tVar 0) (tVar 2)) (tC (.int 2))) [some v, some (.ref sl), some (.int (i : Int)), none, none] H4 ws[i].body := ed_ixT (i := 2) (ed_ixT (i := (i : Int)) (ed_var rfl t4) (ed_var rfl (.int _)) (atI_nat (by rw [List.getElem?_map, hg]; rfl))) ed_ci rfl
          have ebody := ed_ls (K := K) (f := fBd 5) (n := 5) (E := fun _ _ _ => False) S4 (j := 1) (σ := [some v, some (.ref sl), some (.int (i : Int)), none, none]) (te := tVar 2) (tg := tC (.int 0)) (w := 0) rfl (ed_var rfl (.int _)) ebd ed_ci hsi rfl hb1 hb2
          dsimp only
          cases hbd : fBd 5 (shD ws) i ws[i].body with
          | false =>
            rw [hbd] at ebody
            refine w_ifs (w_t (K := K) (b := true) (tk_orT (tk_notF (tk_vB ebody))) fun H5 e5 => ifT rfl (w_ret (w_c (kq false H5 ?_ ((e03.trans e4).trans e5)))))
            rw [hpr, List.all_eq_false]
            refine ⟨i, List.mem_range.mpr hi, ?_⟩
            have : bdAll (isStD (shD ws) i 5) ws[i].body = false := hbd
            simp [okWD, hg, this]
          | true =>
            rw [hbd] at ebody
            obtain ⟨b, hbb⟩ := isBdD_inv hbd
            have hbd2 : okB (shD ws) i b 0 = true := by
              rw [← isBdD_enc b 5 0 rfl]
              have := hbd
              simp only [fBd, hbb, bdAll] at this
              exact this
            have hdp := okB_dp _ _ hbd2
            rw [hbb] at ebd
            have hok : okWD ws i = decide (cntB b ≤ 100) := by
              have h2 : bdAll (isStD (shD ws) i 5) ws[i].body = true := hbd
              rw [hbb] at h2
              simp only [okWD, hg, hbb, h2, Bool.true_and, inD, cntD_enc 6 b (by omega)]
            have sb : b.length ≤ 20000 ∧ smB b = true := by
              rw [hbb] at hb2
              simp only [smD, Bool.and_eq_true, decide_eq_true_eq, encB_length] at hb2
              exact ⟨hb2.1, smDs_B b hb2.2⟩
            refine w_ifs (w_t (K := K) (b := !decide (cntB b ≤ 100)) (tk_is (tk_or (tk_notT (tk_vB ebody)) fun _ => tk_v (ed_I0b (ed_call (eda_cons ebd eda_nil) ⟨b, rfl, sb.1, sb.2, by omega, rfl⟩) ed_ci)) (by by_cases h : cntB b ≤ 100 <;> simp [h] <;> omega)) fun H5 e5 => ?_)
            by_cases hc : cntB b ≤ 100
            · refine ifF (by simp [hc]) (w_next ⟨_, rfl, e4.trans e5, fun j hj2 => ?_⟩)
              rcases (by omega : j < i ∨ j = i) with h | h
              · exact hj j h
              · rw [h, hok]
                simp [hc]
            · refine ifT (by simp [hc]) (w_ret (w_c (kq false H5 ?_ ((e03.trans e4).trans e5))))
              rw [hpr, List.all_eq_false]
              exact ⟨i, List.mem_range.mpr hi, by rw [hok]; simp [hc]⟩
        · rintro σ' H4 ⟨u, rfl, e4, hj⟩
          dsimp only
          refine w_ret (w_c (kq true H4 ?_ (e03.trans e4)))
          rw [hpr, List.all_eq_true]
          exact fun j hj2 => hj j (List.mem_range.mp hj2)
    · refine ifT (by simp [h0]) (w_ret (w_c (kq false H2 ?_ (e1.trans e2))))
      simp [isPrD, firstD0, h0]
  · refine w_seq (w_ifs (w_t (K := K) (b := true) (tk_orT (tk_is (tk_not (tk_v (ed_chain (i := 1) (k := 4) ed_ci elen fun _ => ed_ci))) (by simp; omega))) fun H2 e2 => ifT rfl (w_ret (w_c (kq false H2 ?_ (e1.trans e2))))))
    have : (decide (1 ≤ ws.length) && decide (ws.length ≤ 4)) = false := by simp; omega
    simp only [isPrD, this, Bool.false_and]
end
end Hw

set_option maxRecDepth 100000
set_option maxHeartbeats 4000000
/-! PD1: the program's own look over any data: things -/
namespace Hw
open PySem PySem.Spec PyProof.Rows L2 Evl
local macro_rules | `(tactic| walk_at "dd") => `(tactic| first | rfl | decide | (simp; done) | omega)
local macro_rules | `(tactic| walk_at "td") => `(tactic| first | assumption | exact Td.int _ | exact Td.bl _ | exact Td.str _ | exact Td.non | exact Td.tup (by assumption) (by assumption))
local macro_rules | `(tactic| walk_at "ev") => `(tactic| first
  | exact ed_ci | exact ed_cs | exact ed_cb | exact ed_cn
  | (apply ed_cg; assumption)
  | (apply ed_var; (rfl); (walk_at "td"))
  | (apply ed_ixT; (walk_at "ev"); (walk_at "ev"); (first | rfl | assumption))
  | (apply ed_rowI; (rfl); (assumption); (walk_at "ev"); (rfl))
  | (apply ed_ixL; (apply EvDL.rd; walk_at "edl"); (walk_at "ev"); (rfl))
  | (apply ed_intb; (walk_at "ev"))
  | (apply ed_len; walk_at "ev")
  | (apply ed_lenV; (apply ev_rowR; (rfl); (assumption); (walk_at "ev"); (rfl)); (assumption))
  | (apply ed_Ii; (walk_at "ev"); (walk_at "ev"); (walk_at "cc"))
  | (apply ed_isi; (walk_at "ev"); (rfl))
  | (apply ed_I0i; (walk_at "ev"); (walk_at "ev"))
  | (apply ed_I0b; (walk_at "ev"); (walk_at "ev"))
  | (apply ed_eqi; (walk_at "ev"); (walk_at "ev"))
  | (apply ed_nei; (walk_at "ev"); (walk_at "ev"))
  | (apply ed_andF; walk_at "ev")
  | (apply ed_andV; (walk_at "ev"); (intro _; walk_at "ev"))
  | (apply ed_orT; walk_at "ev")
  | (apply ed_orV; (walk_at "ev"); (intro _; walk_at "ev"))
  | (apply ed_notT; walk_at "ev")
  | (apply ed_notF; walk_at "ev")
  | (apply ed_notV; walk_at "ev")
  | (apply ed_chain; (walk_at "ev"); (walk_at "ev"); (intro _; walk_at "ev"))
  | (apply ed_eqS; (walk_at "ev"); (walk_at "ev"); (walk_at "bb"); (walk_at "bb"))
  | (apply ed_neS; (walk_at "ev"); (walk_at "ev"); (walk_at "bb"); (walk_at "bb"))
  | (apply ed_inT; (walk_at "ev"); (walk_at "ev"); (rfl); (rfl))
  | (apply ed_niT; (walk_at "ev"); (walk_at "ev"); (rfl); (rfl))
  | (apply ed_tup; (walk_at "eva"); (walk_at "bb"))
  | (apply ed_sl; (walk_at "ev"); (walk_at "evo"); (walk_at "evo"))
  | (apply ed_eqN; (apply EvDL.rd; walk_at "edl"); (walk_at "edl"); (walk_at "bb"))
  | (apply ed_neN; (apply EvDL.rd; walk_at "edl"); (walk_at "edl"); (walk_at "bb"))
  | (apply ed_ixL; (apply edr_var; (rfl); (assumption); (assumption)); (walk_at "ev"); (first | rfl | assumption))
  | (apply ed_lenL; (apply edr_var; (rfl); (assumption); (assumption)))
  | (apply ed_call; (walk_at "eva"); (walk_at "post")))
local macro_rules | `(tactic| walk_at "edl") => `(tactic| first
  | assumption
  | (apply edl_lst; (walk_at "eva"); (walk_at "bb")))
local macro_rules | `(tactic| walk_at "eva") => `(tactic| first
  | exact eda_nil
  | (apply eda_cons; (walk_at "ev"); (walk_at "eva")))
local macro_rules | `(tactic| walk_at "evo") => `(tactic| first
  | exact eok_none
  | (apply eok_some; walk_at "ev"))
local macro_rules | `(tactic| walk_at "bb") => `(tactic| first | rfl | assumption | (simp; done) | (simp; omega) | decide +kernel)
local macro_rules | `(tactic| walk_at "et") => `(tactic| first
  | exact tk_yes
  | (apply tk_andF; walk_at "et")
  | (apply tk_and; (walk_at "et"); (intro _; walk_at "et"))
  | (apply tk_orT; walk_at "et")
  | (apply tk_or; (walk_at "et"); (intro _; walk_at "et"))
  | (apply tk_notT; walk_at "et")
  | (apply tk_notF; walk_at "et")
  | (apply tk_not; walk_at "et")
  | (apply tk_v; walk_at "ev")
  | (apply tk_vB; walk_at "ev"))
local macro_rules | `(tactic| walk_at "if") => `(tactic| first
  | (apply pst_whenF; (walk_at "et"); (walk_at "bb"))
  | (apply pst_whenT; (walk_at "et"); (walk_at "bb")))
local macro_rules | `(tactic| walk_at "post") => `(tactic| first | assumption | exact ⟨_, _, rfl, rfl⟩ | exact ⟨_, _, _, _, rfl, by omega, by omega, rfl⟩ | exact ⟨_, _, _, 0, rfl, by omega, by omega, rfl⟩)
local macro_rules | `(tactic| walk_at "cc") => `(tactic| first | assumption | decide | omega | (refine ⟨?_, ?_⟩ <;> first | decide | omega) | (exact Or.inl (by constructor <;> omega)))

theorem isThD_short {ps os n : Nat} {ds : List PyData} (h : ds.length < 2) : isThD ps os n (.tuple ds) = false := isThD_len (by omega) (by omega)
theorem two_more {α : Type} {ds : List α} (h : ¬ ds.length < 2) : ∃ a b r, ds = a :: b :: r := by
  match ds, h with
  | a :: b :: r, _ => exact ⟨a, b, r, rfl⟩
  | [], h => simp at h
  | [_], h => simp at h
theorem isThD_nob {ps os m : Nat} {h a : PyData} {r : List PyData} (h1 : r ≠ []) (h2 : isStrD "sum" h = false) : isThD ps os (m + 1) (.tuple (h :: a :: r)) = false := by
  match r, h1 with
  | [b], _ => simp [isThD, h2]
  | _ :: _ :: _, _ => simp [isThD]
section
variable {P : Program} {w : World} {K : PySem.W.Frag} {mg : Str → Option Value} {base : Heap} (T : Tx K mg)
include T
theorem pth_step {n : Nat} (spI : Sp) (hI : 0 < n → spI = spF K (pLTh (n - 1))) (GN : Fn_is_number T P w base CX0 1 (spF K pNumber)) (GI : Fn_is_thing T P w base CX0 (n + 1) spI) : Fn_is_thing T P w base CX0 (n + 2) (spF K (pLTh n)) := by
  have G_is_number := GN
  have G_is_thing := GI
  refine T.F_is_thing.ok sc_is_thing (spF_len fun ds d h => by obtain ⟨_, _, _, _, rfl, _⟩ := h; rfl) fun cdv A outer s H vs Q E hr h => ?_
  obtain ⟨ds, d, ht, ⟨x, ps, os, w, rfl, hw, hx, rfl⟩, k⟩ := h
  obtain _ | ⟨t1, _ | ⟨t2, _ | ⟨t3, _ | _⟩⟩⟩ := ht
  refine ⟨_, (pss_cons (ps_if (PW.pt (pw_or (pt_not (pt_val (pe_callB (kc_isi K) rfl T.b_isinstance (by decide +kernel) (pa_cons (pv 0) (pa_cons (pe_bltn (v := .ty "tuple") rfl T.b_tuple (by decide +kernel) rfl) pa_nil))))) (pw_or (pt_cmpR op_lt (pe_callB (kc_len K) rfl T.b_len PySem.boot_len (pa_cons (pv 0) pa_nil)) pe_int (nomark _)) (pw_or1 (pt_cmpR op_gt (pv 2) (pe_gint rfl T.g_MOST_WITHIN) (nomark _))))))
    (pss_one (ps_ret pe_bl))
    pss_nil)
  (pss_cons (ps_set (i := 3) sc_is_thing.nd rfl (Or.inl rfl) (pe_ix (kix_tup K) (pv 0) pe_int (fun _ _ => rfl)))
  (pss_cons (ps_if (pt_cmpR (kop_eq K hr.units) (pv 3) pe_str (nomark _))
    (pss_one (ps_ret (pe_and (pe_cmpR op_eq (pe_callB (kc_len K) rfl T.b_len PySem.boot_len (pa_cons (pv 0) pa_nil)) pe_int (nomark _)) (pe_and (pe_call G_is_thing (hr.mono (by omega)) (by rfl) T.g_is_thing T.k_is_thing T.bd_is_thing .nil pass0 (pa_cons (pe_ix (kix_tup K) (pv 0) pe_int (fun _ _ => rfl)) (pa_cons (pv 1) (pa_cons (pe_op op_add (pv 2) pe_int) pa_nil)))) (pe_one (pe_call G_is_thing (hr.mono (by omega)) (by rfl) T.g_is_thing T.k_is_thing T.bd_is_thing .nil pass0 (pa_cons (pe_ix (kix_tup K) (pv 0) pe_int (fun _ _ => rfl)) (pa_cons (pv 1) (pa_cons (pe_op op_add (pv 2) pe_int) pa_nil)))))))))
    pss_nil)
  (pss_cons (ps_if (pt_cmpR (kop_eq K hr.units) (pv 3) pe_str (nomark _))
    (pss_one (ps_ret (pe_and (pe_cmpR op_eq (pe_callB (kc_len K) rfl T.b_len PySem.boot_len (pa_cons (pv 0) pa_nil)) pe_int (nomark _)) (pe_one (pe_call G_is_thing (hr.mono (by omega)) (by rfl) T.g_is_thing T.k_is_thing T.bd_is_thing .nil pass0 (pa_cons (pe_ix (kix_tup K) (pv 0) pe_int (fun _ _ => rfl)) (pa_cons (pv 1) (pa_cons (pe_op op_add (pv 2) pe_int) pa_nil))))))))
    pss_nil)
  (pss_cons (ps_set (i := 4) sc_is_thing.nd rfl (Or.inl rfl) (pe_disp (pps_cons pe_str (pe_gint rfl T.g_NUMBERS) (pps_cons pe_str (pe_ix (kix_tup K) (pv 1) pe_int (fun _ _ => rfl)) (pps_cons pe_str (pe_ix (kix_tup K) (pv 1) pe_int (fun _ _ => rfl)) pps_nil))) (by rfl) (by rfl) (fun z => by cases z) (by decide)))
  (pss_one (ps_ret (pe_and (pe_cmpR (kop_inTD K (units65 hr)) (pv 3) (pe_tup (pa_cons pe_str (pa_cons pe_str (pa_cons pe_str pa_nil)))) rfl) (pe_and (pe_cmpR op_eq (pe_callB (kc_len K) rfl T.b_len PySem.boot_len (pa_cons (pv 0) pa_nil)) pe_int (nomark _)) (pe_one (pe_call G_is_number (hr.mono (by omega)) (by rfl) T.g_is_number T.k_is_number T.bd_is_number .nil pass0 (pa_cons (pe_ix (kix_tup K) (pv 0) pe_int (fun _ _ => rfl)) (pa_cons (pe_dget (hu_of hr) (pv 4) (pv 3) (fun _ _ => rfl)) pa_nil))))))))))))), ?_⟩
  cases t3
  refine Pst.go (K := K) ?_
  cases x with
  | list _ => cases t1
  | dict _ => cases t1
  | tuple ds =>
    refine pst_when (b := decide (ds.length < 2) || decide (4 < w)) (tk_is (tk_or (tk_notT (tk_vB (ed_isi (b := true) (ed_var rfl t1) (by rfl)))) fun _ => tk_or (tk_v (ed_I0b (ed_len (ed_var rfl t1)) ed_ci)) fun _ => tk_v (ed_I0b (ed_var rfl (.int _)) ed_ci)) ?_) (fun hb => ?_) (fun hb => ?_)
    · rw [Bool.false_or]
      congr 1
      · exact decide_eq_decide.mpr (by omega)
      · exact decide_eq_decide.mpr (by omega)
    · refine pst_ret ?_ k
      rw [show isThD ps os n (.tuple ds) = false from ?_]
      · exact ed_cb
      · simp only [Bool.or_eq_true, decide_eq_true_eq] at hb
        rcases hb with hb | hb
        · exact isThD_short hb
        · have : n = 0 := by omega
          subst this
          simp [isThD]
    · simp only [Bool.or_eq_false_iff, decide_eq_false_iff_not] at hb
      obtain ⟨m, rfl⟩ : ∃ m, n = m + 1 := ⟨n - 1, by omega⟩
      have hsp := hI (by omega)
      subst hsp
      simp only [Nat.add_sub_cancel] at *
      obtain ⟨h, a, r, rfl⟩ := two_more hb.1
      have hx0 := hx
      simp only [PyData.canLay0, PyData.canLayAll0, Bool.and_eq_true] at hx
      obtain ⟨hh, ha, hr2⟩ := hx
      refine pst_asg (ed_ixT (i := 0) (ed_var rfl t1) ed_ci atI_zero) fun v3 H1 e1 t5 => ?_
      replace t1 := t1.ex e1
      replace t2 := t2.ex e1
      replace k := fun v H' (e : Ex H1 H') => k v H' (e1.trans e)
      clear e1
      rcases five_words h with rfl | rfl | rfl | rfl | rfl | ⟨f1, f2, f3, f4, f5⟩
      · skip
        refine pst_whenF (tk_is (tk_v (ed_eqT (s := "sum") (ed_var rfl t5) hh (by decide +kernel))) (by first | (simp; done) | (simp [f1, f2, f3, f4, f5]; done))) rfl ?_
        refine pst_whenF (tk_is (tk_v (ed_eqT (s := "cell") (ed_var rfl t5) hh (by decide +kernel))) (by first | (simp; done) | (simp [f1, f2, f3, f4, f5]; done))) rfl ?_
        refine pst_disp [(Sum.inr "num", .int 3), (Sum.inr "par", .int (ps : Int)), (Sum.inr "own", .int (os : Int))] (eps_cons ev_c ev_c (eps_cons ev_c (EvD.iv (K := K) (ed_ixT (i := 0) (ed_var rfl t2) ed_ci atI_zero)) (eps_cons ev_c (EvD.iv (K := K) (ed_ixT (i := 1) (ed_var rfl t2) ed_ci rfl)) eps_nil))) (by decide : 3 ≤ 15) ?_
        intro p H2 hp e2 hD
        replace t1 := t1.ex e2
        replace t5 := t5.ex e2
        replace k := fun v H' (e : Ex H2 H') => k v H' (e2.trans e)
        match r with
        | [] =>
          refine pst_ret (ed_is (ed_andV (ed_inTD ["num", "par", "own"] (ed_var rfl t5) (eda_cons ed_cs (eda_cons ed_cs (eda_cons ed_cs eda_nil))) hh (by decide +kernel) (by decide)) fun _ => ed_andV (ed_eqi (ed_len (ed_var rfl t1)) ed_ci) fun _ => ed_call (eda_cons (ed_ixT (i := 1) (ed_var rfl t1) ed_ci rfl) (eda_cons (ed_i (ev_dget (p := p) (s := "num") rfl hD (EvD.sv (K := K) (ed_var rfl t5)) rfl)) eda_nil)) ⟨_, _, rfl, rfl⟩) ?_) k
          simp [isThD]
        | b :: r =>
          refine pst_ret (ed_is (ed_andV (ed_inTD ["num", "par", "own"] (ed_var rfl t5) (eda_cons ed_cs (eda_cons ed_cs (eda_cons ed_cs eda_nil))) hh (by decide +kernel) (by decide)) fun _ => ed_andF (ed_is (ed_eqi (ed_len (ed_var rfl t1)) ed_ci) (by simp <;> omega))) ?_) k
          rw [isThD_nob (by simp) (by simp), Bool.and_false]
      · skip
        refine pst_whenF (tk_is (tk_v (ed_eqT (s := "sum") (ed_var rfl t5) hh (by decide +kernel))) (by first | (simp; done) | (simp [f1, f2, f3, f4, f5]; done))) rfl ?_
        refine pst_whenF (tk_is (tk_v (ed_eqT (s := "cell") (ed_var rfl t5) hh (by decide +kernel))) (by first | (simp; done) | (simp [f1, f2, f3, f4, f5]; done))) rfl ?_
        refine pst_disp [(Sum.inr "num", .int 3), (Sum.inr "par", .int (ps : Int)), (Sum.inr "own", .int (os : Int))] (eps_cons ev_c ev_c (eps_cons ev_c (EvD.iv (K := K) (ed_ixT (i := 0) (ed_var rfl t2) ed_ci atI_zero)) (eps_cons ev_c (EvD.iv (K := K) (ed_ixT (i := 1) (ed_var rfl t2) ed_ci rfl)) eps_nil))) (by decide : 3 ≤ 15) ?_
        intro p H2 hp e2 hD
        replace t1 := t1.ex e2
        replace t5 := t5.ex e2
        replace k := fun v H' (e : Ex H2 H') => k v H' (e2.trans e)
        match r with
        | [] =>
          refine pst_ret (ed_is (ed_andV (ed_inTD ["num", "par", "own"] (ed_var rfl t5) (eda_cons ed_cs (eda_cons ed_cs (eda_cons ed_cs eda_nil))) hh (by decide +kernel) (by decide)) fun _ => ed_andV (ed_eqi (ed_len (ed_var rfl t1)) ed_ci) fun _ => ed_call (eda_cons (ed_ixT (i := 1) (ed_var rfl t1) ed_ci rfl) (eda_cons (ed_i (ev_dget (p := p) (s := "own") rfl hD (EvD.sv (K := K) (ed_var rfl t5)) rfl)) eda_nil)) ⟨_, _, rfl, rfl⟩) ?_) k
          simp [isThD]
        | b :: r =>
          refine pst_ret (ed_is (ed_andV (ed_inTD ["num", "par", "own"] (ed_var rfl t5) (eda_cons ed_cs (eda_cons ed_cs (eda_cons ed_cs eda_nil))) hh (by decide +kernel) (by decide)) fun _ => ed_andF (ed_is (ed_eqi (ed_len (ed_var rfl t1)) ed_ci) (by simp <;> omega))) ?_) k
          rw [isThD_nob (by simp) (by simp), Bool.and_false]
      · skip
        refine pst_whenF (tk_is (tk_v (ed_eqT (s := "sum") (ed_var rfl t5) hh (by decide +kernel))) (by first | (simp; done) | (simp [f1, f2, f3, f4, f5]; done))) rfl ?_
        refine pst_whenF (tk_is (tk_v (ed_eqT (s := "cell") (ed_var rfl t5) hh (by decide +kernel))) (by first | (simp; done) | (simp [f1, f2, f3, f4, f5]; done))) rfl ?_
        refine pst_disp [(Sum.inr "num", .int 3), (Sum.inr "par", .int (ps : Int)), (Sum.inr "own", .int (os : Int))] (eps_cons ev_c ev_c (eps_cons ev_c (EvD.iv (K := K) (ed_ixT (i := 0) (ed_var rfl t2) ed_ci atI_zero)) (eps_cons ev_c (EvD.iv (K := K) (ed_ixT (i := 1) (ed_var rfl t2) ed_ci rfl)) eps_nil))) (by decide : 3 ≤ 15) ?_
        intro p H2 hp e2 hD
        replace t1 := t1.ex e2
        replace t5 := t5.ex e2
        replace k := fun v H' (e : Ex H2 H') => k v H' (e2.trans e)
        match r with
        | [] =>
          refine pst_ret (ed_is (ed_andV (ed_inTD ["num", "par", "own"] (ed_var rfl t5) (eda_cons ed_cs (eda_cons ed_cs (eda_cons ed_cs eda_nil))) hh (by decide +kernel) (by decide)) fun _ => ed_andV (ed_eqi (ed_len (ed_var rfl t1)) ed_ci) fun _ => ed_call (eda_cons (ed_ixT (i := 1) (ed_var rfl t1) ed_ci rfl) (eda_cons (ed_i (ev_dget (p := p) (s := "par") rfl hD (EvD.sv (K := K) (ed_var rfl t5)) rfl)) eda_nil)) ⟨_, _, rfl, rfl⟩) ?_) k
          simp [isThD]
        | b :: r =>
          refine pst_ret (ed_is (ed_andV (ed_inTD ["num", "par", "own"] (ed_var rfl t5) (eda_cons ed_cs (eda_cons ed_cs (eda_cons ed_cs eda_nil))) hh (by decide +kernel) (by decide)) fun _ => ed_andF (ed_is (ed_eqi (ed_len (ed_var rfl t1)) ed_ci) (by simp <;> omega))) ?_) k
          rw [isThD_nob (by simp) (by simp), Bool.and_false]
      · -- cell
        refine pst_whenF (tk_is (tk_v (ed_eqT (s := "sum") (ed_var rfl t5) hh (by decide +kernel))) (by first | (simp; done) | (simp [f1, f2, f3, f4, f5]; done))) rfl ?_
        refine pst_whenT (tk_is (tk_v (ed_eqT (s := "cell") (ed_var rfl t5) hh (by decide +kernel))) (by first | (simp; done) | (simp [f1, f2, f3, f4, f5]; done))) rfl ?_
        match r with
        | [] =>
          refine pst_ret (ed_is (ed_andV (ed_eqi (ed_len (ed_var rfl t1)) ed_ci) fun _ => ed_call (eda_cons (ed_ixT (i := 1) (ed_var rfl t1) ed_ci rfl) (eda_cons (ed_var rfl t2) (eda_cons (ed_is (ed_I0i (ed_var rfl (.int _)) ed_ci) rfl) eda_nil))) ⟨a, ps, os, w + 1, rfl, by omega, ha, rfl⟩) ?_) k
          simp [isThD]
        | b :: r =>
          refine pst_ret (ed_is (ed_andF (ed_is (ed_eqi (ed_len (ed_var rfl t1)) ed_ci) (by simp <;> omega))) ?_) k
          rw [isThD_nob (by simp) (by simp)]
      · -- sum
        refine pst_whenT (tk_is (tk_v (ed_eqT (s := "sum") (ed_var rfl t5) hh (by decide +kernel))) (by first | (simp; done) | (simp [f1, f2, f3, f4, f5]; done))) rfl ?_
        match r with
        | [] =>
          refine pst_ret (ed_is (ed_andF (ed_is (ed_eqi (ed_len (ed_var rfl t1)) ed_ci) (by simp <;> omega))) ?_) k
          simp [isThD]
        | [b] =>
          simp only [PyData.canLayAll0, Bool.and_eq_true, and_true] at hr2
          refine pst_ret (ed_is (ed_andV (ed_eqi (ed_len (ed_var rfl t1)) ed_ci) fun _ => ed_andV (ed_call (eda_cons (ed_ixT (i := 1) (ed_var rfl t1) ed_ci rfl) (eda_cons (ed_var rfl t2) (eda_cons (ed_is (ed_I0i (ed_var rfl (.int _)) ed_ci) rfl) eda_nil))) ⟨a, ps, os, w + 1, rfl, by omega, ha, rfl⟩) fun _ => ed_call (eda_cons (ed_ixT (i := 2) (ed_var rfl t1) ed_ci rfl) (eda_cons (ed_var rfl t2) (eda_cons (ed_is (ed_I0i (ed_var rfl (.int _)) ed_ci) rfl) eda_nil))) ⟨b, ps, os, w + 1, rfl, by omega, hr2, rfl⟩) ?_) k
          simp [isThD]
        | b :: c :: r =>
          refine pst_ret (ed_is (ed_andF (ed_is (ed_eqi (ed_len (ed_var rfl t1)) ed_ci) (by simp <;> omega))) ?_) k
          simp [isThD]
      · skip
        refine pst_whenF (tk_is (tk_v (ed_eqT (s := "sum") (ed_var rfl t5) hh (by decide +kernel))) (by first | (simp; done) | (simp [f1, f2, f3, f4, f5]; done))) rfl ?_
        refine pst_whenF (tk_is (tk_v (ed_eqT (s := "cell") (ed_var rfl t5) hh (by decide +kernel))) (by first | (simp; done) | (simp [f1, f2, f3, f4, f5]; done))) rfl ?_
        refine pst_disp [(Sum.inr "num", .int 3), (Sum.inr "par", .int (ps : Int)), (Sum.inr "own", .int (os : Int))] (eps_cons ev_c ev_c (eps_cons ev_c (EvD.iv (K := K) (ed_ixT (i := 0) (ed_var rfl t2) ed_ci atI_zero)) (eps_cons ev_c (EvD.iv (K := K) (ed_ixT (i := 1) (ed_var rfl t2) ed_ci rfl)) eps_nil))) (by decide : 3 ≤ 15) ?_
        intro p H2 hp e2 hD
        replace t1 := t1.ex e2
        replace t5 := t5.ex e2
        replace k := fun v H' (e : Ex H2 H') => k v H' (e2.trans e)
        refine pst_ret (ed_is (ed_andF (ed_is (ed_inTD ["num", "par", "own"] (ed_var rfl t5) (eda_cons ed_cs (eda_cons ed_cs (eda_cons ed_cs eda_nil))) hh (by decide +kernel) (by decide)) (by simp [f1, f2, f3]))) ?_) k
        match r with
        | [] => simp [isThD, f1, f2, f3, f4]
        | b :: r => rw [isThD_nob (by simp) f5]
  | _ =>
    refine pst_whenT (tk_orT (tk_notF (tk_vB (ed_isi (b := false) (ed_var rfl t1) (by rfl))))) rfl (pst_ret ?_ k)
    rw [show isThD ps os n _ = false from by cases n <;> simp [isThD]]
    exact ed_cb
theorem ok_pth (GN : Fn_is_number T P w base CX0 1 (spF K pNumber)) : ∀ n : Nat, Fn_is_thing T P w base CX0 (n + 2) (spF K (pLTh n))
  | 0 => pth_step T (n := 0) (fun _ _ _ _ => False) (fun h => absurd h (Nat.lt_irrefl _)) GN (fn_vac fun _ _ _ _ h => h)
  | n + 1 => pth_step T (n := n + 1) (spF K (pLTh n)) (fun _ => rfl) GN (ok_pth GN n)
end
end Hw

set_option maxRecDepth 100000
set_option maxHeartbeats 4000000
/-! PD2: the program's own look over any data: calls, steps, bodies -/
namespace Hw
open PySem PySem.Spec PyProof.Rows L2 Evl
local macro_rules | `(tactic| walk_at "dd") => `(tactic| first | rfl | decide | (simp; done) | omega)
local macro_rules | `(tactic| walk_at "td") => `(tactic| first | assumption | exact Td.int _ | exact Td.bl _ | exact Td.str _ | exact Td.non | exact Td.tup (by assumption) (by assumption))
local macro_rules | `(tactic| walk_at "ev") => `(tactic| first
  | exact ed_ci | exact ed_cs | exact ed_cb | exact ed_cn
  | (apply ed_cg; assumption)
  | (apply ed_var; (rfl); (walk_at "td"))
  | (apply ed_ixT; (walk_at "ev"); (walk_at "ev"); (first | rfl | assumption))
  | (apply ed_rowI; (rfl); (assumption); (walk_at "ev"); (rfl))
  | (apply ed_ixL; (apply EvDL.rd; walk_at "edl"); (walk_at "ev"); (rfl))
  | (apply ed_intb; (walk_at "ev"))
  | (apply ed_len; walk_at "ev")
  | (apply ed_lenV; (apply ev_rowR; (rfl); (assumption); (walk_at "ev"); (rfl)); (assumption))
  | (apply ed_Ii; (walk_at "ev"); (walk_at "ev"); (walk_at "cc"))
  | (apply ed_isi; (walk_at "ev"); (rfl))
  | (apply ed_I0i; (walk_at "ev"); (walk_at "ev"))
  | (apply ed_I0b; (walk_at "ev"); (walk_at "ev"))
  | (apply ed_eqi; (walk_at "ev"); (walk_at "ev"))
  | (apply ed_nei; (walk_at "ev"); (walk_at "ev"))
  | (apply ed_andF; walk_at "ev")
  | (apply ed_andV; (walk_at "ev"); (intro _; walk_at "ev"))
  | (apply ed_orT; walk_at "ev")
  | (apply ed_orV; (walk_at "ev"); (intro _; walk_at "ev"))
  | (apply ed_notT; walk_at "ev")
  | (apply ed_notF; walk_at "ev")
  | (apply ed_notV; walk_at "ev")
  | (apply ed_chain; (walk_at "ev"); (walk_at "ev"); (intro _; walk_at "ev"))
  | (apply ed_eqS; (walk_at "ev"); (walk_at "ev"); (walk_at "bb"); (walk_at "bb"))
  | (apply ed_neS; (walk_at "ev"); (walk_at "ev"); (walk_at "bb"); (walk_at "bb"))
  | (apply ed_inT; (walk_at "ev"); (walk_at "ev"); (rfl); (rfl))
  | (apply ed_niT; (walk_at "ev"); (walk_at "ev"); (rfl); (rfl))
  | (apply ed_tup; (walk_at "eva"); (walk_at "bb"))
  | (apply ed_sl; (walk_at "ev"); (walk_at "evo"); (walk_at "evo"))
  | (apply ed_eqN; (apply EvDL.rd; walk_at "edl"); (walk_at "edl"); (walk_at "bb"))
  | (apply ed_neN; (apply EvDL.rd; walk_at "edl"); (walk_at "edl"); (walk_at "bb"))
  | (apply ed_ixL; (apply edr_var; (rfl); (assumption); (assumption)); (walk_at "ev"); (first | rfl | assumption))
  | (apply ed_lenL; (apply edr_var; (rfl); (assumption); (assumption)))
  | (apply ed_call; (walk_at "eva"); (walk_at "post")))
local macro_rules | `(tactic| walk_at "edl") => `(tactic| first
  | assumption
  | (apply edl_lst; (walk_at "eva"); (walk_at "bb")))
local macro_rules | `(tactic| walk_at "eva") => `(tactic| first
  | exact eda_nil
  | (apply eda_cons; (walk_at "ev"); (walk_at "eva")))
local macro_rules | `(tactic| walk_at "evo") => `(tactic| first
  | exact eok_none
  | (apply eok_some; walk_at "ev"))
local macro_rules | `(tactic| walk_at "bb") => `(tactic| first | rfl | assumption | (simp; done) | (simp; omega) | decide +kernel)
local macro_rules | `(tactic| walk_at "et") => `(tactic| first
  | exact tk_yes
  | (apply tk_andF; walk_at "et")
  | (apply tk_and; (walk_at "et"); (intro _; walk_at "et"))
  | (apply tk_orT; walk_at "et")
  | (apply tk_or; (walk_at "et"); (intro _; walk_at "et"))
  | (apply tk_notT; walk_at "et")
  | (apply tk_notF; walk_at "et")
  | (apply tk_not; walk_at "et")
  | (apply tk_v; walk_at "ev")
  | (apply tk_vB; walk_at "ev"))
local macro_rules | `(tactic| walk_at "if") => `(tactic| first
  | (apply pst_whenF; (walk_at "et"); (walk_at "bb"))
  | (apply pst_whenT; (walk_at "et"); (walk_at "bb")))
local macro_rules | `(tactic| walk_at "post") => `(tactic| first | assumption | exact ⟨_, _, rfl, rfl⟩ | exact ⟨_, _, _, _, rfl, by omega, by omega, rfl⟩ | exact ⟨_, _, _, 0, rfl, by omega, by omega, rfl⟩)
local macro_rules | `(tactic| walk_at "cc") => `(tactic| first | assumption | decide | omega | (refine ⟨?_, ?_⟩ <;> first | decide | omega) | (exact Or.inl (by constructor <;> omega)))

def callDs (sh : List (Nat × Nat)) (i : Nat) (a : PyData) (r : List PyData) : Bool := match r with
  | [b] => callD sh i a b
  | _ => false
theorem callDs_st {sh : List (Nat × Nat)} {i m : Nat} {a : PyData} {r : List PyData} : isStD sh i (m + 1) (.tuple (.str "call" :: a :: r)) = callDs sh i a r := by
  obtain ⟨a1, a2, a3, a4, b1, b2, b3, b4, c1, c2, c3, c4, d1, d2, d3, d4⟩ := lw4
  match r with
  | [] => simp only [isStD, callDs, b4, Bool.false_and]
  | [b] => simp only [isStD, callDs, a4, d4, Bool.false_and, Bool.true_and, Bool.false_or]
  | [b, c] => simp only [isStD, callDs, c4, Bool.false_and]
  | _ :: _ :: _ :: _ => simp [isStD, callDs]
/-- works as they are told: no count of params below 0 -/
def WOk (ws : List WkD) : Prop := ws.length ≤ 1000 ∧ ∀ w ∈ ws, 0 ≤ w.ps
theorem WOk.at {ws : List WkD} (h : WOk ws) {i : Nat} {x : WkD} (hx : ws[i]? = some x) : (shP (shD ws) i : Int) = x.ps := by
  have e : (shD ws)[i]? = some (x.ps.toNat, x.os.toNat) := by simp only [shD, List.getElem?_map, hx, Option.map_some]
  rw [(shP_at e).1]
  exact Int.toNat_of_nonneg (h.2 x (List.mem_of_getElem? hx))
theorem osAt {ws : List WkD} {i : Nat} {x : WkD} (hx : ws[i]? = some x) (h0 : 0 ≤ x.os) : (shO (shD ws) i : Int) = x.os := by
  have e : (shD ws)[i]? = some (x.ps.toNat, x.os.toNat) := by simp only [shD, List.getElem?_map, hx, Option.map_some]
  rw [(shP_at e).2]
  exact Int.toNat_of_nonneg h0
theorem atI_wk {ws : List WkD} {i : Nat} {x : WkD} (hx : ws[i]? = some x) : atI (ws.map encWD) (i : Int) = some (encWD x) := atI_nat (by rw [List.getElem?_map, hx]; rfl)
def pLCall (ds : List PyData) (d : PyData) : Prop := ∃ (ws : List WkD) (i : Nat) (h a : PyData) (r : List PyData), ds = [.tuple (ws.map encWD), .int (i : Int), .tuple (h :: a :: r), .tuple [.int (shP (shD ws) i : Int), .int (shO (shD ws) i : Int)]] ∧
  WOk ws ∧ PyData.canLayAll0 r = true ∧ smDs r = true ∧ d = .bool (callDs (shD ws) i a r)
def pLSt (n : Nat) (ds : List PyData) (d : PyData) : Prop := ∃ (ws : List WkD) (i : Nat) (x : PyData) (w : Nat) (wk : WkD), ds = [.tuple (ws.map encWD), .int (i : Int), x, .int (w : Int)] ∧ WOk ws ∧ ws[i]? = some wk ∧ 0 ≤ wk.os ∧ w + n = 5 ∧ x.canLay0 = true ∧ smD x = true ∧ d = .bool (fSt n (shD ws) i x)
def pLBd (n : Nat) (ds : List PyData) (d : PyData) : Prop := ∃ (ws : List WkD) (i : Nat) (x : PyData) (w : Nat) (wk : WkD), ds = [.tuple (ws.map encWD), .int (i : Int), x, .int (w : Int)] ∧ WOk ws ∧ ws[i]? = some wk ∧ 0 ≤ wk.os ∧ w + n = 5 ∧ x.canLay0 = true ∧ smD x = true ∧ d = .bool (fBd n (shD ws) i x)
theorem fSt_short {sh : List (Nat × Nat)} {i n : Nat} {ds : List PyData} (h : ds.length < 2) : fSt n sh i (.tuple ds) = false := by
  match n, ds, h with
  | 0, _, _ => simp [fSt, isStD]
  | n + 1, [], _ => simp [fSt, isStD]
  | n + 1, [_], _ => simp [fSt, isStD]
  | n + 1, _ :: _ :: _, h => simp at h; omega
theorem fSt_noth {sh : List (Nat × Nat)} {i m : Nat} {h a : PyData} {r : List PyData} (hc : isStrD "call" h = false) (ht : isThD (shP sh i) (shO sh i) 5 a = false) : fSt (m + 1) sh i (.tuple (h :: a :: r)) = false := by
  match r with
  | [] => simp only [fSt, isStD, ht, Bool.and_false]
  | [b] => simp only [fSt, isStD, ht, hc, Bool.and_false, Bool.false_and, Bool.or_false]
  | [b, c] => simp only [fSt, isStD, ht, Bool.and_false, Bool.false_and]
  | _ :: _ :: _ :: _ => simp [fSt, isStD]
section
variable {P : Program} {w : World} {K : PySem.W.Frag} {mg : Str → Option Value} {base : Heap} (T : Tx K mg)
include T
theorem ok_pcall (GN : Fn_is_number T P w base CX0 1 (spF K pNumber)) (GT : Fn_is_thing T P w base CX0 7 (spF K (pLTh 5))) : Fn_is_call T P w base CX0 8 (spF K pLCall) := by
  have G_is_number := GN
  have G_is_thing := GT
  refine T.F_is_call.ok sc_is_call (spF_len fun ds d h => by obtain ⟨_, _, _, _, _, rfl, _⟩ := h; rfl) fun cdv A outer s H vs Q E hr h => ?_
  obtain ⟨ds, d, ht, ⟨ws, i, h, a, r, rfl, h0, hl, hm, rfl⟩, k⟩ := h
  obtain _ | ⟨t0, _ | ⟨t1, _ | ⟨t2, _ | ⟨t3, _ | _⟩⟩⟩⟩ := ht
  refine ⟨_, (pss_cons (ps_if (PW.pt (pw_or (pt_cmpR op_ne (pe_callB (kc_len K) rfl T.b_len PySem.boot_len (pa_cons (pv 2) pa_nil)) pe_int (nomark _)) (pw_or (pt_not (pt_val (pe_call G_is_number (hr.mono (by omega)) (by rfl) T.g_is_number T.k_is_number T.bd_is_number .nil pass0 (pa_cons (pe_ix (kix_tup K) (pv 2) pe_int (fun _ _ => rfl)) (pa_cons (pe_callB (kc_len K) rfl T.b_len PySem.boot_len (pa_cons (pv 0) pa_nil)) pa_nil))))) (pw_or (pt_cmpR op_le (pe_ix (kix_tup K) (pv 2) pe_int (fun _ _ => rfl)) (pv 1) (nomark _)) (pw_or1 (pt_not (pt_val (pe_callB (kc_isi K) rfl T.b_isinstance (by decide +kernel) (pa_cons (pe_ix (kix_tup K) (pv 2) pe_int (fun _ _ => rfl)) (pa_cons (pe_bltn (v := .ty "tuple") rfl T.b_tuple (by decide +kernel) rfl) pa_nil))))))))))
    (pss_one (ps_ret pe_bl))
    pss_nil)
  (pss_cons (ps_if (pt_cmpR op_ne (pe_callB (kc_len K) rfl T.b_len PySem.boot_len (pa_cons (pe_ix (kix_tup K) (pv 2) pe_int (fun _ _ => rfl)) pa_nil)) (pe_ix (kix_tup K) (pe_ix (kix_tup K) (pv 0) (pe_ix (kix_tup K) (pv 2) pe_int (fun _ _ => rfl)) (fun _ _ => rfl)) pe_int (fun _ _ => rfl)) (nomark _))
    (pss_one (ps_ret pe_bl))
    pss_nil)
  (pss_one (ps_ret (pe_cmpR (kop_eq K hr.units) (pe_lc (own := [("thing", 4)]) (g := gName 4) (tt := _) rfl sc_is_call.nd (kpi_tup K (pe_ix (kix_tup K) (pv 2) pe_int (fun _ _ => rfl))) (blkOk_by (N := ["program", "at", "step", "sizes", "thing"]) (sc := defScope s_is_call) (by decide +kernel)) (fun _ _ _ _ _ => (pg_name (i := 4) sc_is_call.nd rfl (Or.inl rfl))) (fun _ _ _ _ _ => (pts_one (pt_not (pt_val (pe_call G_is_thing (hr.mono (by omega)) (by rfl) T.g_is_thing T.k_is_thing T.bd_is_thing .nil pass0 (pa_cons (pv 4) (pa_cons (pv 3) (pa_cons pe_int pa_nil)))))))) (fun _ _ _ _ _ => (pv 4))) (pe_lst pa_nil) (nomark _)))))), ?_⟩
  cases t1
  refine Pst.go (K := K) ?_
  have hlen : (shD ws).length = ws.length := by simp only [shD, List.length_map]
  match r with
  | [] => exact pst_whenT (tk_orT (tk_is (tk_v (ed_nei (ed_len (ed_var rfl t2)) ed_ci)) (by simp))) rfl (pst_ret ed_cb k)
  | b :: c :: r => exact pst_whenT (tk_orT (tk_is (tk_v (ed_nei (ed_len (ed_var rfl t2)) ed_ci)) (by simp; try omega))) rfl (pst_ret ed_cb k)
  | [b] =>
    obtain ⟨pa, xs, rfl, hsx, hall⟩ := t2.tup_inv
    have t2' := hall
    obtain _ | ⟨_, _ | ⟨ua, _ | ⟨ub, _ | _⟩⟩⟩ := hall
    by_cases hnum : isNumD a (ws.length : Int) = true
    · obtain ⟨c, rfl, hc⟩ := isNumD_inv hnum
      have hcl : c < ws.length := by omega
      have hwc : ws[c]? = some ws[c] := List.getElem?_eq_getElem hcl
      by_cases hci : i < c
      · cases hbt : isTupL b with
        | false =>
          refine pst_whenT (tk_is (tk_or (tk_v (ed_nei (ed_len (ed_var rfl t2)) ed_ci)) fun _ => tk_or (tk_not (tk_vB (ed_call (eda_cons (ed_ixT (i := 1) (ed_var rfl t2) ed_ci rfl) (eda_cons (ed_is (ed_len (ed_var rfl t0)) (by rw [List.length_map])) eda_nil)) ⟨_, (ws.length : Int), rfl, rfl⟩))) fun _ => tk_or (tk_v (ed_I0b (ed_ixT (i := 1) (ed_var rfl t2) ed_ci rfl) (ed_var rfl (.int _)))) fun _ => tk_not (tk_vB (ed_isi (b := isTupL b) (ed_ixT (i := 2) (ed_var rfl t2) ed_ci rfl) (isTupL_kit ub)))) (by rw [hbt]; simp)) rfl (pst_ret ?_ k)
          rw [show callDs (shD ws) i (.int (c : Int)) [b] = false from by cases b <;> first | rfl | cases hbt]
          exact ed_cb
        | true =>
          refine pst_whenF (tk_is (tk_or (tk_v (ed_nei (ed_len (ed_var rfl t2)) ed_ci)) fun _ => tk_or (tk_not (tk_vB (ed_call (eda_cons (ed_ixT (i := 1) (ed_var rfl t2) ed_ci rfl) (eda_cons (ed_is (ed_len (ed_var rfl t0)) (by rw [List.length_map])) eda_nil)) ⟨_, (ws.length : Int), rfl, rfl⟩))) fun _ => tk_or (tk_v (ed_I0b (ed_ixT (i := 1) (ed_var rfl t2) ed_ci rfl) (ed_var rfl (.int _)))) fun _ => tk_not (tk_vB (ed_isi (b := isTupL b) (ed_ixT (i := 2) (ed_var rfl t2) ed_ci rfl) (isTupL_kit ub)))) (by rw [hbt, hnum]; simp; omega)) rfl ?_
          obtain ⟨ts, rfl⟩ : ∃ ts, b = .tuple ts := by
            cases b <;> first | exact ⟨_, rfl⟩ | cases hbt
          have sp := h0.at hwc
          simp only [PyData.canLayAll0, PyData.canLay0, Bool.and_eq_true, and_true] at hl
          simp only [smDs, smD, Bool.and_eq_true, decide_eq_true_eq, and_true] at hm
          have hcd : callDs (shD ws) i (.int (c : Int)) [.tuple ts] = (decide (ts.length = shP (shD ws) c) && ts.all (isThD (shP (shD ws) i) (shO (shD ws) i) 5)) := by
            simp [callDs, callD, hlen, hcl, hci]
          refine pst_when (b := !decide (ts.length = shP (shD ws) c)) (tk_is (tk_v (ed_nei (ed_len (ed_ixT (i := 2) (ed_var rfl t2) ed_ci rfl)) (ed_ixT (i := 0) (ed_ixT (i := (c : Int)) (ed_var rfl t0) (ed_ixT (i := 1) (ed_var rfl t2) ed_ci rfl) (atI_wk hwc)) ed_ci atI_zero))) (by rw [← sp]; congr 1; exact decide_eq_decide.mpr (by omega))) (fun hb => ?_) (fun hb => ?_)
          · refine pst_ret ?_ k
            rw [hcd, (Bool.not_eq_true' _).mp hb]
            exact ed_cb
          · refine pst_ret (ed_is (ed_eqN (EvDL.rd (edl_lcM (xs := ts) (f := fun y => y) (p := fun y => !isThD (shP (shD ws) i) (shO (shD ws) i) 5 y) (g := fun y => y) (ed_ixT (i := 2) (ed_var rfl t2) ed_ci rfl) (List.map_id' _).symm (by omega) (fun x => rfl) (fun y v Hc ec hy ty => tk_not (tk_vB (ed_call (eda_cons (ed_var rfl ty) (eda_cons (ed_var rfl (t3.ex ec)) (eda_cons ed_ci eda_nil))) ⟨y, shP (shD ws) i, shO (shD ws) i, 0, rfl, rfl, layAll_mem hl hy, rfl⟩))) (fun y v Hc ec hy _ ty => ed_var rfl ty))) (edl_lst eda_nil (by decide)) (layAll_flt hl)) ?_) k
            rw [flt_id, hcd, (Bool.not_eq_false' _).mp hb, Bool.true_and]
      · refine pst_whenT (tk_is (tk_or (tk_v (ed_nei (ed_len (ed_var rfl t2)) ed_ci)) fun _ => tk_or (tk_not (tk_vB (ed_call (eda_cons (ed_ixT (i := 1) (ed_var rfl t2) ed_ci rfl) (eda_cons (ed_is (ed_len (ed_var rfl t0)) (by rw [List.length_map])) eda_nil)) ⟨_, (ws.length : Int), rfl, rfl⟩))) fun _ => tk_orT (tk_is (tk_v (ed_I0b (ed_ixT (i := 1) (ed_var rfl t2) ed_ci rfl) (ed_var rfl (.int _)))) (by simp; omega))) (by simp)) rfl (pst_ret ?_ k)
        rw [show callDs (shD ws) i (.int (c : Int)) [b] = false from by cases b <;> simp [callDs, callD, hci]]
        exact ed_cb
    · refine pst_whenT (tk_is (tk_or (tk_v (ed_nei (ed_len (ed_var rfl t2)) ed_ci)) fun _ => tk_orT (tk_is (tk_not (tk_vB (ed_call (eda_cons (ed_ixT (i := 1) (ed_var rfl t2) ed_ci rfl) (eda_cons (ed_is (ed_len (ed_var rfl t0)) (by rw [List.length_map])) eda_nil)) ⟨_, (ws.length : Int), rfl, rfl⟩))) (by simp [hnum]))) (by simp)) rfl (pst_ret ?_ k)
      rw [show callDs (shD ws) i a [b] = false from ?_]
      · exact ed_cb
      · cases a <;> try rfl
        cases b <;> try rfl
        simp only [isNumD, Bool.not_eq_true, Bool.and_eq_false_iff] at hnum
        simp only [callDs, callD, hlen, Bool.and_eq_false_iff]
        rcases hnum with h | h
        · exact .inl h
        · exact .inr (.inl h)
theorem ok_pbd {k n : Nat} (G : Fn_is_step T P w base CX0 k (spF K (pLSt n))) : Fn_is_body T P w base CX0 (k + 1) (spF K (pLBd n)) := by
  have G_is_step := G
  refine T.F_is_body.ok sc_is_body (spF_len fun ds d h => by obtain ⟨_, _, _, _, _, rfl, _⟩ := h; rfl) fun cdv A outer s H vs Q E hr h => ?_
  obtain ⟨ds, d, ht, ⟨ws, i, x, w, wk, rfl, h0, hwk, hos, hw, hl, hm, rfl⟩, k⟩ := h
  obtain _ | ⟨t0, _ | ⟨t1, _ | ⟨t2, _ | ⟨t3, _ | _⟩⟩⟩⟩ := ht
  refine ⟨_, (pss_one (ps_ret (pe_and (pe_callB (kc_isi K) rfl T.b_isinstance (by decide +kernel) (pa_cons (pv 2) (pa_cons (pe_bltn (v := .ty "tuple") rfl T.b_tuple (by decide +kernel) rfl) pa_nil))) (pe_one (pe_cmpR (kop_eq K hr.units) (pe_lc (own := [("step", 4)]) (g := gName 4) (tt := _) rfl sc_is_body.nd (kpi_tup K (pv 2)) (blkOk_by (N := ["program", "at", "body", "within", "step"]) (sc := defScope s_is_body) (by decide +kernel)) (fun _ _ _ _ _ => (pg_name (i := 4) sc_is_body.nd rfl (Or.inl rfl))) (fun _ _ _ _ _ => (pts_one (pt_not (pt_val (pe_call G_is_step (hr.mono (by omega)) (by rfl) T.g_is_step T.k_is_step T.bd_is_step .nil pass0 (pa_cons (pv 0) (pa_cons (pv 1) (pa_cons (pv 4) (pa_cons (pv 3) pa_nil))))))))) (fun _ _ _ _ _ => (pv 4))) (pe_lst pa_nil) (nomark _)))))), ?_⟩
  cases t1
  cases t3
  refine Pst.go (K := K) ?_
  cases x with
  | list _ => cases t2
  | dict _ => cases t2
  | tuple ds =>
    simp only [PyData.canLay0] at hl
    simp only [smD, Bool.and_eq_true, decide_eq_true_eq] at hm
    refine pst_ret (ed_is (ed_andV (ed_isi (b := true) (ed_var rfl t2) (by rfl)) fun _ => ed_eqN (EvDL.rd (edl_lcM (xs := ds) (f := fun y => y) (p := fun y => !fSt n (shD ws) i y) (g := fun y => y) (ed_var rfl t2) (List.map_id' _).symm (by omega) (fun x => rfl) (fun y v Hc ec hy ty => tk_not (tk_vB (ed_call (eda_cons (ed_var rfl (t0.ex ec)) (eda_cons (ed_var rfl (.int _)) (eda_cons (ed_var rfl ty) (eda_cons (ed_var rfl (.int _)) eda_nil)))) ⟨ws, i, y, w, wk, rfl, h0, hwk, hos, hw, layAll_mem hl hy, smDs_mem hm.2 hy, rfl⟩))) (fun y v Hc ec hy _ ty => ed_var rfl ty))) (edl_lst eda_nil (by decide)) (layAll_flt hl)) ?_) k
    rw [flt_id, Bool.true_and]
    rfl
  | _ => exact pst_ret (ed_andF (ed_isi (b := false) (ed_var rfl t2) (by rfl))) k
theorem ok_pst {k n : Nat} (hk : 8 ≤ k) (spB : Sp) (hB : 0 < n → spB = spF K (pLBd (n - 1))) (GT : Fn_is_thing T P w base CX0 7 (spF K (pLTh 5))) (GC : Fn_is_call T P w base CX0 8 (spF K pLCall)) (G : Fn_is_body T P w base CX0 k spB) : Fn_is_step T P w base CX0 (k + 1) (spF K (pLSt n)) := by
  have G_is_thing := GT
  have G_is_call := GC
  have G_is_body := G
  obtain ⟨a1, a2, a3, a4, b1, b2, b3, b4, c1, c2, c3, c4, d1, d2, d3, d4⟩ := lw4
  refine T.F_is_step.ok sc_is_step (spF_len fun ds d h => by obtain ⟨_, _, _, _, _, rfl, _⟩ := h; rfl) fun cdv A outer s H vs Q E hr h => ?_
  obtain ⟨ds, d, ht, ⟨ws, i, x, w, wk, rfl, h0, hwk, hos, hw, hl, hm, rfl⟩, k⟩ := h
  obtain _ | ⟨t0, _ | ⟨t1, _ | ⟨t2, _ | ⟨t3, _ | _⟩⟩⟩⟩ := ht
  refine ⟨_, (pss_cons (ps_if (PW.pt (pw_or (pt_not (pt_val (pe_callB (kc_isi K) rfl T.b_isinstance (by decide +kernel) (pa_cons (pv 2) (pa_cons (pe_bltn (v := .ty "tuple") rfl T.b_tuple (by decide +kernel) rfl) pa_nil))))) (pw_or (pt_cmpR op_lt (pe_callB (kc_len K) rfl T.b_len PySem.boot_len (pa_cons (pv 2) pa_nil)) pe_int (nomark _)) (pw_or1 (pt_cmpR op_gt (pv 3) (pe_gint rfl T.g_MOST_WITHIN) (nomark _))))))
    (pss_one (ps_ret pe_bl))
    pss_nil)
  (pss_cons (ps_set (i := 4) sc_is_step.nd rfl (Or.inl rfl) (pe_slice (ksl_tup K) (pe_ix (kix_tup K) (pv 0) (pv 1) (fun _ _ => rfl)) po_none (po_some pe_int)))
  (pss_cons (ps_if (pt_cmpR (kop_eq K hr.units) (pe_ix (kix_tup K) (pv 2) pe_int (fun _ _ => rfl)) pe_str (nomark _))
    (pss_one (ps_ret (pe_call G_is_call (hr.mono (by omega)) (by rfl) T.g_is_call T.k_is_call T.bd_is_call .nil pass0 (pa_cons (pv 0) (pa_cons (pv 1) (pa_cons (pv 2) (pa_cons (pv 4) pa_nil)))))))
    pss_nil)
  (pss_cons (ps_if (pt_not (pt_val (pe_call G_is_thing (hr.mono (by omega)) (by rfl) T.g_is_thing T.k_is_thing T.bd_is_thing .nil pass0 (pa_cons (pe_ix (kix_tup K) (pv 2) pe_int (fun _ _ => rfl)) (pa_cons (pv 4) (pa_cons pe_int pa_nil))))))
    (pss_one (ps_ret pe_bl))
    pss_nil)
  (pss_cons (ps_if (pt_cmpR (kop_eq K hr.units) (pe_ix (kix_tup K) (pv 2) pe_int (fun _ _ => rfl)) pe_str (nomark _))
    (pss_one (ps_ret (pe_and (pe_cmpR op_eq (pe_callB (kc_len K) rfl T.b_len PySem.boot_len (pa_cons (pv 2) pa_nil)) pe_int (nomark _)) (pe_and (pe_cmpR (kop_in K) (pe_ix (kix_tup K) (pe_ix (kix_tup K) (pv 2) pe_int (fun _ _ => rfl)) pe_int (fun _ _ => rfl)) (pe_glob (v := .ref _) rfl T.g_PLACES rfl) rfl) (pe_one (pe_call G_is_thing (hr.mono (by omega)) (by rfl) T.g_is_thing T.k_is_thing T.bd_is_thing .nil pass0 (pa_cons (pe_ix (kix_tup K) (pv 2) pe_int (fun _ _ => rfl)) (pa_cons (pv 4) (pa_cons pe_int pa_nil)))))))))
    pss_nil)
  (pss_cons (ps_if (pt_cmpR (kop_eq K hr.units) (pe_ix (kix_tup K) (pv 2) pe_int (fun _ _ => rfl)) pe_str (nomark _))
    (pss_one (ps_ret (pe_and (pe_cmpR op_eq (pe_callB (kc_len K) rfl T.b_len PySem.boot_len (pa_cons (pv 2) pa_nil)) pe_int (nomark _)) (pe_one (pe_cmpR (kop_eq K hr.units) (pe_lc (own := [("body", 5)]) (g := gName 5) (tt := _) rfl sc_is_step.nd (kpi_tup K (pe_slice (ksl_tup K) (pv 2) (po_some pe_int) po_none)) (blkOk_by (N := ["program", "at", "step", "within", "sizes", "body"]) (sc := defScope s_is_step) (by decide +kernel)) (fun _ _ _ _ _ => (pg_name (i := 5) sc_is_step.nd rfl (Or.inl rfl))) (fun _ _ _ _ _ => (pts_one (pt_not (pt_val (pe_call G_is_body (hr.mono (by omega)) (by rfl) T.g_is_body T.k_is_body T.bd_is_body .nil pass0 (pa_cons (pv 0) (pa_cons (pv 1) (pa_cons (pv 5) (pa_cons (pe_op op_add (pv 3) pe_int) pa_nil))))))))) (fun _ _ _ _ _ => (pv 5))) (pe_lst pa_nil) (nomark _))))))
    pss_nil)
  (pss_one (ps_ret (pe_and (pe_cmpR (kop_eq K hr.units) (pe_ix (kix_tup K) (pv 2) pe_int (fun _ _ => rfl)) pe_str (nomark _)) (pe_one (pe_cmpR op_eq (pe_callB (kc_len K) rfl T.b_len PySem.boot_len (pa_cons (pv 2) pa_nil)) pe_int (nomark _)))))))))))), ?_⟩
  cases t1
  cases t3
  refine Pst.go (K := K) ?_
  have hPl : ∀ H, Td K H (.ref (He.ga K "PLACES")) (.tuple [.str "cell", .str "own", .str "par"]) := fun H => .tup (T.t_PLACES H) (.cons (.str _) (.cons (.str _) (.cons (.str _) .nil)))
  cases x with
  | list _ => cases t2
  | dict _ => cases t2
  | tuple ds =>
    refine pst_when (b := decide (ds.length < 2) || decide (4 < w)) (tk_is (tk_or (tk_notT (tk_vB (ed_isi (b := true) (ed_var rfl t2) (by rfl)))) fun _ => tk_or (tk_v (ed_I0b (ed_len (ed_var rfl t2)) ed_ci)) fun _ => tk_v (ed_I0b (ed_var rfl (.int _)) ed_ci)) ?_) (fun hb => ?_) (fun hb => ?_)
    · rw [Bool.false_or]
      congr 1
      · exact decide_eq_decide.mpr (by omega)
      · exact decide_eq_decide.mpr (by omega)
    · refine pst_ret ?_ k
      rw [show fSt n (shD ws) i (.tuple ds) = false from ?_]
      · exact ed_cb
      · simp only [Bool.or_eq_true, decide_eq_true_eq] at hb
        rcases hb with hb | hb
        · exact fSt_short hb
        · have : n = 0 := by omega
          subst this
          simp [fSt, isStD]
    · simp only [Bool.or_eq_false_iff, decide_eq_false_iff_not] at hb
      obtain ⟨m, rfl⟩ : ∃ m, n = m + 1 := ⟨n - 1, by omega⟩
      have hsp := hB (by omega)
      subst hsp
      simp only [Nat.add_sub_cancel] at *
      obtain ⟨h, a, r, rfl⟩ := two_more hb.1
      simp only [PyData.canLay0, PyData.canLayAll0, Bool.and_eq_true] at hl
      obtain ⟨hh, ha, hr2⟩ := hl
      simp only [smD, smDs, Bool.and_eq_true, decide_eq_true_eq] at hm
      obtain ⟨_, _, hma, hmr⟩ := hm
      have e1 := h0.at hwk
      have e2 := osAt hwk hos
      refine pst_asg (d := .tuple [.int (shP (shD ws) i : Int), .int (shO (shD ws) i : Int)]) (ed_is (ed_sl (lo := none) (hi := some ((2 : Nat) : Int)) (ed_ixT (i := (i : Int)) (ed_var rfl t0) (ed_var rfl (.int _)) (atI_wk hwk)) eok_none (eok_some ed_ci)) (by rw [e1, e2]; rfl)) fun v4 H1 e1 t4 => ?_
      replace t0 := t0.ex e1
      replace t2 := t2.ex e1
      replace k := fun v H' (e : Ex H1 H') => k v H' (e1.trans e)
      clear e1
      cases hc : isStrD "call" h with
      | true =>
        obtain rfl := isStrD_iff.mp hc
        refine pst_whenT (tk_is (tk_v (ed_eqT (s := "call") (ed_ixT (i := 0) (ed_var rfl t2) ed_ci atI_zero) hh (by decide +kernel))) (by simp)) rfl ?_
        refine pst_ret (ed_is (ed_call (eda_cons (ed_var rfl t0) (eda_cons (ed_var rfl (.int _)) (eda_cons (ed_var rfl t2) (eda_cons (ed_var rfl t4) eda_nil)))) ⟨ws, i, _, a, r, rfl, h0, hr2, hmr, rfl⟩) ?_) k
        rw [fSt, callDs_st]
      | false =>
        refine pst_whenF (tk_is (tk_v (ed_eqT (s := "call") (ed_ixT (i := 0) (ed_var rfl t2) ed_ci atI_zero) hh (by decide +kernel))) hc) rfl ?_
        refine pst_when (b := !isThD (shP (shD ws) i) (shO (shD ws) i) 5 a) (tk_not (tk_vB (ed_call (eda_cons (ed_ixT (i := ((1 : Nat) : Int)) (ed_var rfl t2) ed_ci (atI_nat rfl)) (eda_cons (ed_var rfl t4) (eda_cons ed_ci eda_nil))) ⟨a, shP (shD ws) i, shO (shD ws) i, 0, rfl, rfl, ha, rfl⟩))) (fun hb => ?_) (fun hb => ?_)
        · refine pst_ret ?_ k
          rw [fSt_noth hc ((Bool.not_eq_true' _).mp hb)]
          exact ed_cb
        · have hta := (Bool.not_eq_false' _).mp hb
          cases hs : isStrD "set" h with
          | true =>
            obtain rfl := isStrD_iff.mp hs
            refine pst_whenT (tk_is (tk_v (ed_eqT (s := "set") (ed_ixT (i := 0) (ed_var rfl t2) ed_ci atI_zero) hh (by decide +kernel))) (by simp)) rfl ?_
            match r with
            | [b] =>
              simp only [PyData.canLayAll0, Bool.and_eq_true, and_true] at hr2
              obtain ⟨ta, rfl⟩ := isThD_inv _ _ hta
              refine pst_ret (ed_is (ed_andV (ed_eqi (ed_len (ed_var rfl t2)) ed_ci) fun _ => ed_andV (a := isPlD (encT ta)) ?_ fun _ => ed_call (eda_cons (ed_ixT (i := 2) (ed_var rfl t2) ed_ci rfl) (eda_cons (ed_var rfl t4) (eda_cons ed_ci eda_nil))) ⟨b, shP (shD ws) i, shO (shD ws) i, 0, rfl, rfl, hr2, rfl⟩) ?_) k
              · rw [isPlD_enc]
                cases ta <;> exact ed_is (ed_inT (ed_ixT (i := 0) (ed_ixT (i := 1) (ed_var rfl t2) ed_ci rfl) ed_ci atI_zero) (ed_cg hPl) (by rfl) (by rfl)) (by simp [isPlace])
              · simp only [fSt, isStD, a1, d1, hta, Bool.true_and, Bool.false_and, Bool.or_false]
                rfl
            | [] => exact pst_ret (ed_is (ed_andF (ed_is (ed_eqi (ed_len (ed_var rfl t2)) ed_ci) (by simp))) (by simp [fSt, isStD, b1])) k
            | _ :: c :: r => exact pst_ret (ed_is (ed_andF (ed_is (ed_eqi (ed_len (ed_var rfl t2)) ed_ci) (by simp; try omega))) (by cases r <;> simp [fSt, isStD, c1])) k
          | false =>
            refine pst_whenF (tk_is (tk_v (ed_eqT (s := "set") (ed_ixT (i := 0) (ed_var rfl t2) ed_ci atI_zero) hh (by decide +kernel))) hs) rfl ?_
            cases hi : isStrD "if" h with
            | true =>
              obtain rfl := isStrD_iff.mp hi
              refine pst_whenT (tk_is (tk_v (ed_eqT (s := "if") (ed_ixT (i := 0) (ed_var rfl t2) ed_ci atI_zero) hh (by decide +kernel))) (by simp)) rfl ?_
              match r with
              | [b, c] =>
                refine pst_ret (ed_is (ed_andV (ed_eqi (ed_len (ed_var rfl t2)) ed_ci) fun _ => ed_eqN (EvDL.rd (edl_lcM (xs := [b, c]) (f := fun y => y) (p := fun y => !fBd m (shD ws) i y) (g := fun y => y) (ed_is (ed_sl (lo := some ((2 : Nat) : Int)) (hi := none) (ed_var rfl t2) (eok_some ed_ci) eok_none) (by rw [cutD_suf] <;> rfl)) rfl (by simp) (fun x => rfl) (fun y v Hc ec hy ty => tk_not (tk_vB (ed_call (eda_cons (ed_var rfl (t0.ex ec)) (eda_cons (ed_var rfl (.int _)) (eda_cons (ed_var rfl ty) (eda_cons (ed_is (ed_I0i (ed_var rfl (.int _)) ed_ci) rfl) eda_nil)))) ⟨ws, i, y, w + 1, wk, rfl, h0, hwk, hos, by omega, layAll_mem hr2 hy, smDs_mem hmr hy, rfl⟩))) (fun y v Hc ec hy _ ty => ed_var rfl ty))) (edl_lst eda_nil (by decide)) (layAll_flt hr2)) ?_) k
                rw [flt_id]
                simp only [fSt, isStD, c3, hta, Bool.true_and, List.all_cons, List.all_nil, Bool.and_true]
                rfl
              | [] => exact pst_ret (ed_is (ed_andF (ed_is (ed_eqi (ed_len (ed_var rfl t2)) ed_ci) (by simp))) (by simp [fSt, isStD, b3])) k
              | [b] => exact pst_ret (ed_is (ed_andF (ed_is (ed_eqi (ed_len (ed_var rfl t2)) ed_ci) (by simp))) (by simp [fSt, isStD, a3, d3])) k
              | _ :: _ :: c :: r => exact pst_ret (ed_is (ed_andF (ed_is (ed_eqi (ed_len (ed_var rfl t2)) ed_ci) (by simp; try omega))) (by simp [fSt, isStD])) k
            | false =>
              refine pst_whenF (tk_is (tk_v (ed_eqT (s := "if") (ed_ixT (i := 0) (ed_var rfl t2) ed_ci atI_zero) hh (by decide +kernel))) hi) rfl ?_
              refine pst_ret (ed_is (ed_andV (ed_eqT (s := "say") (ed_ixT (i := 0) (ed_var rfl t2) ed_ci atI_zero) hh (by decide +kernel)) fun _ => ed_eqi (ed_len (ed_var rfl t2)) ed_ci) ?_) k
              match r with
              | [] =>
                simp only [fSt, isStD, hta, Bool.and_true]
                cases isStrD "say" h <;> simp
              | [b] => simp [fSt, isStD, hs, hc]
              | [b, c] => simp [fSt, isStD, hi]
              | _ :: _ :: c :: r =>
                simp [fSt, isStD]
                try omega
  | _ =>
    refine pst_whenT (tk_orT (tk_notF (tk_vB (ed_isi (b := false) (ed_var rfl t2) (by rfl))))) rfl (pst_ret ?_ k)
    rw [fSt_not rfl]
    exact ed_cb
theorem ok_pbdN (GT : Fn_is_thing T P w base CX0 7 (spF K (pLTh 5))) (GC : Fn_is_call T P w base CX0 8 (spF K pLCall)) : ∀ n : Nat, Fn_is_body T P w base CX0 (10 + 2 * n) (spF K (pLBd n))
  | 0 => ok_pbd T (ok_pst T (k := 8) (n := 0) (by omega) (fun _ _ _ _ => False) (fun h => absurd h (Nat.lt_irrefl _)) GT GC (fn_vac fun _ _ _ _ h => h))
  | n + 1 => ok_pbd T (ok_pst T (k := 10 + 2 * n) (n := n + 1) (by omega) (spF K (pLBd n)) (fun _ => rfl) GT GC (ok_pbdN GT GC n))
end
end Hw

set_option maxRecDepth 100000
set_option maxHeartbeats 4000000
/-! PD3: the program's own look over any data: works, programs, ways; what is typed -/
namespace Hw
open PySem PySem.Spec PyProof.Rows L2 Evl
local macro_rules | `(tactic| walk_at "dd") => `(tactic| first | rfl | decide | (simp; done) | omega)
local macro_rules | `(tactic| walk_at "td") => `(tactic| first | assumption | exact Td.int _ | exact Td.bl _ | exact Td.str _ | exact Td.non | exact Td.tup (by assumption) (by assumption))
local macro_rules | `(tactic| walk_at "ev") => `(tactic| first
  | exact ed_ci | exact ed_cs | exact ed_cb | exact ed_cn
  | (apply ed_cg; assumption)
  | (apply ed_var; (rfl); (walk_at "td"))
  | (apply ed_ixT; (walk_at "ev"); (walk_at "ev"); (first | rfl | assumption))
  | (apply ed_rowI; (rfl); (assumption); (walk_at "ev"); (rfl))
  | (apply ed_ixL; (apply EvDL.rd; walk_at "edl"); (walk_at "ev"); (rfl))
  | (apply ed_intb; (walk_at "ev"))
  | (apply ed_len; walk_at "ev")
  | (apply ed_lenV; (apply ev_rowR; (rfl); (assumption); (walk_at "ev"); (rfl)); (assumption))
  | (apply ed_Ii; (walk_at "ev"); (walk_at "ev"); (walk_at "cc"))
  | (apply ed_isi; (walk_at "ev"); (rfl))
  | (apply ed_I0i; (walk_at "ev"); (walk_at "ev"))
  | (apply ed_I0b; (walk_at "ev"); (walk_at "ev"))
  | (apply ed_eqi; (walk_at "ev"); (walk_at "ev"))
  | (apply ed_nei; (walk_at "ev"); (walk_at "ev"))
  | (apply ed_andF; walk_at "ev")
  | (apply ed_andV; (walk_at "ev"); (intro _; walk_at "ev"))
  | (apply ed_orT; walk_at "ev")
  | (apply ed_orV; (walk_at "ev"); (intro _; walk_at "ev"))
  | (apply ed_notT; walk_at "ev")
  | (apply ed_notF; walk_at "ev")
  | (apply ed_notV; walk_at "ev")
  | (apply ed_chain; (walk_at "ev"); (walk_at "ev"); (intro _; walk_at "ev"))
  | (apply ed_eqS; (walk_at "ev"); (walk_at "ev"); (walk_at "bb"); (walk_at "bb"))
  | (apply ed_neS; (walk_at "ev"); (walk_at "ev"); (walk_at "bb"); (walk_at "bb"))
  | (apply ed_inT; (walk_at "ev"); (walk_at "ev"); (rfl); (rfl))
  | (apply ed_niT; (walk_at "ev"); (walk_at "ev"); (rfl); (rfl))
  | (apply ed_tup; (walk_at "eva"); (walk_at "bb"))
  | (apply ed_sl; (walk_at "ev"); (walk_at "evo"); (walk_at "evo"))
  | (apply ed_eqN; (apply EvDL.rd; walk_at "edl"); (walk_at "edl"); (walk_at "bb"))
  | (apply ed_neN; (apply EvDL.rd; walk_at "edl"); (walk_at "edl"); (walk_at "bb"))
  | (apply ed_ixL; (apply edr_var; (rfl); (assumption); (assumption)); (walk_at "ev"); (first | rfl | assumption))
  | (apply ed_lenL; (apply edr_var; (rfl); (assumption); (assumption)))
  | (apply ed_call; (walk_at "eva"); (walk_at "post")))
local macro_rules | `(tactic| walk_at "edl") => `(tactic| first
  | assumption
  | (apply edl_lst; (walk_at "eva"); (walk_at "bb")))
local macro_rules | `(tactic| walk_at "eva") => `(tactic| first
  | exact eda_nil
  | (apply eda_cons; (walk_at "ev"); (walk_at "eva")))
local macro_rules | `(tactic| walk_at "evo") => `(tactic| first
  | exact eok_none
  | (apply eok_some; walk_at "ev"))
local macro_rules | `(tactic| walk_at "bb") => `(tactic| first | rfl | assumption | (simp; done) | (simp; omega) | decide +kernel)
local macro_rules | `(tactic| walk_at "et") => `(tactic| first
  | exact tk_yes
  | (apply tk_andF; walk_at "et")
  | (apply tk_and; (walk_at "et"); (intro _; walk_at "et"))
  | (apply tk_orT; walk_at "et")
  | (apply tk_or; (walk_at "et"); (intro _; walk_at "et"))
  | (apply tk_notT; walk_at "et")
  | (apply tk_notF; walk_at "et")
  | (apply tk_not; walk_at "et")
  | (apply tk_v; walk_at "ev")
  | (apply tk_vB; walk_at "ev"))
local macro_rules | `(tactic| walk_at "if") => `(tactic| first
  | (apply pst_whenF; (walk_at "et"); (walk_at "bb"))
  | (apply pst_whenT; (walk_at "et"); (walk_at "bb")))
local macro_rules | `(tactic| walk_at "post") => `(tactic| first | assumption | exact ⟨_, _, rfl, rfl⟩ | exact ⟨_, _, _, _, rfl, by omega, by omega, rfl⟩ | exact ⟨_, _, _, 0, rfl, by omega, by omega, rfl⟩)
local macro_rules | `(tactic| walk_at "cc") => `(tactic| first | assumption | decide | omega | (refine ⟨?_, ?_⟩ <;> first | decide | omega) | (exact Or.inl (by constructor <;> omega)))

def smWs (ws : List WkD) : Prop := WOk ws ∧ ∀ w ∈ ws, w.body.canLay0 = true ∧ smD w.body = true
theorem toD_wok {p : List Wk} (h : p.length ≤ 1000) : WOk (p.map toD) := ⟨by rw [List.length_map]; exact h, fun w hw => by
  obtain ⟨x, _, rfl⟩ := List.mem_map.mp hw
  simp only [toD]
  omega⟩
theorem smP_ws {p : List Wk} (h : smP p) : smWs (p.map toD) := ⟨toD_wok h.1, fun w hw => by
  obtain ⟨x, hx, rfl⟩ := List.mem_map.mp hw
  have := h.2 x hx
  simp only [toD, PyData.canLay0, smD, Bool.and_eq_true, decide_eq_true_eq, encB_length]
  exact ⟨encB_lay _, this.1, smD_B _ this.2⟩⟩
theorem encP_ws (p : List Wk) : encP p = .tuple ((p.map toD).map encWD) := by rw [encWD_toD]; rfl
/-- what is a program is typed -/
theorem isPrD_inv {ws : List WkD} (h : isPrD ws = true) (hs : smWs ws) : ∃ p : List Wk, ws = p.map toD ∧ smP p ∧ okP p = true := by
  have h0 := h
  simp only [isPrD, Bool.and_eq_true, decide_eq_true_eq, List.all_eq_true, List.mem_range] at h
  obtain ⟨⟨h1, h2⟩, h3, h4, h5⟩ := h
  have one : ∀ w ∈ ws, ∃ x : Wk, w = toD x ∧ x.body.length ≤ 20000 ∧ smB x.body = true := fun w hw => by
    obtain ⟨i, hi, rfl⟩ := List.mem_iff_getElem.mp hw
    have hg : ws[i]? = some ws[i] := List.getElem?_eq_getElem hi
    have g4 := h4 _ (List.getElem_mem hi)
    have g5 := h5 i hi
    simp only [okWD, hg, Bool.and_eq_true] at g5
    simp only [rgD, Bool.and_eq_true, decide_eq_true_eq] at g4
    obtain ⟨b, hb⟩ := isBdD_inv g5.1
    have g6 := (hs.2 _ (List.getElem_mem hi)).2
    rw [hb] at g6
    simp only [smD, Bool.and_eq_true, decide_eq_true_eq, encB_length] at g6
    refine ⟨⟨ws[i].ps.toNat, ws[i].os.toNat, b⟩, ?_, g6.1, smDs_B b g6.2⟩
    simp only [toD, Int.toNat_of_nonneg g4.1.1, Int.toNat_of_nonneg g4.2.1, ← hb]
  have all : ∀ vs : List WkD, (∀ w ∈ vs, ∃ x : Wk, w = toD x ∧ x.body.length ≤ 20000 ∧ smB x.body = true) → ∃ p : List Wk, vs = p.map toD ∧ ∀ x ∈ p, x.body.length ≤ 20000 ∧ smB x.body = true := fun vs => by
    induction vs with
    | nil => exact fun _ => ⟨[], rfl, by simp⟩
    | cons v r ih =>
      intro hv
      obtain ⟨x, rfl, hx⟩ := hv v List.mem_cons_self
      obtain ⟨p, rfl, hp⟩ := ih fun w hw => hv w (List.mem_cons_of_mem _ hw)
      refine ⟨x :: p, rfl, fun y hy => ?_⟩
      rcases List.mem_cons.mp hy with e | hy
      · rw [e]; exact hx
      · exact hp y hy
  obtain ⟨p, rfl, hp⟩ := all ws one
  have hl := hs.1.1
  rw [List.length_map] at hl
  exact ⟨p, rfl, ⟨hl, hp⟩, by rw [← isPrD_toD]; exact h0⟩
def wkD (ws : List WkD) (i : Nat) (wk : WkD) : Bool := rgD wk && (decide (i ≠ 0 ∨ wk.ps = 0) && okWD ws i)
def pLWork (ds : List PyData) (d : PyData) : Prop := ∃ (ws : List WkD) (i : Nat) (wk : WkD), ds = [.tuple (ws.map encWD), .int (i : Int)] ∧ smWs ws ∧ ws[i]? = some wk ∧ d = .bool (wkD ws i wk)
section
variable {P : Program} {w : World} {K : PySem.W.Frag} {mg : Str → Option Value} {base : Heap} (T : Tx K mg)
include T
theorem ok_pwork (G_is_body : Fn_is_body T P w base CX0 20 (spF K (pLBd 5))) (G_count : Fn_count T P w base CX0 8 (spF K (pCount 7))) : Fn_is_work T P w base CX0 21 (spF K pLWork) := by
  refine T.F_is_work.ok sc_is_work (spF_len fun ds d h => by obtain ⟨_, _, _, rfl, _⟩ := h; rfl) fun cdv A outer s H vs Q E hr h => ?_
  obtain ⟨ds, d, ht, ⟨ws, i, wk, rfl, hs, hwk, rfl⟩, k⟩ := h
  obtain _ | ⟨t0, _ | ⟨t1, _ | _⟩⟩ := ht
  refine ⟨_, (pss_cons (ps_asg (pe_ix (kix_tup K) (pv 0) (pv 1) (fun _ _ => rfl)) (kpg_tup K rfl (pgs_cons (pg_name (i := 2) sc_is_work.nd rfl (Or.inl rfl)) (pgs_cons (pg_name (i := 3) sc_is_work.nd rfl (Or.inl rfl)) (pgs_cons (pg_name (i := 4) sc_is_work.nd rfl (Or.inl rfl)) pgs_nil)))))
  (pss_cons (ps_if (PW.pt (pw_or (pt_not (pt_chain op_le op_le pe_int (pv 2) (pe_gint rfl T.g_MOST_PARAMS))) (pw_or (pt_not (pt_chain op_le op_le pe_int (pv 3) (pe_gint rfl T.g_MOST_OWNS_programs))) (pw_or1 (PW.pt (pw_and (pt_cmpR op_eq (pv 1) pe_int (nomark _)) (pw_and1 (pt_cmpR op_gt (pv 2) pe_int (nomark _)))))))))
    (pss_one (ps_ret pe_bl))
    pss_nil)
  (pss_one (ps_ret (pe_and (pe_call G_is_body (hr.mono (by omega)) (by rfl) T.g_is_body T.k_is_body T.bd_is_body .nil pass0 (pa_cons (pv 0) (pa_cons (pv 1) (pa_cons (pv 4) (pa_cons pe_int pa_nil))))) (pe_one (pe_cmpR op_le (pe_call G_count (hr.mono (by omega)) (by rfl) T.g_count T.k_count T.bd_count .nil pass0 (pa_cons (pv 4) pa_nil)) (pe_gint rfl T.g_MOST_STEPS_programs) (nomark _)))))))), ?_⟩
  cases t1
  have hm := hs.2 wk (List.mem_of_getElem? hwk)
  have hp0 := hs.1.2 wk (List.mem_of_getElem? hwk)
  refine Pst.go (K := K) ?_
  refine pst_unp3 (d1 := .int wk.ps) (d2 := .int wk.os) (d3 := wk.body) (ed_is (ed_ixT (i := (i : Int)) (ed_var rfl t0) (ed_var rfl (.int _)) (atI_wk hwk)) rfl) fun v1 v2 v3 H1 e1 u1 u2 u3 => ?_
  cases u1
  cases u2
  replace t0 := t0.ex e1
  replace k := fun v H' (e : Ex H1 H') => k v H' (e1.trans e)
  clear e1
  refine pst_when (b := !(rgD wk && decide (i ≠ 0 ∨ wk.ps = 0))) (tk_is (tk_or (tk_not (tk_v (ed_chain (i := 0) (k := 3) ed_ci (ed_var rfl (.int _)) fun _ => ed_ci))) fun _ => tk_or (tk_not (tk_v (ed_chain (i := 0) (k := 99) ed_ci (ed_var rfl (.int _)) fun _ => ed_ci))) fun _ => tk_and (tk_v (ed_eqi (ed_var rfl (.int _)) ed_ci)) fun _ => tk_v (ed_I0b (ed_var rfl (.int _)) ed_ci)) ?_) (fun hb => ?_) (fun hb => ?_)
  · rw [Bool.eq_iff_iff]
    simp only [rgD, Bool.not_and, Bool.or_eq_true, Bool.and_eq_true, Bool.not_eq_true', decide_eq_true_eq, decide_eq_false_iff_not, Bool.not_not]
    omega
  · refine pst_ret ?_ k
    have : wkD ws i wk = false := by
      simp only [wkD, ← Bool.and_assoc, (Bool.not_eq_true' _).mp hb, Bool.false_and]
    rw [this]
    exact ed_cb
  · have hb := (Bool.not_eq_false' _).mp hb
    have hos : 0 ≤ wk.os := by
      simp only [rgD, Bool.and_eq_true, decide_eq_true_eq] at hb
      exact hb.1.2.1
    have hkd : wkD ws i wk = (bdAll (isStD (shD ws) i 5) wk.body && decide (cntD 6 (inD wk.body) ≤ 100)) := by
      simp only [wkD, ← Bool.and_assoc, hb, Bool.true_and, okWD, hwk]
    refine pst_ret (ed_is (ed_andV (ed_call (eda_cons (ed_var rfl t0) (eda_cons (ed_var rfl (.int _)) (eda_cons (ed_var rfl u3) (eda_cons ed_ci eda_nil)))) ⟨ws, i, wk.body, 0, wk, rfl, hs.1, hwk, hos, rfl, hm.1, hm.2, rfl⟩) fun hbd => (?_ : EvD K _ _ H1 (.bool (decide (cntD 6 (inD wk.body) ≤ 100))))) (by rw [hkd]; rfl)) k
    obtain ⟨b, hbb⟩ := isBdD_inv hbd
    have hbd2 : okB (shD ws) i b 0 = true := by
      rw [← isBdD_enc b 5 0 rfl]
      simp only [fBd, hbb, bdAll] at hbd
      exact hbd
    have hdp := okB_dp _ _ hbd2
    have sb : b.length ≤ 20000 ∧ smB b = true := by
      have hb2 := hm.2
      rw [hbb] at hb2
      simp only [smD, Bool.and_eq_true, decide_eq_true_eq, encB_length] at hb2
      exact ⟨hb2.1, smDs_B b hb2.2⟩
    rw [hbb] at u3
    refine ed_is (ed_I0b (ed_call (eda_cons (ed_var rfl u3) eda_nil) ⟨b, rfl, sb.1, sb.2, by omega, rfl⟩) ed_ci) ?_
    rw [hbb]
    simp only [inD, cntD_enc 6 b (by omega)]
    congr 1
    exact decide_eq_decide.mpr (by omega)
/-- refused, or let by: any works -/
def spNPD (K : PySem.W.Frag) : Sp := fun vs H Q E => ∃ ws, TdAll K H vs [.tuple (ws.map encWD)] ∧ smWs ws ∧ (isPrD ws = true → ∀ H', Ex H H' → Q .non H') ∧ (isPrD ws = false → ∀ H', Ex H H' → E (.ref (He.ga K "BadProgram")) none H')
theorem ok_pprog (G_is_work : Fn_is_work T P w base CX0 21 (spF K pLWork)) : Fn_need_program T P w base (L2.CX P w) 22 (spNPD K) := by
  refine T.F_need_program.ok sc_need_program (fun vs H Q E h => by obtain ⟨p, ht, _⟩ := h; exact ht.length) fun cdv A outer s H vs Q E hr h => ?_
  obtain ⟨ws, ht, hs, kq, ke⟩ := h
  obtain _ | ⟨t1, _ | _⟩ := ht
  refine ⟨_, (pss_cons (ps_if (pt_not (pt_chain op_le op_le pe_int (pe_callB (kc_len K) rfl T.b_len PySem.boot_len (pa_cons (pv 0) pa_nil)) (pe_gint rfl T.g_MOST_WORKS)))
    (pss_one (ps_raise rfl (takes_of rfl rfl rfl rfl) (pmk_own PySem.F.excBase_ValueError T.x_BadProgram T.g_BadProgram T.k_BadProgram (raises_own T.be_BadProgram T.ty_BadProgram) (by exact rfl))))
    pss_nil)
  (pss_one (ps_if (pt_cmpR (kop_ne K hr.units) (pe_lc (own := [("at", 1)]) (g := gName 1) (tt := _) rfl sc_need_program.nd (pi_range1 rfl T.b_range (pa_cons (pe_callB (kc_len K) rfl T.b_len PySem.boot_len (pa_cons (pv 0) pa_nil)) pa_nil)) (blkOk_by (N := ["program", "at"]) (sc := defScope s_need_program) (by decide +kernel)) (fun _ _ _ _ _ => (pg_name (i := 1) sc_need_program.nd rfl (Or.inl rfl))) (fun _ _ _ _ _ => (pts_one (pt_not (pt_val (pe_call G_is_work (hr.mono (by omega)) (by rfl) T.g_is_work T.k_is_work T.bd_is_work .nil pass0 (pa_cons (pv 0) (pa_cons (pv 1) pa_nil))))))) (fun _ _ _ _ _ => (pv 1))) (pe_lst pa_nil) (nomark _))
    (pss_one (ps_raise rfl (takes_of rfl rfl rfl rfl) (pmk_own PySem.F.excBase_ValueError T.x_BadProgram T.g_BadProgram T.k_BadProgram (raises_own T.be_BadProgram T.ty_BadProgram) (by exact rfl))))
    pss_nil))), ?_⟩
  have hal : isPrD ws = ((decide (1 ≤ ws.length) && decide (ws.length ≤ 4)) && (List.range ws.length).all fun i => match ws[i]? with | some wk => wkD ws i wk | none => false) := by
    rw [Bool.eq_iff_iff]
    simp only [isPrD, Bool.and_eq_true, decide_eq_true_eq, List.all_eq_true, List.mem_range]
    constructor
    · rintro ⟨h1, h3, h4, h5⟩
      refine ⟨h1, fun i hi => ?_⟩
      have hg : ws[i]? = some ws[i] := List.getElem?_eq_getElem hi
      simp only [hg, wkD, Bool.and_eq_true, decide_eq_true_eq]
      refine ⟨h4 _ (List.getElem_mem hi), ?_, h5 i hi⟩
      by_cases e : i = 0
      · subst e
        right
        cases ws with
        | nil => simp at hi
        | cons a r => simpa [firstD0] using h3
      · exact .inl e
    · rintro ⟨h1, h2⟩
      have hw : ∀ i (hi : i < ws.length), rgD ws[i] = true ∧ (i ≠ 0 ∨ ws[i].ps = 0) ∧ okWD ws i = true := fun i hi => by
        have hg : ws[i]? = some ws[i] := List.getElem?_eq_getElem hi
        have := h2 i hi
        simpa only [hg, wkD, Bool.and_eq_true, decide_eq_true_eq] using this
      refine ⟨h1, ?_, fun x hx => ?_, fun i hi => (hw i hi).2.2⟩
      · cases ws with
        | nil => rfl
        | cons a r =>
          have := (hw 0 (by simp)).2.1
          simpa [firstD0] using this
      · obtain ⟨i, hi, rfl⟩ := List.mem_iff_getElem.mp hx
        exact (hw i hi).1
  refine Pst.go (K := K) ?_
  refine pst_when (b := !(decide (1 ≤ ws.length) && decide (ws.length ≤ 4))) (tk_is (tk_not (tk_v (ed_chain (i := 1) (k := 4) ed_ci (ed_len (ed_var rfl t1)) fun _ => ed_ci))) ?_) (fun hb H1 e1 => ?_) (fun hb => ?_)
  · rw [List.length_map, Bool.eq_iff_iff]
    simp only [Bool.not_and, Bool.or_eq_true, Bool.not_eq_true', decide_eq_false_iff_not]
    omega
  · refine ke ?_ H1 e1
    rw [hal, (Bool.not_eq_true' _).mp hb, Bool.false_and]
  · have hb := (Bool.not_eq_false' _).mp hb
    rw [hb, Bool.true_and] at hal
    have hl := hs.1.1
    refine pst_if (b := !((List.range ws.length).all fun i => match ws[i]? with | some wk => wkD ws i wk | none => false)) (tk_v (ed_is (ed_neN (EvDL.rd (edl_lcR (n := ws.length) (p := fun i => !(match ws[i]? with | some wk => wkD ws i wk | none => false)) (g := fun i => .int (i : Int)) (eda_cons (ed_is (ed_len (ed_var rfl t1)) (by rw [List.length_map])) eda_nil) (by omega) (fun _ => rfl) (fun i H1 e1 hi => ?_) (fun i H1 e1 hi _ => ed_var rfl (.int _)))) (edl_lst eda_nil (by decide)) (ints_lay _ _)) (by rw [List.isEmpty_map, filter_not_isEmpty]))) (fun hb2 H1 e1 => ?_) (fun hb2 H1 e1 => ?_)
    · have hg : ws[i]? = some ws[i] := List.getElem?_eq_getElem hi
      refine tk_not (tk_vB (ed_call (eda_cons (ed_var rfl (t1.ex e1)) (eda_cons (ed_var rfl (.int _)) eda_nil)) ⟨ws, i, ws[i], rfl, hs, hg, ?_⟩))
      simp only [hg]
    · exact ke (by rw [hal]; exact (Bool.not_eq_true' _).mp hb2) H1 e1
    · exact kq (by rw [hal]; exact (Bool.not_eq_false' _).mp hb2) H1 e1
/-- no program: BadProgram; ways that are none: BadWays; what is let by -/
def spNYD (K : PySem.W.Frag) : Sp := fun vs H Q E => ∃ ws ys, TdAll K H vs [.tuple (ws.map encWD), encY ys] ∧ smWs ws ∧ smY ys ∧
  ((isPrD ws = false ∧ ∀ H', Ex H H' → E (.ref (He.ga K "BadProgram")) none H') ∨
    ∃ p, ws = p.map toD ∧ okP p = true ∧ (okY p ys = true → ∀ H', Ex H H' → Q .non H') ∧ (okY p ys = false → ∀ H', Ex H H' → E (.ref (He.ga K "BadWays")) none H'))
theorem ok_pways (G_need_program : Fn_need_program T P w base (L2.CX P w) 22 (spNPD K)) : Fn_need_ways T P w base (L2.CX P w) 23 (spNYD K) := by
  refine T.F_need_ways.ok sc_need_ways (fun vs H Q E h => by obtain ⟨p, _, ht, _⟩ := h; exact ht.length) fun cdv A outer s H vs Q E hr h => ?_
  obtain ⟨ws, ys, ht, hs, hy, hcase⟩ := h
  obtain _ | ⟨t1, _ | ⟨t2, _ | _⟩⟩ := ht
  rename_i va vb
  refine ⟨_, (pss_cons (ps_expr (pe_call G_need_program (hr.mono (by omega)) (by rfl) T.g_need_program T.k_need_program T.bd_need_program .nil (passes_call (takes_of rfl rfl rfl rfl) (fun _ _ _ _ h => h)) (pa_cons (pv 0) pa_nil)))
  (pss_cons (ps_if (pt_cmpR op_ne (pe_callB (kc_len K) rfl T.b_len PySem.boot_len (pa_cons (pv 1) pa_nil)) (pe_callB (kc_len K) rfl T.b_len PySem.boot_len (pa_cons (pv 0) pa_nil)) (nomark _))
    (pss_one (ps_raise rfl (takes_of rfl rfl rfl rfl) (pmk_own PySem.F.excBase_ValueError T.x_BadWays T.g_BadWays T.k_BadWays (raises_own T.be_BadWays T.ty_BadWays) (by exact rfl))))
    pss_nil)
  (pss_one (ps_for (passes_of rfl) rfl (kpi_zip K (by rfl) T.b_zip (pa_cons (pv 0) (pa_cons (pv 1) pa_nil))) (kpg_tup K rfl (pgs_cons (pg_name (i := 2) sc_need_ways.nd rfl (Or.inl rfl)) (pgs_cons (pg_name (i := 3) sc_need_ways.nd rfl (Or.inl rfl)) pgs_nil)))
    (pss_one (ps_if (PW.pt (pw_or (pt_cmpR op_ne (pe_callB (kc_len K) rfl T.b_len PySem.boot_len (pa_cons (pv 3) pa_nil)) (pe_ix (kix_tup K) (pv 2) pe_int (fun _ _ => rfl)) (nomark _)) (pw_or1 (pt_cmpR (kop_ne K hr.units) (pe_lc (own := [("way", 4)]) (g := gName 4) (tt := _) rfl sc_need_ways.nd (kpi_tup K (pv 3)) (blkOk_by (N := ["program", "ways", "work", "some", "way"]) (sc := defScope s_need_ways) (by decide +kernel)) (fun _ _ _ _ _ => (pg_name (i := 4) sc_need_ways.nd rfl (Or.inl rfl))) (fun _ _ _ _ _ => (pts_one (pt_cmpR (kop_ni K) (pv 4) (pe_glob (v := .ref _) rfl T.g_WAYS rfl) rfl))) (fun _ _ _ _ _ => (pv 4))) (pe_lst pa_nil) (nomark _)))))
      (pss_one (ps_raise rfl (takes_of rfl rfl rfl rfl) (pmk_own PySem.F.excBase_ValueError T.x_BadWays T.g_BadWays T.k_BadWays (raises_own T.be_BadWays T.ty_BadWays) (by exact rfl))))
      pss_nil)))))), ?_⟩
  refine Pst.go (K := K) ?_
  rcases hcase with ⟨hno, ke⟩ | ⟨p, rfl, hok, kq, kw⟩
  · intro H1 e1
    exact ⟨_, rfl, ws, .cons (t1.ex e1) .nil, hs, (fun e => by rw [hno] at e; cases e), fun _ H' e => ke H' (e1.trans e)⟩
  · have hpr : isPrD (p.map toD) = true := by rw [isPrD_toD]; exact hok
    refine pst_callNP (v := _) rfl (fun H1 e1 Q kQ => ⟨p.map toD, .cons (t1.ex e1) .nil, hs, fun _ => kQ, (fun e => by rw [hpr] at e; cases e)⟩) ?_
    replace t1 : Td K H va (encP p) := by rw [encP_ws]; exact t1
    have hpl := hs.1.1
    rw [List.length_map] at hpl
    have hW : ∀ H, Td K H (.ref (He.ga K "WAYS")) (.tuple [.str "back", .str "copy", .str "place", .str "want"]) := fun H => .tup (T.t_WAYS H) (.cons (.str _) (.cons (.str _) (.cons (.str _) (.cons (.str _) .nil))))
    apply pst_when
    · walk_at "et"
    · intro hb H1 e1
      refine kw ?_ H1 e1
      simp at hb
      have hb2 : ¬ ys.length = p.length := by omega
      simp [okY, hb2]
    intro hb
    simp at hb
    have hlen : ys.length = p.length := by omega
    refine pst_forZ p ys encW (fun y => .tuple (y.map PyData.str)) ?_ hlen.symm (fun i σ' _ => ∃ a b, σ' = [some va, some vb, a, b, none] ∧ ∀ j, j < i → (decide ((ys.getD j []).length = shP (shapes p) j) && (ys.getD j []).all isWay) = true) (fun _ _ _ _ _ h => h) ⟨none, none, rfl, fun j hj => by omega⟩ ?_ ?_
    · walk_at "eva"
    · rintro i x y v u σ' H1 hx hyi e1 tv tu ⟨a, b, rfl, hall⟩ N hN
      have hym := hy.2 y (List.mem_of_getElem? hyi)
      have hgd : ys.getD i [] = y := by simp [hyi]
      apply pst_if (b := !(decide (y.length = x.params) && y.all isWay))
      · apply tk_is
        · apply tk_or
          · apply tk_v
            apply ed_nei
            · walk_at "ev"
            · walk_at "ev"
          intro _
          apply tk_v
          apply ed_neN
          · apply EvDL.rd
            apply edl_lcM (xs := y) (f := PyData.str) (p := fun s => !isWay s) (g := PyData.str)
            · walk_at "ev"
            · rfl
            · omega
            · intro x
              rfl
            · intro s v H2 e2 _ ts
              apply tk_is
              · walk_at "et"
              · rfl
            · intro s v H2 e2 _ _ ts
              walk_at "ev"
          · walk_at "edl"
          · exact strs_lay (y.filter fun s => !isWay s) fun s hs2 => hym.2 s (List.mem_filter.mp hs2).1
        · rw [List.isEmpty_map, filter_not_isEmpty]
          have e : ((y.length : Int) = (x.params : Int)) ↔ y.length = x.params := by omega
          simp [e]
      · intro hb2 H2 e2
        refine kw ?_ H2 (e1.trans e2)
        have hi : i < p.length := (List.getElem?_eq_some_iff.mp hx).1
        have : (List.range p.length).all (fun i => decide ((ys.getD i []).length = shP (shapes p) i) && (ys.getD i []).all isWay) = false := by
          rw [List.all_eq_false]
          refine ⟨i, List.mem_range.mpr hi, ?_⟩
          rw [hgd, shP_get hx]
          intro e
          rw [e] at hb2
          cases hb2
        unfold okY
        rw [this, Bool.and_false]
      · intro hb2 H2 e2
        refine hN _ _ ⟨_, _, rfl, fun j hj => ?_⟩ e2
        by_cases e : j = i
        · subst e
          rw [hgd, shP_get hx]
          simpa using hb2
        · exact hall j (by omega)
    · rintro σ' H1 e1 ⟨a, b, rfl, hall⟩
      refine kq ?_ H1 e1
      simp only [okY, hlen]
      simp only [decide_true, Bool.true_and, List.all_eq_true]
      intro j hj
      exact hall j (List.mem_range.mp hj)
end
end Hw

set_option maxRecDepth 100000
set_option maxHeartbeats 4000000
/-! PD4: what is no program, or no ways, is refused by all that take it -/
namespace Hw
open PySem PySem.Spec PyProof.Rows L2 Evl
local macro_rules | `(tactic| walk_at "dd") => `(tactic| first | rfl | decide | (simp; done) | omega)
local macro_rules | `(tactic| walk_at "td") => `(tactic| first | assumption | exact Td.int _ | exact Td.bl _ | exact Td.str _ | exact Td.non | exact Td.tup (by assumption) (by assumption))
local macro_rules | `(tactic| walk_at "ev") => `(tactic| first
  | exact ed_ci | exact ed_cs | exact ed_cb | exact ed_cn
  | (apply ed_cg; assumption)
  | (apply ed_var; (rfl); (walk_at "td"))
  | (apply ed_ixT; (walk_at "ev"); (walk_at "ev"); (first | rfl | assumption))
  | (apply ed_rowI; (rfl); (assumption); (walk_at "ev"); (rfl))
  | (apply ed_ixL; (apply EvDL.rd; walk_at "edl"); (walk_at "ev"); (rfl))
  | (apply ed_intb; (walk_at "ev"))
  | (apply ed_len; walk_at "ev")
  | (apply ed_lenV; (apply ev_rowR; (rfl); (assumption); (walk_at "ev"); (rfl)); (assumption))
  | (apply ed_Ii; (walk_at "ev"); (walk_at "ev"); (walk_at "cc"))
  | (apply ed_isi; (walk_at "ev"); (rfl))
  | (apply ed_I0i; (walk_at "ev"); (walk_at "ev"))
  | (apply ed_I0b; (walk_at "ev"); (walk_at "ev"))
  | (apply ed_eqi; (walk_at "ev"); (walk_at "ev"))
  | (apply ed_nei; (walk_at "ev"); (walk_at "ev"))
  | (apply ed_andF; walk_at "ev")
  | (apply ed_andV; (walk_at "ev"); (intro _; walk_at "ev"))
  | (apply ed_orT; walk_at "ev")
  | (apply ed_orV; (walk_at "ev"); (intro _; walk_at "ev"))
  | (apply ed_notT; walk_at "ev")
  | (apply ed_notF; walk_at "ev")
  | (apply ed_notV; walk_at "ev")
  | (apply ed_chain; (walk_at "ev"); (walk_at "ev"); (intro _; walk_at "ev"))
  | (apply ed_eqS; (walk_at "ev"); (walk_at "ev"); (walk_at "bb"); (walk_at "bb"))
  | (apply ed_neS; (walk_at "ev"); (walk_at "ev"); (walk_at "bb"); (walk_at "bb"))
  | (apply ed_inT; (walk_at "ev"); (walk_at "ev"); (rfl); (rfl))
  | (apply ed_niT; (walk_at "ev"); (walk_at "ev"); (rfl); (rfl))
  | (apply ed_tup; (walk_at "eva"); (walk_at "bb"))
  | (apply ed_sl; (walk_at "ev"); (walk_at "evo"); (walk_at "evo"))
  | (apply ed_eqN; (apply EvDL.rd; walk_at "edl"); (walk_at "edl"); (walk_at "bb"))
  | (apply ed_neN; (apply EvDL.rd; walk_at "edl"); (walk_at "edl"); (walk_at "bb"))
  | (apply ed_ixL; (apply edr_var; (rfl); (assumption); (assumption)); (walk_at "ev"); (first | rfl | assumption))
  | (apply ed_lenL; (apply edr_var; (rfl); (assumption); (assumption)))
  | (apply ed_call; (walk_at "eva"); (walk_at "post")))
local macro_rules | `(tactic| walk_at "edl") => `(tactic| first
  | assumption
  | (apply edl_lst; (walk_at "eva"); (walk_at "bb")))
local macro_rules | `(tactic| walk_at "eva") => `(tactic| first
  | exact eda_nil
  | (apply eda_cons; (walk_at "ev"); (walk_at "eva")))
local macro_rules | `(tactic| walk_at "evo") => `(tactic| first
  | exact eok_none
  | (apply eok_some; walk_at "ev"))
local macro_rules | `(tactic| walk_at "bb") => `(tactic| first | rfl | assumption | (simp; done) | (simp; omega) | decide +kernel)
local macro_rules | `(tactic| walk_at "et") => `(tactic| first
  | exact tk_yes
  | (apply tk_andF; walk_at "et")
  | (apply tk_and; (walk_at "et"); (intro _; walk_at "et"))
  | (apply tk_orT; walk_at "et")
  | (apply tk_or; (walk_at "et"); (intro _; walk_at "et"))
  | (apply tk_notT; walk_at "et")
  | (apply tk_notF; walk_at "et")
  | (apply tk_not; walk_at "et")
  | (apply tk_v; walk_at "ev")
  | (apply tk_vB; walk_at "ev"))
local macro_rules | `(tactic| walk_at "if") => `(tactic| first
  | (apply pst_whenF; (walk_at "et"); (walk_at "bb"))
  | (apply pst_whenT; (walk_at "et"); (walk_at "bb")))
local macro_rules | `(tactic| walk_at "post") => `(tactic| first | assumption | exact ⟨_, _, rfl, rfl⟩ | exact ⟨_, _, _, _, rfl, by omega, by omega, rfl⟩ | exact ⟨_, _, _, 0, rfl, by omega, by omega, rfl⟩)
local macro_rules | `(tactic| walk_at "cc") => `(tactic| first | assumption | decide | omega | (refine ⟨?_, ?_⟩ <;> first | decide | omega) | (exact Or.inl (by constructor <;> omega)))

def smallP (p : List Wk) : Bool := p.all fun w => decide (w.owns ≤ 10) && decide (cntB w.body ≤ 20)
/-- refused -/
def RfP (K : PySem.W.Frag) (ws : List WkD) (H : Hp) (E : XK) : Prop := isPrD ws = false ∧ ∀ H', Ex H H' → E (.ref (He.ga K "BadProgram")) none H'
def RfW (K : PySem.W.Frag) (ws : List WkD) (ys : List (List Str)) (H : Hp) (E : XK) : Prop := ∃ p, ws = p.map toD ∧ okP p = true ∧ smP p ∧ smallP p = true ∧ okY p ys = false ∧ ∀ H', Ex H H' → E (.ref (He.ga K "BadWays")) none H'
def spRf2 (K : PySem.W.Frag) : Sp := fun vs H Q E => ∃ (pw0 yv : V) (ws : List WkD) (ys : List (List Str)), vs = [pw0, yv] ∧ Td K H pw0 (.tuple (ws.map encWD)) ∧ Td K H yv (encY ys) ∧ smWs ws ∧ smY ys ∧ (RfP K ws H E ∨ RfW K ws ys H E)
def spRfR (K : PySem.W.Frag) : Sp := fun vs H Q E => ∃ (pw0 yv cv : V) (ws : List WkD) (ys : List (List Str)), vs = [pw0, yv, cv] ∧ Td K H pw0 (.tuple (ws.map encWD)) ∧ Td K H yv (encY ys) ∧ smWs ws ∧ smY ys ∧ (RfP K ws H E ∨ RfW K ws ys H E)
def spRf3 (K : PySem.W.Frag) : Sp := fun vs H Q E => ∃ (pw0 yv zv : V) (ws : List WkD) (ys zs : List (List Str)), vs = [pw0, yv, zv] ∧ Td K H pw0 (.tuple (ws.map encWD)) ∧ Td K H yv (encY ys) ∧ Td K H zv (encY zs) ∧ smWs ws ∧ smY ys ∧ smY zs ∧
  (RfP K ws H E ∨ RfW K ws ys H E ∨ ∃ p, ws = p.map toD ∧ okP p = true ∧ okY p ys = true ∧ okY p zs = false ∧ ∀ H', Ex H H' → E (.ref (He.ga K "BadWays")) none H')
def spRf1 (K : PySem.W.Frag) : Sp := fun vs H Q E => ∃ (pw0 : V) (ws : List WkD), vs = [pw0] ∧ Td K H pw0 (.tuple (ws.map encWD)) ∧ smWs ws ∧ RfP K ws H E
def spRfN (K : PySem.W.Frag) : Sp := fun vs H Q E => ∃ (pw0 : V) (ws : List WkD), vs = [pw0] ∧ Td K H pw0 (.tuple (ws.map encWD)) ∧ smWs ws ∧ (RfP K ws H E ∨ (isPrD ws = true ∧ ∀ v H', Ex H H' → Q v H'))
def spNSm (K : PySem.W.Frag) : Sp := fun vs H Q E => ∃ (pw0 : V) (p : List Wk), vs = [pw0] ∧ Td K H pw0 (encP p) ∧ okP p = true ∧ smP p ∧ smallP p = true ∧ ∀ H', Ex H H' → Q .non H'
section
variable {P : Program} {w : World} {K : PySem.W.Frag} {mg : Str → Option Value} {base : Heap} (T : Tx K mg)
include T
theorem ok_psmall (GC : Fn_count T P w base CX0 8 (spF K (pCount 7))) : Fn_need_small T P w base (L2.CX P w) 9 (spNSm K) := by
  have G_count := GC
  refine T.F_need_small.ok sc_need_small (fun vs H Q E h => by obtain ⟨_, _, rfl, _⟩ := h; rfl) fun cdv A outer s0 H vs Q E hr h => ?_
  obtain ⟨pw0, p, rfl, tp, hok, hs, hsm, kq⟩ := h
  have hl := hs.1
  refine ⟨_, (pss_one (ps_if (pt_cmpR (kop_ne K hr.units) (pe_lc (own := [("work", 1)]) (g := gName 1) (tt := _) rfl sc_need_small.nd (kpi_tup K (pv 0)) (blkOk_by (N := ["program", "work"]) (sc := defScope s_need_small) (by decide +kernel)) (fun _ _ _ _ _ => (pg_name (i := 1) sc_need_small.nd rfl (Or.inl rfl))) (fun _ _ _ _ _ => (pts_one (PW.pt (pw_or (pt_cmpR op_gt (pe_ix (kix_tup K) (pv 1) pe_int (fun _ _ => rfl)) (pe_gint rfl T.g_MOST_OWNS_making) (nomark _)) (pw_or1 (pt_cmpR op_gt (pe_call G_count (hr.mono (by omega)) (by rfl) T.g_count T.k_count T.bd_count .nil pass0 (pa_cons (pe_ix (kix_tup K) (pv 1) pe_int (fun _ _ => rfl)) pa_nil)) (pe_gint rfl T.g_MOST_STEPS_making) (nomark _))))))) (fun _ _ _ _ _ => (pv 1))) (pe_lst pa_nil) (nomark _))
    (pss_one (ps_raise rfl (takes_of rfl rfl rfl rfl) (pmk_own PySem.F.excBase_ValueError T.x_BadProgram T.g_BadProgram T.k_BadProgram (raises_own T.be_BadProgram T.ty_BadProgram) (by exact rfl))))
    pss_nil)), ?_⟩
  have hall : (p.filter fun w => !(decide (w.owns ≤ 10) && decide (cntB w.body ≤ 20))).isEmpty = smallP p := filter_not_isEmpty p
  refine w_ifs (w_t (K := K) (b := !smallP p) (tk_v (ed_is (ed_neN (EvDL.rd (edl_lcM p encW (fun w => !(decide (w.owns ≤ 10) && decide (cntB w.body ≤ 20))) encW (ed_var rfl tp) rfl (by omega) (fun _ => rfl) (fun w v H1 e1 hw tv => ?_) (fun w v H1 e1 hw _ tv => ed_var rfl tv))) (edl_lst eda_nil (by decide)) ?_) (by rw [← hall]; simp))) fun H1 e1 => ?_)
  · have tv' : Td K H1 v (.tuple [.int (w.params : Int), .int (w.owns : Int), .tuple (encB w.body)]) := tv
    obtain ⟨i, hi⟩ := List.mem_iff_getElem?.mp hw
    have g := okP_get hok hi
    have g2 := hs.2 w hw
    refine tk_is (tk_or (tk_v (ed_I0b (g := fun i j => decide (i > j)) (ed_ixT (i := 1) (ed_var rfl tv') ed_ci rfl) ed_ci)) fun _ => tk_v (ed_I0b (g := fun i j => decide (i > j)) (ed_call (eda_cons (ed_ixT (i := 2) (ed_var rfl tv') ed_ci rfl) eda_nil) ⟨w.body, rfl, g2.1, g2.2, by have := okB_dp _ _ g.2.2.1; omega, rfl⟩) ed_ci)) ?_
    by_cases h1 : w.owns ≤ 10 <;> by_cases h2 : cntB w.body ≤ 20 <;> simp [h1, h2] <;> omega
  · have : ∀ xs : List Wk, PyData.canLayAll0 (xs.map encW) = true := by
      intro xs
      induction xs with
      | nil => rfl
      | cons x r ih => simp [PyData.canLayAll0, encW_lay, ih]
    exact this _
  · rw [hsm]
    exact ifF rfl (w_next (kq H1 e1))
theorem ok_pmixed (GP : Fn_need_program T P w base (L2.CX P w) 22 (spNPD K)) (GY : Fn_need_ways T P w base (L2.CX P w) 23 (spNYD K)) (GS : Fn_need_small T P w base (L2.CX P w) 9 (spNSm K)) : Fn_mixed T P w base (L2.CX P w) 24 (spRf2 K) := by
  have G_need_program := GP
  have G_need_ways := GY
  have G_need_small := GS
  refine T.F_mixed.ok sc_mixed (fun vs H Q E h => by obtain ⟨_, _, _, _, rfl, _⟩ := h; rfl) fun cdv A outer s0 H vs Q E hr h => ?_
  obtain ⟨pw0, yv, ws, ys, rfl, tp, ty, hs, hy, ⟨hn, ke⟩ | ⟨p, rfl, hok, hsp, hsm, hoy, kw⟩⟩ := h
  · refine ⟨_, (pss_cons (ps_expr (pe_call G_need_program (hr.mono (by omega)) (by rfl) T.g_need_program T.k_need_program T.bd_need_program .nil (passes_call (takes_of rfl rfl rfl rfl) (fun _ _ _ _ h => h)) (pa_cons (pv 0) pa_nil)))
  (pss_cons (ps_expr (pe_call G_need_ways (hr.mono (by omega)) (by rfl) T.g_need_ways T.k_need_ways T.bd_need_ways .nil (passes_call (takes_of rfl rfl rfl rfl) (fun _ _ _ _ h => h)) (pa_cons (pv 0) (pa_cons (pv 1) pa_nil))))
  (pss_cons ps_never
  (pss_one ps_never)))), ?_⟩
    exact w_seq (w_drop (w_call (w_cons (w_v rfl (w_nil ⟨ws, .cons tp .nil, hs, (fun e => by rw [hn] at e; cases e), fun _ H1 e1 => ke H1 e1⟩)))))
  · have hpr : isPrD (p.map toD) = true := by rw [isPrD_toD]; exact hok
    refine ⟨_, (pss_cons (ps_expr (pe_call G_need_program (hr.mono (by omega)) (by rfl) T.g_need_program T.k_need_program T.bd_need_program .nil (passes_call (takes_of rfl rfl rfl rfl) (fun _ _ _ _ h => h)) (pa_cons (pv 0) pa_nil)))
  (pss_cons (ps_expr (pe_call G_need_ways (hr.mono (by omega)) (by rfl) T.g_need_ways T.k_need_ways T.bd_need_ways .nil (passes_call (takes_of rfl rfl rfl rfl) (fun _ _ _ _ h => h)) (pa_cons (pv 0) (pa_cons (pv 1) pa_nil))))
  (pss_cons ps_never
  (pss_one ps_never)))), ?_⟩
    refine w_seq (w_drop (w_call (w_cons (w_v rfl (w_nil ⟨_, .cons tp .nil, hs, fun _ H1 e1 => ?_, (fun e => by rw [hpr] at e; cases e)⟩)))))
    skip
    exact w_seq (w_drop (w_call (w_cons (w_v rfl (w_cons (w_v rfl (w_nil ⟨_, ys, .cons (tp.ex e1) (.cons (ty.ex e1) .nil), hs, hy, .inr ⟨p, rfl, hok, (fun e => by rw [hoy] at e; cases e), fun _ H2 e2 => kw H2 (e1.trans e2)⟩⟩)))))))
theorem ok_pmay_set (GP : Fn_need_program T P w base (L2.CX P w) 22 (spNPD K)) (GY : Fn_need_ways T P w base (L2.CX P w) 23 (spNYD K)) (GS : Fn_need_small T P w base (L2.CX P w) 9 (spNSm K)) : Fn_may_set T P w base (L2.CX P w) 24 (spRf2 K) := by
  have G_need_program := GP
  have G_need_ways := GY
  have G_need_small := GS
  refine T.F_may_set.ok sc_may_set (fun vs H Q E h => by obtain ⟨_, _, _, _, rfl, _⟩ := h; rfl) fun cdv A outer s0 H vs Q E hr h => ?_
  obtain ⟨pw0, yv, ws, ys, rfl, tp, ty, hs, hy, ⟨hn, ke⟩ | ⟨p, rfl, hok, hsp, hsm, hoy, kw⟩⟩ := h
  · refine ⟨_, (pss_cons (ps_expr (pe_call G_need_program (hr.mono (by omega)) (by rfl) T.g_need_program T.k_need_program T.bd_need_program .nil (passes_call (takes_of rfl rfl rfl rfl) (fun _ _ _ _ h => h)) (pa_cons (pv 0) pa_nil)))
  (pss_cons (ps_expr (pe_call G_need_ways (hr.mono (by omega)) (by rfl) T.g_need_ways T.k_need_ways T.bd_need_ways .nil (passes_call (takes_of rfl rfl rfl rfl) (fun _ _ _ _ h => h)) (pa_cons (pv 0) (pa_cons (pv 1) pa_nil))))
  (pss_cons ps_never
  (pss_cons ps_never
  (pss_one ps_never))))), ?_⟩
    exact w_seq (w_drop (w_call (w_cons (w_v rfl (w_nil ⟨ws, .cons tp .nil, hs, (fun e => by rw [hn] at e; cases e), fun _ H1 e1 => ke H1 e1⟩)))))
  · have hpr : isPrD (p.map toD) = true := by rw [isPrD_toD]; exact hok
    refine ⟨_, (pss_cons (ps_expr (pe_call G_need_program (hr.mono (by omega)) (by rfl) T.g_need_program T.k_need_program T.bd_need_program .nil (passes_call (takes_of rfl rfl rfl rfl) (fun _ _ _ _ h => h)) (pa_cons (pv 0) pa_nil)))
  (pss_cons (ps_expr (pe_call G_need_ways (hr.mono (by omega)) (by rfl) T.g_need_ways T.k_need_ways T.bd_need_ways .nil (passes_call (takes_of rfl rfl rfl rfl) (fun _ _ _ _ h => h)) (pa_cons (pv 0) (pa_cons (pv 1) pa_nil))))
  (pss_cons ps_never
  (pss_cons ps_never
  (pss_one ps_never))))), ?_⟩
    refine w_seq (w_drop (w_call (w_cons (w_v rfl (w_nil ⟨_, .cons tp .nil, hs, fun _ H1 e1 => ?_, (fun e => by rw [hpr] at e; cases e)⟩)))))
    skip
    exact w_seq (w_drop (w_call (w_cons (w_v rfl (w_cons (w_v rfl (w_nil ⟨_, ys, .cons (tp.ex e1) (.cons (ty.ex e1) .nil), hs, hy, .inr ⟨p, rfl, hok, (fun e => by rw [hoy] at e; cases e), fun _ H2 e2 => kw H2 (e1.trans e2)⟩⟩)))))))
theorem ok_pplaced (GP : Fn_need_program T P w base (L2.CX P w) 22 (spNPD K)) (GY : Fn_need_ways T P w base (L2.CX P w) 23 (spNYD K)) (GS : Fn_need_small T P w base (L2.CX P w) 9 (spNSm K)) : Fn_placed T P w base (L2.CX P w) 24 (spRf2 K) := by
  have G_need_program := GP
  have G_need_ways := GY
  have G_need_small := GS
  refine T.F_placed.ok sc_placed (fun vs H Q E h => by obtain ⟨_, _, _, _, rfl, _⟩ := h; rfl) fun cdv A outer s0 H vs Q E hr h => ?_
  obtain ⟨pw0, yv, ws, ys, rfl, tp, ty, hs, hy, ⟨hn, ke⟩ | ⟨p, rfl, hok, hsp, hsm, hoy, kw⟩⟩ := h
  · refine ⟨_, (pss_cons (ps_expr (pe_call G_need_program (hr.mono (by omega)) (by rfl) T.g_need_program T.k_need_program T.bd_need_program .nil (passes_call (takes_of rfl rfl rfl rfl) (fun _ _ _ _ h => h)) (pa_cons (pv 0) pa_nil)))
  (pss_cons (ps_expr (pe_call G_need_small (hr.mono (by omega)) (by rfl) T.g_need_small T.k_need_small T.bd_need_small .nil (passes_call (takes_of rfl rfl rfl rfl) (fun _ _ _ _ h => h)) (pa_cons (pv 0) pa_nil)))
  (pss_cons (ps_expr (pe_call G_need_ways (hr.mono (by omega)) (by rfl) T.g_need_ways T.k_need_ways T.bd_need_ways .nil (passes_call (takes_of rfl rfl rfl rfl) (fun _ _ _ _ h => h)) (pa_cons (pv 0) (pa_cons (pv 1) pa_nil))))
  (pss_cons ps_never
  (pss_one ps_never))))), ?_⟩
    exact w_seq (w_drop (w_call (w_cons (w_v rfl (w_nil ⟨ws, .cons tp .nil, hs, (fun e => by rw [hn] at e; cases e), fun _ H1 e1 => ke H1 e1⟩)))))
  · have hpr : isPrD (p.map toD) = true := by rw [isPrD_toD]; exact hok
    refine ⟨_, (pss_cons (ps_expr (pe_call G_need_program (hr.mono (by omega)) (by rfl) T.g_need_program T.k_need_program T.bd_need_program .nil (passes_call (takes_of rfl rfl rfl rfl) (fun _ _ _ _ h => h)) (pa_cons (pv 0) pa_nil)))
  (pss_cons (ps_expr (pe_call G_need_small (hr.mono (by omega)) (by rfl) T.g_need_small T.k_need_small T.bd_need_small .nil (passes_call (takes_of rfl rfl rfl rfl) (fun _ _ _ _ h => h)) (pa_cons (pv 0) pa_nil)))
  (pss_cons (ps_expr (pe_call G_need_ways (hr.mono (by omega)) (by rfl) T.g_need_ways T.k_need_ways T.bd_need_ways .nil (passes_call (takes_of rfl rfl rfl rfl) (fun _ _ _ _ h => h)) (pa_cons (pv 0) (pa_cons (pv 1) pa_nil))))
  (pss_cons ps_never
  (pss_one ps_never))))), ?_⟩
    refine w_seq (w_drop (w_call (w_cons (w_v rfl (w_nil ⟨_, .cons tp .nil, hs, fun _ H0 e0 => ?_, (fun e => by rw [hpr] at e; cases e)⟩)))))
    refine w_seq (w_drop (w_call (w_cons (w_v rfl (w_nil ⟨pw0, p, rfl, by rw [encP_ws]; exact tp.ex e0, hok, hsp, hsm, fun H1 e01 => ?_⟩)))))
    have e1 := e0.trans e01
    exact w_seq (w_drop (w_call (w_cons (w_v rfl (w_cons (w_v rfl (w_nil ⟨_, ys, .cons (tp.ex e1) (.cons (ty.ex e1) .nil), hs, hy, .inr ⟨p, rfl, hok, (fun e => by rw [hoy] at e; cases e), fun _ H2 e2 => kw H2 (e1.trans e2)⟩⟩)))))))
theorem ok_pwanted (GP : Fn_need_program T P w base (L2.CX P w) 22 (spNPD K)) (GY : Fn_need_ways T P w base (L2.CX P w) 23 (spNYD K)) (GS : Fn_need_small T P w base (L2.CX P w) 9 (spNSm K)) : Fn_wanted T P w base (L2.CX P w) 24 (spRf2 K) := by
  have G_need_program := GP
  have G_need_ways := GY
  have G_need_small := GS
  refine T.F_wanted.ok sc_wanted (fun vs H Q E h => by obtain ⟨_, _, _, _, rfl, _⟩ := h; rfl) fun cdv A outer s0 H vs Q E hr h => ?_
  obtain ⟨pw0, yv, ws, ys, rfl, tp, ty, hs, hy, ⟨hn, ke⟩ | ⟨p, rfl, hok, hsp, hsm, hoy, kw⟩⟩ := h
  · refine ⟨_, (pss_cons (ps_expr (pe_call G_need_program (hr.mono (by omega)) (by rfl) T.g_need_program T.k_need_program T.bd_need_program .nil (passes_call (takes_of rfl rfl rfl rfl) (fun _ _ _ _ h => h)) (pa_cons (pv 0) pa_nil)))
  (pss_cons (ps_expr (pe_call G_need_small (hr.mono (by omega)) (by rfl) T.g_need_small T.k_need_small T.bd_need_small .nil (passes_call (takes_of rfl rfl rfl rfl) (fun _ _ _ _ h => h)) (pa_cons (pv 0) pa_nil)))
  (pss_cons (ps_expr (pe_call G_need_ways (hr.mono (by omega)) (by rfl) T.g_need_ways T.k_need_ways T.bd_need_ways .nil (passes_call (takes_of rfl rfl rfl rfl) (fun _ _ _ _ h => h)) (pa_cons (pv 0) (pa_cons (pv 1) pa_nil))))
  (pss_cons ps_never
  (pss_one ps_never))))), ?_⟩
    exact w_seq (w_drop (w_call (w_cons (w_v rfl (w_nil ⟨ws, .cons tp .nil, hs, (fun e => by rw [hn] at e; cases e), fun _ H1 e1 => ke H1 e1⟩)))))
  · have hpr : isPrD (p.map toD) = true := by rw [isPrD_toD]; exact hok
    refine ⟨_, (pss_cons (ps_expr (pe_call G_need_program (hr.mono (by omega)) (by rfl) T.g_need_program T.k_need_program T.bd_need_program .nil (passes_call (takes_of rfl rfl rfl rfl) (fun _ _ _ _ h => h)) (pa_cons (pv 0) pa_nil)))
  (pss_cons (ps_expr (pe_call G_need_small (hr.mono (by omega)) (by rfl) T.g_need_small T.k_need_small T.bd_need_small .nil (passes_call (takes_of rfl rfl rfl rfl) (fun _ _ _ _ h => h)) (pa_cons (pv 0) pa_nil)))
  (pss_cons (ps_expr (pe_call G_need_ways (hr.mono (by omega)) (by rfl) T.g_need_ways T.k_need_ways T.bd_need_ways .nil (passes_call (takes_of rfl rfl rfl rfl) (fun _ _ _ _ h => h)) (pa_cons (pv 0) (pa_cons (pv 1) pa_nil))))
  (pss_cons ps_never
  (pss_one ps_never))))), ?_⟩
    refine w_seq (w_drop (w_call (w_cons (w_v rfl (w_nil ⟨_, .cons tp .nil, hs, fun _ H0 e0 => ?_, (fun e => by rw [hpr] at e; cases e)⟩)))))
    refine w_seq (w_drop (w_call (w_cons (w_v rfl (w_nil ⟨pw0, p, rfl, by rw [encP_ws]; exact tp.ex e0, hok, hsp, hsm, fun H1 e01 => ?_⟩)))))
    have e1 := e0.trans e01
    exact w_seq (w_drop (w_call (w_cons (w_v rfl (w_cons (w_v rfl (w_nil ⟨_, ys, .cons (tp.ex e1) (.cons (ty.ex e1) .nil), hs, hy, .inr ⟨p, rfl, hok, (fun e => by rw [hoy] at e; cases e), fun _ H2 e2 => kw H2 (e1.trans e2)⟩⟩)))))))
theorem ok_pran (GP : Fn_need_program T P w base (L2.CX P w) 22 (spNPD K)) (GY : Fn_need_ways T P w base (L2.CX P w) 23 (spNYD K)) : Fn_ran T P w base (L2.CX P w) 24 (spRfR K) := by
  have G_need_program := GP
  have G_need_ways := GY
  refine T.F_ran.ok sc_ran (fun vs H Q E h => by obtain ⟨_, _, _, _, _, rfl, _⟩ := h; rfl) fun cdv A outer s0 H vs Q E hr h => ?_
  obtain ⟨pw0, yv, cv, ws, ys, rfl, tp, ty, hs, hy, ⟨hn, ke⟩ | ⟨p, rfl, hok, hsp, hsm, hoy, kw⟩⟩ := h
  · refine ⟨_, (pss_cons (ps_expr (pe_call G_need_program (hr.mono (by omega)) (by rfl) T.g_need_program T.k_need_program T.bd_need_program .nil (passes_call (takes_of rfl rfl rfl rfl) (fun _ _ _ _ h => h)) (pa_cons (pv 0) pa_nil)))
  (pss_cons (ps_expr (pe_call G_need_ways (hr.mono (by omega)) (by rfl) T.g_need_ways T.k_need_ways T.bd_need_ways .nil (passes_call (takes_of rfl rfl rfl rfl) (fun _ _ _ _ h => h)) (pa_cons (pv 0) (pa_cons (pv 1) pa_nil))))
  (pss_cons ps_never
  (pss_one ps_never)))), ?_⟩
    exact w_seq (w_drop (w_call (w_cons (w_v rfl (w_nil ⟨ws, .cons tp .nil, hs, (fun e => by rw [hn] at e; cases e), fun _ H1 e1 => ke H1 e1⟩)))))
  · have hpr : isPrD (p.map toD) = true := by rw [isPrD_toD]; exact hok
    refine ⟨_, (pss_cons (ps_expr (pe_call G_need_program (hr.mono (by omega)) (by rfl) T.g_need_program T.k_need_program T.bd_need_program .nil (passes_call (takes_of rfl rfl rfl rfl) (fun _ _ _ _ h => h)) (pa_cons (pv 0) pa_nil)))
  (pss_cons (ps_expr (pe_call G_need_ways (hr.mono (by omega)) (by rfl) T.g_need_ways T.k_need_ways T.bd_need_ways .nil (passes_call (takes_of rfl rfl rfl rfl) (fun _ _ _ _ h => h)) (pa_cons (pv 0) (pa_cons (pv 1) pa_nil))))
  (pss_cons ps_never
  (pss_one ps_never)))), ?_⟩
    refine w_seq (w_drop (w_call (w_cons (w_v rfl (w_nil ⟨_, .cons tp .nil, hs, fun _ H1 e1 => ?_, (fun e => by rw [hpr] at e; cases e)⟩)))))
    exact w_seq (w_drop (w_call (w_cons (w_v rfl (w_cons (w_v rfl (w_nil ⟨_, ys, .cons (tp.ex e1) (.cons (ty.ex e1) .nil), hs, hy, .inr ⟨p, rfl, hok, (fun e => by rw [hoy] at e; cases e), fun _ H2 e2 => kw H2 (e1.trans e2)⟩⟩)))))))
theorem ok_pparted (GP : Fn_need_program T P w base (L2.CX P w) 22 (spNPD K)) (GY : Fn_need_ways T P w base (L2.CX P w) 23 (spNYD K)) : Fn_parted T P w base (L2.CX P w) 24 (spRf3 K) := by
  have G_need_program := GP
  have G_need_ways := GY
  refine T.F_parted.ok sc_parted (fun vs H Q E h => by obtain ⟨_, _, _, _, _, _, rfl, _⟩ := h; rfl) fun cdv A outer s0 H vs Q E hr h => ?_
  obtain ⟨pw0, yv, zv, ws, ys, zs, rfl, tp, ty, tz, hs, hy, hz, ⟨hn, ke⟩ | ⟨p, rfl, hok, hsp, hsm, hoy, kw⟩ | ⟨p, rfl, hok, hoy, hoz, kw⟩⟩ := h
  · refine ⟨_, (pss_cons (ps_expr (pe_call G_need_program (hr.mono (by omega)) (by rfl) T.g_need_program T.k_need_program T.bd_need_program .nil (passes_call (takes_of rfl rfl rfl rfl) (fun _ _ _ _ h => h)) (pa_cons (pv 0) pa_nil)))
  (pss_cons (ps_expr (pe_call G_need_ways (hr.mono (by omega)) (by rfl) T.g_need_ways T.k_need_ways T.bd_need_ways .nil (passes_call (takes_of rfl rfl rfl rfl) (fun _ _ _ _ h => h)) (pa_cons (pv 0) (pa_cons (pv 1) pa_nil))))
  (pss_cons (ps_expr (pe_call G_need_ways (hr.mono (by omega)) (by rfl) T.g_need_ways T.k_need_ways T.bd_need_ways .nil (passes_call (takes_of rfl rfl rfl rfl) (fun _ _ _ _ h => h)) (pa_cons (pv 0) (pa_cons (pv 2) pa_nil))))
  (pss_cons ps_never
  (pss_one ps_never))))), ?_⟩
    exact w_seq (w_drop (w_call (w_cons (w_v rfl (w_nil ⟨ws, .cons tp .nil, hs, (fun e => by rw [hn] at e; cases e), fun _ H1 e1 => ke H1 e1⟩)))))
  · have hpr : isPrD (p.map toD) = true := by rw [isPrD_toD]; exact hok
    refine ⟨_, (pss_cons (ps_expr (pe_call G_need_program (hr.mono (by omega)) (by rfl) T.g_need_program T.k_need_program T.bd_need_program .nil (passes_call (takes_of rfl rfl rfl rfl) (fun _ _ _ _ h => h)) (pa_cons (pv 0) pa_nil)))
  (pss_cons (ps_expr (pe_call G_need_ways (hr.mono (by omega)) (by rfl) T.g_need_ways T.k_need_ways T.bd_need_ways .nil (passes_call (takes_of rfl rfl rfl rfl) (fun _ _ _ _ h => h)) (pa_cons (pv 0) (pa_cons (pv 1) pa_nil))))
  (pss_cons (ps_expr (pe_call G_need_ways (hr.mono (by omega)) (by rfl) T.g_need_ways T.k_need_ways T.bd_need_ways .nil (passes_call (takes_of rfl rfl rfl rfl) (fun _ _ _ _ h => h)) (pa_cons (pv 0) (pa_cons (pv 2) pa_nil))))
  (pss_cons ps_never
  (pss_one ps_never))))), ?_⟩
    refine w_seq (w_drop (w_call (w_cons (w_v rfl (w_nil ⟨_, .cons tp .nil, hs, fun _ H1 e1 => ?_, (fun e => by rw [hpr] at e; cases e)⟩)))))
    exact w_seq (w_drop (w_call (w_cons (w_v rfl (w_cons (w_v rfl (w_nil ⟨_, ys, .cons (tp.ex e1) (.cons (ty.ex e1) .nil), hs, hy, .inr ⟨p, rfl, hok, (fun e => by rw [hoy] at e; cases e), fun _ H2 e2 => kw H2 (e1.trans e2)⟩⟩)))))))
  · have hpr : isPrD (p.map toD) = true := by rw [isPrD_toD]; exact hok
    refine ⟨_, (pss_cons (ps_expr (pe_call G_need_program (hr.mono (by omega)) (by rfl) T.g_need_program T.k_need_program T.bd_need_program .nil (passes_call (takes_of rfl rfl rfl rfl) (fun _ _ _ _ h => h)) (pa_cons (pv 0) pa_nil)))
  (pss_cons (ps_expr (pe_call G_need_ways (hr.mono (by omega)) (by rfl) T.g_need_ways T.k_need_ways T.bd_need_ways .nil (passes_call (takes_of rfl rfl rfl rfl) (fun _ _ _ _ h => h)) (pa_cons (pv 0) (pa_cons (pv 1) pa_nil))))
  (pss_cons (ps_expr (pe_call G_need_ways (hr.mono (by omega)) (by rfl) T.g_need_ways T.k_need_ways T.bd_need_ways .nil (passes_call (takes_of rfl rfl rfl rfl) (fun _ _ _ _ h => h)) (pa_cons (pv 0) (pa_cons (pv 2) pa_nil))))
  (pss_cons ps_never
  (pss_one ps_never))))), ?_⟩
    refine w_seq (w_drop (w_call (w_cons (w_v rfl (w_nil ⟨_, .cons tp .nil, hs, fun _ H1 e1 => ?_, (fun e => by rw [hpr] at e; cases e)⟩)))))
    refine w_seq (w_drop (w_call (w_cons (w_v rfl (w_cons (w_v rfl (w_nil ⟨_, ys, .cons (tp.ex e1) (.cons (ty.ex e1) .nil), hs, hy, .inr ⟨p, rfl, hok, fun _ H2 e2 => ?_, (fun e => by rw [hoy] at e; cases e)⟩⟩)))))))
    have e12 := e1.trans e2
    exact w_seq (w_drop (w_call (w_cons (w_v rfl (w_cons (w_v rfl (w_nil ⟨_, zs, .cons (tp.ex e12) (.cons (tz.ex e12) .nil), hs, hz, .inr ⟨p, rfl, hok, (fun e => by rw [hoz] at e; cases e), fun _ H3 e3 => kw H3 (e12.trans e3)⟩⟩)))))))
theorem ok_pclasses (GP : Fn_need_program T P w base (L2.CX P w) 22 (spNPD K)) : Fn_classes T P w base (L2.CX P w) 24 (spRf1 K) := by
  have G_need_program := GP
  refine T.F_classes.ok sc_classes (fun vs H Q E h => by obtain ⟨_, _, rfl, _⟩ := h; rfl) fun cdv A outer s0 H vs Q E hr h => ?_
  obtain ⟨pw0, ws, rfl, tp, hs, hn, ke⟩ := h
  refine ⟨_, (pss_cons (ps_expr (pe_call G_need_program (hr.mono (by omega)) (by rfl) T.g_need_program T.k_need_program T.bd_need_program .nil (passes_call (takes_of rfl rfl rfl rfl) (fun _ _ _ _ h => h)) (pa_cons (pv 0) pa_nil)))
  (pss_cons ps_never
  (pss_cons ps_never
  (pss_cons ps_never
  (pss_cons ps_never
  (pss_one ps_never)))))), ?_⟩
  exact w_seq (w_drop (w_call (w_cons (w_v rfl (w_nil ⟨ws, .cons tp .nil, hs, (fun e => by rw [hn] at e; cases e), fun _ H1 e1 => ke H1 e1⟩)))))
end
end Hw

set_option maxRecDepth 100000
set_option maxHeartbeats 4000000
/-! PD5: written refuses, or tells a text -/
namespace Hw
open PySem PySem.Spec PyProof.Rows L2 Evl
local macro_rules | `(tactic| walk_at "dd") => `(tactic| first | rfl | decide | (simp; done) | omega)
local macro_rules | `(tactic| walk_at "td") => `(tactic| first | assumption | exact Td.int _ | exact Td.bl _ | exact Td.str _ | exact Td.non | exact Td.tup (by assumption) (by assumption))
local macro_rules | `(tactic| walk_at "ev") => `(tactic| first
  | exact ed_ci | exact ed_cs | exact ed_cb | exact ed_cn
  | (apply ed_cg; assumption)
  | (apply ed_var; (rfl); (walk_at "td"))
  | (apply ed_ixT; (walk_at "ev"); (walk_at "ev"); (first | rfl | assumption))
  | (apply ed_rowI; (rfl); (assumption); (walk_at "ev"); (rfl))
  | (apply ed_ixL; (apply EvDL.rd; walk_at "edl"); (walk_at "ev"); (rfl))
  | (apply ed_intb; (walk_at "ev"))
  | (apply ed_len; walk_at "ev")
  | (apply ed_lenV; (apply ev_rowR; (rfl); (assumption); (walk_at "ev"); (rfl)); (assumption))
  | (apply ed_Ii; (walk_at "ev"); (walk_at "ev"); (walk_at "cc"))
  | (apply ed_isi; (walk_at "ev"); (rfl))
  | (apply ed_I0i; (walk_at "ev"); (walk_at "ev"))
  | (apply ed_I0b; (walk_at "ev"); (walk_at "ev"))
  | (apply ed_eqi; (walk_at "ev"); (walk_at "ev"))
  | (apply ed_nei; (walk_at "ev"); (walk_at "ev"))
  | (apply ed_andF; walk_at "ev")
  | (apply ed_andV; (walk_at "ev"); (intro _; walk_at "ev"))
  | (apply ed_orT; walk_at "ev")
  | (apply ed_orV; (walk_at "ev"); (intro _; walk_at "ev"))
  | (apply ed_notT; walk_at "ev")
  | (apply ed_notF; walk_at "ev")
  | (apply ed_notV; walk_at "ev")
  | (apply ed_chain; (walk_at "ev"); (walk_at "ev"); (intro _; walk_at "ev"))
  | (apply ed_eqS; (walk_at "ev"); (walk_at "ev"); (walk_at "bb"); (walk_at "bb"))
  | (apply ed_neS; (walk_at "ev"); (walk_at "ev"); (walk_at "bb"); (walk_at "bb"))
  | (apply ed_inT; (walk_at "ev"); (walk_at "ev"); (rfl); (rfl))
  | (apply ed_niT; (walk_at "ev"); (walk_at "ev"); (rfl); (rfl))
  | (apply ed_tup; (walk_at "eva"); (walk_at "bb"))
  | (apply ed_sl; (walk_at "ev"); (walk_at "evo"); (walk_at "evo"))
  | (apply ed_eqN; (apply EvDL.rd; walk_at "edl"); (walk_at "edl"); (walk_at "bb"))
  | (apply ed_neN; (apply EvDL.rd; walk_at "edl"); (walk_at "edl"); (walk_at "bb"))
  | (apply ed_ixL; (apply edr_var; (rfl); (assumption); (assumption)); (walk_at "ev"); (first | rfl | assumption))
  | (apply ed_lenL; (apply edr_var; (rfl); (assumption); (assumption)))
  | (apply ed_call; (walk_at "eva"); (walk_at "post")))
local macro_rules | `(tactic| walk_at "edl") => `(tactic| first
  | assumption
  | (apply edl_lst; (walk_at "eva"); (walk_at "bb")))
local macro_rules | `(tactic| walk_at "eva") => `(tactic| first
  | exact eda_nil
  | (apply eda_cons; (walk_at "ev"); (walk_at "eva")))
local macro_rules | `(tactic| walk_at "evo") => `(tactic| first
  | exact eok_none
  | (apply eok_some; walk_at "ev"))
local macro_rules | `(tactic| walk_at "bb") => `(tactic| first | rfl | assumption | (simp; done) | (simp; omega) | decide +kernel)
local macro_rules | `(tactic| walk_at "et") => `(tactic| first
  | exact tk_yes
  | (apply tk_andF; walk_at "et")
  | (apply tk_and; (walk_at "et"); (intro _; walk_at "et"))
  | (apply tk_orT; walk_at "et")
  | (apply tk_or; (walk_at "et"); (intro _; walk_at "et"))
  | (apply tk_notT; walk_at "et")
  | (apply tk_notF; walk_at "et")
  | (apply tk_not; walk_at "et")
  | (apply tk_v; walk_at "ev")
  | (apply tk_vB; walk_at "ev"))
local macro_rules | `(tactic| walk_at "if") => `(tactic| first
  | (apply pst_whenF; (walk_at "et"); (walk_at "bb"))
  | (apply pst_whenT; (walk_at "et"); (walk_at "bb")))
local macro_rules | `(tactic| walk_at "post") => `(tactic| first | assumption | exact ⟨_, _, rfl, rfl⟩ | exact ⟨_, _, _, _, rfl, by omega, by omega, rfl⟩ | exact ⟨_, _, _, 0, rfl, by omega, by omega, rfl⟩)
local macro_rules | `(tactic| walk_at "cc") => `(tactic| first | assumption | decide | omega | (refine ⟨?_, ?_⟩ <;> first | decide | omega) | (exact Or.inl (by constructor <;> omega)))

section
variable {P : Program} {w : World} {K : PySem.W.Frag} {mg : Str → Option Value} {base : Heap} (T : Tx K mg)
include T
theorem ok_pwritten (GP : Fn_need_program T P w base (L2.CX P w) 22 (spNPD K)) (GB : Fn_body_words T P w base CX0 11 (spWd K (pWB 5))) : Fn_written T P w base (L2.CX P w) 24 (spRfN K) := by
  have G_need_program := GP
  have G_body_words := GB
  refine T.F_written.ok sc_written (fun vs H Q E h => by obtain ⟨_, _, rfl, _⟩ := h; rfl) fun cdv A outer s0 H vs Q E hr h => ?_
  obtain ⟨pw, ws, rfl, tp, hs, ⟨hn, ke⟩ | ⟨hpr, k⟩⟩ := h
  · refine ⟨_, (pss_cons (ps_expr (pe_call G_need_program (hr.mono (by omega)) (by rfl) T.g_need_program T.k_need_program T.bd_need_program .nil (passes_call (takes_of rfl rfl rfl rfl) (fun _ _ _ _ h => h)) (pa_cons (pv 0) pa_nil)))
  (pss_cons (ps_set (i := 1) sc_written.nd rfl (Or.inl rfl) (pe_lst pa_nil))
  (pss_cons (ps_for (passes_of rfl) rfl (kpi_tup K (pv 0)) (kpg_tup K rfl (pgs_cons (pg_name (i := 2) sc_written.nd rfl (Or.inl rfl)) (pgs_cons (pg_name (i := 3) sc_written.nd rfl (Or.inl rfl)) (pgs_cons (pg_name (i := 4) sc_written.nd rfl (Or.inl rfl)) pgs_nil))))
    (pss_one (ps_expr (pe_bm PySem.F.plainAttrs_list PySem.F.slot_list_append PySem.F.type_list_append mt_append (pv 1) (pa_cons (pe_join pe_str (pe_op op_cat (pe_lst (pa_cons (pe_callTy call_str_int rfl T.b_str (by decide +kernel) (pa_cons (pv 2) pa_nil)) (pa_cons (pe_callTy call_str_int rfl T.b_str (by decide +kernel) (pa_cons (pv 3) pa_nil)) pa_nil))) (pe_call G_body_words (hr.mono (by omega)) (by rfl) T.g_body_words T.k_body_words T.bd_body_words .nil pass0 (pa_cons (pv 4) pa_nil)))) pa_nil)))))
  (pss_one (ps_ret (pe_join pe_str (pv 1))))))), ?_⟩
    exact w_seq (w_drop (w_call (w_cons (w_v rfl (w_nil ⟨ws, .cons tp .nil, hs, (fun e => by rw [hn] at e; cases e), fun _ H1 e1 => ke H1 e1⟩)))))
  obtain ⟨p, rfl, hsm, hok⟩ := isPrD_inv hpr hs
  have hl := okP_len hok
  refine ⟨_, (pss_cons (ps_expr (pe_call G_need_program (hr.mono (by omega)) (by rfl) T.g_need_program T.k_need_program T.bd_need_program .nil (passes_call (takes_of rfl rfl rfl rfl) (fun _ _ _ _ h => h)) (pa_cons (pv 0) pa_nil)))
  (pss_cons (ps_set (i := 1) sc_written.nd rfl (Or.inl rfl) (pe_lst pa_nil))
  (pss_cons (ps_for (passes_of rfl) rfl (kpi_tup K (pv 0)) (kpg_tup K rfl (pgs_cons (pg_name (i := 2) sc_written.nd rfl (Or.inl rfl)) (pgs_cons (pg_name (i := 3) sc_written.nd rfl (Or.inl rfl)) (pgs_cons (pg_name (i := 4) sc_written.nd rfl (Or.inl rfl)) pgs_nil))))
    (pss_one (ps_expr (pe_bm PySem.F.plainAttrs_list PySem.F.slot_list_append PySem.F.type_list_append mt_append (pv 1) (pa_cons (pe_join pe_str (pe_op op_cat (pe_lst (pa_cons (pe_callTy call_str_int rfl T.b_str (by decide +kernel) (pa_cons (pv 2) pa_nil)) (pa_cons (pe_callTy call_str_int rfl T.b_str (by decide +kernel) (pa_cons (pv 3) pa_nil)) pa_nil))) (pe_call G_body_words (hr.mono (by omega)) (by rfl) T.g_body_words T.k_body_words T.bd_body_words .nil pass0 (pa_cons (pv 4) pa_nil)))) pa_nil)))))
  (pss_one (ps_ret (pe_join pe_str (pv 1))))))), ?_⟩
  refine w_seq (w_drop (w_call (w_cons (w_v rfl (w_nil ⟨_, .cons tp .nil, hs, fun _ H0 e0 => ?_, (fun e => by rw [hpr] at e; cases e)⟩)))))
  replace tp : Td K H pw (encP p) := by rw [encP_ws]; exact tp
  refine w_seq (w_asg (w_lst (w_nil ⟨Nat.zero_le _, fun fl hfl => ?_⟩)))
  have e1 : Ex H (upd H0 fl (.lst [])) := e0.trans (Ex.new hfl)
  have hfl0 := fresh_back e0 hfl
  have hf1 : upd H0 fl (.lst []) fl = some (.lst (([] : List Str).map V.str)) := upd_same
  dsimp only
  generalize upd H0 fl (.lst []) = H1 at *
  have tp1 := tp.ex e1
  refine w_seq (w_forT3 (K := K) p (fun w => .int (w.params : Int)) (fun w => .int (w.owns : Int)) (fun w => .tuple (encB w.body)) rfl tp1 (fun i σ' H' => ∃ u2 u3 u4 : Option V, σ' = [some pw, some (.ref fl), u2, u3, u4] ∧ Fr [fl] H1 H' ∧ H' fl = some (.lst (((p.take i).map lnW).map V.str))) ?_ ?_ ?_ ?_)
  · exact ⟨_, _, _, rfl, Fr.refl, by simpa using hf1⟩
  · rintro i σ' H' ⟨u2, u3, u4, rfl, f, hx⟩
    refine f.keep fun a ha => ?_
    have : a = fl := by simpa using ha
    rw [this]
    exact ⟨_, hf1, True.intro⟩
  · rintro i w v1 v2 v3 σ' H2 hw t1 t2 t3 ⟨u2, u3, u4, rfl, f2, hx⟩
    cases t1
    cases t2
    dsimp only
    have hwb := okP_get hok hw
    have hsh := shOk_of hok
    have hlen := wB_len hsh w.body 0 hwb.2.2.1
    have hln := lnW_len hok hw
    refine w_appW (K := K) rfl hx (ed_join (ws := strN w.params :: strN w.owns :: wB w.body) ed_cs (ew_is (ew_cat (ew_lst (ws := [strN w.params, strN w.owns]) (eda_cons (ed_strN (ed_var rfl (.int _)) (by omega)) (eda_cons (ed_strN (ed_var rfl (.int _)) (by omega)) eda_nil)) (by simp)) (ew_call (eda_cons (ed_var rfl t3) eda_nil) ⟨w.body, shapes p, i, 0, rfl, hsh, hwb.2.2.1, by have := okB_dp _ _ hwb.2.2.1; omega, hwb.2.2.2, rfl⟩) (by simp; omega)) (by simp)) (by have := hln.2.1; omega)) (by rw [List.length_map, List.length_take]; omega) fun H3 f3 h3 => ⟨_, _, _, rfl, f2.trans f3, ?_⟩
    rw [h3, take_snoc hw, List.map_append (f := lnW)]
    rfl
  · rintro σ' H2 ⟨u2, u3, u4, rfl, f2, hx⟩
    rw [List.take_length] at hx
    dsimp only
    refine w_ret (w_d (K := K) (ed_joinV ed_cs rfl hx ?_) fun v H3 e3 tv => ?_)
    · have e1 : ("\n" : Str).length = 1 := by decide +kernel
      rw [e1, List.length_map]
      have : ((p.map lnW).map (·.length)).sum ≤ 100000 * p.length := by
        have := sum_le (m := 100000) (ws := p.map lnW) fun z hz => ?_
        · rw [List.length_map] at this; exact this
        obtain ⟨w, hw, rfl⟩ := List.mem_map.mp hz
        obtain ⟨i, hi⟩ := List.mem_iff_getElem?.mp hw
        exact (lnW_len hok hi).1
      omega
    · cases tv
      exact k _ H3 ((ex_fr1 e1 hfl0 f2).trans e3)
end
end Hw

set_option maxRecDepth 100000
set_option maxHeartbeats 4000000
/-! KL1: lambdas that are kept: made, known, called -/
namespace LamK
open PySem PySem.Spec PyProof.Rows L2 LamX NdefX
/-- a lambda that was made: its words, what it captured, its code object -/
structure LF where
  qual : Str
  params : Arguments
  body : Expr
  scope : Scope
  cl : List (Str × Addr)
  c : Addr
/-- the object at f is that lambda -/
def LmO (f : Addr) (F : LF) : HO := .ext fun h => ∃ pm ctv : Value, h.get? f = some (PySem.W.kla_obj "<lambda>" F.qual F.params F.body F.scope F.cl pm F.c ctv)
theorem lmO_at {P : Program} {w : World} {H : Hp} {h : Heap} {f : Addr} {F : LF} (hok : HOk P w H h) (e : H f = some (LmO f F)) : ∃ pm ctv : Value, h.get? f = some (PySem.W.kla_obj "<lambda>" F.qual F.params F.body F.scope F.cl pm F.c ctv) := (hok f _ e).1
theorem lmO_ne {f : Addr} {F : LF} (ps : Array Value) : LmO f F ≠ .tbl ps := fun z => by
  unfold LmO at z
  cases z
section
variable {X : Cx} {pins : List (Addr × Obj)} {σ : L2.St} {H : Hp} {s : Shared}
theorem inv_lm {F : LF} {t' : Nat} {pm ctv : Value} (I : Inv X pins σ H s) :
    Inv X pins σ (upd H s.heap.objs.size (LmO s.heap.objs.size F)) { s with heap := s.heap.push (PySem.W.kla_obj "<lambda>" F.qual F.params F.body F.scope F.cl pm F.c ctv), toks := t' } := by
  have e : (s.heap.push (PySem.W.kla_obj "<lambda>" F.qual F.params F.body F.scope F.cl pm F.c ctv)).get? s.heap.objs.size = some (PySem.W.kla_obj "<lambda>" F.qual F.params F.body F.scope F.cl pm F.c ctv) := Heap.get?_push_size _ rfl
  exact I.laid (a := s.heap.objs.size) (fun b u q => Heap.get?_push_of_some _ q) (Nat.le_refl _) ⟨⟨pm, ctv, e⟩, ⟨_, e⟩, fun h1 h2 ⟨p, t, z⟩ st => ⟨p, t, st _ z⟩⟩
/-- it is made, and known -/
theorem mk_lam {T : List (Addr × Str)} {cm P : Addr} {qn : Str} {params : Arguments} {body : Expr} {scope : Scope} {pos : Pos} {E : Value → Shared → Prop} {Q : Value → Shared → Prop} (I : Inv X pins σ H s) (hqn : X.env.qual ++ "<lambda>" = qn) (TB : TabB X.base X.mg cm P) (hcode : X.env.code = .ref cm)
    (hmem : (P, qn) ∈ T) (huni : ∀ p ∈ T, p.1 = P → p.2 = qn) (hT : Tabs T H) (hdef : defaultsOf params X.env = ([], [])) (hfree : ∀ y ∈ scope.names, y.2 = .free → ∃ c, X.env.cells.lookup y.1 = some c)
    (fin : ∀ (f co : Addr) (G : Hp) (s' : Shared), Inv X pins σ G s' → ExtN H G → (∀ b, G b = none → H b = none) → Tabs T G → H f = none → G f = some (LmO f ⟨qn, params, body, scope, cloFrom X.env.cells scope.names [], co⟩) → G co = some (CodeO co qn) → Q (.ref f) s') :
    wpAny (model X.prog X.w) X.A (eval (.Lambda params body scope pos) X.env) Q E s := by
  obtain ⟨tb, atP, triples, among⟩ := hT _ hmem
  have blt := TB.bm.keeps I.bk
  have objP : s.heap.get? P = some { cls := .none, data := .fields tb } := I.hok P _ atP
  refine PySem.W.kla_eval hdef ?_
  rw [hqn]
  cases found : codeAmong pos tb.toList with
  | some cv =>
    obtain ⟨co, rfl, known⟩ := among pos cv found
    refine PySem.W.kla_makeFunctionHit (closure_ok hfree) I.ok.glob (I.mod.glob.keeps I.bk) hcode (TB.code.keeps I.bk) objP triples found blt fun ctv h1 tk grown size => ?_
    have J : Inv X pins σ H { s with heap := h1, toks := tk } := I.kept grown
    have nf : H h1.objs.size = none := J.hok.fresh (Nat.le_refl _)
    have J2 := inv_lm (F := ⟨qn, params, body, scope, cloFrom X.env.cells scope.names [], co⟩) (t' := tk) (pm := (X.mg "__name__").getD .none) (ctv := ctv) J
    have kept : ∀ b o, H b = some o → upd H h1.objs.size (LmO h1.objs.size ⟨qn, params, body, scope, cloFrom X.env.cells scope.names [], co⟩) b = some o := fun b o e => (upd_ne (ne_of_none e nf)).trans e
    exact fin h1.objs.size co _ _ J2 (fun b o e _ => kept b o e) (fun b e => upd_none e) (hT.ext kept) nf upd_same (kept _ _ known)
  | none =>
    refine PySem.W.kla_makeFunction (closure_ok hfree) I.ok.glob (I.mod.glob.keeps I.bk) hcode (TB.code.keeps I.bk) objP triples found TB.gP blt fun co ctv h1 tk grown newer lower isrec table => ?_
    obtain ⟨co2, oc, vs, t, eco, obj, dat, nam⟩ := isrec
    cases eco
    have fresh1 : H co = none := I.hok.fresh newer
    have J := inv_table (t' := tk) (more := #[rawInt pos.line, rawInt pos.col, .ref co]) (h' := h1) I atP (fun b o hb e => grown b o hb e) table newer ⟨oc, vs, t, obj, dat, nam⟩
    generalize hG : upd (upd H P (.tbl (tb ++ #[rawInt pos.line, rawInt pos.col, .ref co]))) co (CodeO co qn) = G at J
    have ext1 : ExtN H G := fun b o e nt => by
      rw [← hG, upd_ne (ne_of_none e fresh1), upd_ne (fun z => nt tb (Option.some.inj (e.symm.trans (by rw [z]; exact atP))))]
      exact e
    have tabs1 : Tabs T G := fun p hp => by
      by_cases same : p.1 = P
      · rw [huni p hp same, same]
        have el : (tb ++ #[rawInt pos.line, rawInt pos.col, Value.ref co]).toList = tb.toList ++ [rawInt pos.line, rawInt pos.col, Value.ref co] := by simp
        refine ⟨tb ++ #[rawInt pos.line, rawInt pos.col, .ref co], by rw [← hG, upd_ne (ne_of_none atP fresh1), upd_same], by rw [el]; exact PySem.TriplesOk_snoc _ _ _ _ triples, fun q cv hcv => ?_⟩
        rw [el] at hcv
        rcases among_app _ triples hcv with z | z
        · obtain ⟨c0, e1, e2⟩ := among q cv z
          exact ⟨c0, e1, ext1 _ _ e2 codeO_ne⟩
        · exact ⟨co, z, by rw [← hG]; exact upd_same⟩
      · obtain ⟨tb', a1, a2, a3⟩ := hT p hp
        refine ⟨tb', by rw [← hG, upd_ne (ne_of_none a1 fresh1), upd_ne same]; exact a1, a2, fun q cv hcv => ?_⟩
        obtain ⟨c0, e1, e2⟩ := a3 q cv hcv
        exact ⟨c0, e1, ext1 _ _ e2 codeO_ne⟩
    have codeG : G co = some (CodeO co qn) := by rw [← hG]; exact upd_same
    have back1 : ∀ b, G b = none → H b = none := fun b e => by
      rw [← hG] at e
      exact upd_none (upd_none e)
    have nf : G h1.objs.size = none := J.hok.fresh (Nat.le_refl _)
    have J2 := inv_lm (F := ⟨qn, params, body, scope, cloFrom X.env.cells scope.names [], co⟩) (t' := tk) (pm := (X.mg "__name__").getD .none) (ctv := ctv) J
    have kept : ∀ b o, G b = some o → upd G h1.objs.size (LmO h1.objs.size ⟨qn, params, body, scope, cloFrom X.env.cells scope.names [], co⟩) b = some o := fun b o e => (upd_ne (ne_of_none e nf)).trans e
    exact fin h1.objs.size co _ _ J2 (fun b o e nt => kept b o (ext1 b o e nt)) (fun b e => back1 b (upd_none e)) (tabs1.ext kept) (back1 _ nf) upd_same (kept _ _ codeG)
end
/-- its reading -/
def tMkL (T : List (Addr × Str)) (mk : Addr → LF) : TE := fun σ H Q => Tabs T H ∧ ∀ (f co : Addr) (G : Hp), ExtN H G → (∀ b, G b = none → H b = none) → Tabs T G → H f = none → G f = some (LmO f (mk co)) → G co = some (CodeO co (mk co).qual) → Q (.ref f) G
theorem pe_mkL {X : Cx} {T : List (Addr × Str)} {cm P : Addr} {qn : Str} {params : Arguments} {body : Expr} {scope : Scope} {pos : Pos} (hqn : X.env.qual ++ "<lambda>" = qn) (TB : TabB X.base X.mg cm P) (hcode : X.env.code = .ref cm) (hmem : (P, qn) ∈ T) (huni : ∀ p ∈ T, p.1 = P → p.2 = qn)
    (hdef : defaultsOf params X.env = ([], [])) (L : LamS X.env.scope scope) : PE X (.Lambda params body scope pos) (tMkL T fun co => ⟨qn, params, body, scope, cloFrom X.env.cells scope.names [], co⟩) := by
  refine ⟨fun pins s σ H Q I h => ?_⟩
  obtain ⟨hT, h⟩ := h
  exact mk_lam I hqn TB hcode hmem huni hT hdef (L.has I.ok) fun f co G s' J a b c d e g => ⟨.ref f, G, J, rfl, h f co G a b c d e g⟩
/-! ### what it promises -/
abbrev LF.nf (F : LF) : NF := ⟨"<lambda>", F.qual, F.params, [], F.scope, F.cl, F.c⟩
/-- the promise of the lambda F at f; ws: what its captured cells hold at the call -/
structure LmOk (P : Program) (w : World) (K : PySem.W.Frag) (mg : Str → Option Value) (base : Heap) (CX : CXT) (k : Nat) (f : Addr) (F : LF) (fr : List Str) (sp : List (Option V) → Hp → VK → XK → Prop) : Prop where
  run : ∀ (A : Around) (outer : List Env) (s : Shared) (H : Hp) (ws : List (Option V)) (Q : VK) (E : XK), Room k A → Env0 P w K mg base A outer s H → H f = some (LmO f F) → H F.c = some (CodeO F.c F.qual) → CellsAt F.cl fr ws s.heap H → sp ws H Q E →
    codeAny (model P w) A (.call (.ref f) ⟨[], []⟩) (CR CX outer P w H s Q E) s
section
variable {CX : CXT} {P : Program} {w : World} {K : PySem.W.Frag} {mg : Str → Option Value} {base : Heap} {N fr : List Str} {F : LF} {f : Addr} {k j : Nat} {sp sp' : List (Option V) → Hp → VK → XK → Prop}
theorem lmok_of (S : NScope N [] fr F.scope) (hbind : ∀ (pm ctv : Value), bindArgs (PySem.W.kla_fn "<lambda>" F.qual F.params F.body F.scope F.cl pm (.ref F.c) ctv) ⟨[], []⟩ = pure [])
    (hbody : ∀ (A : Around) (outer : List Env) (s : Shared) (H : Hp) (ws : List (Option V)) (Q : VK) (E : XK), Room k (A.deeper (envF F.nf f s.heap.objs.size)) → ws.length = fr.length → sp ws H Q E → ∃ t, PE (ncx CX P w K mg base N F.nf f A outer s H E) F.body t ∧ t (startF N [] ws) H Q) :
    LmOk P w K mg base CX (k + 1) f F fr sp := by
  refine ⟨fun A outer s H ws Q E room e0 hf hc C h => ?_⟩
  obtain ⟨pm, ctv, obj⟩ := lmO_at e0.hok hf
  have lim : s.heap.NoLimit := e0.mod.nolimit.keeps fun b o e => (e0.bs b o e).1
  refine PySem.W.kla_callFunE room.depth obj rfl S.co S.gen rfl (codeO_at e0.hok hc) ?_
  rw [hbind pm ctv]
  refine wpAny_pure (wpAny_newFunctionEnv S.nocell (fun y hy => absurd hy (by simp)) (fun g named steady => ⟨lim.fresh _ steady, ?_⟩) S.kind)
  show codeAny _ _ (.expr F.body (envF F.nf f s.heap.objs.size)) _ _
  have grown : ∀ b o, s.heap.get? b = some o → g.get? b = some o := fun b o e => steady.extBut b o (Nat.ne_of_lt (Heap.lt_size e)) (Heap.get?_push_of_some _ e)
  obtain ⟨t, pe, q⟩ := hbody A outer s H ws Q E (room.deeper _) C.len h
  have J : Inv (ncx CX P w K mg base N F.nf f A outer s H E) [] (startF N [] ws) H { s with heap := g, toks := s.toks + ([] : List (Str × Value)).length } := inv_startN (F := F.nf) (us := []) S room.hd e0 rfl .nil C named grown
  refine PySem.W.kla_codeExpr (wpAny_mono (pe.run [] _ (startF N [] ws) H Q J q) (fun u s' hs => ?_) fun e s' hs => hs)
  obtain ⟨v, G, J', rv, qv⟩ := hs
  exact ⟨v, G, J'.os, J'.bare, J'.base, J'.hok, rv, qv⟩
end
section
variable {X : Cx} {pins : List (Addr × Obj)} {σ : L2.St} {H : Hp} {s : Shared} {cl : List (Str × Addr)} {fr : List Str} {ws : List (Option V)}
/-- what the cells held when the frame began they hold still -/
theorem cells_later (C : CellsAt cl fr ws X.s_0.heap X.H_0) (hx : X.ex = []) (I : Inv X pins σ H s) : CellsAt cl fr ws s.heap H := by
  have nx : ∀ b, b ∉ X.ex := fun b hb => by rw [hx] at hb; simp at hb
  have stays : ∀ y c, cl.lookup y = some c → ∀ v, X.s_0.heap.IsCell c v → s.heap.IsCell c v := fun y c e v ⟨o, ho, hd⟩ => by
    obtain ⟨sl, q⟩ := I.base.any ho (C.all y c e).1 (nx c)
    exact ⟨_, q, hd⟩
  refine ⟨C.len, fun y c e => ?_, C.inj, fun i y e => ?_⟩
  · obtain ⟨n, v, o, ho, hd⟩ := C.all y c e
    exact ⟨I.base.free c o ho n (nx c), v, stays y c e v ⟨o, ho, hd⟩⟩
  · obtain ⟨c, hc, hv⟩ := C.has i y e
    exact ⟨c, hc, fun v ev => by
      obtain ⟨u, r, z⟩ := hv v ev
      exact ⟨u, r, stays y c hc _ z⟩⟩
end
/-- a(), a the name of a lambda whose cells were known when the frame began -/
def tAct (f : Addr) (F : LF) (i : Nat) (sp : Hp → VK → XK → Prop) (E : XK) : TE := fun σ H Q => σ[i]? = some (some (.ref f)) ∧ H f = some (LmO f F) ∧ H F.c = some (CodeO F.c F.qual) ∧ sp H Q E
theorem pe_actL {X : Cx} {CX : CXT} {f : Addr} {F : LF} {fr : List Str} {ws : List (Option V)} {sp : List (Option V) → Hp → VK → XK → Prop} {E : XK} {i k j : Nat} {a : Str} {p1 p2 : Pos} (Lm : LmOk X.prog X.w X.K X.mg X.base CX k f F fr sp) (C : CellsAt F.cl fr ws X.s_0.heap X.H_0) (hex : X.ex = []) (room : Room j X.A) (hk : k ≤ j) (pass : Passes CX X E)
    (hN : X.N[i]? = some a) (hv : Vis X.env.scope a) (hd : (a == ("__debug__" : Str)) = false := by decide) (hcd : (a == ("__classdict__" : Str)) = false := by decide) : PE X (.Call (.Name a p1) [] [] p2) (tAct f F i (sp ws) E) := by
  refine ⟨fun pins s σ H Q I h => ?_⟩
  obtain ⟨at_, known, coded, q⟩ := h
  refine wpAny_Call_Name_kw (thn ((pe_var (pos := p1) hN hv hd hcd).run pins s σ H (fun v G => v = .ref f ∧ G = H) I ⟨.ref f, at_, rfl, rfl⟩) fun u s1 ⟨v, G, J, r1, ev, eG⟩ => ?_)
  subst ev
  rw [eG] at J
  obtain rfl : u = Value.ref f := r1
  obtain ⟨pm, ctv, obj⟩ := lmO_at J.hok known
  refine PySem.W.callWith_F0 (first := []) ⟨_, _, _, _, obj⟩ ?_
  refine wpAny_call (codeAny_mono (Lm.run X.A X.stack s1 H ws Q E (room.mono hk) J.env0 known coded (cells_later C hex J) q) fun r s' hr => ?_)
  cases r with
  | error e => exact pass pins σ H s1 e s' J hr
  | ok fl =>
    cases fl with
    | ret u => exact J.after hr
    | next => exact hr.elim
    | brk => exact hr.elim
    | cont => exact hr.elim
end LamK

set_option maxRecDepth 100000
set_option maxHeartbeats 4000000
/-! KL2: what is refused, told as a word -/
namespace Hw
open PySem PySem.Spec PyProof.Rows L2 Evl LamX NdefX LamK
local macro_rules | `(tactic| walk_at "dd") => `(tactic| first | rfl | decide | (simp; done) | omega)
local macro_rules | `(tactic| walk_at "td") => `(tactic| first | assumption | exact Td.int _ | exact Td.bl _ | exact Td.str _ | exact Td.non | exact Td.tup (by assumption) (by assumption))
local macro_rules | `(tactic| walk_at "ev") => `(tactic| first
  | exact ed_ci | exact ed_cs | exact ed_cb | exact ed_cn
  | (apply ed_cg; assumption)
  | (apply ed_var; (rfl); (walk_at "td"))
  | (apply ed_ixT; (walk_at "ev"); (walk_at "ev"); (first | rfl | assumption))
  | (apply ed_rowI; (rfl); (assumption); (walk_at "ev"); (rfl))
  | (apply ed_ixL; (apply EvDL.rd; walk_at "edl"); (walk_at "ev"); (rfl))
  | (apply ed_intb; (walk_at "ev"))
  | (apply ed_len; walk_at "ev")
  | (apply ed_lenV; (apply ev_rowR; (rfl); (assumption); (walk_at "ev"); (rfl)); (assumption))
  | (apply ed_Ii; (walk_at "ev"); (walk_at "ev"); (walk_at "cc"))
  | (apply ed_isi; (walk_at "ev"); (rfl))
  | (apply ed_I0i; (walk_at "ev"); (walk_at "ev"))
  | (apply ed_I0b; (walk_at "ev"); (walk_at "ev"))
  | (apply ed_eqi; (walk_at "ev"); (walk_at "ev"))
  | (apply ed_nei; (walk_at "ev"); (walk_at "ev"))
  | (apply ed_andF; walk_at "ev")
  | (apply ed_andV; (walk_at "ev"); (intro _; walk_at "ev"))
  | (apply ed_orT; walk_at "ev")
  | (apply ed_orV; (walk_at "ev"); (intro _; walk_at "ev"))
  | (apply ed_notT; walk_at "ev")
  | (apply ed_notF; walk_at "ev")
  | (apply ed_notV; walk_at "ev")
  | (apply ed_chain; (walk_at "ev"); (walk_at "ev"); (intro _; walk_at "ev"))
  | (apply ed_eqS; (walk_at "ev"); (walk_at "ev"); (walk_at "bb"); (walk_at "bb"))
  | (apply ed_neS; (walk_at "ev"); (walk_at "ev"); (walk_at "bb"); (walk_at "bb"))
  | (apply ed_inT; (walk_at "ev"); (walk_at "ev"); (rfl); (rfl))
  | (apply ed_niT; (walk_at "ev"); (walk_at "ev"); (rfl); (rfl))
  | (apply ed_tup; (walk_at "eva"); (walk_at "bb"))
  | (apply ed_sl; (walk_at "ev"); (walk_at "evo"); (walk_at "evo"))
  | (apply ed_eqN; (apply EvDL.rd; walk_at "edl"); (walk_at "edl"); (walk_at "bb"))
  | (apply ed_neN; (apply EvDL.rd; walk_at "edl"); (walk_at "edl"); (walk_at "bb"))
  | (apply ed_ixL; (apply edr_var; (rfl); (assumption); (assumption)); (walk_at "ev"); (first | rfl | assumption))
  | (apply ed_lenL; (apply edr_var; (rfl); (assumption); (assumption)))
  | (apply ed_call; (walk_at "eva"); (walk_at "post")))
local macro_rules | `(tactic| walk_at "edl") => `(tactic| first
  | assumption
  | (apply edl_lst; (walk_at "eva"); (walk_at "bb")))
local macro_rules | `(tactic| walk_at "eva") => `(tactic| first
  | exact eda_nil
  | (apply eda_cons; (walk_at "ev"); (walk_at "eva")))
local macro_rules | `(tactic| walk_at "evo") => `(tactic| first
  | exact eok_none
  | (apply eok_some; walk_at "ev"))
local macro_rules | `(tactic| walk_at "bb") => `(tactic| first | rfl | assumption | (simp; done) | (simp; omega) | decide +kernel)
local macro_rules | `(tactic| walk_at "et") => `(tactic| first
  | exact tk_yes
  | (apply tk_andF; walk_at "et")
  | (apply tk_and; (walk_at "et"); (intro _; walk_at "et"))
  | (apply tk_orT; walk_at "et")
  | (apply tk_or; (walk_at "et"); (intro _; walk_at "et"))
  | (apply tk_notT; walk_at "et")
  | (apply tk_notF; walk_at "et")
  | (apply tk_not; walk_at "et")
  | (apply tk_v; walk_at "ev")
  | (apply tk_vB; walk_at "ev"))
local macro_rules | `(tactic| walk_at "if") => `(tactic| first
  | (apply pst_whenF; (walk_at "et"); (walk_at "bb"))
  | (apply pst_whenT; (walk_at "et"); (walk_at "bb")))
local macro_rules | `(tactic| walk_at "post") => `(tactic| first | assumption | exact ⟨_, _, rfl, rfl⟩ | exact ⟨_, _, _, _, rfl, by omega, by omega, rfl⟩ | exact ⟨_, _, _, 0, rfl, by omega, by omega, rfl⟩)
local macro_rules | `(tactic| walk_at "cc") => `(tactic| first | assumption | decide | omega | (refine ⟨?_, ?_⟩ <;> first | decide | omega) | (exact Or.inl (by constructor <;> omega)))

/-! l.count(x) of data -/
def rCntD (K : PySem.W.Frag) : V → List V → Hp → VK → Prop := fun x xs H Q => ∃ (a : Addr) (y : V) (d : PyData) (ds : List PyData), x = V.ref a ∧ xs = [y] ∧ Dp K H (V.ref a) (.list ds) ∧ Dp K H y d ∧
  SeqAt.shaped (.list ds) = true ∧ SeqAt.shaped d = true ∧ Q (.int ((ds.countP fun z => PyData.eqv z d : Nat) : Int)) H
theorem mt_cntD {X : Cx} (hu : X.A.units + 65 < cLine) : MtR X "list.count" (rCntD X.K) := by
  intro pins s σ H x xs v us Q I rx rxs h
  obtain ⟨a, y, d, ds, rfl, rfl, hl, hy, sl, sd, q⟩ := h
  cases rx
  cases rxs with
  | cons ry rt =>
    rename_i uy ut
    cases rt
    obtain ⟨bs, r1⟩ := Dp.reads I d y uy hy ry
    have hxs : PyData.canLayAll0 ds = true := SeqAt.canLay_of_shaped sl
    have hroom : X.A.units + 1 + min (PyData.depthAll ds) d.depth < cLine := room_in_shaped sd hu
    cases hl with
    | lst hs ha =>
      obtain ⟨its, rv, ⟨⟨cls, dd, data, sls⟩, n, ho, hc, hdn, hdt⟩, hlen⟩ := I.list hs
      simp only at hc hdt
      subst hc hdt
      obtain ⟨as, h4⟩ := Dp.readsAll I ds _ its ha rv
      have hmap : its.map (SeqAt.readOf s.heap) = ds := SeqAt.readsAll_map ds its as hxs h4
      refine call_meets PySem.F.slot_list_count ⟨_, ho, rfl⟩ PySem.F.entry_list_count (PySem.F.args_list_count_2 _ _)
        (SeqAt.list_countAt a its.toArray n dd sls uy (fun u => PyData.eqv (SeqAt.readOf s.heap u) d)) ⟨ho, SeqAt.items_eqAt (vs := its.toArray) (show ReadsAll s.heap its.toArray.toList ds as from h4) r1 hxs (SeqAt.canLay_of_shaped sd) hroom, ?_⟩
      refine ⟨.int _, H, I.tok _, ⟨_, rfl⟩, ?_⟩
      have e : its.toArray.toList.countP (fun u => PyData.eqv (SeqAt.readOf s.heap u) d) = ds.countP fun z => PyData.eqv z d := by
        rw [← hmap, List.countP_map]
        rfl
      rw [e]
      exact q
theorem kmt_cntD {X : Cx} (K : PySem.W.Frag) (hu : X.A.units + 65 < cLine) (h : X.K = K := by rfl) : MtR X "list.count" (rCntD K) := by subst h; exact mt_cntD hu
theorem kmt_ixD {X : Cx} (K : PySem.W.Frag) (hu : X.A.units + 65 < cLine) (h : X.K = K := by rfl) : MtR X "list.index" (rIndexD K) := by subst h; exact mt_indexD hu
/-! a(), the wish by the slots -/
def tActS (f : Addr) (F : LF) (i : Nat) (sp : Hp → VK → XK → Prop) (E : L2.St → XK) : TE := fun σ H Q => σ[i]? = some (some (.ref f)) ∧ H f = some (LmO f F) ∧ H F.c = some (CodeO F.c F.qual) ∧ sp H Q (E σ)
theorem pe_actLS {X : Cx} {CX : CXT} {f : Addr} {F : LF} {fr : List Str} {ws : List (Option V)} {sp : List (Option V) → Hp → VK → XK → Prop} {E : L2.St → XK} {i k j : Nat} {a : Str} {p1 p2 : Pos} (Lm : LmOk X.prog X.w X.K X.mg X.base CX k f F fr sp) (C : CellsAt F.cl fr ws X.s_0.heap X.H_0) (hex : X.ex = []) (room : Room j X.A) (hk : k ≤ j) (pass : ∀ σ, PassesAt CX X σ (E σ))
    (hN : X.N[i]? = some a) (hv : Vis X.env.scope a) (hd : (a == ("__debug__" : Str)) = false := by decide) (hcd : (a == ("__classdict__" : Str)) = false := by decide) : PE X (.Call (.Name a p1) [] [] p2) (tActS f F i (sp ws) E) := by
  refine ⟨fun pins s σ H Q I h => ?_⟩
  obtain ⟨at_, known, coded, q⟩ := h
  refine wpAny_Call_Name_kw (thn ((pe_var (pos := p1) hN hv hd hcd).run pins s σ H (fun v G => v = .ref f ∧ G = H) I ⟨.ref f, at_, rfl, rfl⟩) fun u s1 ⟨v, G, J, r1, ev, eG⟩ => ?_)
  subst ev
  rw [eG] at J
  obtain rfl : u = Value.ref f := r1
  obtain ⟨pm, ctv, obj⟩ := lmO_at J.hok known
  refine PySem.W.callWith_F0 (first := []) ⟨_, _, _, _, obj⟩ ?_
  refine wpAny_call (codeAny_mono (Lm.run X.A X.stack s1 H ws Q (E σ) (room.mono hk) J.env0 known coded (cells_later C hex J) q) fun r s' hr => ?_)
  cases r with
  | error e => exact pass σ pins H s1 e s' J hr
  | ok fl =>
    cases fl with
    | ret u => exact J.after hr
    | next => exact hr.elim
    | brk => exact hr.elim
    | cont => exact hr.elim
/-- a def called, its promise told of the very state -/
theorem run_fd {CX : CXT} {P : Program} {w : World} {K : PySem.W.Frag} {mg : Str → Option Value} {base : Heap} {k : Nat} {f : Addr} {x qual : Str} {params : Arguments} {body : List Stmt} {scope : Scope} {fd : FuncData} {N ps : List Str} (F : FunD K x qual params body scope [] [] f fd) (S : FnScope N ps scope) {pt : Str × Option Str} (hpt : He.fAd K pt = f)
    {A : Around} {outer : List Env} {s : Shared} {H : Hp} {args : Args} {us : List Value} {vs : List V} {Q : VK} {E : XK} (hr : Room (k + 1) A) (e0 : Env0 P w K mg base A outer s H) (hb : BindsTo s fd args (ps.zip us)) (r : Vals vs us) (hl : vs.length = ps.length)
    (hbody : ∀ cdv : Value, cdv = .ref (He.codeOf K pt) → Room k (A.deeper (envOfC qual scope s.heap.objs.size f cdv)) → ∃ t, PSs (cxOf CX P w K mg base N qual scope f cdv A outer s H E) body t ∧ t { nx := fun _ H' => Q .non H', rt := Q } (L2.start N vs) H) :
    codeAny (model P w) A (.call (.ref f) args) (CR CX outer P w H s Q E) s := by
  obtain ⟨oc, od, dV, kV, doc, pm, an, cdv, ct, osl, rfl, lk, hcd, _, _⟩ := F.ex
  obtain ⟨c, rfl⟩ := He.codeIn_ref hcd
  have e : He.codeOf K pt = c := He.codeOf_eq (by rw [hpt]; exact lk) rfl
  exact run_ofS lk hcd S hr e0 hb r hl (hbody _ (by rw [e]))
/-! the suite -/
def tIsC (r : List V → Hp → VK → Prop) (c : V) : TE := tCB r (tCons (tVar 1) (tCons (tC c) tNil))
def tKinds (K : PySem.W.Frag) (r : List V → Hp → VK → Prop) : TS :=
  tSeq (tAsg (tLst (tCons (tIsC r (.ref (He.ga K "BadProgram"))) (tCons (tIsC r (.ref (He.ga K "BadWays"))) (tCons (tIsC r (.ref (He.ga K "BadCells"))) (tCons (tIsC r (.ref (He.ga K "BadText"))) tNil))))) (gName 2))
    (tSeq (tIfS (tOr (tTest (tOp rNe (tBM K "list" (rCntD K) (tVar 2) (tCons (tC (.bl true)) tNil)) (tC (.int 1)))) (tNot (tB (tIsC r (.ty "ValueError"))))) (tRet (tC (.str "other"))) tNext)
      (tRet (tOp (rIxL K) (tLst (tCons (tC (.str "program")) (tCons (tC (.str "ways")) (tCons (tC (.str "other")) (tCons (tC (.str "other")) tNil))))) (tBM K "list" (rIndexD K) (tVar 2) (tCons (tC (.bl true)) tNil)))))
theorem suite_or {X : Cx} {p q : Prop} {b : List Stmt} {t u : TS} (h1 : p → PSs X b t) (h2 : q → PSs X b u) : PSs X b (fun D σ H => (p ∧ t D σ H) ∨ (q ∧ u D σ H)) := ⟨fun pins s σ H D I h' => h'.elim (fun h => (h1 h.1).run pins s σ H D I h.2) fun h => (h2 h.1).run pins s σ H D I h.2⟩
section
variable {K : PySem.W.Frag} {σ : L2.St} {H : Hp} {a C D lp : Addr} {b : Bool} {xs : List V}
theorem ed_isE (hs : σ[1]? = some (some (.ref a))) (hk : PySem.W.kitOne K (.ref D) (.ref C) = some b) : EvD K (tIsC (rIsE K D a) (.ref C)) σ H (.bool b) := fun H1 e Q q =>
  show tCons (tVar 1) (tCons (tC (.ref C)) tNil) σ H1 (fun xs H2 => rIsE K D a xs H2 Q) from w_cons (w_v hs (w_cons (w_c (w_nil ⟨.ref C, .ref C, b, rfl, (fun u h => by cases h; rfl), hk, q _ H1 (Ex.refl _) (.bl _)⟩))))
theorem ed_isET {n : String} (hs : σ[1]? = some (some (.ref a))) (hk : PySem.W.kitOne K (.ref D) (.type n) = some b) : EvD K (tIsC (rIsE K D a) (.ty n)) σ H (.bool b) := fun H1 e Q q =>
  show tCons (tVar 1) (tCons (tC (.ty n)) tNil) σ H1 (fun xs H2 => rIsE K D a xs H2 Q) from w_cons (w_v hs (w_cons (w_c (w_nil ⟨.ty n, .type n, b, rfl, (fun u h => by cases h; rfl), hk, q _ H1 (Ex.refl _) (.bl _)⟩))))
theorem ed_cntT {ds : List PyData} (hs : σ[2]? = some (some (.ref lp))) (hx : H lp = some (.lst xs)) (ta : TdAll K H xs ds) (sh : SeqAt.shaped (.list ds) = true) : EvD K (tBM K "list" (rCntD K) (tVar 2) (tCons (tC (.bl true)) tNil)) σ H (.int ((ds.countP fun z => PyData.eqv z (.bool true) : Nat) : Int)) := fun H1 e Q q =>
  ⟨.ref lp, hs, .inl ⟨rfl, xs, SqL.of (e _ _ hx)⟩, w_cons (w_c (w_nil ⟨lp, .bl true, .bool true, ds, rfl, rfl, .lst (SqL.of (e _ _ hx)) (TdAll.dp ds (ta.ex e)), .bl _, sh, by decide +kernel, q _ H1 (Ex.refl _) (.int _)⟩))⟩
theorem ed_ixTr {ds : List PyData} (j : Nat) (hs : σ[2]? = some (some (.ref lp))) (hx : H lp = some (.lst xs)) (ta : TdAll K H xs ds) (sh : SeqAt.shaped (.list ds) = true) (hz : ds[j]? = some (.bool true)) (hno : ∀ (m : Nat) (z' : PyData), m < j → ds[m]? = some z' → PyData.eqv z' (.bool true) = false) :
    EvD K (tBM K "list" (rIndexD K) (tVar 2) (tCons (tC (.bl true)) tNil)) σ H (.int (j : Int)) := fun H1 e Q q =>
  ⟨.ref lp, hs, .inl ⟨rfl, xs, SqL.of (e _ _ hx)⟩, w_cons (w_c (w_nil ⟨lp, .bl true, .bool true, ds, j, .bool true, rfl, rfl, .lst (SqL.of (e _ _ hx)) (TdAll.dp ds (ta.ex e)), .bl _, sh, by decide +kernel, hz, by decide +kernel, hno, q _ H1 (Ex.refl _) (.int _)⟩))⟩
end
/-- what the lambda comes to: the word that is told of it -/
def Tells (K : PySem.W.Frag) (sp : Hp → VK → XK → Prop) (H : Hp) (wd : V) : Prop := ∀ (Q' : VK) (E' : XK), (wd = .non → ∀ v H', Ex H H' → Q' v H') → (wd = .str "program" → ∀ H', Ex H H' → E' (.ref (He.ga K "BadProgram")) none H') → (wd = .str "ways" → ∀ H', Ex H H' → E' (.ref (He.ga K "BadWays")) none H') → sp H Q' E'
section
variable {P : Program} {w : World} {K : PySem.W.Frag} {mg : Str → Option Value} {base : Heap} (T : Tx K mg)
include T
theorem excP : ExcC K (He.ga K "BadProgram") := ⟨T.hg_BadProgram, T.hk_BadProgram, T.be_BadProgram, T.hd_BadProgram, T.ha_BadProgram, T.hn_BadProgram, T.ht_BadProgram, T.hm_BadProgram⟩
theorem excW : ExcC K (He.ga K "BadWays") := ⟨T.hg_BadWays, T.hk_BadWays, T.be_BadWays, T.hd_BadWays, T.ha_BadWays, T.hn_BadWays, T.ht_BadWays, T.hm_BadWays⟩
theorem word_run {k : Nat} {f : Addr} {F : LF} {fr : List Str} {sp : List (Option V) → Hp → VK → XK → Prop} (Lm : LmOk P w K mg base (L2.CX P w) k f F fr sp) {A : Around} {outer : List Env} {s : Shared} {H : Hp} {args : Args} {ws : List (Option V)} {wd : V} {Q : VK} {E : XK} (room : Room (k + 1) A) (e0 : Env0 P w K mg base A outer s H)
    (hb : BindsTo s T.fd__law_word args ((["_law_work"] : List Str).zip [Value.ref f])) (hf : H f = some (LmO f F)) (hc : H F.c = some (CodeO F.c F.qual)) (C : CellsAt F.cl fr ws s.heap H) (tells : Tells K (sp ws) H wd) (hwd : wd = .non ∨ wd = .str "program" ∨ wd = .str "ways") (kq : ∀ H', Ex H H' → Q wd H') :
    codeAny (model P w) A (.call (.ref (He.ga K "_law_word")) args) (CR CX0 outer P w H s Q E) s := by
  refine run_fd (N := ["_law_work", "e", "_law_kinds"]) (ps := ["_law_work"]) (us := [.ref f]) (vs := [.ref f]) (pt := ("_law_word", none)) T.F__law_word sc__law_word rfl room e0 hb (.cons rfl .nil) rfl fun cdv _ hr => ?_
  have u65 := hr.un
  replace u65 : (A.deeper (envOfC "_law_word" (defScope s__law_word) s.heap.objs.size (He.ga K "_law_word") cdv)).units + 65 < cLine := by omega
  refine ⟨_, pss_cons (ps_try_as (i := 1) (tb := fun W => tDrop (tActS f F 0 (sp ws) (fun σ cls d H => W cls d σ H)))
      (ts := fun a cls d D σ H => ((cls = .ref (He.ga K "BadProgram") ∧ d = none) ∧ tKinds K (rIsE K (He.ga K "BadProgram") a) D σ H) ∨ ((cls = .ref (He.ga K "BadWays") ∧ d = none) ∧ tKinds K (rIsE K (He.ga K "BadWays") a) D σ H))
      (Wout := fun _ _ _ _ => False) rfl rfl sc__law_word.nd rfl rfl ⟨rfl, by decide, .inl T.g_HandError⟩ L2.takes0
      (fun W pn xe tk _ => pss_one (ps_expr (by exact (pe_actLS (i := 0) Lm C rfl hr (Nat.le_refl _) (fun σ => passAt tk σ) rfl (.inl rfl)))))
      (fun a oe cls d pn hz hf => suite_or (fun he => by
        obtain ⟨e1, e2⟩ := he
        subst e1
        subst e2
        exact
          (pss_cons (ps_set (i := 2) sc__law_word.nd rfl (Or.inl rfl) (pe_lst (pa_cons (pe_callB (call_isE (excP T) hz hf) rfl T.b_isinstance (by decide +kernel) (pa_cons (pv 1) (pa_cons (pe_glob (v := .ref _) rfl T.g_BadProgram rfl) pa_nil))) (pa_cons (pe_callB (call_isE (excP T) hz hf) rfl T.b_isinstance (by decide +kernel) (pa_cons (pv 1) (pa_cons (pe_glob (v := .ref _) rfl T.g_BadWays rfl) pa_nil))) (pa_cons (pe_callB (call_isE (excP T) hz hf) rfl T.b_isinstance (by decide +kernel) (pa_cons (pv 1) (pa_cons (pe_glob (v := .ref _) rfl T.g_BadCells rfl) pa_nil))) (pa_cons (pe_callB (call_isE (excP T) hz hf) rfl T.b_isinstance (by decide +kernel) (pa_cons (pv 1) (pa_cons (pe_glob (v := .ref _) rfl T.g_BadText rfl) pa_nil))) pa_nil))))))
            (pss_cons (ps_if (PW.pt (pw_or (pt_cmpR op_ne (pe_bm PySem.F.plainAttrs_list PySem.F.slot_list_count PySem.F.type_list_count (kmt_cntD K (by exact u65)) (pv 2) (pa_cons pe_bl pa_nil)) pe_int (nomark _)) (pw_or1 (pt_not (pt_val (pe_callB (call_isE (excP T) hz hf) rfl T.b_isinstance (by decide +kernel) (pa_cons (pv 1) (pa_cons (pe_bltn (v := .ty "ValueError") rfl T.b_ValueError (by decide +kernel) rfl) pa_nil))))))))
              (pss_one (ps_ret pe_str))
              pss_nil)
            (pss_one (ps_ret (pe_ix (kix_list K) (pe_lst (pa_cons pe_str (pa_cons pe_str (pa_cons pe_str (pa_cons pe_str pa_nil))))) (pe_bm PySem.F.plainAttrs_list PySem.F.slot_list_index PySem.F.type_list_index (kmt_ixD K (by exact u65)) (pv 2) (pa_cons pe_bl pa_nil)) (fun _ _ => rfl))))))
        ) (fun he => by
        obtain ⟨e1, e2⟩ := he
        subst e1
        subst e2
        exact
          (pss_cons (ps_set (i := 2) sc__law_word.nd rfl (Or.inl rfl) (pe_lst (pa_cons (pe_callB (call_isE (excW T) hz hf) rfl T.b_isinstance (by decide +kernel) (pa_cons (pv 1) (pa_cons (pe_glob (v := .ref _) rfl T.g_BadProgram rfl) pa_nil))) (pa_cons (pe_callB (call_isE (excW T) hz hf) rfl T.b_isinstance (by decide +kernel) (pa_cons (pv 1) (pa_cons (pe_glob (v := .ref _) rfl T.g_BadWays rfl) pa_nil))) (pa_cons (pe_callB (call_isE (excW T) hz hf) rfl T.b_isinstance (by decide +kernel) (pa_cons (pv 1) (pa_cons (pe_glob (v := .ref _) rfl T.g_BadCells rfl) pa_nil))) (pa_cons (pe_callB (call_isE (excW T) hz hf) rfl T.b_isinstance (by decide +kernel) (pa_cons (pv 1) (pa_cons (pe_glob (v := .ref _) rfl T.g_BadText rfl) pa_nil))) pa_nil))))))
            (pss_cons (ps_if (PW.pt (pw_or (pt_cmpR op_ne (pe_bm PySem.F.plainAttrs_list PySem.F.slot_list_count PySem.F.type_list_count (kmt_cntD K (by exact u65)) (pv 2) (pa_cons pe_bl pa_nil)) pe_int (nomark _)) (pw_or1 (pt_not (pt_val (pe_callB (call_isE (excW T) hz hf) rfl T.b_isinstance (by decide +kernel) (pa_cons (pv 1) (pa_cons (pe_bltn (v := .ty "ValueError") rfl T.b_ValueError (by decide +kernel) rfl) pa_nil))))))))
              (pss_one (ps_ret pe_str))
              pss_nil)
            (pss_one (ps_ret (pe_ix (kix_list K) (pe_lst (pa_cons pe_str (pa_cons pe_str (pa_cons pe_str (pa_cons pe_str pa_nil))))) (pe_bm PySem.F.plainAttrs_list PySem.F.slot_list_index PySem.F.type_list_index (kmt_ixD K (by exact u65)) (pv 2) (pa_cons pe_bl pa_nil)) (fun _ _ => rfl))))))
        ))) (pss_one (ps_ret pe_non)), ?_⟩
  refine w_seq (w_drop (⟨rfl, hf, hc, tells _ _ (fun e v H1 e1 => ?_) (fun e H1 e1 => ?_) (fun e H1 e1 => ?_)⟩))
  · subst e
    dsimp only
    exact w_ret (w_c (kq H1 e1))
  · subst e
    refine ⟨true, T.em_BadProgram_HandError, fun _ a ha => .inl ⟨⟨rfl, rfl⟩, ?_⟩, fun q => nomatch q⟩
    refine w_seq (w_asg (w_dl (K := K) (edl_lst (ds := [.bool true, .bool false, .bool false, .bool false]) (eda_cons (ed_isE rfl T.ki_BadProgram_BadProgram) (eda_cons (ed_isE rfl T.ki_BadProgram_BadWays) (eda_cons (ed_isE rfl T.ki_BadProgram_BadCells) (eda_cons (ed_isE rfl T.ki_BadProgram_BadText) eda_nil)))) (by simp)) fun lp xs H4 hlp e4 hl4 ta => ?_))
    dsimp only
    refine w_seq (w_ifs (w_t (K := K) (b := false) (tk_is (tk_or (tk_v (ed_nei (ed_cntT rfl hl4 ta (by decide +kernel)) ed_ci)) fun _ => tk_not (tk_vB (ed_isET rfl T.iv_BadProgram))) (by decide +kernel)) fun H5 e5 => ifF rfl (w_next ?_)))
    dsimp only
    refine w_ret (w_d (K := K) (ed_ixL (d := .str "program") (EvDL.rd (edl_lst (eda_cons ed_cs (eda_cons ed_cs (eda_cons ed_cs (eda_cons ed_cs eda_nil)))) (by simp))) (ed_ixTr 0 rfl (e5 _ _ hl4) (ta.ex e5) (by decide +kernel) rfl (fun m z' hm _ => absurd hm (Nat.not_lt_zero m))) rfl) fun v H6 e6 tv => ?_)
    cases tv
    exact kq H6 (((e1.trans e4).trans e5).trans e6)
  · subst e
    refine ⟨true, T.em_BadWays_HandError, fun _ a ha => .inr ⟨⟨rfl, rfl⟩, ?_⟩, fun q => nomatch q⟩
    refine w_seq (w_asg (w_dl (K := K) (edl_lst (ds := [.bool false, .bool true, .bool false, .bool false]) (eda_cons (ed_isE rfl T.ki_BadWays_BadProgram) (eda_cons (ed_isE rfl T.ki_BadWays_BadWays) (eda_cons (ed_isE rfl T.ki_BadWays_BadCells) (eda_cons (ed_isE rfl T.ki_BadWays_BadText) eda_nil)))) (by simp)) fun lp xs H4 hlp e4 hl4 ta => ?_))
    dsimp only
    refine w_seq (w_ifs (w_t (K := K) (b := false) (tk_is (tk_or (tk_v (ed_nei (ed_cntT rfl hl4 ta (by decide +kernel)) ed_ci)) fun _ => tk_not (tk_vB (ed_isET rfl T.iv_BadWays))) (by decide +kernel)) fun H5 e5 => ifF rfl (w_next ?_)))
    dsimp only
    refine w_ret (w_d (K := K) (ed_ixL (d := .str "ways") (EvDL.rd (edl_lst (eda_cons ed_cs (eda_cons ed_cs (eda_cons ed_cs (eda_cons ed_cs eda_nil)))) (by simp))) (ed_ixTr 1 rfl (e5 _ _ hl4) (ta.ex e5) (by decide +kernel) rfl (fun m z' hm hz => by
      have : m = 0 := by omega
      subst this
      cases hz
      rfl)) rfl) fun v H6 e6 tv => ?_)
    cases tv
    exact kq H6 (((e1.trans e4).trans e5).trans e6)
end
end Hw

set_option maxRecDepth 100000
set_option maxHeartbeats 4000000
/-! KL3: lambdas whose frame is gone: their cells are known; forgotten for a call, known again behind it -/
namespace Hw
open PySem PySem.Spec PyProof.Rows L2 Evl LamX NdefX LamK
/-- the cell at c holds v -/
def CellO (c : Addr) (v : V) : HO := .ext fun h => ∃ u, RelV v u ∧ h.IsCell c (some u)
theorem cellO_ne {c : Addr} {v : V} (ps : Array Value) : CellO c v ≠ .tbl ps := fun z => by
  unfold CellO at z
  cases z
theorem cellO_at {P : Program} {w : World} {H : Hp} {h : Heap} {c : Addr} {v : V} (hok : HOk P w H h) (e : H c = some (CellO c v)) : ∃ u, RelV v u ∧ h.IsCell c (some u) := (hok c _ e).1
theorem cellO_ok {P : Program} {w : World} {H : Hp} {h : Heap} {c : Addr} {v : V} {u : Value} (r : RelV v u) (i : h.IsCell c (some u)) : ObjOk P w H h c (CellO c v) := by
  obtain ⟨o, ho, hd⟩ := i
  exact ⟨⟨u, r, o, ho, hd⟩, ⟨o, ho⟩, fun h1 h2 ⟨u, r, o, a, b⟩ st => ⟨u, r, o, st _ a, b⟩⟩
/-- what is known of a kept lambda; us: what its cells hold -/
structure KnownL (H : Hp) (f : Addr) (F : LF) (fr : List Str) (us : List V) : Prop where
  lam : H f = some (LmO f F)
  code : H F.c = some (CodeO F.c F.qual)
  len : us.length = fr.length
  inj : ∀ x y c, F.cl.lookup x = some c → F.cl.lookup y = some c → x = y
  all : ∀ y c, F.cl.lookup y = some c → ∃ v, H c = some (CellO c v)
  has : ∀ (i : Nat) (y : Str), fr[i]? = some y → ∃ c v, F.cl.lookup y = some c ∧ us[i]? = some v ∧ H c = some (CellO c v)
theorem KnownL.extN {H H' : Hp} {f : Addr} {F : LF} {fr : List Str} {us : List V} (k : KnownL H f F fr us) (e : ExtN H H') : KnownL H' f F fr us :=
  ⟨e _ _ k.lam lmO_ne, e _ _ k.code codeO_ne, k.len, k.inj, fun y c h => by
    obtain ⟨v, q⟩ := k.all y c h
    exact ⟨v, e _ _ q cellO_ne⟩, fun i y h => by
    obtain ⟨c, v, a, b, q⟩ := k.has i y h
    exact ⟨c, v, a, b, e _ _ q cellO_ne⟩⟩
theorem KnownL.ex {H H' : Hp} {f : Addr} {F : LF} {fr : List Str} {us : List V} (k : KnownL H f F fr us) (e : Ex H H') : KnownL H' f F fr us := k.extN fun b o h _ => e b o h
open Classical in
noncomputable def forget (F : LF) (H : Hp) : Hp := fun a => if ∃ y, F.cl.lookup y = some a then none else H a
open Classical in
noncomputable def addB (F : LF) (H H' : Hp) : Hp := fun a => if ∃ y, F.cl.lookup y = some a then H a else H' a
section
variable {P : Program} {w : World} {K : PySem.W.Frag} {mg : Str → Option Value} {base : Heap} {A : Around} {outer : List Env} {s s' : Shared} {H H' : Hp} {F : LF} {f : Addr} {fr : List Str} {us : List V}
theorem forget_in {a : Addr} (h : ∃ y, F.cl.lookup y = some a) : forget F H a = none := if_pos h
theorem forget_out {a : Addr} (h : ¬ ∃ y, F.cl.lookup y = some a) : forget F H a = H a := if_neg h
theorem forget_some {a : Addr} {o : HO} (h : forget F H a = some o) : H a = some o ∧ ¬ ∃ y, F.cl.lookup y = some a := by
  by_cases q : ∃ y, F.cl.lookup y = some a
  · rw [forget_in q] at h
    cases h
  · exact ⟨by rw [forget_out q] at h; exact h, q⟩
theorem forget_of {a : Addr} {o : HO} (k : KnownL H f F fr us) (h : H a = some o) (ne : ∀ c v, o ≠ CellO c v) : forget F H a = some o := by
  rw [forget_out]
  · exact h
  · rintro ⟨y, q⟩
    obtain ⟨v, e⟩ := k.all y a q
    rw [h] at e
    exact ne _ _ (Option.some.inj e)
theorem forget_none {a : Addr} (h : H a = none) : forget F H a = none := by
  by_cases q : ∃ y, F.cl.lookup y = some a
  · exact forget_in q
  · rw [forget_out q]; exact h
theorem forget_keep (k : KnownL H f F fr us) : Keep K H (forget F H) := fun a xs q => by
  have ne : ∀ (o : HO), (∀ φ, o ≠ .ext φ) → ∀ c v, o ≠ CellO c v := fun o ho c v e => ho _ e
  rcases q with (q | ⟨oo, q⟩) | q
  · exact .inl (.inl (forget_of k q (ne _ fun φ z => by cases z)))
  · exact .inl (.inr ⟨oo, forget_of k q (ne _ fun φ z => by cases z)⟩)
  · exact .inr q
theorem cells_forget (k : KnownL H f F fr us) (hok : HOk P w H s.heap) : CellsAt F.cl fr (us.map some) s.heap (forget F H) := by
  refine ⟨by rw [List.length_map]; exact k.len, fun y c e => ⟨forget_in ⟨y, e⟩, ?_⟩, k.inj, fun i y e => ?_⟩
  · obtain ⟨v, q⟩ := k.all y c e
    obtain ⟨u, _, z⟩ := cellO_at hok q
    exact ⟨_, z⟩
  · obtain ⟨c, v, a, b, q⟩ := k.has i y e
    refine ⟨c, a, fun v2 ev => ?_⟩
    rw [List.getElem?_map, b] at ev
    cases ev
    exact cellO_at hok q
theorem hok_forget (k : KnownL H f F fr us) (hok : HOk P w H s.heap) : HOk P w (forget F H) s.heap := fun a o e => by
  obtain ⟨e1, _⟩ := forget_some e
  refine (hok a o e1).stay (fun b u _ q => q) (fun b q => forget_of k q fun c v z => by unfold CellO at z; cases z) fun b xs q => forget_of k q fun c v z => by unfold CellO at z; cases z
theorem env0_forget (k : KnownL H f F fr us) (e0 : Env0 P w K mg base A outer s H) : Env0 P w K mg base A outer s (forget F H) :=
  ⟨e0.frames, e0.mod, fun b o e => ⟨(e0.bs b o e).1, forget_none (e0.bs b o e).2⟩, e0.bsz, e0.funs, fun b hb => forget_none (e0.frf b hb), hok_forget k e0.hok, e0.bare⟩
theorem lam_forget (k : KnownL H f F fr us) (hok : HOk P w H s.heap) : forget F H f = some (LmO f F) := by
  rw [forget_out]
  · exact k.lam
  · rintro ⟨y, q⟩
    obtain ⟨v, e⟩ := k.all y f q
    obtain ⟨u, _, o, ho, hd⟩ := cellO_at hok e
    obtain ⟨pm, ctv, z⟩ := lmO_at hok k.lam
    rw [z] at ho
    cases ho
    cases hd
theorem code_forget (k : KnownL H f F fr us) (hok : HOk P w H s.heap) : forget F H F.c = some (CodeO F.c F.qual) := by
  rw [forget_out]
  · exact k.code
  · rintro ⟨y, q⟩
    obtain ⟨v, e⟩ := k.all y F.c q
    obtain ⟨u, _, o, ho, hd⟩ := cellO_at hok e
    obtain ⟨⟨oc, vs, t, h1, h2, h3⟩, _, _⟩ := hok F.c _ k.code
    rw [h1] at ho
    cases ho
    rw [h2] at hd
    cases hd
theorem addB_in {a : Addr} (h : ∃ y, F.cl.lookup y = some a) : addB F H H' a = H a := if_pos h
theorem addB_out {a : Addr} (h : ¬ ∃ y, F.cl.lookup y = some a) : addB F H H' a = H' a := if_neg h
theorem addB_ex (e : Ex (forget F H) H') : Ex H (addB F H H') := fun p o h => by
  by_cases q : ∃ y, F.cl.lookup y = some p
  · rw [addB_in q]; exact h
  · rw [addB_out q]
    exact e p o (by rw [forget_out q]; exact h)
theorem ce_back {Q Q' : VK} {u : Value} (k : KnownL H f F fr us) (hok : HOk P w H s.heap) (h : CE outer P w (forget F H) s Q' u s') (hq : ∀ v H', Q' v H' → Q v (addB F H H')) : CE outer P w H s Q u s' := by
  obtain ⟨v, H', os, bare, un, hok', rv, q⟩ := h
  have isc : ∀ c, (∃ y, F.cl.lookup y = some c) → ∃ v, H c = some (CellO c v) := fun c ⟨y, e⟩ => k.all y c e
  have gone : ∀ c, (∃ y, F.cl.lookup y = some c) → H' c = none := fun c hc => by
    obtain ⟨v, e⟩ := isc c hc
    obtain ⟨u, _, o, ho, hd⟩ := cellO_at hok e
    exact un.free c o ho (forget_in hc) (by simp)
  have nin : ∀ b o, H' b = some o → ¬ ∃ y, F.cl.lookup y = some b := fun b o e hb => by
    rw [gone b hb] at e
    cases e
  refine ⟨v, addB F H H', os, bare, ⟨fun b o e n h1 h2 => un.keep b o e (forget_none n) h1 h2, fun b o e n h1 h2 => un.slot b o e (forget_none n) h1 h2, fun b o e n h1 => ?_, fun b o e h1 => un.there b o e h1, fun b xs e => ?_, fun b o x e => ?_, fun b ps e => ?_⟩, fun a o e => ?_, rv, hq v H' q⟩
  · by_cases hb : ∃ y, F.cl.lookup y = some b
    · rw [addB_in hb]; exact n
    · rw [addB_out hb]; exact un.free b o e (forget_none n) h1
  · have := un.tups b xs (forget_of k e fun c v z => by unfold CellO at z; cases z)
    rw [addB_out (nin b _ this)]; exact this
  · have := un.frzs b o x (forget_of k e fun c v z => by unfold CellO at z; cases z)
    rw [addB_out (nin b _ this)]; exact this
  · obtain ⟨more, this⟩ := un.tbls b ps (forget_of k e fun c v z => by unfold CellO at z; cases z)
    exact ⟨more, by rw [addB_out (nin b _ this)]; exact this⟩
  · by_cases ha : ∃ y, F.cl.lookup y = some a
    · rw [addB_in ha] at e
      obtain ⟨v2, e2⟩ := isc a ha
      rw [e2] at e
      cases e
      obtain ⟨u2, r2, o2, ho2, hd2⟩ := cellO_at hok e2
      obtain ⟨sl, q2⟩ := un.any ho2 (forget_in ha) (by simp)
      exact cellO_ok r2 ⟨_, q2, hd2⟩
    · rw [addB_out ha] at e
      exact (hok' a o e).stay (fun b u _ q => q) (fun b q => by rw [addB_out (nin b _ q)]; exact q) fun b xs q => by rw [addB_out (nin b _ q)]; exact q
end
/-- a kept lambda, handed to _law_word -/
def spWk (P : Program) (w : World) (K : PySem.W.Frag) (mg : Str → Option Value) (base : Heap) (k : Nat) : Sp := fun vs H Q _ => ∃ (f : Addr) (F : LF) (fr : List Str) (us : List V) (wd : V) (sp : List (Option V) → Hp → VK → XK → Prop), vs = [.ref f] ∧ KnownL H f F fr us ∧ LmOk P w K mg base (L2.CX P w) k f F fr sp ∧
  (∀ H', Keep K H H' → Tells K (sp (us.map some)) H' wd) ∧ (wd = .non ∨ wd = .str "program" ∨ wd = .str "ways") ∧ ∀ H', Ex H H' → Q wd H'
section
variable {P : Program} {w : World} {K : PySem.W.Frag} {mg : Str → Option Value} {base : Heap} (T : Tx K mg)
include T
theorem ok_word {k : Nat} : Fn__law_word T P w base CX0 (k + 1) (spWk P w K mg base k) := by
  refine ⟨fun vs H Q E h => by obtain ⟨_, _, _, _, _, _, rfl, _⟩ := h; rfl, fun A outer s H args us' vs Q E hr e0 hb r h => ?_⟩
  obtain ⟨f, F, fr, us, wd, sp, rfl, kn, Lm, tells, hwd, kq⟩ := h
  obtain ⟨u, rfl, ru⟩ := r.one
  obtain rfl : u = Value.ref f := ru
  refine codeAny_mono (word_run T Lm (Q := fun v H' => v = wd ∧ Ex (forget F H) H') (E := E) hr (env0_forget kn e0) hb (lam_forget kn e0.hok) (code_forget kn e0.hok) (cells_forget kn e0.hok) (tells _ (forget_keep kn)) hwd fun H' e => ⟨rfl, e⟩) fun r s' hr2 => ?_
  cases r with
  | error e => exact hr2
  | ok fl =>
    cases fl with
    | ret u => exact ce_back kn e0.hok hr2 fun v H' ⟨e1, e2⟩ => by rw [e1]; exact kq _ (addB_ex e2)
    | next => exact hr2
    | brk => exact hr2
    | cont => exact hr2
end
end Hw

set_option maxRecDepth 100000
set_option maxHeartbeats 4000000
/-! KL4: a def whose lambdas outlive it: its cells are known at its end -/
namespace Hw
open PySem PySem.Spec PyProof.Rows L2 Evl LamX NdefX LamK
/-- a body that ends by return: the slots are told at the end too -/
def PFin (X : Cx) (b : List Stmt) (t : (V → L2.St → Hp → Prop) → L2.St → Hp → Prop) : Prop := ∀ (pins : List (Addr × Obj)) (s : Shared) (σ : L2.St) (H : Hp) (Q : V → L2.St → Hp → Prop), Inv X pins σ H s → t Q σ H →
  wpAny (model X.prog X.w) X.A (execs b X.env) (fun f s' => ∃ u, f = .ret u ∧ ∃ v σ' H', Inv X pins σ' H' s' ∧ RelV v u ∧ Q v σ' H') X.xe s
theorem pf_cons {X : Cx} {st : Stmt} {rest : List Stmt} {t : TS} {u : (V → L2.St → Hp → Prop) → L2.St → Hp → Prop} (h1 : PS X st t) (h2 : PFin X rest u) : PFin X (st :: rest) (fun Q => t { nx := u Q, rt := fun _ _ => False, bk := fun _ _ => False, ct := fun _ _ => False }) := by
  intro pins s σ H Q I h
  refine wpAny_execs_cons (thn (h1.run pins s σ H _ I h) fun f s1 q => ?_)
  cases f with
  | next =>
    obtain ⟨σ', H', I', q⟩ := q
    exact h2 pins s1 σ' H' Q I' q
  | ret v =>
    obtain ⟨_, _, _, _, _, q⟩ := q
    exact q.elim
  | brk =>
    obtain ⟨_, _, _, q⟩ := q
    exact q.elim
  | cont =>
    obtain ⟨_, _, _, q⟩ := q
    exact q.elim
theorem pf_ret {X : Cx} {e : Expr} {te : TE} {pos : Pos} (he : PE X e te) : PFin X [.Return (some e) pos] (fun Q σ H => te σ H fun v H' => Q v σ H') := by
  intro pins s σ H Q I h
  refine wpAny_execs_cons (wpAny_Return_some (thn (he.run pins s σ H _ I h) fun v s1 ⟨x, H1, I1, r1, q1⟩ => ?_))
  exact ⟨v, rfl, x, σ, H1, I1, r1, q1⟩
theorem un_add {fs ex : List Addr} {H H' : Hp} {h h' : Heap} {c : Addr} {o : HO} (un : Un fs ex H H' h h') (hc : h.objs.size ≤ c) (hn : H' c = none) : Un fs ex H (upd H' c o) h h' where
  keep := un.keep
  slot := un.slot
  free := fun b u q n hx => by
    rw [upd_ne (fun z => by rw [z] at q; exact Nat.lt_irrefl _ (Nat.lt_of_lt_of_le (Heap.lt_size q) hc))]
    exact un.free b u q n hx
  there := un.there
  tups := fun b xs q => by
    have := un.tups b xs q
    rw [upd_ne (ne_of_none this hn)]; exact this
  frzs := fun b u xs q => by
    have := un.frzs b u xs q
    rw [upd_ne (ne_of_none this hn)]; exact this
  tbls := fun b ps q => by
    obtain ⟨more, this⟩ := un.tbls b ps q
    exact ⟨more, by rw [upd_ne (ne_of_none this hn)]; exact this⟩
theorem hok_add {P : Program} {w : World} {H : Hp} {h : Heap} {c : Addr} {o : HO} (x : HOk P w H h) (hn : H c = none) (new : ObjOk P w (upd H c o) h c o) : HOk P w (upd H c o) h := fun b u e => by
  by_cases hb : b = c
  · subst hb
    rw [upd_same] at e
    cases e
    exact new
  · rw [upd_ne hb] at e
    exact (x b u e).stay (fun c v _ q => q) (fun c q => by rw [upd_ne (ne_of_none q hn)]; exact q) fun c xs q => by rw [upd_ne (ne_of_none q hn)]; exact q
/-- the cells of the names l (places, names, values) are known from now on -/
theorem export_all {X : Cx} {pins : List (Addr × Obj)} {σ : L2.St} {H' : Hp} {s' : Shared} (J : Inv X pins σ H' s') : ∀ (l : List (Nat × Str × V)), (l.map fun p => p.2.1).Nodup → (∀ p ∈ l, X.N[p.1]? = some p.2.1 ∧ σ[p.1]? = some (some p.2.2) ∧ X.env.scope.names.lookup p.2.1 = some .cell ∧ X.fn p.2.1 = true) →
    ∃ H'' : Hp, Un X.fs X.ex X.H_0 H'' X.s_0.heap s'.heap ∧ HOk X.prog X.w H'' s'.heap ∧ (∀ p ∈ l, ∀ c, X.env.cells.lookup p.2.1 = some c → H'' c = some (CellO c p.2.2)) ∧ (∀ b o, H' b = some o → H'' b = some o) ∧ (∀ b o, H'' b = some o → H' b = some o ∨ ∃ p ∈ l, X.env.cells.lookup p.2.1 = some b)
  | [], _, _ => ⟨H', J.base, J.hok, fun p hp => absurd hp (by simp), fun _ _ h => h, fun _ _ h => .inl h⟩
  | p :: r, nd, hl => by
    obtain ⟨hN, hs, hk, hf⟩ := hl p List.mem_cons_self
    have nd := List.nodup_cons.mp (show (p.2.1 :: r.map fun p => p.2.1).Nodup from nd)
    obtain ⟨H1, un, hok, h1, h2, h3⟩ := export_all J r nd.2 fun q hq => hl q (List.mem_cons_of_mem _ hq)
    obtain ⟨c, hc⟩ := J.ok.has p.2.1 (.inl hk)
    have c0 : H1 c = none := by
      cases e : H1 c with
      | none => rfl
      | some o =>
        rcases h3 c o e with z | ⟨q, hq, z⟩
        · rw [J.freeC _ _ hc] at z
          cases z
        · have := J.ok.inj _ _ _ hc z
          exact absurd (List.mem_map.mpr ⟨q, hq, this.symm⟩) nd.1
    obtain ⟨m, hn, hlk⟩ := J.loc
    obtain ⟨u, ru, lk⟩ := hlk p.1 p.2.1 p.2.2 hN hs (.inr (.inl hk))
    have ic : s'.heap.IsCell c (some u) := by
      rcases lk with ⟨z, _⟩ | ⟨_, c', e, z⟩
      · have z : X.env.scope.names.lookup p.2.1 = some .local := z
        rw [hk] at z
        cases z
      · rw [hc] at e
        cases e
        exact z
    refine ⟨upd H1 c (CellO c p.2.2), un_add un (J.ok.cab _ _ hf hc) c0, hok_add hok c0 (cellO_ok ru ic), fun q hq d hd => ?_, fun b o e => ?_, fun b o e => ?_⟩
    · rcases List.mem_cons.mp hq with e | hq
      · subst e
        rw [hc] at hd
        cases hd
        exact upd_same
      · have := h1 q hq d hd
        rw [upd_ne (ne_of_none this c0)]
        exact this
    · have := h2 b o e
      rw [upd_ne (ne_of_none this c0)]
      exact this
    · by_cases hb : b = c
      · subst hb
        exact .inr ⟨p, List.mem_cons_self, hc⟩
      · rw [upd_ne hb] at e
        rcases h3 b o e with z | ⟨q, hq, z⟩
        · exact .inl z
        · exact .inr ⟨q, List.mem_cons_of_mem _ hq, z⟩
/-- a def called, its promise told of the very state, its cells known at the end -/
theorem run_fdC {CX : CXT} {P : Program} {w : World} {K : PySem.W.Frag} {mg : Str → Option Value} {base : Heap} {k : Nat} {f : Addr} {x qual : Str} {params : Arguments} {body : List Stmt} {scope : Scope} {fd : FuncData} {N ps : List Str} (F : FunD K x qual params body scope [] [] f fd) (S : FnScope N ps scope) {pt : Str × Option Str} (hpt : He.fAd K pt = f)
    {A : Around} {outer : List Env} {s : Shared} {H : Hp} {args : Args} {us : List Value} {vs : List V} {Q : VK} {E : XK} (hr : Room (k + 1) A) (e0 : Env0 P w K mg base A outer s H) (hb : BindsTo s fd args (ps.zip us)) (r : Vals vs us) (hl : vs.length = ps.length)
    (hbody : ∀ cdv : Value, cdv = .ref (He.codeOf K pt) → Room k (A.deeper (envOfC qual scope s.heap.objs.size f cdv)) → ∃ t, PFin (cxOf CX P w K mg base N qual scope f cdv A outer s H E) body t ∧
      t (fun v σ' H' => (cxOf CX P w K mg base N qual scope f cdv A outer s H E).Ok → ∃ l : List (Nat × Str × V), (l.map fun p => p.2.1).Nodup ∧ (∀ p ∈ l, N[p.1]? = some p.2.1 ∧ σ'[p.1]? = some (some p.2.2) ∧ scope.names.lookup p.2.1 = some .cell) ∧
        ∀ H'', (∀ b o, H' b = some o → H'' b = some o) → (∀ p ∈ l, ∀ c, (cxOf CX P w K mg base N qual scope f cdv A outer s H E).env.cells.lookup p.2.1 = some c → H'' c = some (CellO c p.2.2)) → Q v H'') (L2.start N vs) H) :
    codeAny (model P w) A (.call (.ref f) args) (CR CX outer P w H s Q E) s := by
  obtain ⟨oc, od, dV, kV, doc, pm, an, cdv, ct, osl, rfl, lk, hcd, _, _⟩ := F.ex
  obtain ⟨c, rfl⟩ := He.codeIn_ref hcd
  have e : He.codeOf K pt = c := He.codeOf_eq (by rw [hpt]; exact lk) rfl
  have KX : K.In s.heap := e0.mod.kin.keeps fun b o e => (e0.bs b o e).1
  have lim : s.heap.NoLimit := e0.mod.nolimit.keeps fun b o e => (e0.bs b o e).1
  have hkind : ∀ y ∈ ps.zip us, scope.names.lookup y.1 = some .local ∨ (scope.names.lookup y.1 = some .cell ∧ ((cellsFrom (s.heap.objs.size + 1) scope.names []).lookup y.1).isSome = true) := fun ⟨n, v⟩ hy => by
    rcases S.par n (List.of_mem_zip hy).1 with q | q
    · exact .inl q
    · exact .inr ⟨q, PySem.W.cellsFrom_some _ _ _ (.inl q)⟩
  refine codeAny_call_function hr.depth (KX _ _ lk) rfl S.co S.gen rfl (PySem.W.codeRec_of KX hcd) (hb _ _ _ _ ?_)
  refine wpAny_newFunctionEnv_cells S.kind hkind fun env he s1 x => ?_
  subst he
  refine ⟨lim.keeps x.toInCall.keep, codeAny_func ?_⟩
  obtain ⟨t, ht, hq⟩ := hbody (.ref c) (by rw [e]) (hr.deeper _)
  have I : Inv (cxOf CX P w K mg base N qual scope f (.ref c) A outer s H E) [] (L2.start N vs) H s1 := inv_start S hr.hd e0 hl r x
  refine wpAny_mono (ht [] s1 (L2.start N vs) H _ I hq) (fun fl s' hs => ?_) fun e s' hs => hs
  obtain ⟨u, rfl, v, σ', H', J, rv, hfin⟩ := hs
  obtain ⟨l, nd, hl2, hQ⟩ := hfin J.ok
  obtain ⟨H'', un, hok, h1, h2, _⟩ := export_all J l nd fun p hp => ⟨(hl2 p hp).1, (hl2 p hp).2.1, (hl2 p hp).2.2, rfl⟩
  exact ⟨v, H'', J.os, J.bare, un, hok, rv, hQ H'' h2 h1⟩
end Hw

set_option maxRecDepth 100000
set_option maxHeartbeats 4000000
/-! KL5: the lambdas that the law keeps -/
namespace Hw
open PySem PySem.Spec PyProof.Rows L2 Evl LamX NdefX LamK
local macro_rules | `(tactic| walk_at "dd") => `(tactic| first | rfl | decide | (simp; done) | omega)
local macro_rules | `(tactic| walk_at "td") => `(tactic| first | assumption | exact Td.int _ | exact Td.bl _ | exact Td.str _ | exact Td.non | exact Td.tup (by assumption) (by assumption))
local macro_rules | `(tactic| walk_at "ev") => `(tactic| first
  | exact ed_ci | exact ed_cs | exact ed_cb | exact ed_cn
  | (apply ed_cg; assumption)
  | (apply ed_var; (rfl); (walk_at "td"))
  | (apply ed_ixT; (walk_at "ev"); (walk_at "ev"); (first | rfl | assumption))
  | (apply ed_rowI; (rfl); (assumption); (walk_at "ev"); (rfl))
  | (apply ed_ixL; (apply EvDL.rd; walk_at "edl"); (walk_at "ev"); (rfl))
  | (apply ed_intb; (walk_at "ev"))
  | (apply ed_len; walk_at "ev")
  | (apply ed_lenV; (apply ev_rowR; (rfl); (assumption); (walk_at "ev"); (rfl)); (assumption))
  | (apply ed_Ii; (walk_at "ev"); (walk_at "ev"); (walk_at "cc"))
  | (apply ed_isi; (walk_at "ev"); (rfl))
  | (apply ed_I0i; (walk_at "ev"); (walk_at "ev"))
  | (apply ed_I0b; (walk_at "ev"); (walk_at "ev"))
  | (apply ed_eqi; (walk_at "ev"); (walk_at "ev"))
  | (apply ed_nei; (walk_at "ev"); (walk_at "ev"))
  | (apply ed_andF; walk_at "ev")
  | (apply ed_andV; (walk_at "ev"); (intro _; walk_at "ev"))
  | (apply ed_orT; walk_at "ev")
  | (apply ed_orV; (walk_at "ev"); (intro _; walk_at "ev"))
  | (apply ed_notT; walk_at "ev")
  | (apply ed_notF; walk_at "ev")
  | (apply ed_notV; walk_at "ev")
  | (apply ed_chain; (walk_at "ev"); (walk_at "ev"); (intro _; walk_at "ev"))
  | (apply ed_eqS; (walk_at "ev"); (walk_at "ev"); (walk_at "bb"); (walk_at "bb"))
  | (apply ed_neS; (walk_at "ev"); (walk_at "ev"); (walk_at "bb"); (walk_at "bb"))
  | (apply ed_inT; (walk_at "ev"); (walk_at "ev"); (rfl); (rfl))
  | (apply ed_niT; (walk_at "ev"); (walk_at "ev"); (rfl); (rfl))
  | (apply ed_tup; (walk_at "eva"); (walk_at "bb"))
  | (apply ed_sl; (walk_at "ev"); (walk_at "evo"); (walk_at "evo"))
  | (apply ed_eqN; (apply EvDL.rd; walk_at "edl"); (walk_at "edl"); (walk_at "bb"))
  | (apply ed_neN; (apply EvDL.rd; walk_at "edl"); (walk_at "edl"); (walk_at "bb"))
  | (apply ed_ixL; (apply edr_var; (rfl); (assumption); (assumption)); (walk_at "ev"); (first | rfl | assumption))
  | (apply ed_lenL; (apply edr_var; (rfl); (assumption); (assumption)))
  | (apply ed_call; (walk_at "eva"); (walk_at "post")))
local macro_rules | `(tactic| walk_at "edl") => `(tactic| first
  | assumption
  | (apply edl_lst; (walk_at "eva"); (walk_at "bb")))
local macro_rules | `(tactic| walk_at "eva") => `(tactic| first
  | exact eda_nil
  | (apply eda_cons; (walk_at "ev"); (walk_at "eva")))
local macro_rules | `(tactic| walk_at "evo") => `(tactic| first
  | exact eok_none
  | (apply eok_some; walk_at "ev"))
local macro_rules | `(tactic| walk_at "bb") => `(tactic| first | rfl | assumption | (simp; done) | (simp; omega) | decide +kernel)
local macro_rules | `(tactic| walk_at "et") => `(tactic| first
  | exact tk_yes
  | (apply tk_andF; walk_at "et")
  | (apply tk_and; (walk_at "et"); (intro _; walk_at "et"))
  | (apply tk_orT; walk_at "et")
  | (apply tk_or; (walk_at "et"); (intro _; walk_at "et"))
  | (apply tk_notT; walk_at "et")
  | (apply tk_notF; walk_at "et")
  | (apply tk_not; walk_at "et")
  | (apply tk_v; walk_at "ev")
  | (apply tk_vB; walk_at "ev"))
local macro_rules | `(tactic| walk_at "if") => `(tactic| first
  | (apply pst_whenF; (walk_at "et"); (walk_at "bb"))
  | (apply pst_whenT; (walk_at "et"); (walk_at "bb")))
local macro_rules | `(tactic| walk_at "post") => `(tactic| first | assumption | exact ⟨_, _, rfl, rfl⟩ | exact ⟨_, _, _, _, rfl, by omega, by omega, rfl⟩ | exact ⟨_, _, _, 0, rfl, by omega, by omega, rfl⟩)
local macro_rules | `(tactic| walk_at "cc") => `(tactic| first | assumption | decide | omega | (refine ⟨?_, ?_⟩ <;> first | decide | omega) | (exact Or.inl (by constructor <;> omega)))

def lamOf : Stmt → Expr
  | .Assign _ (.List (l :: _) _) _ => l
  | .Expr (.Call _ (l :: _) _ _) _ => l
  | _ => .Name "" ⟨0, 0, 0, 0⟩
def lamP : Expr → Arguments
  | .Lambda a _ _ _ => a
  | _ => { posonlyargs := [], args := [], vararg := none, kwonlyargs := [], kw_defaults := [], kwarg := none, defaults := [] }
def lamB : Expr → Expr
  | .Lambda _ b _ _ => b
  | e => e
def lamC : Expr → Scope
  | .Lambda _ _ s _ => s
  | _ => { kind := .function, names := [], isGenerator := false, isCoroutine := false }
abbrev lmE (st : Stmt) (i : Nat) : Expr := lamOf ((defBody st).getD i (.Pass ⟨0, 0, 0, 0⟩))
abbrev mkF (e : Expr) (qn : Str) (cells : List (Str × Addr)) (c : Addr) : LF := ⟨qn, lamP e, lamB e, lamC e, cloFrom cells (lamC e).names [], c⟩
abbrev qnL : Str := (("law" : Str) ++ ".<locals>.") ++ "<lambda>"
abbrev qnW : Str := (("_law_works" : Str) ++ ".<locals>.") ++ "<lambda>"
abbrev qnO : Str := (("_law_others" : Str) ++ ".<locals>.") ++ "<lambda>"
def tabT (K : PySem.W.Frag) : List (Addr × Str) := [((He.cT K ("law", none)).2, qnL), ((He.cT K ("_law_works", none)).2, qnW), ((He.cT K ("_law_others", none)).2, qnO)]
/-- the works that are told, the word that is told of them -/
def CanW (K : PySem.W.Frag) (H : Hp) (pw yw wd : V) : Prop := ∃ ws ys, Td K H pw (.tuple (ws.map encWD)) ∧ Td K H yw (encY ys) ∧ smWs ws ∧ smY ys ∧ ((isPrD ws = false ∧ wd = .str "program") ∨ ∃ p, ws = p.map toD ∧ okP p = true ∧ smP p ∧ smallP p = true ∧ okY p ys = false ∧ wd = .str "ways")
def CanO (K : PySem.W.Frag) (b : Bool) (H : Hp) (pw wd : V) : Prop := ∃ ws, Td K H pw (.tuple (ws.map encWD)) ∧ smWs ws ∧ ((isPrD ws = false ∧ wd = .str "program") ∨ (b = true ∧ isPrD ws = true ∧ wd = .non))
def LamW (P : Program) (w : World) (K : PySem.W.Frag) (mg : Str → Option Value) (base : Heap) (f : Addr) (F : LF) (fr : List Str) (us : List V) (pw yw : V) : Prop := ∃ sp, LmOk P w K mg base (L2.CX P w) 25 f F fr sp ∧ ∀ H wd, CanW K H pw yw wd → Tells K (sp (us.map some)) H wd
def LamO (P : Program) (w : World) (K : PySem.W.Frag) (mg : Str → Option Value) (base : Heap) (b : Bool) (f : Addr) (F : LF) (fr : List Str) (us : List V) (pw : V) : Prop := ∃ sp, LmOk P w K mg base (L2.CX P w) 25 f F fr sp ∧ ∀ H wd, CanO K b H pw wd → Tells K (sp (us.map some)) H wd
section
variable {P : Program} {w : World} {K : PySem.W.Frag} {mg : Str → Option Value} {base : Heap} (T : Tx K mg)
include T
theorem tab_uni (p : Addr × Str) (hp : p ∈ tabT K) : (p.1 = (He.cT K ("law", none)).2 → p.2 = qnL) ∧ (p.1 = (He.cT K ("_law_works", none)).2 → p.2 = qnW) ∧ (p.1 = (He.cT K ("_law_others", none)).2 → p.2 = qnO) := by
  have h1 := T.tn_law__law_works
  have h2 := T.tn_law__law_others
  have h3 := T.tn__law_works__law_others
  simp only [tabT, List.mem_cons, List.not_mem_nil, or_false] at hp
  rcases hp with rfl | rfl | rfl
  · exact ⟨fun _ => rfl, fun e => absurd e h1, fun e => absurd e h2⟩
  · exact ⟨fun e => absurd e.symm h1, fun _ => rfl, fun e => absurd e h3⟩
  · exact ⟨fun e => absurd e.symm h2, fun e => absurd e.symm h3, fun _ => rfl⟩
theorem lm_need_ways {f c : Addr} {cells : List (Str × Addr)} (G : Fn_need_ways T P w base (L2.CX P w) 23 (spNYD K)) (pw yw : V) : LamW P w K mg base f (mkF (lmE s__law_works 0) qnW cells c) ["_law_program_here", "_law_ways_here"] [pw, yw] pw yw := by
  refine ⟨fun ws H Q E => ∃ pw yw, ws = [some pw, some yw] ∧ spNYD K [pw, yw] H Q E, lmok_of (N := ["_law_program_here", "_law_ways_here"]) (k := 24) (nscope_by (sc := lamC (lmE s__law_works 0)) (by decide +kernel)) (fun pm ctv => by rfl) (fun A outer s H ws Q E hr hl h => ?_), fun H wd h => ?_⟩
  · obtain ⟨pw, yw, rfl, h⟩ := h
    exact ⟨_, pe_call G (hr.mono (by omega)) (by rfl) T.g_need_ways T.k_need_ways T.bd_need_ways .nil (passes_call (L2.takes_of rfl rfl rfl rfl) (fun _ _ _ _ h => h)) (pa_cons (pv 0) (pa_cons (pv 1) pa_nil)), w_call (w_cons (w_v rfl (w_cons (w_v rfl (w_nil h)))))⟩
  · intro Q' E' h1 h2 h3
    obtain ⟨ws, ys, tp, ty, hs, hy, hc⟩ := h
    refine ⟨pw, yw, rfl, ws, ys, .cons tp (.cons ty .nil), hs, hy, ?_⟩
    rcases hc with ⟨hn, e⟩ | ⟨p, rfl, hok, hsp, hsm, hoy, e⟩
    · exact .inl ⟨hn, fun H' e1 => h2 e H' e1⟩
    · exact .inr ⟨p, rfl, hok, (fun q => by rw [hoy] at q; cases q), fun _ H' e1 => h3 e H' e1⟩
theorem lm_parted {f c : Addr} {cells : List (Str × Addr)} (G : Fn_parted T P w base (L2.CX P w) 24 (spRf3 K)) (pw yw : V) : LamW P w K mg base f (mkF (lmE s__law_works 1) qnW cells c) ["_law_program_here", "_law_ways_here"] [pw, yw] pw yw := by
  refine ⟨fun ws H Q E => ∃ pw yw, ws = [some pw, some yw] ∧ spRf3 K [pw, yw, yw] H Q E, lmok_of (N := ["_law_program_here", "_law_ways_here"]) (k := 24) (nscope_by (sc := lamC (lmE s__law_works 1)) (by decide +kernel)) (fun pm ctv => by rfl) (fun A outer s H ws Q E hr hl h => ?_), fun H wd h => ?_⟩
  · obtain ⟨pw, yw, rfl, h⟩ := h
    exact ⟨_, pe_call G (hr.mono (by omega)) (by rfl) T.g_parted T.k_parted T.bd_parted .nil (passes_call (L2.takes_of rfl rfl rfl rfl) (fun _ _ _ _ h => h)) (pa_cons (pv 0) (pa_cons (pv 1) (pa_cons (pv 1) pa_nil))), w_call (w_cons (w_v rfl (w_cons (w_v rfl (w_cons (w_v rfl (w_nil h)))))))⟩
  · intro Q' E' h1 h2 h3
    obtain ⟨ws, ys, tp, ty, hs, hy, hc⟩ := h
    refine ⟨pw, yw, rfl, pw, yw, yw, ws, ys, ys, rfl, tp, ty, ty, hs, hy, hy, ?_⟩
    rcases hc with ⟨hn, e⟩ | ⟨p, rfl, hok, hsp, hsm, hoy, e⟩
    · exact .inl ⟨hn, fun H' e1 => h2 e H' e1⟩
    · exact .inr (.inl ⟨p, rfl, hok, hsp, hsm, hoy, fun H' e1 => h3 e H' e1⟩)
theorem lm_mixed {f c : Addr} {cells : List (Str × Addr)} (G : Fn_mixed T P w base (L2.CX P w) 24 (spRf2 K)) (pw yw : V) : LamW P w K mg base f (mkF (lmE s__law_works 2) qnW cells c) ["_law_program_here", "_law_ways_here"] [pw, yw] pw yw := by
  refine ⟨fun ws H Q E => ∃ pw yw, ws = [some pw, some yw] ∧ spRf2 K [pw, yw] H Q E, lmok_of (N := ["_law_program_here", "_law_ways_here"]) (k := 24) (nscope_by (sc := lamC (lmE s__law_works 2)) (by decide +kernel)) (fun pm ctv => by rfl) (fun A outer s H ws Q E hr hl h => ?_), fun H wd h => ?_⟩
  · obtain ⟨pw, yw, rfl, h⟩ := h
    exact ⟨_, pe_call G (hr.mono (by omega)) (by rfl) T.g_mixed T.k_mixed T.bd_mixed .nil (passes_call (L2.takes_of rfl rfl rfl rfl) (fun _ _ _ _ h => h)) (pa_cons (pv 0) (pa_cons (pv 1) pa_nil)), w_call (w_cons (w_v rfl (w_cons (w_v rfl (w_nil h)))))⟩
  · intro Q' E' h1 h2 h3
    obtain ⟨ws, ys, tp, ty, hs, hy, hc⟩ := h
    refine ⟨pw, yw, rfl, pw, yw, ws, ys, rfl, tp, ty, hs, hy, ?_⟩
    rcases hc with ⟨hn, e⟩ | ⟨p, rfl, hok, hsp, hsm, hoy, e⟩
    · exact .inl ⟨hn, fun H' e1 => h2 e H' e1⟩
    · exact .inr ⟨p, rfl, hok, hsp, hsm, hoy, fun H' e1 => h3 e H' e1⟩
theorem lm_may_set {f c : Addr} {cells : List (Str × Addr)} (G : Fn_may_set T P w base (L2.CX P w) 24 (spRf2 K)) (pw yw : V) : LamW P w K mg base f (mkF (lmE s__law_works 3) qnW cells c) ["_law_program_here", "_law_ways_here"] [pw, yw] pw yw := by
  refine ⟨fun ws H Q E => ∃ pw yw, ws = [some pw, some yw] ∧ spRf2 K [pw, yw] H Q E, lmok_of (N := ["_law_program_here", "_law_ways_here"]) (k := 24) (nscope_by (sc := lamC (lmE s__law_works 3)) (by decide +kernel)) (fun pm ctv => by rfl) (fun A outer s H ws Q E hr hl h => ?_), fun H wd h => ?_⟩
  · obtain ⟨pw, yw, rfl, h⟩ := h
    exact ⟨_, pe_call G (hr.mono (by omega)) (by rfl) T.g_may_set T.k_may_set T.bd_may_set .nil (passes_call (L2.takes_of rfl rfl rfl rfl) (fun _ _ _ _ h => h)) (pa_cons (pv 0) (pa_cons (pv 1) pa_nil)), w_call (w_cons (w_v rfl (w_cons (w_v rfl (w_nil h)))))⟩
  · intro Q' E' h1 h2 h3
    obtain ⟨ws, ys, tp, ty, hs, hy, hc⟩ := h
    refine ⟨pw, yw, rfl, pw, yw, ws, ys, rfl, tp, ty, hs, hy, ?_⟩
    rcases hc with ⟨hn, e⟩ | ⟨p, rfl, hok, hsp, hsm, hoy, e⟩
    · exact .inl ⟨hn, fun H' e1 => h2 e H' e1⟩
    · exact .inr ⟨p, rfl, hok, hsp, hsm, hoy, fun H' e1 => h3 e H' e1⟩
theorem lm_ran {f c : Addr} {cells : List (Str × Addr)} (G : Fn_ran T P w base (L2.CX P w) 24 (spRfR K)) (pw yw cw : V) : LamW P w K mg base f (mkF (lmE s__law_works 4) qnW cells c) ["_law_program_here", "_law_ways_here", "_law_cells_here"] [pw, yw, cw] pw yw := by
  refine ⟨fun ws H Q E => ∃ pw yw cw, ws = [some pw, some yw, some cw] ∧ spRfR K [pw, yw, cw] H Q E, lmok_of (N := ["_law_program_here", "_law_ways_here", "_law_cells_here"]) (k := 24) (nscope_by (sc := lamC (lmE s__law_works 4)) (by decide +kernel)) (fun pm ctv => by rfl) (fun A outer s H ws Q E hr hl h => ?_), fun H wd h => ?_⟩
  · obtain ⟨pw, yw, cw, rfl, h⟩ := h
    exact ⟨_, pe_call G (hr.mono (by omega)) (by rfl) T.g_ran T.k_ran T.bd_ran .nil (passes_call (L2.takes_of rfl rfl rfl rfl) (fun _ _ _ _ h => h)) (pa_cons (pv 0) (pa_cons (pv 1) (pa_cons (pv 2) pa_nil))), w_call (w_cons (w_v rfl (w_cons (w_v rfl (w_cons (w_v rfl (w_nil h)))))))⟩
  · intro Q' E' h1 h2 h3
    obtain ⟨ws, ys, tp, ty, hs, hy, hc⟩ := h
    refine ⟨pw, yw, cw, rfl, pw, yw, cw, ws, ys, rfl, tp, ty, hs, hy, ?_⟩
    rcases hc with ⟨hn, e⟩ | ⟨p, rfl, hok, hsp, hsm, hoy, e⟩
    · exact .inl ⟨hn, fun H' e1 => h2 e H' e1⟩
    · exact .inr ⟨p, rfl, hok, hsp, hsm, hoy, fun H' e1 => h3 e H' e1⟩
theorem lm_placed {f c : Addr} {cells : List (Str × Addr)} (G : Fn_placed T P w base (L2.CX P w) 24 (spRf2 K)) (pw yw : V) : LamW P w K mg base f (mkF (lmE s__law_works 5) qnW cells c) ["_law_program_here", "_law_ways_here"] [pw, yw] pw yw := by
  refine ⟨fun ws H Q E => ∃ pw yw, ws = [some pw, some yw] ∧ spRf2 K [pw, yw] H Q E, lmok_of (N := ["_law_program_here", "_law_ways_here"]) (k := 24) (nscope_by (sc := lamC (lmE s__law_works 5)) (by decide +kernel)) (fun pm ctv => by rfl) (fun A outer s H ws Q E hr hl h => ?_), fun H wd h => ?_⟩
  · obtain ⟨pw, yw, rfl, h⟩ := h
    exact ⟨_, pe_call G (hr.mono (by omega)) (by rfl) T.g_placed T.k_placed T.bd_placed .nil (passes_call (L2.takes_of rfl rfl rfl rfl) (fun _ _ _ _ h => h)) (pa_cons (pv 0) (pa_cons (pv 1) pa_nil)), w_call (w_cons (w_v rfl (w_cons (w_v rfl (w_nil h)))))⟩
  · intro Q' E' h1 h2 h3
    obtain ⟨ws, ys, tp, ty, hs, hy, hc⟩ := h
    refine ⟨pw, yw, rfl, pw, yw, ws, ys, rfl, tp, ty, hs, hy, ?_⟩
    rcases hc with ⟨hn, e⟩ | ⟨p, rfl, hok, hsp, hsm, hoy, e⟩
    · exact .inl ⟨hn, fun H' e1 => h2 e H' e1⟩
    · exact .inr ⟨p, rfl, hok, hsp, hsm, hoy, fun H' e1 => h3 e H' e1⟩
theorem lm_wanted {f c : Addr} {cells : List (Str × Addr)} (G : Fn_wanted T P w base (L2.CX P w) 24 (spRf2 K)) (pw yw : V) : LamW P w K mg base f (mkF (lmE s__law_works 6) qnW cells c) ["_law_program_here", "_law_ways_here"] [pw, yw] pw yw := by
  refine ⟨fun ws H Q E => ∃ pw yw, ws = [some pw, some yw] ∧ spRf2 K [pw, yw] H Q E, lmok_of (N := ["_law_program_here", "_law_ways_here"]) (k := 24) (nscope_by (sc := lamC (lmE s__law_works 6)) (by decide +kernel)) (fun pm ctv => by rfl) (fun A outer s H ws Q E hr hl h => ?_), fun H wd h => ?_⟩
  · obtain ⟨pw, yw, rfl, h⟩ := h
    exact ⟨_, pe_call G (hr.mono (by omega)) (by rfl) T.g_wanted T.k_wanted T.bd_wanted .nil (passes_call (L2.takes_of rfl rfl rfl rfl) (fun _ _ _ _ h => h)) (pa_cons (pv 0) (pa_cons (pv 1) pa_nil)), w_call (w_cons (w_v rfl (w_cons (w_v rfl (w_nil h)))))⟩
  · intro Q' E' h1 h2 h3
    obtain ⟨ws, ys, tp, ty, hs, hy, hc⟩ := h
    refine ⟨pw, yw, rfl, pw, yw, ws, ys, rfl, tp, ty, hs, hy, ?_⟩
    rcases hc with ⟨hn, e⟩ | ⟨p, rfl, hok, hsp, hsm, hoy, e⟩
    · exact .inl ⟨hn, fun H' e1 => h2 e H' e1⟩
    · exact .inr ⟨p, rfl, hok, hsp, hsm, hoy, fun H' e1 => h3 e H' e1⟩
theorem lm_o_need_program {f c : Addr} {cells : List (Str × Addr)} (G : Fn_need_program T P w base (L2.CX P w) 22 (spNPD K)) (pw : V) : LamO P w K mg base true f (mkF (lmE s__law_others 0) qnO cells c) ["_law_program_here"] [pw] pw := by
  refine ⟨fun ws H Q E => ∃ pw, ws = [some pw] ∧ spNPD K [pw] H Q E, lmok_of (N := ["_law_program_here"]) (k := 24) (nscope_by (sc := lamC (lmE s__law_others 0)) (by decide +kernel)) (fun pm ctv => by rfl) (fun A outer s H ws Q E hr hl h => ?_), fun H wd h => ?_⟩
  · obtain ⟨pw, rfl, h⟩ := h
    exact ⟨_, pe_call G (hr.mono (by omega)) (by rfl) T.g_need_program T.k_need_program T.bd_need_program .nil (passes_call (L2.takes_of rfl rfl rfl rfl) (fun _ _ _ _ h => h)) (pa_cons (pv 0) pa_nil), w_call (w_cons (w_v rfl (w_nil h)))⟩
  · intro Q' E' h1 h2 h3
    obtain ⟨ws, tp, hs, hc⟩ := h
    refine ⟨pw, rfl, ws, .cons tp .nil, hs, ?_⟩
    rcases hc with ⟨hn, e⟩ | ⟨_, hn, e⟩
    · exact ⟨(fun q => by rw [hn] at q; cases q), fun _ H' e1 => h2 e H' e1⟩
    · exact ⟨fun _ H' e1 => h1 e _ H' e1, (fun q => by rw [hn] at q; cases q)⟩
theorem lm_o_written {f c : Addr} {cells : List (Str × Addr)} (G : Fn_written T P w base (L2.CX P w) 24 (spRfN K)) (pw : V) : LamO P w K mg base true f (mkF (lmE s__law_others 1) qnO cells c) ["_law_program_here"] [pw] pw := by
  refine ⟨fun ws H Q E => ∃ pw, ws = [some pw] ∧ spRfN K [pw] H Q E, lmok_of (N := ["_law_program_here"]) (k := 24) (nscope_by (sc := lamC (lmE s__law_others 1)) (by decide +kernel)) (fun pm ctv => by rfl) (fun A outer s H ws Q E hr hl h => ?_), fun H wd h => ?_⟩
  · obtain ⟨pw, rfl, h⟩ := h
    exact ⟨_, pe_call G (hr.mono (by omega)) (by rfl) T.g_written T.k_written T.bd_written .nil (passes_call (L2.takes_of rfl rfl rfl rfl) (fun _ _ _ _ h => h)) (pa_cons (pv 0) pa_nil), w_call (w_cons (w_v rfl (w_nil h)))⟩
  · intro Q' E' h1 h2 h3
    obtain ⟨ws, tp, hs, hc⟩ := h
    refine ⟨pw, rfl, pw, ws, rfl, tp, hs, ?_⟩
    rcases hc with ⟨hn, e⟩ | ⟨_, hn, e⟩
    · exact .inl ⟨hn, fun H' e1 => h2 e H' e1⟩
    · exact .inr ⟨hn, fun v H' e1 => h1 e v H' e1⟩
theorem lm_o_classes {f c : Addr} {cells : List (Str × Addr)} (G : Fn_classes T P w base (L2.CX P w) 24 (spRf1 K)) (pw : V) : LamO P w K mg base false f (mkF (lmE s__law_others 2) qnO cells c) ["_law_program_here"] [pw] pw := by
  refine ⟨fun ws H Q E => ∃ pw, ws = [some pw] ∧ spRf1 K [pw] H Q E, lmok_of (N := ["_law_program_here"]) (k := 24) (nscope_by (sc := lamC (lmE s__law_others 2)) (by decide +kernel)) (fun pm ctv => by rfl) (fun A outer s H ws Q E hr hl h => ?_), fun H wd h => ?_⟩
  · obtain ⟨pw, rfl, h⟩ := h
    exact ⟨_, pe_call G (hr.mono (by omega)) (by rfl) T.g_classes T.k_classes T.bd_classes .nil (passes_call (L2.takes_of rfl rfl rfl rfl) (fun _ _ _ _ h => h)) (pa_cons (pv 0) pa_nil), w_call (w_cons (w_v rfl (w_nil h)))⟩
  · intro Q' E' h1 h2 h3
    obtain ⟨ws, tp, hs, hc⟩ := h
    refine ⟨pw, rfl, pw, ws, rfl, tp, hs, ?_⟩
    rcases hc with ⟨hn, e⟩ | ⟨q, _, e⟩
    · exact ⟨hn, fun H' e1 => h2 e H' e1⟩
    · cases q
end
end Hw

set_option maxRecDepth 100000
set_option maxHeartbeats 4000000
/-! KL6: the defs that tell lambdas -/
namespace Hw
open PySem PySem.Spec PyProof.Rows L2 Evl LamX NdefX LamK
local macro_rules | `(tactic| walk_at "dd") => `(tactic| first | rfl | decide | (simp; done) | omega)
local macro_rules | `(tactic| walk_at "td") => `(tactic| first | assumption | exact Td.int _ | exact Td.bl _ | exact Td.str _ | exact Td.non | exact Td.tup (by assumption) (by assumption))
local macro_rules | `(tactic| walk_at "ev") => `(tactic| first
  | exact ed_ci | exact ed_cs | exact ed_cb | exact ed_cn
  | (apply ed_cg; assumption)
  | (apply ed_var; (rfl); (walk_at "td"))
  | (apply ed_ixT; (walk_at "ev"); (walk_at "ev"); (first | rfl | assumption))
  | (apply ed_rowI; (rfl); (assumption); (walk_at "ev"); (rfl))
  | (apply ed_ixL; (apply EvDL.rd; walk_at "edl"); (walk_at "ev"); (rfl))
  | (apply ed_intb; (walk_at "ev"))
  | (apply ed_len; walk_at "ev")
  | (apply ed_lenV; (apply ev_rowR; (rfl); (assumption); (walk_at "ev"); (rfl)); (assumption))
  | (apply ed_Ii; (walk_at "ev"); (walk_at "ev"); (walk_at "cc"))
  | (apply ed_isi; (walk_at "ev"); (rfl))
  | (apply ed_I0i; (walk_at "ev"); (walk_at "ev"))
  | (apply ed_I0b; (walk_at "ev"); (walk_at "ev"))
  | (apply ed_eqi; (walk_at "ev"); (walk_at "ev"))
  | (apply ed_nei; (walk_at "ev"); (walk_at "ev"))
  | (apply ed_andF; walk_at "ev")
  | (apply ed_andV; (walk_at "ev"); (intro _; walk_at "ev"))
  | (apply ed_orT; walk_at "ev")
  | (apply ed_orV; (walk_at "ev"); (intro _; walk_at "ev"))
  | (apply ed_notT; walk_at "ev")
  | (apply ed_notF; walk_at "ev")
  | (apply ed_notV; walk_at "ev")
  | (apply ed_chain; (walk_at "ev"); (walk_at "ev"); (intro _; walk_at "ev"))
  | (apply ed_eqS; (walk_at "ev"); (walk_at "ev"); (walk_at "bb"); (walk_at "bb"))
  | (apply ed_neS; (walk_at "ev"); (walk_at "ev"); (walk_at "bb"); (walk_at "bb"))
  | (apply ed_inT; (walk_at "ev"); (walk_at "ev"); (rfl); (rfl))
  | (apply ed_niT; (walk_at "ev"); (walk_at "ev"); (rfl); (rfl))
  | (apply ed_tup; (walk_at "eva"); (walk_at "bb"))
  | (apply ed_sl; (walk_at "ev"); (walk_at "evo"); (walk_at "evo"))
  | (apply ed_eqN; (apply EvDL.rd; walk_at "edl"); (walk_at "edl"); (walk_at "bb"))
  | (apply ed_neN; (apply EvDL.rd; walk_at "edl"); (walk_at "edl"); (walk_at "bb"))
  | (apply ed_ixL; (apply edr_var; (rfl); (assumption); (assumption)); (walk_at "ev"); (first | rfl | assumption))
  | (apply ed_lenL; (apply edr_var; (rfl); (assumption); (assumption)))
  | (apply ed_call; (walk_at "eva"); (walk_at "post")))
local macro_rules | `(tactic| walk_at "edl") => `(tactic| first
  | assumption
  | (apply edl_lst; (walk_at "eva"); (walk_at "bb")))
local macro_rules | `(tactic| walk_at "eva") => `(tactic| first
  | exact eda_nil
  | (apply eda_cons; (walk_at "ev"); (walk_at "eva")))
local macro_rules | `(tactic| walk_at "evo") => `(tactic| first
  | exact eok_none
  | (apply eok_some; walk_at "ev"))
local macro_rules | `(tactic| walk_at "bb") => `(tactic| first | rfl | assumption | (simp; done) | (simp; omega) | decide +kernel)
local macro_rules | `(tactic| walk_at "et") => `(tactic| first
  | exact tk_yes
  | (apply tk_andF; walk_at "et")
  | (apply tk_and; (walk_at "et"); (intro _; walk_at "et"))
  | (apply tk_orT; walk_at "et")
  | (apply tk_or; (walk_at "et"); (intro _; walk_at "et"))
  | (apply tk_notT; walk_at "et")
  | (apply tk_notF; walk_at "et")
  | (apply tk_not; walk_at "et")
  | (apply tk_v; walk_at "ev")
  | (apply tk_vB; walk_at "ev"))
local macro_rules | `(tactic| walk_at "if") => `(tactic| first
  | (apply pst_whenF; (walk_at "et"); (walk_at "bb"))
  | (apply pst_whenT; (walk_at "et"); (walk_at "bb")))
local macro_rules | `(tactic| walk_at "post") => `(tactic| first | assumption | exact ⟨_, _, rfl, rfl⟩ | exact ⟨_, _, _, _, rfl, by omega, by omega, rfl⟩ | exact ⟨_, _, _, 0, rfl, by omega, by omega, rfl⟩)
local macro_rules | `(tactic| walk_at "cc") => `(tactic| first | assumption | decide | omega | (refine ⟨?_, ?_⟩ <;> first | decide | omega) | (exact Or.inl (by constructor <;> omega)))

/-- the three tables of the law's defs -/
structure TBs (K : PySem.W.Frag) (mg : Str → Option Value) (base : Heap) : Prop where
  l : TabB base mg (He.cT K ("law", none)).1 (He.cT K ("law", none)).2
  w : TabB base mg (He.cT K ("_law_works", none)).1 (He.cT K ("_law_works", none)).2
  o : TabB base mg (He.cT K ("_law_others", none)).1 (He.cT K ("_law_others", none)).2
theorem tabs_upd {Ts : List (Addr × Str)} {G : Hp} {lp : Addr} {xs ys : List V} (h : Tabs Ts G) (hl : G lp = some (.lst xs)) : Tabs Ts (upd G lp (.lst ys)) := fun p hp => by
  obtain ⟨ps, a, b, c⟩ := h p hp
  refine ⟨ps, by rw [upd_ne (ne_of a hl (fun z => by cases z))]; exact a, b, fun q cv hq => ?_⟩
  obtain ⟨c0, e1, e2⟩ := c q cv hq
  exact ⟨c0, e1, by rw [upd_ne (ne_of e2 hl (fun z => by unfold CodeO at z; cases z))]; exact e2⟩
theorem tabs_new {Ts : List (Addr × Str)} {G : Hp} {lp : Addr} {o : HO} (h : Tabs Ts G) (hl : G lp = none) : Tabs Ts (upd G lp o) := h.ext fun b u e => (upd_ne (ne_of_none e hl)).trans e
theorem pe_mkE {X : Cx} {Ts : List (Addr × Str)} {cm Pt : Addr} {qn : Str} (l : Expr) (pos : Pos) (hl : l = .Lambda (lamP l) (lamB l) (lamC l) pos) (hqn : X.env.qual ++ "<lambda>" = qn) (TB : TabB X.base X.mg cm Pt) (hcode : X.env.code = .ref cm) (hmem : (Pt, qn) ∈ Ts) (huni : ∀ p ∈ Ts, p.1 = Pt → p.2 = qn)
    (hdef : defaultsOf (lamP l) X.env = ([], [])) (L : LamS X.env.scope (lamC l)) : PE X l (tMkL Ts fun co => mkF l qn X.env.cells co) := by
  have e : PE X (.Lambda (lamP l) (lamB l) (lamC l) pos) (tMkL Ts fun co => mkF l qn X.env.cells co) := pe_mkL (X := X) (params := lamP l) (body := lamB l) (scope := lamC l) (pos := pos) hqn TB hcode hmem huni hdef L
  rw [← hl] at e
  exact e
/-- the lambdas L were made so far, they stand in the list at lp -/
structure WSt (K : PySem.W.Frag) (H0 H : Hp) (lp : Addr) (L : List (Addr × LF)) : Prop where
  e : ExtN H0 H
  t : Tabs (tabT K) H
  n : H0 lp = none
  l : H lp = some (.lst (L.map fun p => V.ref p.1))
  k : ∀ p ∈ L, H p.1 = some (LmO p.1 p.2) ∧ H p.2.c = some (CodeO p.2.c p.2.qual)
theorem wst_new {K : PySem.W.Frag} {H0 G : Hp} {lp f : Addr} {F : LF} (e : ExtN H0 G) (back : ∀ b, G b = none → H0 b = none) (t : Tabs (tabT K) G) (hk : G f = some (LmO f F)) (hc : G F.c = some (CodeO F.c F.qual)) (hlp : G lp = none) : WSt K H0 (upd G lp (.lst [V.ref f])) lp [(f, F)] := by
  refine ⟨fun b o h n => ?_, tabs_new t hlp, back _ hlp, upd_same, fun p hp => ?_⟩
  · have := e b o h n
    rw [upd_ne (ne_of_none this hlp)]
    exact this
  · obtain rfl : p = (f, F) := by simpa using hp
    exact ⟨by rw [upd_ne (ne_of_none hk hlp)]; exact hk, by rw [upd_ne (ne_of_none hc hlp)]; exact hc⟩
theorem wst_add {K : PySem.W.Frag} {H0 H G : Hp} {lp f : Addr} {F : LF} {L : List (Addr × LF)} (s : WSt K H0 H lp L) (e : ExtN H G) (t : Tabs (tabT K) G) (hk : G f = some (LmO f F)) (hc : G F.c = some (CodeO F.c F.qual)) : WSt K H0 (upd G lp (.lst ((L.map fun p => V.ref p.1) ++ [V.ref f]))) lp (L ++ [(f, F)]) := by
  have hl : G lp = some (.lst (L.map fun p => V.ref p.1)) := e _ _ s.l fun ps z => by cases z
  have ne : ∀ {b o}, G b = some o → (∀ xs, o ≠ .lst xs) → upd G lp (.lst ((L.map fun p => V.ref p.1) ++ [V.ref f])) b = some o := fun {b o} h n => by
    rw [upd_ne (ne_of h hl (n _))]
    exact h
  refine ⟨fun b o h n => ?_, tabs_upd t hl, s.n, by rw [upd_same, List.map_append]; rfl, fun p hp => ?_⟩
  · have h2 := e b o (s.e b o h n) n
    rw [upd_ne (ne_of_none h s.n)]
    exact h2
  · rcases List.mem_append.mp hp with hp | hp
    · obtain ⟨h1, h2⟩ := s.k p hp
      exact ⟨ne (e _ _ h1 lmO_ne) (fun xs z => by unfold LmO at z; cases z), ne (e _ _ h2 codeO_ne) (fun xs z => by unfold CodeO at z; cases z)⟩
    · obtain rfl : p = (f, F) := by simpa using hp
      exact ⟨ne hk (fun xs z => by unfold LmO at z; cases z), ne hc (fun xs z => by unfold CodeO at z; cases z)⟩
theorem wst_size {L : List (Addr × LF)} (h : L.length ≤ 100) : (L.map fun p => V.ref p.1).length < sizeLine := by
  rw [List.length_map]
  have := sizeLine_eq
  omega
/-- what is known of a lambda behind the end of the def that made it -/
theorem known_of {X : Cx} {H'' : Hp} {f c : Addr} {e : Expr} {qn : Str} {fr : List Str} {us : List V} {l : List (Nat × Str × V)} (ok : X.Ok) (S : NScope fr [] fr (lamC e)) (L : LamS X.env.scope (lamC e)) (hk : H'' f = some (LmO f (mkF e qn X.env.cells c))) (hc : H'' c = some (CodeO c qn))
    (hcells : ∀ p ∈ l, ∀ a, X.env.cells.lookup p.2.1 = some a → H'' a = some (CellO a p.2.2)) (hlen : us.length = fr.length) (hm : ∀ (i : Nat) (y : Str), fr[i]? = some y → ∃ p ∈ l, p.2.1 = y ∧ us[i]? = some p.2.2) : KnownL H'' f (mkF e qn X.env.cells c) fr us := by
  have hfree := L.has ok
  have one : ∀ y a, (cloFrom X.env.cells (lamC e).names []).lookup y = some a → X.env.cells.lookup y = some a ∧ y ∈ fr := fun y a h => by
    refine ⟨clo_cm hfree h, ?_⟩
    rcases cloFrom_mem (PySem.mem_of_lookup h) with z | ⟨z, _⟩
    · cases z
    · exact S.free _ z rfl
  refine ⟨hk, hc, hlen, fun x y a h1 h2 => ok.inj x y a (one x a h1).1 (one y a h2).1, fun y a h => ?_, fun i y h => ?_⟩
  · obtain ⟨h1, h2⟩ := one y a h
    obtain ⟨i, hi⟩ := List.mem_iff_getElem?.mp h2
    obtain ⟨p, hp, e1, _⟩ := hm i y hi
    exact ⟨_, hcells p hp a (by rw [e1]; exact h1)⟩
  · obtain ⟨p, hp, e1, e2⟩ := hm i y h
    have hy : (y, NameKind.free) ∈ (lamC e).names := PySem.mem_of_lookup (S.frk y (List.mem_of_getElem? h))
    obtain ⟨a, ha⟩ := hfree _ hy rfl
    exact ⟨a, p.2.2, clo_has hfree hy ha, e2, hcells p hp a (by rw [e1]; exact ha)⟩
def spWorks (P : Program) (w : World) (K : PySem.W.Frag) (mg : Str → Option Value) (base : Heap) : Sp := fun vs H Q _ => ∃ pw yw cw : V, vs = [pw, yw, cw] ∧ Tabs (tabT K) H ∧ ∀ (lp : Addr) (fs : List Addr) (H' : Hp), ExtN H H' → Tabs (tabT K) H' → H lp = none → H' lp = some (.lst (fs.map V.ref)) → fs.length = 7 →
  (∀ f ∈ fs, ∃ F fr us, KnownL H' f F fr us ∧ LamW P w K mg base f F fr us pw yw) → Q (.ref lp) H'
def spOthers (P : Program) (w : World) (K : PySem.W.Frag) (mg : Str → Option Value) (base : Heap) : Sp := fun vs H Q _ => ∃ pw : V, vs = [pw] ∧ Tabs (tabT K) H ∧ ∀ (lp f0 f1 f2 : Addr) (H' : Hp), ExtN H H' → Tabs (tabT K) H' → H lp = none → H' lp = some (.lst [V.ref f0, V.ref f1, V.ref f2]) →
  (∃ F fr us, KnownL H' f0 F fr us ∧ LamO P w K mg base true f0 F fr us pw) → (∃ F fr us, KnownL H' f1 F fr us ∧ LamO P w K mg base true f1 F fr us pw) → (∃ F fr us, KnownL H' f2 F fr us ∧ LamO P w K mg base false f2 F fr us pw) → Q (.ref lp) H'
section
variable {P : Program} {w : World} {K : PySem.W.Frag} {mg : Str → Option Value} {base : Heap} (T : Tx K mg)
include T
theorem ok_works (TB : TBs K mg base) (N0 : Fn_need_ways T P w base (L2.CX P w) 23 (spNYD K)) (N1 : Fn_parted T P w base (L2.CX P w) 24 (spRf3 K)) (N2 : Fn_mixed T P w base (L2.CX P w) 24 (spRf2 K)) (N3 : Fn_may_set T P w base (L2.CX P w) 24 (spRf2 K)) (N4 : Fn_ran T P w base (L2.CX P w) 24 (spRfR K)) (N5 : Fn_placed T P w base (L2.CX P w) 24 (spRf2 K)) (N6 : Fn_wanted T P w base (L2.CX P w) 24 (spRf2 K)) : Fn__law_works T P w base CX0 25 (spWorks P w K mg base) := by
  refine ⟨fun vs H Q E h => by obtain ⟨_, _, _, rfl, _⟩ := h; rfl, fun A outer s H args us vs Q E hr env0 hb r h => ?_⟩
  obtain ⟨pw, yw, cw, rfl, hT, kq⟩ := h
  refine run_fdC (N := ["_law_program_here", "_law_ways_here", "_law_cells_here", "_law_works_here"]) (ps := ["_law_program_here", "_law_ways_here", "_law_cells_here"]) (pt := ("_law_works", none)) T.F__law_works sc__law_works rfl hr env0 hb r rfl fun cdv hcd hr => ?_
  subst hcd
  refine ⟨_, (pf_cons (ps_set (i := 3) sc__law_works.nd rfl (Or.inl rfl) (pe_lst (pa_cons (pe_mkE (lmE s__law_works 0) _ (by rfl) (Ts := tabT K) (cm := (He.cT K ("_law_works", none)).1) (Pt := (He.cT K ("_law_works", none)).2) (qn := qnW) rfl TB.w rfl (by simp [tabT]) (fun p hp e => (tab_uni T p hp).2.1 e) (by rfl) (lamS_by (sc := defScope s__law_works) (scope := lamC (lmE s__law_works 0)) (by decide +kernel))) pa_nil)))
      (pf_cons (ps_expr (pe_bm PySem.F.plainAttrs_list PySem.F.slot_list_append PySem.F.type_list_append mt_append (pv 3) (pa_cons (pe_mkE (lmE s__law_works 1) _ (by rfl) (Ts := tabT K) (cm := (He.cT K ("_law_works", none)).1) (Pt := (He.cT K ("_law_works", none)).2) (qn := qnW) rfl TB.w rfl (by simp [tabT]) (fun p hp e => (tab_uni T p hp).2.1 e) (by rfl) (lamS_by (sc := defScope s__law_works) (scope := lamC (lmE s__law_works 1)) (by decide +kernel))) pa_nil)))
      (pf_cons (ps_expr (pe_bm PySem.F.plainAttrs_list PySem.F.slot_list_append PySem.F.type_list_append mt_append (pv 3) (pa_cons (pe_mkE (lmE s__law_works 2) _ (by rfl) (Ts := tabT K) (cm := (He.cT K ("_law_works", none)).1) (Pt := (He.cT K ("_law_works", none)).2) (qn := qnW) rfl TB.w rfl (by simp [tabT]) (fun p hp e => (tab_uni T p hp).2.1 e) (by rfl) (lamS_by (sc := defScope s__law_works) (scope := lamC (lmE s__law_works 2)) (by decide +kernel))) pa_nil)))
      (pf_cons (ps_expr (pe_bm PySem.F.plainAttrs_list PySem.F.slot_list_append PySem.F.type_list_append mt_append (pv 3) (pa_cons (pe_mkE (lmE s__law_works 3) _ (by rfl) (Ts := tabT K) (cm := (He.cT K ("_law_works", none)).1) (Pt := (He.cT K ("_law_works", none)).2) (qn := qnW) rfl TB.w rfl (by simp [tabT]) (fun p hp e => (tab_uni T p hp).2.1 e) (by rfl) (lamS_by (sc := defScope s__law_works) (scope := lamC (lmE s__law_works 3)) (by decide +kernel))) pa_nil)))
      (pf_cons (ps_expr (pe_bm PySem.F.plainAttrs_list PySem.F.slot_list_append PySem.F.type_list_append mt_append (pv 3) (pa_cons (pe_mkE (lmE s__law_works 4) _ (by rfl) (Ts := tabT K) (cm := (He.cT K ("_law_works", none)).1) (Pt := (He.cT K ("_law_works", none)).2) (qn := qnW) rfl TB.w rfl (by simp [tabT]) (fun p hp e => (tab_uni T p hp).2.1 e) (by rfl) (lamS_by (sc := defScope s__law_works) (scope := lamC (lmE s__law_works 4)) (by decide +kernel))) pa_nil)))
      (pf_cons (ps_expr (pe_bm PySem.F.plainAttrs_list PySem.F.slot_list_append PySem.F.type_list_append mt_append (pv 3) (pa_cons (pe_mkE (lmE s__law_works 5) _ (by rfl) (Ts := tabT K) (cm := (He.cT K ("_law_works", none)).1) (Pt := (He.cT K ("_law_works", none)).2) (qn := qnW) rfl TB.w rfl (by simp [tabT]) (fun p hp e => (tab_uni T p hp).2.1 e) (by rfl) (lamS_by (sc := defScope s__law_works) (scope := lamC (lmE s__law_works 5)) (by decide +kernel))) pa_nil)))
      (pf_cons (ps_expr (pe_bm PySem.F.plainAttrs_list PySem.F.slot_list_append PySem.F.type_list_append mt_append (pv 3) (pa_cons (pe_mkE (lmE s__law_works 6) _ (by rfl) (Ts := tabT K) (cm := (He.cT K ("_law_works", none)).1) (Pt := (He.cT K ("_law_works", none)).2) (qn := qnW) rfl TB.w rfl (by simp [tabT]) (fun p hp e => (tab_uni T p hp).2.1 e) (by rfl) (lamS_by (sc := defScope s__law_works) (scope := lamC (lmE s__law_works 6)) (by decide +kernel))) pa_nil)))
      (pf_ret (pv 3))))))))), ?_⟩
  refine w_asg (w_lst (w_cons ⟨hT, fun f0 co0 G0 e0 b0 t0 n0 k0 c0 => w_nil ⟨(by show 1 ≤ sizeLine; decide), fun lp hlp => ?_⟩⟩))
  have s0 := wst_new e0 b0 t0 k0 c0 hlp
  generalize upd G0 lp (.lst [V.ref f0]) = H0 at s0 ⊢
  dsimp only
  refine w_app (K := K) rfl s0.l ⟨s0.t, fun f1 co1 G1 e1 b1 t1 n1 k1 c1 => ⟨_, e1 _ _ s0.l (fun ps z => by cases z), wst_size (by simp), ?_⟩⟩
  have s1 := wst_add s0 e1 t1 k1 c1
  generalize upd G1 lp _ = H1 at s1 ⊢
  dsimp only
  refine w_app (K := K) rfl s1.l ⟨s1.t, fun f2 co2 G2 e2 b2 t2 n2 k2 c2 => ⟨_, e2 _ _ s1.l (fun ps z => by cases z), wst_size (by simp), ?_⟩⟩
  have s2 := wst_add s1 e2 t2 k2 c2
  generalize upd G2 lp _ = H2 at s2 ⊢
  dsimp only
  refine w_app (K := K) rfl s2.l ⟨s2.t, fun f3 co3 G3 e3 b3 t3 n3 k3 c3 => ⟨_, e3 _ _ s2.l (fun ps z => by cases z), wst_size (by simp), ?_⟩⟩
  have s3 := wst_add s2 e3 t3 k3 c3
  generalize upd G3 lp _ = H3 at s3 ⊢
  dsimp only
  refine w_app (K := K) rfl s3.l ⟨s3.t, fun f4 co4 G4 e4 b4 t4 n4 k4 c4 => ⟨_, e4 _ _ s3.l (fun ps z => by cases z), wst_size (by simp), ?_⟩⟩
  have s4 := wst_add s3 e4 t4 k4 c4
  generalize upd G4 lp _ = H4 at s4 ⊢
  dsimp only
  refine w_app (K := K) rfl s4.l ⟨s4.t, fun f5 co5 G5 e5 b5 t5 n5 k5 c5 => ⟨_, e5 _ _ s4.l (fun ps z => by cases z), wst_size (by simp), ?_⟩⟩
  have s5 := wst_add s4 e5 t5 k5 c5
  generalize upd G5 lp _ = H5 at s5 ⊢
  dsimp only
  refine w_app (K := K) rfl s5.l ⟨s5.t, fun f6 co6 G6 e6 b6 t6 n6 k6 c6 => ⟨_, e6 _ _ s5.l (fun ps z => by cases z), wst_size (by simp), ?_⟩⟩
  have s6 := wst_add s5 e6 t6 k6 c6
  generalize upd G6 lp _ = H6 at s6 ⊢
  dsimp only
  refine w_v rfl fun ok => ⟨[(0, "_law_program_here", pw), (1, "_law_ways_here", yw), (2, "_law_cells_here", cw)], (show (["_law_program_here", "_law_ways_here", "_law_cells_here"] : List Str).Nodup from by decide +kernel), fun p hp => ?_, fun H'' hex hcells => ?_⟩
  · simp only [List.mem_cons, List.not_mem_nil, or_false] at hp
    rcases hp with rfl | rfl | rfl
    · exact ⟨rfl, rfl, (show (defScope s__law_works).names.lookup ("_law_program_here" : Str) = some NameKind.cell from by decide +kernel)⟩
    · exact ⟨rfl, rfl, (show (defScope s__law_works).names.lookup ("_law_ways_here" : Str) = some NameKind.cell from by decide +kernel)⟩
    · exact ⟨rfl, rfl, (show (defScope s__law_works).names.lookup ("_law_cells_here" : Str) = some NameKind.cell from by decide +kernel)⟩
  refine kq lp [f0, f1, f2, f3, f4, f5, f6] H'' (fun b o h n => hex _ _ (s6.e b o h n)) (s6.t.ext hex) s6.n (hex _ _ s6.l) rfl fun f hf => ?_
  have m2 : ∀ (i : Nat) (y : Str), (["_law_program_here", "_law_ways_here"] : List Str)[i]? = some y → ∃ p ∈ ([(0, "_law_program_here", pw), (1, "_law_ways_here", yw), (2, "_law_cells_here", cw)] : List (Nat × Str × V)), p.2.1 = y ∧ ([pw, yw] : List V)[i]? = some p.2.2 := fun i y h => by
    match i, h with
    | 0, h => cases h; exact ⟨_, List.mem_cons_self, rfl, rfl⟩
    | 1, h => cases h; exact ⟨_, List.mem_cons_of_mem _ List.mem_cons_self, rfl, rfl⟩
  have m3 : ∀ (i : Nat) (y : Str), (["_law_program_here", "_law_ways_here", "_law_cells_here"] : List Str)[i]? = some y → ∃ p ∈ ([(0, "_law_program_here", pw), (1, "_law_ways_here", yw), (2, "_law_cells_here", cw)] : List (Nat × Str × V)), p.2.1 = y ∧ ([pw, yw, cw] : List V)[i]? = some p.2.2 := fun i y h => by
    match i, h with
    | 0, h => cases h; exact ⟨_, List.mem_cons_self, rfl, rfl⟩
    | 1, h => cases h; exact ⟨_, List.mem_cons_of_mem _ List.mem_cons_self, rfl, rfl⟩
    | 2, h => cases h; exact ⟨_, List.mem_cons_of_mem _ (List.mem_cons_of_mem _ List.mem_cons_self), rfl, rfl⟩
  simp only [List.mem_cons, List.not_mem_nil, or_false] at hf
  rcases hf with e | e | e | e | e | e | e
  · rw [e]
    exact ⟨_, _, _, known_of (e := lmE s__law_works 0) ok (nscope_by (sc := lamC (lmE s__law_works 0)) (by decide +kernel)) (lamS_by (sc := defScope s__law_works) (scope := lamC (lmE s__law_works 0)) (by decide +kernel)) (hex _ _ (s6.k (f0, _) (List.mem_append_left _ (List.mem_append_left _ (List.mem_append_left _ (List.mem_append_left _ (List.mem_append_left _ (List.mem_append_left _ List.mem_cons_self))))))).1) (hex _ _ (s6.k (f0, _) (List.mem_append_left _ (List.mem_append_left _ (List.mem_append_left _ (List.mem_append_left _ (List.mem_append_left _ (List.mem_append_left _ List.mem_cons_self))))))).2) hcells rfl m2, lm_need_ways T N0 pw yw⟩
  · rw [e]
    exact ⟨_, _, _, known_of (e := lmE s__law_works 1) ok (nscope_by (sc := lamC (lmE s__law_works 1)) (by decide +kernel)) (lamS_by (sc := defScope s__law_works) (scope := lamC (lmE s__law_works 1)) (by decide +kernel)) (hex _ _ (s6.k (f1, _) (List.mem_append_left _ (List.mem_append_left _ (List.mem_append_left _ (List.mem_append_left _ (List.mem_append_left _ (List.mem_append_right _ List.mem_cons_self))))))).1) (hex _ _ (s6.k (f1, _) (List.mem_append_left _ (List.mem_append_left _ (List.mem_append_left _ (List.mem_append_left _ (List.mem_append_left _ (List.mem_append_right _ List.mem_cons_self))))))).2) hcells rfl m2, lm_parted T N1 pw yw⟩
  · rw [e]
    exact ⟨_, _, _, known_of (e := lmE s__law_works 2) ok (nscope_by (sc := lamC (lmE s__law_works 2)) (by decide +kernel)) (lamS_by (sc := defScope s__law_works) (scope := lamC (lmE s__law_works 2)) (by decide +kernel)) (hex _ _ (s6.k (f2, _) (List.mem_append_left _ (List.mem_append_left _ (List.mem_append_left _ (List.mem_append_left _ (List.mem_append_right _ List.mem_cons_self)))))).1) (hex _ _ (s6.k (f2, _) (List.mem_append_left _ (List.mem_append_left _ (List.mem_append_left _ (List.mem_append_left _ (List.mem_append_right _ List.mem_cons_self)))))).2) hcells rfl m2, lm_mixed T N2 pw yw⟩
  · rw [e]
    exact ⟨_, _, _, known_of (e := lmE s__law_works 3) ok (nscope_by (sc := lamC (lmE s__law_works 3)) (by decide +kernel)) (lamS_by (sc := defScope s__law_works) (scope := lamC (lmE s__law_works 3)) (by decide +kernel)) (hex _ _ (s6.k (f3, _) (List.mem_append_left _ (List.mem_append_left _ (List.mem_append_left _ (List.mem_append_right _ List.mem_cons_self))))).1) (hex _ _ (s6.k (f3, _) (List.mem_append_left _ (List.mem_append_left _ (List.mem_append_left _ (List.mem_append_right _ List.mem_cons_self))))).2) hcells rfl m2, lm_may_set T N3 pw yw⟩
  · rw [e]
    exact ⟨_, _, _, known_of (e := lmE s__law_works 4) ok (nscope_by (sc := lamC (lmE s__law_works 4)) (by decide +kernel)) (lamS_by (sc := defScope s__law_works) (scope := lamC (lmE s__law_works 4)) (by decide +kernel)) (hex _ _ (s6.k (f4, _) (List.mem_append_left _ (List.mem_append_left _ (List.mem_append_right _ List.mem_cons_self)))).1) (hex _ _ (s6.k (f4, _) (List.mem_append_left _ (List.mem_append_left _ (List.mem_append_right _ List.mem_cons_self)))).2) hcells rfl m3, lm_ran T N4 pw yw cw⟩
  · rw [e]
    exact ⟨_, _, _, known_of (e := lmE s__law_works 5) ok (nscope_by (sc := lamC (lmE s__law_works 5)) (by decide +kernel)) (lamS_by (sc := defScope s__law_works) (scope := lamC (lmE s__law_works 5)) (by decide +kernel)) (hex _ _ (s6.k (f5, _) (List.mem_append_left _ (List.mem_append_right _ List.mem_cons_self))).1) (hex _ _ (s6.k (f5, _) (List.mem_append_left _ (List.mem_append_right _ List.mem_cons_self))).2) hcells rfl m2, lm_placed T N5 pw yw⟩
  · rw [e]
    exact ⟨_, _, _, known_of (e := lmE s__law_works 6) ok (nscope_by (sc := lamC (lmE s__law_works 6)) (by decide +kernel)) (lamS_by (sc := defScope s__law_works) (scope := lamC (lmE s__law_works 6)) (by decide +kernel)) (hex _ _ (s6.k (f6, _) (List.mem_append_right _ List.mem_cons_self)).1) (hex _ _ (s6.k (f6, _) (List.mem_append_right _ List.mem_cons_self)).2) hcells rfl m2, lm_wanted T N6 pw yw⟩
theorem ok_others (TB : TBs K mg base) (N0 : Fn_need_program T P w base (L2.CX P w) 22 (spNPD K)) (N1 : Fn_written T P w base (L2.CX P w) 24 (spRfN K)) (N2 : Fn_classes T P w base (L2.CX P w) 24 (spRf1 K)) : Fn__law_others T P w base CX0 25 (spOthers P w K mg base) := by
  refine ⟨fun vs H Q E h => by obtain ⟨_, rfl, _⟩ := h; rfl, fun A outer s H args us vs Q E hr env0 hb r h => ?_⟩
  obtain ⟨pw, rfl, hT, kq⟩ := h
  refine run_fdC (N := ["_law_program_here", "_law_works_here"]) (ps := ["_law_program_here"]) (pt := ("_law_others", none)) T.F__law_others sc__law_others rfl hr env0 hb r rfl fun cdv hcd hr => ?_
  subst hcd
  refine ⟨_, (pf_cons (ps_set (i := 1) sc__law_others.nd rfl (Or.inl rfl) (pe_lst (pa_cons (pe_mkE (lmE s__law_others 0) _ (by rfl) (Ts := tabT K) (cm := (He.cT K ("_law_others", none)).1) (Pt := (He.cT K ("_law_others", none)).2) (qn := qnO) rfl TB.o rfl (by simp [tabT]) (fun p hp e => (tab_uni T p hp).2.2 e) (by rfl) (lamS_by (sc := defScope s__law_others) (scope := lamC (lmE s__law_others 0)) (by decide +kernel))) pa_nil)))
      (pf_cons (ps_expr (pe_bm PySem.F.plainAttrs_list PySem.F.slot_list_append PySem.F.type_list_append mt_append (pv 1) (pa_cons (pe_mkE (lmE s__law_others 1) _ (by rfl) (Ts := tabT K) (cm := (He.cT K ("_law_others", none)).1) (Pt := (He.cT K ("_law_others", none)).2) (qn := qnO) rfl TB.o rfl (by simp [tabT]) (fun p hp e => (tab_uni T p hp).2.2 e) (by rfl) (lamS_by (sc := defScope s__law_others) (scope := lamC (lmE s__law_others 1)) (by decide +kernel))) pa_nil)))
      (pf_cons (ps_expr (pe_bm PySem.F.plainAttrs_list PySem.F.slot_list_append PySem.F.type_list_append mt_append (pv 1) (pa_cons (pe_mkE (lmE s__law_others 2) _ (by rfl) (Ts := tabT K) (cm := (He.cT K ("_law_others", none)).1) (Pt := (He.cT K ("_law_others", none)).2) (qn := qnO) rfl TB.o rfl (by simp [tabT]) (fun p hp e => (tab_uni T p hp).2.2 e) (by rfl) (lamS_by (sc := defScope s__law_others) (scope := lamC (lmE s__law_others 2)) (by decide +kernel))) pa_nil)))
      (pf_ret (pv 1))))), ?_⟩
  refine w_asg (w_lst (w_cons ⟨hT, fun f0 co0 G0 e0 b0 t0 n0 k0 c0 => w_nil ⟨(by show 1 ≤ sizeLine; decide), fun lp hlp => ?_⟩⟩))
  have s0 := wst_new e0 b0 t0 k0 c0 hlp
  generalize upd G0 lp (.lst [V.ref f0]) = H0 at s0 ⊢
  dsimp only
  refine w_app (K := K) rfl s0.l ⟨s0.t, fun f1 co1 G1 e1 b1 t1 n1 k1 c1 => ⟨_, e1 _ _ s0.l (fun ps z => by cases z), wst_size (by simp), ?_⟩⟩
  have s1 := wst_add s0 e1 t1 k1 c1
  generalize upd G1 lp _ = H1 at s1 ⊢
  dsimp only
  refine w_app (K := K) rfl s1.l ⟨s1.t, fun f2 co2 G2 e2 b2 t2 n2 k2 c2 => ⟨_, e2 _ _ s1.l (fun ps z => by cases z), wst_size (by simp), ?_⟩⟩
  have s2 := wst_add s1 e2 t2 k2 c2
  generalize upd G2 lp _ = H2 at s2 ⊢
  dsimp only
  refine w_v rfl fun ok => ⟨[(0, "_law_program_here", pw)], (show (["_law_program_here"] : List Str).Nodup from by decide +kernel), fun p hp => ?_, fun H'' hex hcells => ?_⟩
  · simp only [List.mem_cons, List.not_mem_nil, or_false] at hp
    rcases hp with rfl
    exact ⟨rfl, rfl, (show (defScope s__law_others).names.lookup ("_law_program_here" : Str) = some NameKind.cell from by decide +kernel)⟩
  have m1 : ∀ (i : Nat) (y : Str), (["_law_program_here"] : List Str)[i]? = some y → ∃ p ∈ ([(0, "_law_program_here", pw)] : List (Nat × Str × V)), p.2.1 = y ∧ ([pw] : List V)[i]? = some p.2.2 := fun i y h => by
    match i, h with
    | 0, h => cases h; exact ⟨_, List.mem_cons_self, rfl, rfl⟩
  exact kq lp f0 f1 f2 H'' (fun b o h n => hex _ _ (s2.e b o h n)) (s2.t.ext hex) s2.n (hex _ _ s2.l)
    ⟨_, _, _, known_of (e := lmE s__law_others 0) ok (nscope_by (sc := lamC (lmE s__law_others 0)) (by decide +kernel)) (lamS_by (sc := defScope s__law_others) (scope := lamC (lmE s__law_others 0)) (by decide +kernel)) (hex _ _ (s2.k (f0, _) (List.mem_append_left _ (List.mem_append_left _ List.mem_cons_self))).1) (hex _ _ (s2.k (f0, _) (List.mem_append_left _ (List.mem_append_left _ List.mem_cons_self))).2) hcells rfl m1, lm_o_need_program T N0 pw⟩
    ⟨_, _, _, known_of (e := lmE s__law_others 1) ok (nscope_by (sc := lamC (lmE s__law_others 1)) (by decide +kernel)) (lamS_by (sc := defScope s__law_others) (scope := lamC (lmE s__law_others 1)) (by decide +kernel)) (hex _ _ (s2.k (f1, _) (List.mem_append_left _ (List.mem_append_right _ List.mem_cons_self))).1) (hex _ _ (s2.k (f1, _) (List.mem_append_left _ (List.mem_append_right _ List.mem_cons_self))).2) hcells rfl m1, lm_o_written T N1 pw⟩
    ⟨_, _, _, known_of (e := lmE s__law_others 2) ok (nscope_by (sc := lamC (lmE s__law_others 2)) (by decide +kernel)) (lamS_by (sc := defScope s__law_others) (scope := lamC (lmE s__law_others 2)) (by decide +kernel)) (hex _ _ (s2.k (f2, _) (List.mem_append_right _ List.mem_cons_self)).1) (hex _ _ (s2.k (f2, _) (List.mem_append_right _ List.mem_cons_self)).2) hcells rfl m1, lm_o_classes T N2 pw⟩
end
end Hw

set_option maxRecDepth 100000
set_option maxHeartbeats 4000000
/-! KL7: odd steps, things and steps within others -/
namespace Hw
open PySem PySem.Spec PyProof.Rows L2 Evl
local macro_rules | `(tactic| walk_at "dd") => `(tactic| first | rfl | decide | (simp; done) | omega)
local macro_rules | `(tactic| walk_at "td") => `(tactic| first | assumption | exact Td.int _ | exact Td.bl _ | exact Td.str _ | exact Td.non | exact Td.tup (by assumption) (by assumption))
local macro_rules | `(tactic| walk_at "ev") => `(tactic| first
  | exact ed_ci | exact ed_cs | exact ed_cb | exact ed_cn
  | (apply ed_cg; assumption)
  | (apply ed_var; (rfl); (walk_at "td"))
  | (apply ed_ixT; (walk_at "ev"); (walk_at "ev"); (first | rfl | assumption))
  | (apply ed_rowI; (rfl); (assumption); (walk_at "ev"); (rfl))
  | (apply ed_ixL; (apply EvDL.rd; walk_at "edl"); (walk_at "ev"); (rfl))
  | (apply ed_intb; (walk_at "ev"))
  | (apply ed_len; walk_at "ev")
  | (apply ed_lenV; (apply ev_rowR; (rfl); (assumption); (walk_at "ev"); (rfl)); (assumption))
  | (apply ed_Ii; (walk_at "ev"); (walk_at "ev"); (walk_at "cc"))
  | (apply ed_isi; (walk_at "ev"); (rfl))
  | (apply ed_I0i; (walk_at "ev"); (walk_at "ev"))
  | (apply ed_I0b; (walk_at "ev"); (walk_at "ev"))
  | (apply ed_eqi; (walk_at "ev"); (walk_at "ev"))
  | (apply ed_nei; (walk_at "ev"); (walk_at "ev"))
  | (apply ed_andF; walk_at "ev")
  | (apply ed_andV; (walk_at "ev"); (intro _; walk_at "ev"))
  | (apply ed_orT; walk_at "ev")
  | (apply ed_orV; (walk_at "ev"); (intro _; walk_at "ev"))
  | (apply ed_notT; walk_at "ev")
  | (apply ed_notF; walk_at "ev")
  | (apply ed_notV; walk_at "ev")
  | (apply ed_chain; (walk_at "ev"); (walk_at "ev"); (intro _; walk_at "ev"))
  | (apply ed_eqS; (walk_at "ev"); (walk_at "ev"); (walk_at "bb"); (walk_at "bb"))
  | (apply ed_neS; (walk_at "ev"); (walk_at "ev"); (walk_at "bb"); (walk_at "bb"))
  | (apply ed_inT; (walk_at "ev"); (walk_at "ev"); (rfl); (rfl))
  | (apply ed_niT; (walk_at "ev"); (walk_at "ev"); (rfl); (rfl))
  | (apply ed_tup; (walk_at "eva"); (walk_at "bb"))
  | (apply ed_sl; (walk_at "ev"); (walk_at "evo"); (walk_at "evo"))
  | (apply ed_eqN; (apply EvDL.rd; walk_at "edl"); (walk_at "edl"); (walk_at "bb"))
  | (apply ed_neN; (apply EvDL.rd; walk_at "edl"); (walk_at "edl"); (walk_at "bb"))
  | (apply ed_ixL; (apply edr_var; (rfl); (assumption); (assumption)); (walk_at "ev"); (first | rfl | assumption))
  | (apply ed_lenL; (apply edr_var; (rfl); (assumption); (assumption)))
  | (apply ed_call; (walk_at "eva"); (walk_at "post")))
local macro_rules | `(tactic| walk_at "edl") => `(tactic| first
  | assumption
  | (apply edl_lst; (walk_at "eva"); (walk_at "bb")))
local macro_rules | `(tactic| walk_at "eva") => `(tactic| first
  | exact eda_nil
  | (apply eda_cons; (walk_at "ev"); (walk_at "eva")))
local macro_rules | `(tactic| walk_at "evo") => `(tactic| first
  | exact eok_none
  | (apply eok_some; walk_at "ev"))
local macro_rules | `(tactic| walk_at "bb") => `(tactic| first | rfl | assumption | (simp; done) | (simp; omega) | decide +kernel)
local macro_rules | `(tactic| walk_at "et") => `(tactic| first
  | exact tk_yes
  | (apply tk_andF; walk_at "et")
  | (apply tk_and; (walk_at "et"); (intro _; walk_at "et"))
  | (apply tk_orT; walk_at "et")
  | (apply tk_or; (walk_at "et"); (intro _; walk_at "et"))
  | (apply tk_notT; walk_at "et")
  | (apply tk_notF; walk_at "et")
  | (apply tk_not; walk_at "et")
  | (apply tk_v; walk_at "ev")
  | (apply tk_vB; walk_at "ev"))
local macro_rules | `(tactic| walk_at "if") => `(tactic| first
  | (apply pst_whenF; (walk_at "et"); (walk_at "bb"))
  | (apply pst_whenT; (walk_at "et"); (walk_at "bb")))
local macro_rules | `(tactic| walk_at "post") => `(tactic| first | assumption | exact ⟨_, _, rfl, rfl⟩ | exact ⟨_, _, _, _, rfl, by omega, by omega, rfl⟩ | exact ⟨_, _, _, 0, rfl, by omega, by omega, rfl⟩)
local macro_rules | `(tactic| walk_at "cc") => `(tactic| first | assumption | decide | omega | (refine ⟨?_, ?_⟩ <;> first | decide | omega) | (exact Or.inl (by constructor <;> omega)))

def GoodD (d : PyData) : Prop := d.canLay0 = true ∧ smD d = true
section
variable {K : PySem.W.Frag} {σ : L2.St} {H H' : Hp} {Q : VK} {E : XK} {te tl ta tb tr : TE} {ds es : List PyData} {r s lp : Addr} {ns : List Int} {n m : Nat} {c : Int} {xs : List V} {D : Ends} {tu tz : TS}
theorem RowAt.kp (R : RowAt K s ns H r) (f : Fr [r] H H') : Keep K H H' := f.keep fun a ha => by rw [List.mem_singleton.mp ha]; exact R.mu
/-- one of some, drawn -/
theorem w_pickL (hs : σ[n]? = some (some (.ref r))) (R : RowAt K s ns H r) (hn : ns.length ≤ 63) (h : EvDL K tl σ H ds) (hm : ds.length = m) (h0 : 0 < m) (h1 : m ≤ 1000) (hc : c = (m : Int))
    (k : ∀ (i : Nat) d v H', ds[i]? = some d → Fr [r] H H' → RowAt K s ns H' r → Td K H' v d → Q v H') : tOp (rIxL K) tl (tCall (spTaken K) [] E (tCons (tVar n) (tCons (tC (.int c)) tNil))) σ H Q :=
  w_op (w_dl h fun lp xs H1 hp e1 hx ta => w_taken hs (R.ex e1) hn ed_ci (by omega) (by omega) fun i H2 hi f2 R2 => by
    have hd : ds[i]? = some (ds[i]'(by omega)) := List.getElem?_eq_getElem (by omega)
    obtain ⟨v, hv, tv⟩ := ta.get hd
    have nr : lp ≠ r := fun e => by
      obtain ⟨u, hu, _⟩ := R.mu
      rw [e, hu] at hp
      cases hp
    exact ⟨lp, xs, (i : Int), v, rfl, rfl, SqL.of (f2 lp _ (by simpa using nr) hx), atI_nat hv, k i _ v H2 hd ((Fr.of e1).trans f2) R2 (tv.kp ((R.ex e1).kp f2))⟩)
theorem w_pickV {j : Nat} (hs : σ[n]? = some (some (.ref r))) (R : RowAt K s ns H r) (hn : ns.length ≤ 63) (hj : σ[j]? = some (some (.ref lp))) (hx : H lp = some (.lst xs)) (ta : TdAll K H xs ds) (nr : lp ≠ r) (hm : ds.length = m) (h0 : 0 < m) (h1 : m ≤ 1000) (hc : c = (m : Int))
    (k : ∀ (i : Nat) d v H', ds[i]? = some d → Fr [r] H H' → RowAt K s ns H' r → Td K H' v d → Q v H') : tOp (rIxL K) (tVar j) (tCall (spTaken K) [] E (tCons (tVar n) (tCons (tC (.int c)) tNil))) σ H Q :=
  w_op (w_v hj (w_taken hs R hn ed_ci (by omega) (by omega) fun i H2 hi f2 R2 => by
    have hd : ds[i]? = some (ds[i]'(by omega)) := List.getElem?_eq_getElem (by omega)
    obtain ⟨v, hv, tv⟩ := ta.get hd
    exact ⟨lp, xs, (i : Int), v, rfl, rfl, SqL.of (f2 lp _ (by simpa using nr) hx), atI_nat hv, k i _ v H2 hd f2 R2 (tv.kp (R.kp f2))⟩))
/-- a list in a slot, and another one -/
theorem edl_catV {j : Nat} (hj : σ[j]? = some (some (.ref lp))) (hx : H lp = some (.lst xs)) (ta : TdAll K H xs ds) (hb : EvDL K tb σ H es) (hl : ds.length + es.length ≤ 100000) : EvDL K (tOp rCat (tVar j) tb) σ H (ds ++ es) := fun H1 a Q q =>
  ⟨.ref lp, hj, hb H1 a _ fun p' ys H3 hp' e3 hy ht' => ⟨lp, p', xs, ys, rfl, rfl, e3 _ _ (a _ _ hx), hy, by rw [ht'.length, ta.length]; exact sz_of (by omega), fun q2 hq => q q2 (xs ++ ys) _ (fresh_back e3 hq) (e3.trans (Ex.new hq)) upd_same (((ta.ex (a.trans e3)).append ht').ex (Ex.new hq))⟩⟩
/-- xs.append(e) -/
theorem w_appD {d : PyData} {j : Nat} (hj : σ[j]? = some (some (.ref lp))) (hx : H lp = some (.lst xs)) (ta : TdAll K H xs ds) (h : EvD K te σ H d) (hl : ds.length ≤ 100) (k : ∀ H' ys, Fr [lp] H H' → H' lp = some (.lst ys) → TdAll K H' ys (ds ++ [d]) → D.nx σ H') :
    tDrop (tBM K "list" rAppend (tVar j) (tCons te tNil)) D σ H := w_app hj hx (w_d h fun v H1 e1 tv => ⟨xs, e1 _ _ hx, by have := ta.length; have := sizeLine_eq; omega, by
      have kp : Keep K H1 (upd H1 lp (.lst (xs ++ [v]))) := Keep.upd (e1 _ _ hx) True.intro
      exact k _ (xs ++ [v]) ((Fr.of e1).trans (Fr.upd List.mem_cons_self)) upd_same (((ta.ex e1).snoc tv).kp kp)⟩)
end
def spDeep (K : PySem.W.Frag) : Sp := fun vs H Q _ => ∃ (r s : Addr) (ns : List Int) (v : V) (d : PyData) (n : Nat), vs = [.ref r, v, .int (n : Int)] ∧ RowAt K s ns H r ∧ ns.length ≤ 63 ∧ Td K H v d ∧ GoodD d ∧ n ≤ 1000 ∧
  ∀ v' d' H', GoodD d' → Fr [r] H H' → RowAt K s ns H' r → Td K H' v' d' → Q v' H'
def spOdd (K : PySem.W.Frag) : Sp := fun vs H Q _ => ∃ (r s : Addr) (ns : List Int), vs = [.ref r] ∧ RowAt K s ns H r ∧ ns.length ≤ 63 ∧ ∀ v' d' H', GoodD d' → Fr [r] H H' → RowAt K s ns H' r → Td K H' v' d' → Q v' H'
def oneD : PyData := .tuple [.str "num", .int 1]
def celD : PyData := .tuple [.str "cell", oneD]
def odd1 : List PyData := [.tuple [.str "set", oneD, oneD], .tuple [.str "set", .tuple [.str "sum", celD, celD], oneD], .tuple [.str "sat", celD, oneD], .tuple [.str "set", celD], .tuple [.str "say"]]
def odd2 : PyData := .tuple [.str "say", .int 1]
def odd3 : List PyData := [.tuple [.str "say", .tuple [.str "num", .int 3]], .tuple [.str "say", .tuple [.str "num", .int (0 - 1)]], .tuple [.str "say", .tuple [.str "own", .int 99]], .tuple [.str "say", .tuple [.str "par", .int 3]], .tuple [.str "say", .tuple []]]
def odd4 : List PyData := [.tuple [.str "say", .tuple [.str "cell", .int 1]], .tuple [.str "say", .tuple [.str "num", oneD]], .tuple [.str "say", .tuple [.str "sum", oneD]], .tuple [.str "say", .tuple [.str "num", .int 1, .int 1]], .tuple []]
def odd5 : List PyData := [.tuple [.str "if", oneD, .tuple []], .tuple [.str "if", oneD, .tuple [], .tuple [], .tuple []], .tuple [.str "if", oneD, celD, .tuple []], .tuple [.str "call", .int 0, .tuple []], .tuple [.str "call", .int 4, .tuple []]]
def odd6 : List PyData := [.tuple [.str "call", .int 3, .tuple [oneD, oneD, oneD, oneD]], .tuple [.str "call", oneD, .tuple []], .tuple [.str "call", .int 1, .int 1], .tuple [.str "set", celD, oneD, oneD]]
def odd7 : List PyData := [.tuple [.str "say", .tuple [.str "cell"]], .tuple [.str "say", .tuple [.str "num", .bool true]], .tuple [.str "say", .tuple [.str "worth", .int 1]], .tuple [.str "set", celD, oneD]]
def odd8 : PyData := .tuple [.str "if", .int 1, .tuple [], .tuple []]
def oddA : List PyData := (((((odd1 ++ [odd2]) ++ odd3) ++ odd4) ++ odd5) ++ odd6) ++ odd7 ++ [odd8]
theorem oddA_good : ∀ d ∈ oddA, GoodD d := fun d hd => by
  have h : (oddA.all fun d => d.canLay0 && smD d) = true := by decide +kernel
  have := List.all_eq_true.mp h d hd
  simpa [GoodD] using this
section
variable {P : Program} {w : World} {K : PySem.W.Frag} {mg : Str → Option Value} {base : Heap} (T : Tx K mg)
include T
theorem ok_deep (GT : Fn__law_taken T P w base CX0 1 (spTaken K)) : Fn__law_deep T P w base CX0 2 (spDeep K) := by
  have G__law_taken := GT
  refine T.F__law_deep.ok sc__law_deep (fun vs H Q E h => by obtain ⟨_, _, _, _, _, _, rfl, _⟩ := h; rfl) fun cdv A outer s0 H vs Q E hr h => ?_
  obtain ⟨r, s, ns, v, d, n, rfl, R, hn, tv, gd, hn2, k⟩ := h
  refine ⟨_, (pss_cons (ps_for (passes_of rfl) rfl (pi_range1 rfl T.b_range (pa_cons (pv 2) pa_nil)) (pg_name (i := 3) sc__law_deep.nd rfl (Or.inl rfl))
    (pss_one (ps_set (i := 1) sc__law_deep.nd rfl (Or.inl rfl) (pe_ix (kix_list K) (pe_lst (pa_cons (pe_tup (pa_cons pe_str (pa_cons (pv 1) pa_nil))) (pa_cons (pe_tup (pa_cons pe_str (pa_cons (pv 1) (pa_cons (pe_tup (pa_cons pe_str (pa_cons pe_int pa_nil))) pa_nil)))) (pa_cons (pe_tup (pa_cons pe_str (pa_cons (pe_tup (pa_cons pe_str (pa_cons pe_int pa_nil))) (pa_cons (pv 1) pa_nil)))) pa_nil)))) (pe_call G__law_taken (hr.mono (by omega)) (by rfl) T.g__law_taken T.k__law_taken T.bd__law_taken .nil pass0 (pa_cons (pv 0) (pa_cons pe_int pa_nil))) (fun _ _ => rfl)))))
  (pss_one (ps_ret (pv 1)))), ?_⟩
  refine w_seq (w_forR (K := K) (n := n) (eda_cons (ed_var rfl (.int _)) eda_nil) (by omega) (fun i σ' H' => ∃ (u : V) (d' : PyData) (u3 : Option V), σ' = [some (.ref r), some u, some (.int (n : Int)), u3] ∧ Fr [r] H H' ∧ RowAt K s ns H' r ∧ Td K H' u d' ∧ GoodD d') ?_ ?_ ?_)
  · exact fun H1 e1 => ⟨v, d, none, rfl, Fr.of e1, R.ex e1, tv.ex e1, gd⟩
  · rintro i σ' H1 hi ⟨u, d', u3, rfl, f1, R1, tu, gd'⟩
    dsimp only
    have one : ∀ {H2} {σ : L2.St}, EvD K (tTup (tCons (tC (.str "num")) (tCons (tC (.int 1)) tNil))) σ H2 (.tuple [.str "num", .int 1]) := ed_tup (eda_cons ed_cs (eda_cons ed_ci eda_nil)) (by simp)
    have two : ∀ {H2} {σ : L2.St}, EvD K (tTup (tCons (tC (.str "num")) (tCons (tC (.int 2)) tNil))) σ H2 (.tuple [.str "num", .int 2]) := ed_tup (eda_cons ed_cs (eda_cons ed_ci eda_nil)) (by simp)
    refine w_asg (w_pickL (m := 3) (ds := [.tuple [.str "cell", d'], .tuple [.str "sum", d', .tuple [.str "num", .int 1]], .tuple [.str "sum", .tuple [.str "num", .int 2], d']]) rfl R1 hn
      (edl_lst (eda_cons (ed_tup (eda_cons ed_cs (eda_cons (ed_var rfl tu) eda_nil)) (by simp)) (eda_cons (ed_tup (eda_cons ed_cs (eda_cons (ed_var rfl tu) (eda_cons one eda_nil))) (by simp)) (eda_cons (ed_tup (eda_cons ed_cs (eda_cons two (eda_cons (ed_var rfl tu) eda_nil))) (by simp)) eda_nil))) (by simp)) rfl (by decide) (by decide) rfl fun j e2 v2 H2 hj f2 R2 t2 => ?_)
    refine ⟨v2, e2, _, rfl, f1.trans f2, R2, t2, ?_⟩
    have w1 : PyData.strOk ("cell" : Str) = true := by decide +kernel
    have w2 : PyData.strOk ("sum" : Str) = true := by decide +kernel
    have w3 : PyData.strOk ("num" : Str) = true := by decide +kernel
    match j, hj with
    | 0, hj =>
      cases hj
      simp [GoodD, PyData.canLay0, PyData.canLayAll0, smD, smDs, gd'.1, gd'.2, w1]
    | 1, hj =>
      cases hj
      simp [GoodD, PyData.canLay0, PyData.canLayAll0, smD, smDs, gd'.1, gd'.2, w2, w3]
    | 2, hj =>
      cases hj
      simp [GoodD, PyData.canLay0, PyData.canLayAll0, smD, smDs, gd'.1, gd'.2, w2, w3]
  · rintro σ' H1 ⟨u, d', u3, rfl, f1, R1, tu, gd'⟩
    dsimp only
    exact w_ret (w_v rfl (k u d' H1 gd' f1 R1 tu))
theorem ok_around (GT : Fn__law_taken T P w base CX0 1 (spTaken K)) : Fn__law_around T P w base CX0 2 (spDeep K) := by
  have G__law_taken := GT
  refine T.F__law_around.ok sc__law_around (fun vs H Q E h => by obtain ⟨_, _, _, _, _, _, rfl, _⟩ := h; rfl) fun cdv A outer s0 H vs Q E hr h => ?_
  obtain ⟨r, s, ns, v, d, n, rfl, R, hn, tv, gd, hn2, k⟩ := h
  refine ⟨_, (pss_cons (ps_for (passes_of rfl) rfl (pi_range1 rfl T.b_range (pa_cons (pv 2) pa_nil)) (pg_name (i := 3) sc__law_around.nd rfl (Or.inl rfl))
    (pss_cons (ps_set (i := 4) sc__law_around.nd rfl (Or.inl rfl) (pe_lst (pa_cons (pe_tup (pa_cons pe_str (pa_cons (pe_tup (pa_cons pe_str (pa_cons pe_int pa_nil))) (pa_cons (pe_tup (pa_cons (pv 1) pa_nil)) (pa_cons (pe_tup pa_nil) pa_nil))))) (pa_cons (pe_tup (pa_cons pe_str (pa_cons (pe_tup (pa_cons pe_str (pa_cons pe_int pa_nil))) (pa_cons (pe_tup pa_nil) (pa_cons (pe_tup (pa_cons (pv 1) (pa_cons (pe_tup (pa_cons pe_str (pa_cons (pe_tup (pa_cons pe_str (pa_cons pe_int pa_nil))) pa_nil))) pa_nil))) pa_nil))))) pa_nil))))
    (pss_one (ps_set (i := 1) sc__law_around.nd rfl (Or.inl rfl) (pe_ix (kix_list K) (pv 4) (pe_call G__law_taken (hr.mono (by omega)) (by rfl) T.g__law_taken T.k__law_taken T.bd__law_taken .nil pass0 (pa_cons (pv 0) (pa_cons pe_int pa_nil))) (fun _ _ => rfl))))))
  (pss_one (ps_ret (pv 1)))), ?_⟩
  refine w_seq (w_forR (K := K) (n := n) (eda_cons (ed_var rfl (.int _)) eda_nil) (by omega) (fun i σ' H' => ∃ (u : V) (d' : PyData) (u3 u4 : Option V), σ' = [some (.ref r), some u, some (.int (n : Int)), u3, u4] ∧ Fr [r] H H' ∧ RowAt K s ns H' r ∧ Td K H' u d' ∧ GoodD d') ?_ ?_ ?_)
  · exact fun H1 e1 => ⟨v, d, none, none, rfl, Fr.of e1, R.ex e1, tv.ex e1, gd⟩
  · rintro i σ' H1 hi ⟨u, d', u3, u4, rfl, f1, R1, tu, gd'⟩
    dsimp only
    have one : ∀ {H2} {σ : L2.St}, EvD K (tTup (tCons (tC (.str "num")) (tCons (tC (.int 1)) tNil))) σ H2 (.tuple [.str "num", .int 1]) := ed_tup (eda_cons ed_cs (eda_cons ed_ci eda_nil)) (by simp)
    have nul : ∀ {H2} {σ : L2.St}, EvD K (tTup (tCons (tC (.str "num")) (tCons (tC (.int 0)) tNil))) σ H2 (.tuple [.str "num", .int 0]) := ed_tup (eda_cons ed_cs (eda_cons ed_ci eda_nil)) (by simp)
    have emp : ∀ {H2} {σ : L2.St}, EvD K (tTup tNil) σ H2 (.tuple []) := ed_tup eda_nil (by simp)
    refine w_seq (w_asg (w_dl (K := K) (ds := [.tuple [.str "if", .tuple [.str "num", .int 1], .tuple [d'], .tuple []], .tuple [.str "if", .tuple [.str "num", .int 0], .tuple [], .tuple [d', .tuple [.str "say", .tuple [.str "num", .int 0]]]]])
      (edl_lst (eda_cons (ed_tup (eda_cons ed_cs (eda_cons one (eda_cons (ed_tup (eda_cons (ed_var rfl tu) eda_nil) (by simp)) (eda_cons emp eda_nil)))) (by simp)) (eda_cons (ed_tup (eda_cons ed_cs (eda_cons nul (eda_cons emp (eda_cons (ed_tup (eda_cons (ed_var rfl tu) (eda_cons (ed_tup (eda_cons ed_cs (eda_cons nul eda_nil)) (by simp)) eda_nil)) (by simp)) eda_nil)))) (by simp)) eda_nil)) (by simp)) fun lp xs H2 hlp e2 hx ta => ?_))
    have nr : lp ≠ r := fun e => by
      obtain ⟨u, hu, _⟩ := R1.mu
      rw [e, hu] at hlp
      cases hlp
    dsimp only
    refine w_asg (w_pickV (m := 2) rfl (R1.ex e2) hn rfl hx ta nr rfl (by decide) (by decide) rfl fun j x2 v2 H3 hj f3 R3 t3 => ?_)
    refine ⟨v2, x2, _, _, rfl, (f1.trans (Fr.of e2)).trans f3, R3, t3, ?_⟩
    have w1 : PyData.strOk ("if" : Str) = true := by decide +kernel
    have w2 : PyData.strOk ("say" : Str) = true := by decide +kernel
    have w3 : PyData.strOk ("num" : Str) = true := by decide +kernel
    match j, hj with
    | 0, hj =>
      cases hj
      simp [GoodD, PyData.canLay0, PyData.canLayAll0, smD, smDs, gd'.1, gd'.2, w1, w3]
    | 1, hj =>
      cases hj
      simp [GoodD, PyData.canLay0, PyData.canLayAll0, smD, smDs, gd'.1, gd'.2, w1, w2, w3]
  · rintro σ' H1 ⟨u, d', u3, u4, rfl, f1, R1, tu, gd'⟩
    dsimp only
    exact w_ret (w_v rfl (k u d' H1 gd' f1 R1 tu))
theorem ok_odd (GT : Fn__law_taken T P w base CX0 1 (spTaken K)) : Fn__law_odd_step T P w base CX0 2 (spOdd K) := by
  have G__law_taken := GT
  refine T.F__law_odd_step.ok sc__law_odd_step (fun vs H Q E h => by obtain ⟨_, _, _, rfl, _⟩ := h; rfl) fun cdv A outer s0 H vs Q E hr h => ?_
  obtain ⟨r, s, ns, rfl, R, hn, k⟩ := h
  refine ⟨_, (pss_cons (ps_set (i := 1) sc__law_odd_step.nd rfl (Or.inl rfl) (pe_tup (pa_cons pe_str (pa_cons pe_int pa_nil))))
  (pss_cons (ps_set (i := 2) sc__law_odd_step.nd rfl (Or.inl rfl) (pe_tup (pa_cons pe_str (pa_cons (pv 1) pa_nil))))
  (pss_cons (ps_set (i := 3) sc__law_odd_step.nd rfl (Or.inl rfl) (pe_lst (pa_cons (pe_tup (pa_cons pe_str (pa_cons (pv 1) (pa_cons (pv 1) pa_nil)))) (pa_cons (pe_tup (pa_cons pe_str (pa_cons (pe_tup (pa_cons pe_str (pa_cons (pv 2) (pa_cons (pv 2) pa_nil)))) (pa_cons (pv 1) pa_nil)))) (pa_cons (pe_tup (pa_cons pe_str (pa_cons (pv 2) (pa_cons (pv 1) pa_nil)))) (pa_cons (pe_tup (pa_cons pe_str (pa_cons (pv 2) pa_nil))) (pa_cons (pe_tup (pa_cons pe_str pa_nil)) pa_nil)))))))
  (pss_cons (ps_expr (pe_bm PySem.F.plainAttrs_list PySem.F.slot_list_append PySem.F.type_list_append mt_append (pv 3) (pa_cons (pe_tup (pa_cons pe_str (pa_cons pe_int pa_nil))) pa_nil)))
  (pss_cons (ps_set (i := 3) sc__law_odd_step.nd rfl (Or.inl rfl) (pe_op op_cat (pv 3) (pe_lst (pa_cons (pe_tup (pa_cons pe_str (pa_cons (pe_tup (pa_cons pe_str (pa_cons pe_int pa_nil))) pa_nil))) (pa_cons (pe_tup (pa_cons pe_str (pa_cons (pe_tup (pa_cons pe_str (pa_cons (pe_op op_sub pe_int pe_int) pa_nil))) pa_nil))) (pa_cons (pe_tup (pa_cons pe_str (pa_cons (pe_tup (pa_cons pe_str (pa_cons pe_int pa_nil))) pa_nil))) (pa_cons (pe_tup (pa_cons pe_str (pa_cons (pe_tup (pa_cons pe_str (pa_cons pe_int pa_nil))) pa_nil))) (pa_cons (pe_tup (pa_cons pe_str (pa_cons (pe_tup pa_nil) pa_nil))) pa_nil))))))))
  (pss_cons (ps_set (i := 3) sc__law_odd_step.nd rfl (Or.inl rfl) (pe_op op_cat (pv 3) (pe_lst (pa_cons (pe_tup (pa_cons pe_str (pa_cons (pe_tup (pa_cons pe_str (pa_cons pe_int pa_nil))) pa_nil))) (pa_cons (pe_tup (pa_cons pe_str (pa_cons (pe_tup (pa_cons pe_str (pa_cons (pv 1) pa_nil))) pa_nil))) (pa_cons (pe_tup (pa_cons pe_str (pa_cons (pe_tup (pa_cons pe_str (pa_cons (pv 1) pa_nil))) pa_nil))) (pa_cons (pe_tup (pa_cons pe_str (pa_cons (pe_tup (pa_cons pe_str (pa_cons pe_int (pa_cons pe_int pa_nil)))) pa_nil))) (pa_cons (pe_tup pa_nil) pa_nil))))))))
  (pss_cons (ps_set (i := 3) sc__law_odd_step.nd rfl (Or.inl rfl) (pe_op op_cat (pv 3) (pe_lst (pa_cons (pe_tup (pa_cons pe_str (pa_cons (pv 1) (pa_cons (pe_tup pa_nil) pa_nil)))) (pa_cons (pe_tup (pa_cons pe_str (pa_cons (pv 1) (pa_cons (pe_tup pa_nil) (pa_cons (pe_tup pa_nil) (pa_cons (pe_tup pa_nil) pa_nil)))))) (pa_cons (pe_tup (pa_cons pe_str (pa_cons (pv 1) (pa_cons (pv 2) (pa_cons (pe_tup pa_nil) pa_nil))))) (pa_cons (pe_tup (pa_cons pe_str (pa_cons pe_int (pa_cons (pe_tup pa_nil) pa_nil)))) (pa_cons (pe_tup (pa_cons pe_str (pa_cons pe_int (pa_cons (pe_tup pa_nil) pa_nil)))) pa_nil))))))))
  (pss_cons (ps_set (i := 3) sc__law_odd_step.nd rfl (Or.inl rfl) (pe_op op_cat (pv 3) (pe_lst (pa_cons (pe_tup (pa_cons pe_str (pa_cons pe_int (pa_cons (pe_tup (pa_cons (pv 1) (pa_cons (pv 1) (pa_cons (pv 1) (pa_cons (pv 1) pa_nil))))) pa_nil)))) (pa_cons (pe_tup (pa_cons pe_str (pa_cons (pv 1) (pa_cons (pe_tup pa_nil) pa_nil)))) (pa_cons (pe_tup (pa_cons pe_str (pa_cons pe_int (pa_cons pe_int pa_nil)))) (pa_cons (pe_tup (pa_cons pe_str (pa_cons (pv 2) (pa_cons (pv 1) (pa_cons (pv 1) pa_nil))))) pa_nil)))))))
  (pss_cons (ps_set (i := 3) sc__law_odd_step.nd rfl (Or.inl rfl) (pe_op op_cat (pv 3) (pe_lst (pa_cons (pe_tup (pa_cons pe_str (pa_cons (pe_tup (pa_cons pe_str pa_nil)) pa_nil))) (pa_cons (pe_tup (pa_cons pe_str (pa_cons (pe_tup (pa_cons pe_str (pa_cons pe_bl pa_nil))) pa_nil))) (pa_cons (pe_tup (pa_cons pe_str (pa_cons (pe_tup (pa_cons pe_str (pa_cons pe_int pa_nil))) pa_nil))) (pa_cons (pe_tup (pa_cons pe_str (pa_cons (pv 2) (pa_cons (pv 1) pa_nil)))) pa_nil)))))))
  (pss_cons (ps_expr (pe_bm PySem.F.plainAttrs_list PySem.F.slot_list_append PySem.F.type_list_append mt_append (pv 3) (pa_cons (pe_tup (pa_cons pe_str (pa_cons pe_int (pa_cons (pe_tup pa_nil) (pa_cons (pe_tup pa_nil) pa_nil))))) pa_nil)))
  (pss_one (ps_ret (pe_ix (kix_list K) (pv 3) (pe_call G__law_taken (hr.mono (by omega)) (by rfl) T.g__law_taken T.k__law_taken T.bd__law_taken .nil pass0 (pa_cons (pv 0) (pa_cons pe_int pa_nil))) (fun _ _ => rfl)))))))))))))), ?_⟩
  refine w_seq (w_asg (w_d (K := K) (d := oneD) (ed_tup (eda_cons ed_cs (eda_cons ed_ci eda_nil)) (by simp)) fun v1 Ha e1 t1 => ?_))
  dsimp only
  refine w_seq (w_asg (w_d (K := K) (d := celD) (ed_tup (eda_cons ed_cs (eda_cons (ed_var rfl t1) eda_nil)) (by simp)) fun v2 Hb e2 t2 => ?_))
  replace t1 := t1.ex e2
  have R2 := (R.ex e1).ex e2
  have f2 : Fr [r] H Hb := Fr.of (e1.trans e2)
  dsimp only
  refine w_seq (w_asg (w_dl (K := K) (ds := odd1) (edl_lst (eda_cons (ed_tup (eda_cons ed_cs (eda_cons (ed_var rfl t1) (eda_cons (ed_var rfl t1) eda_nil))) (by simp)) (eda_cons (ed_tup (eda_cons ed_cs (eda_cons (ed_tup (eda_cons ed_cs (eda_cons (ed_var rfl t2) (eda_cons (ed_var rfl t2) eda_nil))) (by simp)) (eda_cons (ed_var rfl t1) eda_nil))) (by simp)) (eda_cons (ed_tup (eda_cons ed_cs (eda_cons (ed_var rfl t2) (eda_cons (ed_var rfl t1) eda_nil))) (by simp)) (eda_cons (ed_tup (eda_cons ed_cs (eda_cons (ed_var rfl t2) eda_nil)) (by simp)) (eda_cons (ed_tup (eda_cons ed_cs eda_nil) (by simp)) eda_nil))))) (by decide)) fun l3 xs H3 h3 e3 x3 ta => ?_))
  have t1b := t1
  have t2b := t2
  replace t1 := t1.ex e3
  replace t2 := t2.ex e3
  dsimp only
  refine w_seq (w_appD (K := K) rfl x3 ta (d := odd2) (ed_tup (eda_cons ed_cs (eda_cons ed_ci eda_nil)) (by simp)) (by decide) fun H4 ys g4 x4 ta4 => ?_)
  have e4 := ex_fr1 e3 h3 g4
  replace t1 := t1b.ex e4
  replace t2 := t2b.ex e4
  have R4 := R2.ex e4
  have f4 := f2.trans (Fr.of (S := [r]) e4)
  clear ta x3
  dsimp only
  refine w_seq (w_asg (w_dl (K := K) (ds := ((odd1 ++ [odd2]) ++ odd3)) (edl_catV (es := odd3) rfl x4 ta4 (edl_lst (eda_cons (ed_tup (eda_cons ed_cs (eda_cons (ed_tup (eda_cons ed_cs (eda_cons ed_ci eda_nil)) (by simp)) eda_nil)) (by simp)) (eda_cons (ed_tup (eda_cons ed_cs (eda_cons (ed_tup (eda_cons ed_cs (eda_cons (ed_I0i ed_ci ed_ci) eda_nil)) (by simp)) eda_nil)) (by simp)) (eda_cons (ed_tup (eda_cons ed_cs (eda_cons (ed_tup (eda_cons ed_cs (eda_cons ed_ci eda_nil)) (by simp)) eda_nil)) (by simp)) (eda_cons (ed_tup (eda_cons ed_cs (eda_cons (ed_tup (eda_cons ed_cs (eda_cons ed_ci eda_nil)) (by simp)) eda_nil)) (by simp)) (eda_cons (ed_tup (eda_cons ed_cs (eda_cons (ed_tup eda_nil (by simp)) eda_nil)) (by simp)) eda_nil))))) (by decide)) (by decide)) fun l5 xs5 H5 h5 e5 x5 ta5 => ?_))
  replace t1 := t1.ex e5
  replace t2 := t2.ex e5
  have R5 := R4.ex e5
  have f5 := f4.trans (Fr.of (S := [r]) e5)
  dsimp only
  refine w_seq (w_asg (w_dl (K := K) (ds := (((odd1 ++ [odd2]) ++ odd3) ++ odd4)) (edl_catV (es := odd4) rfl x5 ta5 (edl_lst (eda_cons (ed_tup (eda_cons ed_cs (eda_cons (ed_tup (eda_cons ed_cs (eda_cons ed_ci eda_nil)) (by simp)) eda_nil)) (by simp)) (eda_cons (ed_tup (eda_cons ed_cs (eda_cons (ed_tup (eda_cons ed_cs (eda_cons (ed_var rfl t1) eda_nil)) (by simp)) eda_nil)) (by simp)) (eda_cons (ed_tup (eda_cons ed_cs (eda_cons (ed_tup (eda_cons ed_cs (eda_cons (ed_var rfl t1) eda_nil)) (by simp)) eda_nil)) (by simp)) (eda_cons (ed_tup (eda_cons ed_cs (eda_cons (ed_tup (eda_cons ed_cs (eda_cons ed_ci (eda_cons ed_ci eda_nil))) (by simp)) eda_nil)) (by simp)) (eda_cons (ed_tup eda_nil (by simp)) eda_nil))))) (by decide)) (by decide)) fun l6 xs6 H6 h6 e6 x6 ta6 => ?_))
  replace t1 := t1.ex e6
  replace t2 := t2.ex e6
  have R6 := R5.ex e6
  have f6 := f5.trans (Fr.of (S := [r]) e6)
  dsimp only
  refine w_seq (w_asg (w_dl (K := K) (ds := ((((odd1 ++ [odd2]) ++ odd3) ++ odd4) ++ odd5)) (edl_catV (es := odd5) rfl x6 ta6 (edl_lst (eda_cons (ed_tup (eda_cons ed_cs (eda_cons (ed_var rfl t1) (eda_cons (ed_tup eda_nil (by simp)) eda_nil))) (by simp)) (eda_cons (ed_tup (eda_cons ed_cs (eda_cons (ed_var rfl t1) (eda_cons (ed_tup eda_nil (by simp)) (eda_cons (ed_tup eda_nil (by simp)) (eda_cons (ed_tup eda_nil (by simp)) eda_nil))))) (by simp)) (eda_cons (ed_tup (eda_cons ed_cs (eda_cons (ed_var rfl t1) (eda_cons (ed_var rfl t2) (eda_cons (ed_tup eda_nil (by simp)) eda_nil)))) (by simp)) (eda_cons (ed_tup (eda_cons ed_cs (eda_cons ed_ci (eda_cons (ed_tup eda_nil (by simp)) eda_nil))) (by simp)) (eda_cons (ed_tup (eda_cons ed_cs (eda_cons ed_ci (eda_cons (ed_tup eda_nil (by simp)) eda_nil))) (by simp)) eda_nil))))) (by decide)) (by decide)) fun l7 xs7 H7 h7 e7 x7 ta7 => ?_))
  replace t1 := t1.ex e7
  replace t2 := t2.ex e7
  have R7 := R6.ex e7
  have f7 := f6.trans (Fr.of (S := [r]) e7)
  dsimp only
  refine w_seq (w_asg (w_dl (K := K) (ds := (((((odd1 ++ [odd2]) ++ odd3) ++ odd4) ++ odd5) ++ odd6)) (edl_catV (es := odd6) rfl x7 ta7 (edl_lst (eda_cons (ed_tup (eda_cons ed_cs (eda_cons ed_ci (eda_cons (ed_tup (eda_cons (ed_var rfl t1) (eda_cons (ed_var rfl t1) (eda_cons (ed_var rfl t1) (eda_cons (ed_var rfl t1) eda_nil)))) (by simp)) eda_nil))) (by simp)) (eda_cons (ed_tup (eda_cons ed_cs (eda_cons (ed_var rfl t1) (eda_cons (ed_tup eda_nil (by simp)) eda_nil))) (by simp)) (eda_cons (ed_tup (eda_cons ed_cs (eda_cons ed_ci (eda_cons ed_ci eda_nil))) (by simp)) (eda_cons (ed_tup (eda_cons ed_cs (eda_cons (ed_var rfl t2) (eda_cons (ed_var rfl t1) (eda_cons (ed_var rfl t1) eda_nil)))) (by simp)) eda_nil)))) (by decide)) (by decide)) fun l8 xs8 H8 h8 e8 x8 ta8 => ?_))
  replace t1 := t1.ex e8
  replace t2 := t2.ex e8
  have R8 := R7.ex e8
  have f8 := f7.trans (Fr.of (S := [r]) e8)
  dsimp only
  refine w_seq (w_asg (w_dl (K := K) (ds := ((((((odd1 ++ [odd2]) ++ odd3) ++ odd4) ++ odd5) ++ odd6) ++ odd7)) (edl_catV (es := odd7) rfl x8 ta8 (edl_lst (eda_cons (ed_tup (eda_cons ed_cs (eda_cons (ed_tup (eda_cons ed_cs eda_nil) (by simp)) eda_nil)) (by simp)) (eda_cons (ed_tup (eda_cons ed_cs (eda_cons (ed_tup (eda_cons ed_cs (eda_cons ed_cb eda_nil)) (by simp)) eda_nil)) (by simp)) (eda_cons (ed_tup (eda_cons ed_cs (eda_cons (ed_tup (eda_cons ed_cs (eda_cons ed_ci eda_nil)) (by simp)) eda_nil)) (by simp)) (eda_cons (ed_tup (eda_cons ed_cs (eda_cons (ed_var rfl t2) (eda_cons (ed_var rfl t1) eda_nil))) (by simp)) eda_nil)))) (by decide)) (by decide)) fun l9 xs9 H9 h9 e9 x9 ta9 => ?_))
  replace t1 := t1.ex e9
  replace t2 := t2.ex e9
  have R9 := R8.ex e9
  have f9 := f8.trans (Fr.of (S := [r]) e9)
  dsimp only
  have n9 : l9 ≠ r := fun e => by
    obtain ⟨u, hu, _⟩ := R8.mu
    rw [e, hu] at h9
    cases h9
  refine w_seq (w_appD (K := K) rfl x9 ta9 (d := odd8) (ed_tup (eda_cons ed_cs (eda_cons ed_ci (eda_cons (ed_tup eda_nil (by simp)) (eda_cons (ed_tup eda_nil (by simp)) eda_nil)))) (by simp)) (by decide) fun Hc ys2 gc xc tac => ?_)
  have ec := ex_fr1 e9 h9 gc
  have Rc := R8.ex ec
  have fc := f8.trans (Fr.of (S := [r]) ec)
  dsimp only
  refine w_ret (w_pickV (m := 30) (ds := oddA) rfl Rc hn rfl xc tac n9 (by decide) (by decide) (by decide) rfl fun j d v Hd hd fd Rd td => ?_)
  exact k v d Hd (oddA_good d (List.mem_of_getElem? hd)) (fc.trans fd) Rd td
end
end Hw

set_option maxRecDepth 100000
set_option maxHeartbeats 4000000
/-! TW: a tuple of one, so many times as is told, and several except clauses with a name -/
namespace L2
open PySem PySem.Spec PyProof.Rows
theorem tuple_mulW1 (l : Addr) (items : Array Value) (n : Nat) (dd : Option Addr) (sl : Array (Option Value)) (u : Tok) :
    Meets (Builtin.«tuple.__mul__» ⟨[.ref l, .int 1 u], []⟩) (fun _ R s => s.heap.get? l = some { cls := .type "tuple", dict := dd, data := .seq items n, slots := sl } ∧
      R (.ok (.ret (Value.ref l))) s) :=
  .of_wp fun prog w A R s h => by
    obtain ⟨hp, g, d, tk, os⟩ := s
    obtain ⟨hl, h⟩ := h
    have f1 := AutoSeq1.idx_int
    have c1 : (items.isEmpty || (1 : Int) == 1) = true := by simp
    wp_walk using wpAny_loadPart' hl
    repeat (first
      | (refine wpAny_ite_false (decide_eq_false (by decide)) ?_; wp_walk using wpAny_loadPart' hl)
      | (refine wpAny_ite_true (decide_eq_true (by rw [c1])) ?_; wp_walk using wpAny_loadPart' hl)
      | (refine wpAny_ite_true rfl ?_; wp_walk using wpAny_loadPart' hl))
    exact ⟨_, rfl, h⟩
theorem tuple_mulW0 (l : Addr) (items : Array Value) (n : Nat) (dd : Option Addr) (sl : Array (Option Value)) (u : Tok) (hne : items.isEmpty = false) :
    Meets (Builtin.«tuple.__mul__» ⟨[.ref l, .int 0 u], []⟩) (fun _ R s => s.heap.get? l = some { cls := .type "tuple", dict := dd, data := .seq items n, slots := sl } ∧
      R (.ok (.ret (Value.ref s.heap.objs.size))) { s with heap := s.heap.push { cls := Value.type "tuple", data := Data.seq #[] }, toks := s.toks }) :=
  .of_wp fun prog w A R s h => by
    obtain ⟨hp, g, d, tk, os⟩ := s
    obtain ⟨hl, h⟩ := h
    have f1 := AutoSeq1.idx_int
    have c1 : (items.isEmpty || (0 : Int) == 1) = false := by rw [hne]; rfl
    have c2 : (decide ((0 : Int) ≤ 0) || items.isEmpty) = true := by simp
    wp_walk using wpAny_loadPart' hl
    repeat (first
      | (refine wpAny_ite_false (decide_eq_false (by decide)) ?_; wp_walk using wpAny_loadPart' hl)
      | (refine wpAny_ite_false (decide_eq_false (by rw [c1]; exact Bool.false_ne_true)) ?_; wp_walk using wpAny_loadPart' hl)
      | (refine wpAny_ite_true (decide_eq_true (by rw [c2])) ?_; wp_walk using wpAny_loadPart' hl)
      | (refine wpAny_ite_true rfl ?_; wp_walk using wpAny_loadPart' hl))
    exact ⟨_, rfl, h⟩
/-- any count up to a thousand; told is a new one, or for 1 the tuple itself -/
def rRepN (K : PySem.W.Frag) : R2 := fun x y H Q => ∃ (l : Addr) (k : Nat) (xs : List V), x = .ref l ∧ y = .int (k : Int) ∧ SqT K H l xs ∧ xs ≠ [] ∧ k ≤ 1000 ∧ xs.length ≤ 1000 ∧ (k = 1 → Q (.ref l) H) ∧ (k ≠ 1 → ∀ p, H p = none → Q (.ref p) (upd H p (.tup (List.replicate k xs).flatten)))
section
variable {X : Cx}
theorem op_repN : OpR X (binaryOp .Mult) (rRepN X.K) := by
  intro pins s σ H x y v u Q I rx ry h
  obtain ⟨l, k, xs, rfl, rfl, hT, hne, h1, hz, q1, q2⟩ := h
  by_cases h2 : 2 ≤ k
  · exact op_repT pins s σ H _ _ v u Q I rx ry ⟨l, (k : Int), xs, rfl, rfl, hT, hne, by omega, by omega, hz, fun p hp => by
      rw [Int.toNat_natCast]
      exact q2 (by omega) p hp⟩
  cases rx
  obtain ⟨t, rfl⟩ := ry
  obtain ⟨its, r, ⟨⟨cls, dd, data, sl⟩, ho, hc, n, hd⟩, hs⟩ := I.tuple hT
  simp only at hc hd
  subst hc hd
  have hle : its.length = xs.length := r.length.symm
  have hn : its ≠ [] := fun e => hne (by
    rw [e] at hle
    exact List.eq_nil_of_length_eq_zero hle.symm)
  have hi : its.toArray.isEmpty = false := by
    cases its with
    | nil => exact absurd rfl hn
    | cons a b => rfl
  rcases (by omega : k = 0 ∨ k = 1) with e | e <;> subst e
  · refine wpAny_binaryOp_repeat_ref (T := "tuple") (U := "int") (by decide) ⟨_, ho, rfl⟩ (fun s' => typeIs_int s' _ t) noFill_tuple_mul F.fills_int_mul F.slot_int_rmul repeat_tuple F.slot_int_index.lookup
      (call_meets F.slot_int_rmul (typeIs_int s _ t) F.entry_int_rmul (F.args_int_rmul_2 _ _) (int_rmul_tuple _ t l its.toArray n dd sl)
        ⟨ho, rfl, ⟨_, ho, rfl⟩, call_meets F.slot_tuple_mul ⟨_, ho, rfl⟩ F.entry_tuple_mul (F.args_tuple_mul_2 _ _) (tuple_mulW0 l its.toArray n dd sl t hi) ⟨ho, ?_⟩⟩)
    refine ⟨.ref s.heap.objs.size, _, I.laid (t' := s.toks) (o := .tup []) (fun b ob q => Heap.get?_push_of_some _ q) (Nat.le_refl _) ?_, rfl, q2 (by decide) _ (I.hok.fresh (Nat.le_refl _))⟩
    exact ⟨Nat.zero_le _, _, .nil, IsTup.new _ _⟩
  · refine wpAny_binaryOp_repeat_ref (T := "tuple") (U := "int") (by decide) ⟨_, ho, rfl⟩ (fun s' => typeIs_int s' _ t) noFill_tuple_mul F.fills_int_mul F.slot_int_rmul repeat_tuple F.slot_int_index.lookup
      (call_meets F.slot_int_rmul (typeIs_int s _ t) F.entry_int_rmul (F.args_int_rmul_2 _ _) (int_rmul_tuple _ t l its.toArray n dd sl)
        ⟨ho, rfl, ⟨_, ho, rfl⟩, call_meets F.slot_tuple_mul ⟨_, ho, rfl⟩ F.entry_tuple_mul (F.args_tuple_mul_2 _ _) (tuple_mulW1 l its.toArray n dd sl t) ⟨ho, ?_⟩⟩)
    exact ⟨.ref l, _, I, rfl, q1 rfl⟩
end
/-! except clauses that all give the same name -/
def wAsM (K : PySem.W.Frag) (i : Nat) (Wout : WX) (D : Ends) : List (Value × (Addr → Value → Option Addr → TS)) → WX
  | [] => Wout
  | (c, ts) :: r => fun cls d σ H => ∃ b, PySem.W.exmOne K cls c = some b ∧ (b = true → ∀ a, H a = none → ts a cls d { nx := fun σ' H' => D.nx (σ'.set i none) H', rt := D.rt, bk := fun σ' H' => D.bk (σ'.set i none) H', ct := fun σ' H' => D.ct (σ'.set i none) H' } (σ.set i (some (.ref a))) H) ∧ (b = false → wAsM K i Wout D r cls d σ H)
inductive HdA (X : Cx) (n : Str) : List ExceptHandler → List (Value × (Addr → Value → Option Addr → TS)) → Prop
  | nil : HdA X n [] []
  | cons {x : Str} {c : Value} {ts : Addr → Value → Option Addr → TS} {b₀ : Stmt} {suite : List Stmt} {np pos' : Pos} {hds : List ExceptHandler} {l : List (Value × (Addr → Value → Option Addr → TS))} (hc : Names X x c)
      (hsu : ∀ (a : Addr) (oe : Obj) (cls : Value) (d : Option Addr) (pn : List (Addr × Obj)), Zc cls d oe → (∃ vs, oe.data = .fields vs) → PSs (X.suite a ((a, oe) :: pn)) (b₀ :: suite) (ts a cls d)) (r : HdA X n hds l) :
      HdA X n (.ExceptHandler (some (.Name x np)) (some n) (b₀ :: suite) pos' :: hds) ((c, ts) :: l)
section
variable {X : Cx} {n : Str} {i : Nat} {body : List Stmt} {h₀ : ExceptHandler} {hds : List ExceptHandler} {l : List (Value × (Addr → Value → Option Addr → TS))} {pos : Pos} {tb : WX → TS} {Wout : WX}
theorem ps_try_asM (hs : X.stack = X.env :: X.outer) (hf : X.env.frame = some X.env.locals) (hN : X.N.Nodup) (hi : X.N[i]? = some n) (hln : X.env.kindOf n = some .local) (tk : Takes X Wout)
    (hb : ∀ (W : WX) (pn : List (Addr × Obj)) (xe : Value → Shared → Prop), Takes (X.tr pn xe) W → PassesOwn (model X.prog X.w) X.A X.env xe → PSs (X.tr pn xe) body (tb W))
    (hh : HdA X n (h₀ :: hds) l) : PS X (.Try body (h₀ :: hds) [] [] pos) (fun D σ H => tb (wAsM X.K i Wout D l) D σ H) := by
  refine ⟨fun pins s σ H D I h => ?_⟩
  have ok := I.ok
  have hfr : X.A.frames = some (X.env :: X.outer) := by rw [ok.frames, hs]
  have hloc : Loc X.env.scope n := .inl hln
  refine wpAny_Try_except ?_
  refine wpAny_mono ((hb (wAsM X.K i Wout D l) (X.pn ++ pins) (fun e s₁ => wpAny (model X.prog X.w) X.A (noteFrame e X.env) (fun _ s₂ => wpAny (model X.prog X.w) X.A (setFlight e none) (fun _ s₃ =>
    wpAny (model X.prog X.w) X.A (handleBy e X.env (h₀ :: hds)) (SP X pins D) X.xe s₃) X.xe s₂) X.xe s₁) (fun u s' xx => ?_) PassesOwn.looking).run [] s σ H D (I.toTry _) h) (fun f s1 hsp => ?_) (fun e s1 he => he)
  · -- the catch
    obtain ⟨a, B, sI, pins', σ', H', cls, d, rfl, J', nb, up, sky, na, os, ag, w⟩ := xx
    have J : Inv X pins σ' H' sI := J'.ofTry ok
    have sky' : Sky B (X.env :: X.outer) a (Zc cls d) X.env.locals s'.heap := by rw [← hs]; exact sky
    show wpAny (model X.prog X.w) X.A (noteFrame (.ref a) X.env) _ _ _
    refine Sky.land Zc.steady hfr hf sky' fun h3 fl3 up3 => ?_
    have J3 : Inv X pins σ' H' { s' with heap := h3 } := J.landed nb fl3.1 (up.trans up3) os ag
    obtain ⟨oe3, vs3, he3, hz3, hd3⟩ := fl3.there
    have notFr : ∀ {h : Heap} {o : Obj} {vs : Array Value}, h.FunFrames B (X.env :: X.outer) → h.get? a = some o → o.data = .fields vs → a ∉ frs (X.env :: X.outer) := fun {h o vs} ff e dd hm => by
      obtain ⟨_, o', e', hnf⟩ := ff.mem hm
      rw [e] at e'; cases e'
      exact hnf _ dd
    have nfr := notFr fl3.2.2.1 he3 hd3
    have nL : a ≠ X.env.locals := fun z => nfr (List.mem_filterMap.mpr ⟨X.env, List.mem_cons_self, by rw [hf, z]⟩)
    have nF : a ∉ X.fs := fun hm => by
      obtain ⟨e, he, q⟩ := List.mem_filterMap.mp hm
      exact nfr (List.mem_filterMap.mpr ⟨e, List.mem_cons_of_mem _ he, q⟩)
    have S3 := J3.suite he3 hd3 na nL nF
    have go : ∀ {hds' : List ExceptHandler} {l' : List (Value × (Addr → Value → Option Addr → TS))}, HdA X n hds' l' → wAsM X.K i Wout D l' cls d σ' H' →
        wpAny (model X.prog X.w) X.A (handleBy (.ref a) X.env hds') (SP X pins D) X.xe { s' with heap := h3 } := by
      intro hds' l' hk
      induction hk with
      | nil =>
        intro w
        refine wpAny_handleBy_nil ?_
        obtain ⟨k1, k2, k3, oe, vs, T, oT, ts', he, hz, hd, h1, hr⟩ := id fl3
        unfold PySem.passOn
        refine wpAny_bind (wpAny_field he hd h1 ?_)
        rw [if_neg (show ¬ ((Value.ref T == Value.none) = true) from by simp)]
        have fin : wpAny (model X.prog X.w) X.A (setFlight (.ref a) X.env.frame) (fun _ s4 => wpAny (model X.prog X.w) X.A (throw (.ref a) : Sem Flow) (SP X pins D) X.xe s4) X.xe { s' with heap := h3 } := by
          rw [hf]
          refine HandSPX.setFlight_upZ fl3 fun h4 hh4 up4 => wpAny_throw (tk _ _ ?_)
          exact ⟨a, B, sI, pins, σ', H', cls, d, rfl, J, nb, (up.trans up3).trans up4, .inr (.inr (by rw [hs]; exact hh4)), na, os, ag, w⟩
        first
          | exact wpAny_bind (wpAny_pure (wpAny_bind fin))
          | exact wpAny_bind fin
      | @cons x c ts b₀ suite np pos' hds2 l2 hc hsu r ih =>
        intro w
        obtain ⟨b, hb1, hyes, hno⟩ := w
        refine wpAny_handleBy_cons (codeAny_handlers_test ?_) (by intro q; cases q)
        have LT : PySem.W.Looks (model X.prog X.w) h3 (typeOf (.ref a)) cls := fun A Q E s k q => wpAny_typeOf_ref (k _ _ he3) (by rw [hz3.1]; exact q)
        have LM := PySem.W.exm_one (M := model X.prog X.w) (J3.kIn) LT hb1
        have test : ∀ {Q : Value → Shared → Prop} {E : Value → Shared → Prop}, Q c { s' with heap := h3 } → wpAny (model X.prog X.w) (X.A.mark (some (.ref a))) (eval (.Name x np) X.env) Q E { s' with heap := h3 } := fun {Q E} q => by
          obtain ⟨hg, hdbg, hm | ⟨hm, hv, hnn⟩⟩ := hc
          · exact ld_glob (X := X.suite a ((a, oe3) :: (X.pn ++ pins))) S3 hg hm q hdbg
          · exact ld_blt (X := X.suite a ((a, oe3) :: (X.pn ++ pins))) S3 hg hm hv q hnn hdbg
        refine test (LM.here ?_)
        cases b with
        | true =>
          refine codeAny_handlers_suite_as ?_
          refine HandSPX.lands_againZ fl3 fun h4 fl4 up4 => ?_
          have J4 : Inv X pins σ' H' { s' with heap := h4 } := J.landed nb fl4.1 ((up.trans up3).trans up4) os ag
          obtain ⟨oe4, vs4, he4, hz4, hd4⟩ := fl4.there
          have S4 := J4.suite he4 hd4 na nL nF
          refine store_ok (X := X.suite a ((a, oe4) :: (X.pn ++ pins))) (v := .ref a) S4 hN hi hloc rfl (fun s5 S5 => ?_) (.inr hln)
          refine wpAny_mono ((hsu a oe4 cls d (X.pn ++ pins) hz4 ⟨_, hd4⟩).run [] s5 _ H' _ S5 (hyes rfl a na)) (fun f s6 hsp => ?_) (fun _ _ z => False.elim z)
          have end_ : ∀ {σ6 : St} {H6 : Hp} {Q : Shared → Prop}, Inv (X.suite a ((a, oe4) :: (X.pn ++ pins))) [] σ6 H6 s6 → (∀ s7, Inv X pins (σ6.set i none) H6 s7 → Q s7) →
              wpAny (model X.prog X.w) X.A (do bindName X.env n .none; unbindBehindTheSuite X.env n pos') (fun _ s7 => Q s7) X.xe s6 := fun {σ6 H6 Q} S6 hq => gone_ok (S6.unsuite ok) hN hi hln hq
          cases f with
          | next =>
            obtain ⟨σ6, H6, S6, q6⟩ := hsp
            exact end_ S6 fun s7 J7 => ⟨_, _, J7, q6⟩
          | brk =>
            obtain ⟨σ6, H6, S6, q6⟩ := hsp
            exact end_ S6 fun s7 J7 => ⟨_, _, J7, q6⟩
          | cont =>
            obtain ⟨σ6, H6, S6, q6⟩ := hsp
            exact end_ S6 fun s7 J7 => ⟨_, _, J7, q6⟩
          | ret u =>
            obtain ⟨v6, σ6, H6, S6, r6, q6⟩ := hsp
            exact end_ S6 fun s7 J7 => ⟨_, _, _, J7, r6, q6⟩
        | false =>
          show wpAny _ X.A (handleBy (.ref a) X.env hds2) _ _ _
          exact ih (hno rfl)
    exact go hh w
  · cases f with
    | next =>
      obtain ⟨σ', H', J', q⟩ := hsp
      exact wpAny_execs_nil ⟨σ', H', J'.ofTry ok, q⟩
    | brk =>
      obtain ⟨σ', H', J', q⟩ := hsp
      exact ⟨σ', H', J'.ofTry ok, q⟩
    | cont =>
      obtain ⟨σ', H', J', q⟩ := hsp
      exact ⟨σ', H', J'.ofTry ok, q⟩
    | ret u =>
      obtain ⟨v, σ', H', J', r, q⟩ := hsp
      exact ⟨v, σ', H', J'.ofTry ok, r, q⟩
end
end L2

set_option maxRecDepth 100000
set_option maxHeartbeats 4000000
/-! KL8: a program told otherwise -/
namespace Hw
open PySem PySem.Spec PyProof.Rows L2 Evl
local macro_rules | `(tactic| walk_at "dd") => `(tactic| first | rfl | decide | (simp; done) | omega)
local macro_rules | `(tactic| walk_at "td") => `(tactic| first | assumption | exact Td.int _ | exact Td.bl _ | exact Td.str _ | exact Td.non | exact Td.tup (by assumption) (by assumption))
local macro_rules | `(tactic| walk_at "ev") => `(tactic| first
  | exact ed_ci | exact ed_cs | exact ed_cb | exact ed_cn
  | (apply ed_cg; assumption)
  | (apply ed_var; (rfl); (walk_at "td"))
  | (apply ed_ixT; (walk_at "ev"); (walk_at "ev"); (first | rfl | assumption))
  | (apply ed_rowI; (rfl); (assumption); (walk_at "ev"); (rfl))
  | (apply ed_ixL; (apply EvDL.rd; walk_at "edl"); (walk_at "ev"); (rfl))
  | (apply ed_intb; (walk_at "ev"))
  | (apply ed_len; walk_at "ev")
  | (apply ed_lenV; (apply ev_rowR; (rfl); (assumption); (walk_at "ev"); (rfl)); (assumption))
  | (apply ed_Ii; (walk_at "ev"); (walk_at "ev"); (walk_at "cc"))
  | (apply ed_isi; (walk_at "ev"); (rfl))
  | (apply ed_I0i; (walk_at "ev"); (walk_at "ev"))
  | (apply ed_I0b; (walk_at "ev"); (walk_at "ev"))
  | (apply ed_eqi; (walk_at "ev"); (walk_at "ev"))
  | (apply ed_nei; (walk_at "ev"); (walk_at "ev"))
  | (apply ed_andF; walk_at "ev")
  | (apply ed_andV; (walk_at "ev"); (intro _; walk_at "ev"))
  | (apply ed_orT; walk_at "ev")
  | (apply ed_orV; (walk_at "ev"); (intro _; walk_at "ev"))
  | (apply ed_notT; walk_at "ev")
  | (apply ed_notF; walk_at "ev")
  | (apply ed_notV; walk_at "ev")
  | (apply ed_chain; (walk_at "ev"); (walk_at "ev"); (intro _; walk_at "ev"))
  | (apply ed_eqS; (walk_at "ev"); (walk_at "ev"); (walk_at "bb"); (walk_at "bb"))
  | (apply ed_neS; (walk_at "ev"); (walk_at "ev"); (walk_at "bb"); (walk_at "bb"))
  | (apply ed_inT; (walk_at "ev"); (walk_at "ev"); (rfl); (rfl))
  | (apply ed_niT; (walk_at "ev"); (walk_at "ev"); (rfl); (rfl))
  | (apply ed_tup; (walk_at "eva"); (walk_at "bb"))
  | (apply ed_sl; (walk_at "ev"); (walk_at "evo"); (walk_at "evo"))
  | (apply ed_eqN; (apply EvDL.rd; walk_at "edl"); (walk_at "edl"); (walk_at "bb"))
  | (apply ed_neN; (apply EvDL.rd; walk_at "edl"); (walk_at "edl"); (walk_at "bb"))
  | (apply ed_ixL; (apply edr_var; (rfl); (assumption); (assumption)); (walk_at "ev"); (first | rfl | assumption))
  | (apply ed_lenL; (apply edr_var; (rfl); (assumption); (assumption)))
  | (apply ed_call; (walk_at "eva"); (walk_at "post")))
local macro_rules | `(tactic| walk_at "edl") => `(tactic| first
  | assumption
  | (apply edl_lst; (walk_at "eva"); (walk_at "bb")))
local macro_rules | `(tactic| walk_at "eva") => `(tactic| first
  | exact eda_nil
  | (apply eda_cons; (walk_at "ev"); (walk_at "eva")))
local macro_rules | `(tactic| walk_at "evo") => `(tactic| first
  | exact eok_none
  | (apply eok_some; walk_at "ev"))
local macro_rules | `(tactic| walk_at "bb") => `(tactic| first | rfl | assumption | (simp; done) | (simp; omega) | decide +kernel)
local macro_rules | `(tactic| walk_at "et") => `(tactic| first
  | exact tk_yes
  | (apply tk_andF; walk_at "et")
  | (apply tk_and; (walk_at "et"); (intro _; walk_at "et"))
  | (apply tk_orT; walk_at "et")
  | (apply tk_or; (walk_at "et"); (intro _; walk_at "et"))
  | (apply tk_notT; walk_at "et")
  | (apply tk_notF; walk_at "et")
  | (apply tk_not; walk_at "et")
  | (apply tk_v; walk_at "ev")
  | (apply tk_vB; walk_at "ev"))
local macro_rules | `(tactic| walk_at "if") => `(tactic| first
  | (apply pst_whenF; (walk_at "et"); (walk_at "bb"))
  | (apply pst_whenT; (walk_at "et"); (walk_at "bb")))
local macro_rules | `(tactic| walk_at "post") => `(tactic| first | assumption | exact ⟨_, _, rfl, rfl⟩ | exact ⟨_, _, _, _, rfl, by omega, by omega, rfl⟩ | exact ⟨_, _, _, 0, rfl, by omega, by omega, rfl⟩)
local macro_rules | `(tactic| walk_at "cc") => `(tactic| first | assumption | decide | omega | (refine ⟨?_, ?_⟩ <;> first | decide | omega) | (exact Or.inl (by constructor <;> omega)))

theorem kop_repT {X : Cx} (K : PySem.W.Frag) (h : X.K = K := by rfl) : OpR X (binaryOp .Mult) (rRepN K) := by subst h; exact op_repN
theorem tdAll_rep {K : PySem.W.Frag} {H : Hp} {ds : List PyData} {xs : List V} (h : TdAll K H xs ds) : ∀ k : Nat, TdAll K H (List.replicate k xs).flatten (List.replicate k ds).flatten
  | 0 => .nil
  | k + 1 => by
    rw [List.replicate_succ, List.replicate_succ, List.flatten_cons, List.flatten_cons]
    exact h.append (tdAll_rep h k)
section
variable {K : PySem.W.Frag} {σ : L2.St} {H : Hp} {Q : VK} {ds es : List PyData} {x y : V} {ta tb : TE}
theorem ed_repN {k : Nat} (ha : EvD K ta σ H (.tuple ds)) (hb : EvD K tb σ H (.int (k : Int))) (hd : ds ≠ []) (h3 : k ≤ 1000) (hl : ds.length ≤ 1000) : EvD K (tOp (rRepN K) ta tb) σ H (.tuple (List.replicate k ds).flatten) := fun H1 e1 Q q =>
  ha H1 e1 _ fun v H2 e2 t2 => hb H2 (e1.trans e2) _ fun w H3 e3 t3 => by
    cases t3
    obtain ⟨p, xs, rfl, hs, hall⟩ := t2.tup_inv
    have hlen := hall.length
    refine ⟨p, k, xs, rfl, rfl, ex_t e3 hs, fun e => ?_, h3, by omega, fun e => ?_, fun _ q2 hq => ?_⟩
    · rw [e] at hlen
      exact hd (List.eq_nil_of_length_eq_zero hlen.symm)
    · subst e
      refine q _ _ (e2.trans e3) ?_
      rw [List.replicate_one, List.flatten_singleton]
      exact t2.ex e3
    · exact q _ _ ((e2.trans e3).trans (Ex.new hq)) (.tup (SqT.of upd_same) ((tdAll_rep (hall.ex e3) k).ex (Ex.new hq)))
theorem evd_c {v : V} {d : PyData} (td : Td K H v d) : EvD K (tC v) σ H d := fun H1 e _ q => q v H1 (Ex.refl H1) (td.ex e)
theorem w_rep {k : Nat} (tx : Td K H x (.tuple ds)) (hd : ds ≠ []) (h3 : k ≤ 1000) (hl : ds.length ≤ 1000) (kq : ∀ v H', Ex H H' → Td K H' v (.tuple (List.replicate k ds).flatten) → Q v H') : rRepN K x (.int (k : Int)) H Q :=
  ed_repN (σ := []) (ta := tC x) (tb := tC (.int (k : Int))) (evd_c tx) ed_ci hd h3 hl H (Ex.refl H) Q kq
theorem w_cat (tx : Td K H x (.tuple ds)) (ty : Td K H y (.tuple es)) (hl : ds.length + es.length ≤ 100000) (kq : ∀ v H', Ex H H' → Td K H' v (.tuple (ds ++ es)) → Q v H') : rCatA K x y H Q :=
  ed_cat (σ := []) (ta := tC x) (tb := tC y) (evd_c tx) (evd_c ty) hl H (Ex.refl H) Q kq
end
theorem layAll_app {a b : List PyData} (h1 : PyData.canLayAll0 a = true) (h2 : PyData.canLayAll0 b = true) : PyData.canLayAll0 (a ++ b) = true := layAll_of fun y hy => (List.mem_append.mp hy).elim (fun z => layAll_mem h1 z) fun z => layAll_mem h2 z
theorem smDs_app {a b : List PyData} (h1 : smDs a = true) (h2 : smDs b = true) : smDs (a ++ b) = true := smDs_of fun y hy => (List.mem_append.mp hy).elim (fun z => smDs_mem h1 z) fun z => smDs_mem h2 z
/-- data of a body -/
structure GoodB (ds : List PyData) (n : Nat) : Prop where
  len : ds.length ≤ n
  all : ∀ d ∈ ds, GoodD d
theorem GoodB.app {a b : List PyData} {n m : Nat} (h1 : GoodB a n) (h2 : GoodB b m) : GoodB (a ++ b) (n + m) := ⟨by rw [List.length_append]; exact Nat.add_le_add h1.len h2.len, fun d hd => (List.mem_append.mp hd).elim (h1.all d) (h2.all d)⟩
theorem GoodB.one {d : PyData} (h : GoodD d) : GoodB [d] 1 := ⟨by simp, fun x hx => by
  have : x = d := by simpa using hx
  rw [this]; exact h⟩
theorem GoodB.take {a : List PyData} {n : Nat} (h : GoodB a n) (k : Nat) : GoodB (a.take k) n := ⟨Nat.le_trans (by rw [List.length_take]; exact Nat.min_le_right _ _) h.len, fun d hd => h.all d (List.mem_of_mem_take hd)⟩
theorem GoodB.drop {a : List PyData} {n : Nat} (h : GoodB a n) (k : Nat) : GoodB (a.drop k) n := ⟨Nat.le_trans (by rw [List.length_drop]; exact Nat.sub_le _ _) h.len, fun d hd => h.all d (List.mem_of_mem_drop hd)⟩
theorem GoodB.mono {a : List PyData} {n m : Nat} (h : GoodB a n) (l : n ≤ m) : GoodB a m := ⟨Nat.le_trans h.len l, h.all⟩
theorem GoodB.d {a : List PyData} {n : Nat} (h : GoodB a n) (hn : n ≤ 20000) : GoodD (.tuple a) := by
  refine ⟨?_, ?_⟩
  · simp only [PyData.canLay0]
    exact layAll_of fun y hy => (h.all y hy).1
  · simp only [smD, Bool.and_eq_true, decide_eq_true_eq]
    exact ⟨Nat.le_trans h.len hn, smDs_of fun y hy => (h.all y hy).2⟩
theorem rep1 (d : PyData) (k : Nat) : (List.replicate k [d]).flatten = List.replicate k d := by
  induction k with
  | zero => rfl
  | succ k ih => rw [List.replicate_succ, List.replicate_succ, List.flatten_cons, ih]; rfl
theorem GoodB.rep {d : PyData} (h : GoodD d) (k : Nat) : GoodB (List.replicate k d) k := ⟨by simp, fun x hx => by rw [(List.mem_replicate.mp hx).2]; exact h⟩
def sayD : PyData := .tuple [.str "say", oneD]
theorem sayD_good : GoodD sayD := ⟨by decide +kernel, by decide +kernel⟩
theorem GoodB.tup {w : Str} {a : List PyData} {n : Nat} (hw : PyData.strOk w = true) (h : GoodB a n) (hn : n ≤ 1000) : GoodD (.tuple (.str w :: a)) := (GoodB.one (d := .str w) ⟨by simp only [PyData.canLay0, hw], by simp [smD]⟩ |>.app h).d (by omega)
theorem smWs_new {p : List Wk} (hs : smP p) (hl : p.length ≤ 4) {l : List WkD} (h : ∀ w ∈ l, w ∈ p.map toD ∨ (0 ≤ w.ps ∧ GoodD w.body)) (hl2 : l.length ≤ 1000) : smWs l := by
  have h0 := smP_ws hs
  refine ⟨⟨hl2, fun w hw => ?_⟩, fun w hw => ?_⟩
  · rcases h w hw with z | z
    · exact h0.1.2 w z
    · exact z.1
  · rcases h w hw with z | z
    · exact h0.2 w z
    · exact z.2
def spSpoilt (K : PySem.W.Frag) : Sp := fun vs H Q _ => ∃ (r s : Addr) (ns : List Int) (pw : V) (p : List Wk), vs = [.ref r, pw] ∧ RowAt K s ns H r ∧ ns.length ≤ 63 ∧ Td K H pw (encP p) ∧ okP p = true ∧ smP p ∧ (∀ w ∈ p, w.body.length ≤ 1000) ∧
  ∀ v ws H', smWs ws → Fr [r] H H' → RowAt K s ns H' r → Td K H' v (.tuple (ws.map encWD)) → Q v H'
section
variable {P : Program} {w : World} {K : PySem.W.Frag} {mg : Str → Option Value} {base : Heap} (T : Tx K mg)
include T
theorem ok_spoilt (GT : Fn__law_taken T P w base CX0 1 (spTaken K)) (GD : Fn__law_deep T P w base CX0 2 (spDeep K)) (GA : Fn__law_around T P w base CX0 2 (spDeep K)) (GO : Fn__law_odd_step T P w base CX0 2 (spOdd K)) : Fn__law_spoilt T P w base CX0 3 (spSpoilt K) := by
  have G__law_taken := GT
  have G__law_deep := GD
  have G__law_around := GA
  have G__law_odd_step := GO
  refine T.F__law_spoilt.ok sc__law_spoilt (fun vs H Q E h => by obtain ⟨_, _, _, _, _, rfl, _⟩ := h; rfl) fun cdv A outer s0 H vs Q E hr h => ?_
  obtain ⟨r, s, ns, pw, p, rfl, R0, hn, tp, hok, hsm, hbl, kq⟩ := h
  have hpl := okP_len hok
  have tp0 : Td K H pw (.tuple (p.map encW)) := tp
  refine ⟨_, (pss_cons (ps_set (i := 2) sc__law_spoilt.nd rfl (Or.inl rfl) (pe_call G__law_taken (hr.mono (by omega)) (by rfl) T.g__law_taken T.k__law_taken T.bd__law_taken .nil pass0 (pa_cons (pv 0) (pa_cons (pe_callB (kc_len K) rfl T.b_len PySem.boot_len (pa_cons (pv 1) pa_nil)) pa_nil))))
  (pss_cons (ps_asg (pe_ix (kix_tup K) (pv 1) (pv 2) (fun _ _ => rfl)) (kpg_tup K rfl (pgs_cons (pg_name (i := 3) sc__law_spoilt.nd rfl (Or.inl rfl)) (pgs_cons (pg_name (i := 4) sc__law_spoilt.nd rfl (Or.inl rfl)) (pgs_cons (pg_name (i := 5) sc__law_spoilt.nd rfl (Or.inl rfl)) pgs_nil)))))
  (pss_cons (ps_set (i := 6) sc__law_spoilt.nd rfl (Or.inl rfl) (pe_call G__law_taken (hr.mono (by omega)) (by rfl) T.g__law_taken T.k__law_taken T.bd__law_taken .nil pass0 (pa_cons (pv 0) (pa_cons pe_int pa_nil))))
  (pss_cons (ps_set (i := 7) sc__law_spoilt.nd rfl (Or.inl rfl) (pe_call G__law_taken (hr.mono (by omega)) (by rfl) T.g__law_taken T.k__law_taken T.bd__law_taken .nil pass0 (pa_cons (pv 0) (pa_cons (pe_op op_add (pe_callB (kc_len K) rfl T.b_len PySem.boot_len (pa_cons (pv 5) pa_nil)) pe_int) pa_nil))))
  (pss_cons (ps_set (i := 8) sc__law_spoilt.nd rfl (Or.inl rfl) (pe_tup (pa_cons pe_str (pa_cons (pe_tup (pa_cons pe_str (pa_cons pe_int pa_nil))) pa_nil))))
  (pss_cons (ps_if (pt_cmpR op_eq (pv 6) pe_int (nomark _))
    (pss_one (ps_ret (pe_ix (kix_list K) (pe_lst (pa_cons (pe_tup pa_nil) (pa_cons (pe_op (kop_repT K) (pv 1) pe_int) (pa_cons (pe_op (kop_cat K) (pe_op (kop_cat K) (pe_slice (ksl_tup K) (pv 1) po_none (po_some (pv 2))) (pe_tup (pa_cons (pe_tup (pa_cons pe_int (pa_cons (pv 4) (pa_cons (pv 5) pa_nil)))) pa_nil))) (pe_slice (ksl_tup K) (pv 1) (po_some (pe_op op_add (pv 2) pe_int)) po_none)) pa_nil)))) (pe_call G__law_taken (hr.mono (by omega)) (by rfl) T.g__law_taken T.k__law_taken T.bd__law_taken .nil pass0 (pa_cons (pv 0) (pa_cons pe_int pa_nil))) (fun _ _ => rfl))))
    pss_nil)
  (pss_cons (ps_if (pt_cmpR op_eq (pv 6) pe_int (nomark _))
    (pss_one (ps_set (i := 4) sc__law_spoilt.nd rfl (Or.inl rfl) (pe_ix (kix_list K) (pe_lst (pa_cons pe_int (pa_cons (pe_op op_sub pe_int pe_int) pa_nil))) (pe_call G__law_taken (hr.mono (by omega)) (by rfl) T.g__law_taken T.k__law_taken T.bd__law_taken .nil pass0 (pa_cons (pv 0) (pa_cons pe_int pa_nil))) (fun _ _ => rfl))))
    pss_nil)
  (pss_cons (ps_if (pt_cmpR op_eq (pv 6) pe_int (nomark _))
    (pss_one (ps_set (i := 5) sc__law_spoilt.nd rfl (Or.inl rfl) (pe_op (kop_cat K) (pe_op (kop_repT K) (pe_tup (pa_cons (pv 8) pa_nil)) (pe_op op_add pe_int (pe_call G__law_taken (hr.mono (by omega)) (by rfl) T.g__law_taken T.k__law_taken T.bd__law_taken .nil pass0 (pa_cons (pv 0) (pa_cons pe_int pa_nil))))) (pe_tup (pa_cons (pe_tup (pa_cons pe_str (pa_cons (pe_tup (pa_cons pe_str (pa_cons pe_int pa_nil))) (pa_cons (pe_op (kop_repT K) (pe_tup (pa_cons (pv 8) pa_nil)) (pe_call G__law_taken (hr.mono (by omega)) (by rfl) T.g__law_taken T.k__law_taken T.bd__law_taken .nil pass0 (pa_cons (pv 0) (pa_cons pe_int pa_nil)))) (pa_cons (pe_tup (pa_cons (pv 8) pa_nil)) pa_nil))))) pa_nil)))))
    pss_nil)
  (pss_cons (ps_if (pt_cmpR op_eq (pv 6) pe_int (nomark _))
    (pss_one (ps_set (i := 5) sc__law_spoilt.nd rfl (Or.inl rfl) (pe_op (kop_cat K) (pe_slice (ksl_tup K) (pv 5) po_none (po_some (pv 7))) (pe_tup (pa_cons (pe_call G__law_around (hr.mono (by omega)) (by rfl) T.g__law_around T.k__law_around T.bd__law_around .nil pass0 (pa_cons (pv 0) (pa_cons (pv 8) (pa_cons (pe_op op_add pe_int (pe_call G__law_taken (hr.mono (by omega)) (by rfl) T.g__law_taken T.k__law_taken T.bd__law_taken .nil pass0 (pa_cons (pv 0) (pa_cons pe_int pa_nil)))) pa_nil)))) pa_nil)))))
    pss_nil)
  (pss_cons (ps_if (pt_cmpR op_eq (pv 6) pe_int (nomark _))
    (pss_one (ps_set (i := 5) sc__law_spoilt.nd rfl (Or.inl rfl) (pe_op (kop_cat K) (pe_slice (ksl_tup K) (pv 5) po_none (po_some (pv 7))) (pe_tup (pa_cons (pe_tup (pa_cons pe_str (pa_cons (pe_call G__law_deep (hr.mono (by omega)) (by rfl) T.g__law_deep T.k__law_deep T.bd__law_deep .nil pass0 (pa_cons (pv 0) (pa_cons (pe_tup (pa_cons pe_str (pa_cons pe_int pa_nil))) (pa_cons (pe_op op_add pe_int (pe_call G__law_taken (hr.mono (by omega)) (by rfl) T.g__law_taken T.k__law_taken T.bd__law_taken .nil pass0 (pa_cons (pv 0) (pa_cons pe_int pa_nil)))) pa_nil)))) pa_nil))) pa_nil)))))
    pss_nil)
  (pss_cons (ps_if (pt_cmpR op_eq (pv 6) pe_int (nomark _))
    (pss_one (ps_ret (pe_op (kop_cat K) (pe_tup (pa_cons (pe_tup (pa_cons pe_int (pa_cons (pv 4) (pa_cons (pv 5) pa_nil)))) pa_nil)) (pe_slice (ksl_tup K) (pv 1) (po_some pe_int) po_none))))
    pss_nil)
  (pss_cons (ps_if (pt_cmpR op_gt (pv 6) pe_int (nomark _))
    (pss_one (ps_set (i := 5) sc__law_spoilt.nd rfl (Or.inl rfl) (pe_op (kop_cat K) (pe_op (kop_cat K) (pe_slice (ksl_tup K) (pv 5) po_none (po_some (pv 7))) (pe_tup (pa_cons (pe_call G__law_around (hr.mono (by omega)) (by rfl) T.g__law_around T.k__law_around T.bd__law_around .nil pass0 (pa_cons (pv 0) (pa_cons (pe_call G__law_odd_step (hr.mono (by omega)) (by rfl) T.g__law_odd_step T.k__law_odd_step T.bd__law_odd_step .nil pass0 (pa_cons (pv 0) pa_nil)) (pa_cons (pe_call G__law_taken (hr.mono (by omega)) (by rfl) T.g__law_taken T.k__law_taken T.bd__law_taken .nil pass0 (pa_cons (pv 0) (pa_cons pe_int pa_nil))) pa_nil)))) pa_nil))) (pe_slice (ksl_tup K) (pv 5) (po_some (pv 7)) po_none))))
    pss_nil)
  (pss_one (ps_ret (pe_op (kop_cat K) (pe_op (kop_cat K) (pe_slice (ksl_tup K) (pv 1) po_none (po_some (pv 2))) (pe_tup (pa_cons (pe_tup (pa_cons (pv 3) (pa_cons (pv 4) (pa_cons (pv 5) pa_nil)))) pa_nil))) (pe_slice (ksl_tup K) (pv 1) (po_some (pe_op op_add (pv 2) pe_int)) po_none)))))))))))))))), ?_⟩
  refine w_seq (w_asg (w_taken rfl R0 hn (m := (p.length : Int)) (ed_is (ed_len (ed_var rfl tp0)) (by rw [List.length_map])) (by omega) (by omega) fun at_ H1 hat f1 R1 => ?_))
  have hat2 : at_ < p.length := by omega
  have hg : p[at_]? = some p[at_] := List.getElem?_eq_getElem hat2
  have tp1 := tp0.kp (R0.kp f1)
  generalize hgw : p[at_] = wk at hg
  have hwm : wk ∈ p := List.mem_of_getElem? hg
  have hwb := hsm.2 wk hwm
  have hwl := hbl wk hwm
  have g0 : GoodB (encB wk.body) 1000 := ⟨by rw [encB_length]; exact hwl, fun d hd => ⟨layAll_mem (encB_lay _) hd, smDs_mem (smD_B _ hwb.2) hd⟩⟩
  dsimp only
  refine Pst.go (K := K) (pst_unp3 (d1 := .int (wk.params : Int)) (d2 := .int (wk.owns : Int)) (d3 := .tuple (encB wk.body)) (ed_is (ed_ixT (i := (at_ : Int)) (ed_var rfl tp1) (ed_var rfl (.int _)) (atI_nat (by rw [List.getElem?_map, hg]; rfl))) rfl) fun v1 v2 v3 H2 e2 u1 u2 u3 => pst_of fun H3 e3 => ?_)
  cases u1
  cases u2
  have R3 := (R1.ex e2).ex e3
  have f3 : Fr [r] H H3 := f1.trans (Fr.of (e2.trans e3))
  replace u3 := u3.ex e3
  try dsimp only
  refine w_seq (w_asg (w_taken rfl R3 hn (m := 8) ed_ci (by decide) (by decide) fun way H4 hway f4 R4 => ?_))
  replace u3 := u3.kp (R3.kp f4)
  dsimp only
  refine w_seq (w_asg (w_taken rfl R4 hn (m := ((encB wk.body).length : Int) + 1) (ed_is (ed_I0i (ed_len (ed_var rfl u3)) ed_ci) rfl) (by omega) (by rw [encB_length]; omega) fun kk H5 hkk f5 R5 => ?_))
  replace u3 := u3.kp (R4.kp f5)
  have f05 := (f3.trans f4).trans f5
  dsimp only
  refine w_seq (w_asg (w_d (K := K) (d := sayD) (ed_tup (eda_cons ed_cs (eda_cons (ed_tup (eda_cons ed_cs (eda_cons ed_ci eda_nil)) (by simp)) eda_nil)) (by simp)) fun us H6 e6 tus => ?_))
  have R6 := R5.ex e6
  have f06 := f05.trans (Fr.of (S := [r]) e6)
  replace u3 := u3.ex e6
  have tp6 := tp0.kp (R0.kp f06)
  try dsimp only
  -- what is told at the end, by its works
  have told : ∀ (v : V) (ws : List WkD) (Hz : Hp), ws.length ≤ 1000 → (∀ x ∈ ws, x ∈ p.map toD ∨ (0 ≤ x.ps ∧ GoodD x.body)) → Fr [r] H Hz → RowAt K s ns Hz r → Td K Hz v (.tuple (ws.map encWD)) → Q v Hz := fun v ws Hz hl hw f R t => kq v ws Hz (smWs_new hsm hpl.2 hw hl) f R t
  have inp : ∀ {ds : List WkD} {x : WkD}, x ∈ (p.map toD).take at_ ++ [x] ++ (p.map toD).drop (at_ + 1) → True := fun _ => trivial
  have mid : ∀ (x : WkD), 0 ≤ x.ps → GoodD x.body → ∀ y ∈ (p.map toD).take at_ ++ [x] ++ (p.map toD).drop (at_ + 1), y ∈ p.map toD ∨ (0 ≤ y.ps ∧ GoodD y.body) := fun x h1 h2 y hy => by
    simp only [List.append_assoc, List.mem_append, List.mem_singleton] at hy
    rcases hy with z | z | z
    · exact .inl (List.mem_of_mem_take z)
    · subst z; exact .inr ⟨h1, h2⟩
    · exact .inl (List.mem_of_mem_drop z)
  have midl : ∀ x : WkD, ((p.map toD).take at_ ++ [x] ++ (p.map toD).drop (at_ + 1)).length ≤ 1000 := fun x => by
    simp only [List.length_append, List.length_take, List.length_drop, List.length_map, List.length_singleton]
    omega
  have mide : ∀ x : WkD, ((p.map toD).take at_ ++ [x] ++ (p.map toD).drop (at_ + 1)).map encWD = (p.map encW).take at_ ++ [encWD x] ++ (p.map encW).drop (at_ + 1) := fun x => by
    rw [List.map_append, List.map_append, List.map_take, List.map_drop, encWD_toD]
    rfl
  have ecut : ∀ {Hz : Hp} {σ : L2.St} {x : PyData} {tw : TE}, σ[1]? = some (some pw) → σ[2]? = some (some (.int (at_ : Int))) → Td K Hz pw (.tuple (p.map encW)) → EvD K tw σ Hz x →
      EvD K (tOp (rCatA K) (tOp (rCatA K) (tSl (rSlA K) (tVar 1) tNoPart (tPart (tVar 2))) (tTup (tCons tw tNil))) (tSl (rSlA K) (tVar 1) (tPart (tOp (rI0 fun i j => .int (i + j)) (tVar 2) (tC (.int 1)))) tNoPart)) σ Hz (.tuple ((p.map encW).take at_ ++ [x] ++ (p.map encW).drop (at_ + 1))) := fun {Hz σ x tw} s1 s2 t ex =>
    ed_cat (ed_cat (ed_is (ed_sl (lo := none) (hi := some (at_ : Int)) (ed_var s1 t) eok_none (eok_some (ed_var s2 (.int _)))) (by rw [cutD_pre])) (ed_tup (eda_cons ex eda_nil) (by simp)) (by simp only [List.length_take, List.length_map, List.length_singleton]; omega)) (ed_is (ed_sl (lo := some ((at_ + 1 : Nat) : Int)) (hi := none) (ed_var s1 t) (eok_some (ed_is (ed_I0i (ed_var s2 (.int _)) ed_ci) (by simp))) eok_none) (by rw [cutD_suf])) (by simp only [List.length_append, List.length_take, List.length_drop, List.length_map, List.length_singleton]; omega)
  refine w_seq (w_ifs (w_t (K := K) (tk_v (ed_eqi (ed_var rfl (.int _)) ed_ci)) fun H7 e7 => ?_))
  have R7 := R6.ex e7
  have f07 := f06.trans (Fr.of (S := [r]) e7)
  have tp7 := tp6.ex e7
  replace u3 := u3.ex e7
  replace tus := tus.ex e7
  by_cases w0 : way = 0
  · refine ifT (by simp [w0]) ?_
    refine w_ret (w_pickL (m := 3) (ds := [.tuple [], .tuple (List.replicate 5 (p.map encW)).flatten, .tuple ((p.map encW).take at_ ++ [.tuple [.int 4, .int (wk.owns : Int), .tuple (encB wk.body)]] ++ (p.map encW).drop (at_ + 1))]) rfl R7 hn
      (edl_lst (eda_cons (ed_tup eda_nil (by simp)) (eda_cons (ed_repN (k := 5) (ed_var rfl tp7) ed_ci (fun e => by rw [List.map_eq_nil_iff.mp e] at hpl; simp at hpl) (by decide) (by rw [List.length_map]; omega)) (eda_cons (ecut rfl rfl tp7 (ed_tup (eda_cons ed_ci (eda_cons (ed_var rfl (.int _)) (eda_cons (ed_var rfl u3) eda_nil))) (by simp))) eda_nil))) (by simp)) rfl (by decide) (by decide) rfl fun j d v H8 hj f8 R8 t8 => ?_)
    have f08 := f07.trans f8
    match j, hj with
    | 0, hj =>
      cases hj
      exact told v [] H8 (by simp) (fun x hx => absurd hx (by simp)) f08 R8 t8
    | 1, hj =>
      cases hj
      refine told v (List.replicate 5 (p.map toD)).flatten H8 ?_ (fun x hx => ?_) f08 R8 ?_
      · simp
        omega
      · obtain ⟨l, hl, hx⟩ := List.mem_flatten.mp hx
        rw [(List.mem_replicate.mp hl).2] at hx
        exact .inl hx
      · rw [List.map_flatten, List.map_replicate, encWD_toD]
        exact t8
    | 2, hj =>
      cases hj
      refine told v _ H8 (midl ⟨4, wk.owns, .tuple (encB wk.body)⟩) (mid ⟨4, wk.owns, .tuple (encB wk.body)⟩ (by show (0 : Int) ≤ 4; decide) (g0.d (by decide))) f08 R8 ?_
      rw [mide]
      exact t8
  refine ifF (by simp; omega) (w_next ?_)
  dsimp only
  have w94 : ∀ {k1 : Nat}, ((94 : Int) + (k1 : Int)) = ((94 + k1 : Nat) : Int) := fun {k1} => by omega
  have w3 : ∀ {k1 : Nat}, ((3 : Int) + (k1 : Int)) = ((3 + k1 : Nat) : Int) := fun {k1} => by omega
  let St : Nat → L2.St → Hp → Prop := fun b σ' H' => ∃ (os : Int) (ub : V) (ds : List PyData), σ' = [some (.ref r), some pw, some (.int (at_ : Int)), some (.int (wk.params : Int)), some (.int os), some ub, some (.int (way : Int)), some (.int (kk : Int)), some us] ∧ Fr [r] H H' ∧ RowAt K s ns H' r ∧ Td K H' ub (.tuple ds) ∧ Td K H' us sayD ∧ GoodB ds b
  have one : ∀ {Hz : Hp} {σ : L2.St}, σ[8]? = some (some us) → Td K Hz us sayD → EvD K (tTup (tCons (tVar 8) tNil)) σ Hz (.tuple [sayD]) := fun s1 t => ed_tup (eda_cons (ed_var s1 t) eda_nil) (by simp)
  have nul : ∀ {Hz : Hp} {σ : L2.St}, EvD K (tTup (tCons (tC (.str "num")) (tCons (tC (.int 0)) tNil))) σ Hz (.tuple [.str "num", .int 0]) := ed_tup (eda_cons ed_cs (eda_cons ed_ci eda_nil)) (by simp)
  have enum : ∀ {Hz : Hp} {σ : L2.St}, EvD K (tTup (tCons (tC (.str "num")) (tCons (tC (.int 1)) tNil))) σ Hz oneD := ed_tup (eda_cons ed_cs (eda_cons ed_ci eda_nil)) (by simp)
  -- way 1
  refine seq_cut (St 1000) (fun σ' Ha hst => ?_) fun N hN => ?_
  rotate_left
  · refine w_ifs (w_t (K := K) (tk_v (ed_eqi (ed_var rfl (.int _)) ed_ci)) fun Ha ea => ?_)
    by_cases hw : way = 1
    · refine ifT (by simp [hw]) ?_
      refine w_asg (w_pickL (m := 2) (ds := [.int 100, .int (0 - 1)]) rfl (R7.ex ea) hn (edl_lst (eda_cons ed_ci (eda_cons (ed_I0i ed_ci ed_ci) eda_nil)) (by simp)) rfl (by decide) (by decide) rfl fun j d v Hb hj fb Rb tb => ?_)
      have kb := (R7.ex ea).kp fb
      match j, hj with
      | 0, hj =>
        cases hj
        cases tb
        exact hN _ _ ⟨100, _, _, rfl, (f07.trans (Fr.of ea)).trans fb, Rb, (u3.ex ea).kp kb, (tus.ex ea).kp kb, g0.mono (by decide)⟩
      | 1, hj =>
        cases hj
        cases tb
        exact hN _ _ ⟨0 - 1, _, _, rfl, (f07.trans (Fr.of ea)).trans fb, Rb, (u3.ex ea).kp kb, (tus.ex ea).kp kb, g0.mono (by decide)⟩
    · exact ifF (by simp; omega) (w_next (hN _ _ ⟨_, _, _, rfl, f07.trans (Fr.of ea), R7.ex ea, u3.ex ea, tus.ex ea, g0.mono (by decide)⟩))
  obtain ⟨os, ub, ds, rfl, fa, Ra, ta, tu, gb⟩ := hst
  -- way 2
  refine seq_cut (St 1000) (fun σ' Hb hst => ?_) fun N hN => ?_
  rotate_left
  · refine w_ifs (w_t (K := K) (tk_v (ed_eqi (ed_var rfl (.int _)) ed_ci)) fun Hb eb => ?_)
    have Rb := Ra.ex eb
    have tub := tu.ex eb
    have fb := fa.trans (Fr.of (S := [r]) eb)
    by_cases hw : way = 2
    · refine ifT (by simp [hw]) ?_
      refine w_asg (w_op (w_op (w_d (K := K) (one rfl tub) fun x1 H1' e1' t1' => w_op (w_c (w_taken rfl (Rb.ex e1') hn (m := 7) ed_ci (by decide) (by decide) fun k1 H2' hk1 f2' R2' => ⟨94, (k1 : Int), rfl, rfl, ?_⟩)))))
      have kp2 := (Rb.ex e1').kp f2'
      have tu2 := (tub.ex e1').kp kp2
      have f2b := (fb.trans (Fr.of (S := [r]) e1')).trans f2'
      show rRepN K x1 (.int ((94 : Int) + (k1 : Int))) H2' _
      rw [w94]
      refine w_rep (t1'.kp kp2) (by simp) (by omega) (by simp) fun x2 H3' e3' t3' => ?_
      rw [rep1] at t3'
      have R3' := R2'.ex e3'
      have tu3 := tu2.ex e3'
      refine w_tup (w_cons (w_tup (w_cons (w_c (w_cons (w_d (K := K) nul fun x4 H4' e4' t4' => w_cons (w_op (w_d (K := K) (one rfl (tu3.ex e4')) fun x5 H5' e5' t5' => w_taken rfl ((R3'.ex e4').ex e5') hn (m := 4) ed_ci (by decide) (by decide) fun k2 H6' hk2 f6' R6' => ?_))))))))
      have kp6 := ((R3'.ex e4').ex e5').kp f6'
      refine w_rep (t5'.kp kp6) (by simp) (by omega) (by simp) fun x7 H7' e7' t7' => ?_
      rw [rep1] at t7'
      refine w_cons (w_d (K := K) (one rfl ((((tu3.ex e4').ex e5').kp kp6).ex e7')) fun x8 H8' e8' t8' => w_nil ⟨by show 4 ≤ sizeLine; decide, fun p9 hp9 => w_nil ⟨by show 1 ≤ sizeLine; decide, fun p10 hp10 => ?_⟩⟩)
      have e9 := Ex.new (o := .tup [V.str "if", x4, x7, x8]) hp9
      have t9 : Td K (upd H8' p9 (.tup [V.str "if", x4, x7, x8])) (.ref p9) (.tuple [.str "if", .tuple [.str "num", .int 0], .tuple (List.replicate k2 sayD), .tuple [sayD]]) := td_new hp9 (.cons (.str _) (.cons ((((t4'.ex e5').kp kp6).ex e7').ex e8') (.cons (t7'.ex e8') (.cons t8' .nil))))
      generalize upd H8' p9 (.tup [V.str "if", x4, x7, x8]) = H9' at *
      have e10 := Ex.new (o := .tup [V.ref p9]) hp10
      have t10 : Td K (upd H9' p10 (.tup [V.ref p9])) (.ref p10) (.tuple [.tuple [.str "if", .tuple [.str "num", .int 0], .tuple (List.replicate k2 sayD), .tuple [sayD]]]) := td_new hp10 (.cons t9 .nil)
      generalize upd H9' p10 (.tup [V.ref p9]) = H10' at *
      have e610 := ((e7'.trans e8').trans e9).trans e10
      have kp36 : Keep K H3' H6' := ((ex_keep (e4'.trans e5')).trans kp6)
      refine w_cat ((t3'.kp kp36).ex e610) t10 (by simp; omega) fun v Hz ez tz => ?_
      have gif : GoodD (.tuple [.str "if", .tuple [.str "num", .int 0], .tuple (List.replicate k2 sayD), .tuple [sayD]]) := by
        have h1 := (GoodB.rep sayD_good k2).d (by omega)
        have h2 := (GoodB.one sayD_good).d (by decide)
        have q1 : PyData.strOk ("if" : Str) = true := by decide +kernel
        have q2 : PyData.strOk ("num" : Str) = true := by decide +kernel
        refine ⟨?_, ?_⟩
        · have a1 := h1.1
          have a2 := h2.1
          simp only [PyData.canLay0] at a1 a2
          simp [PyData.canLay0, PyData.canLayAll0, a1, q1, q2, sayD_good.1]
        · have a1 := h1.2
          simp only [smD, Bool.and_eq_true] at a1
          simp [smD, smDs, a1.2, sayD_good.2]
          omega
      refine hN _ _ ⟨os, v, _, rfl, ((f2b.trans (Fr.of ((e3'.trans e4').trans e5'))).trans f6').trans (Fr.of (e610.trans ez)), R6'.ex (e610.trans ez), tz, ((((tu3.ex e4').ex e5').kp kp6).ex e610).ex ez, ((GoodB.rep sayD_good _).app (GoodB.one gif)).mono (by omega)⟩
    · exact ifF (by simp; omega) (w_next (hN _ _ ⟨_, _, _, rfl, fb, Rb, ta.ex eb, tub, gb.mono (by decide)⟩))
  clear ta tu gb fa Ra
  obtain ⟨os, ub, ds, rfl, fa, Ra, ta, tu, gb⟩ := hst
  -- way 3
  refine seq_cut (St 1001) (fun σ' Hb hst => ?_) fun N hN => ?_
  rotate_left
  · refine w_ifs (w_t (K := K) (tk_v (ed_eqi (ed_var rfl (.int _)) ed_ci)) fun Hb eb => ?_)
    have Rb := Ra.ex eb
    have tub := tu.ex eb
    have fb := fa.trans (Fr.of (S := [r]) eb)
    by_cases hw : way = 3
    · refine ifT (by simp [hw]) ?_
      refine w_asg (w_op (w_d (K := K) (ed_is (ed_sl (lo := none) (hi := some (kk : Int)) (ed_var rfl (ta.ex eb)) eok_none (eok_some (ed_var rfl (.int _)))) (by rw [cutD_pre])) fun x1 H1' e1' t1' => ?_))
      refine w_tup (w_cons (w_call (w_cons (w_v rfl (w_cons (w_v rfl (w_cons (w_op (w_c (w_taken rfl (Rb.ex e1') hn (m := 4) ed_ci (by decide) (by decide) fun k1 H2' hk1 f2' R2' => ⟨3, (k1 : Int), rfl, rfl, w_nil ?_⟩))))))))))
      have kp2 := (Rb.ex e1').kp f2'
      refine ⟨r, s, ns, us, sayD, 3 + k1, (by show [V.ref r, us, V.int ((3 : Int) + (k1 : Int))] = _; rw [w3]), R2', hn, (tub.ex e1').kp kp2, sayD_good, by omega, fun v' d' H3' gd f3' R3' t3' => ?_⟩
      have kp3 := R2'.kp f3'
      refine w_nil ⟨by show 1 ≤ sizeLine; decide, fun p4 hp4 => ?_⟩
      have e4 := Ex.new (o := .tup [v']) hp4
      refine w_cat (((t1'.kp kp2).kp kp3).ex e4) (td_new hp4 (.cons t3' .nil)) (by have := (gb.take kk).len; simp only [List.length_singleton]; omega) fun v Hz ez tz => ?_
      exact hN _ _ ⟨os, v, _, rfl, ((((fb.trans (Fr.of e1')).trans f2').trans f3').trans (Fr.of (e4.trans ez))), R3'.ex (e4.trans ez), tz, (((tub.ex e1').kp kp2).kp kp3).ex (e4.trans ez), ((gb.take kk).app (GoodB.one gd)).mono (by decide)⟩
    · exact ifF (by simp; omega) (w_next (hN _ _ ⟨_, _, _, rfl, fb, Rb, ta.ex eb, tub, gb.mono (by decide)⟩))
  clear ta tu gb fa Ra
  obtain ⟨os, ub, ds, rfl, fa, Ra, ta, tu, gb⟩ := hst
  -- way 4
  refine seq_cut (St 1002) (fun σ' Hb hst => ?_) fun N hN => ?_
  rotate_left
  · refine w_ifs (w_t (K := K) (tk_v (ed_eqi (ed_var rfl (.int _)) ed_ci)) fun Hb eb => ?_)
    have Rb := Ra.ex eb
    have tub := tu.ex eb
    have fb := fa.trans (Fr.of (S := [r]) eb)
    by_cases hw : way = 4
    · refine ifT (by simp [hw]) ?_
      refine w_asg (w_op (w_d (K := K) (ed_is (ed_sl (lo := none) (hi := some (kk : Int)) (ed_var rfl (ta.ex eb)) eok_none (eok_some (ed_var rfl (.int _)))) (by rw [cutD_pre])) fun x1 H1' e1' t1' => ?_))
      refine w_tup (w_cons (w_tup (w_cons (w_c (w_cons (w_call (w_cons (w_v rfl (w_cons (w_d (K := K) enum fun xn Hn en tn => w_cons (w_op (w_c (w_taken rfl ((Rb.ex e1').ex en) hn (m := 4) ed_ci (by decide) (by decide) fun k1 H2' hk1 f2' R2' => ⟨3, (k1 : Int), rfl, rfl, w_nil ?_⟩)))))))))))))
      have kp2 := ((Rb.ex e1').ex en).kp f2'
      refine ⟨r, s, ns, xn, oneD, 3 + k1, (by show [V.ref r, xn, V.int ((3 : Int) + (k1 : Int))] = _; rw [w3]), R2', hn, tn.kp kp2, ⟨by decide +kernel, by decide +kernel⟩, by omega, fun v' d' H3' gd f3' R3' t3' => ?_⟩
      have kp3 := R2'.kp f3'
      refine w_nil ⟨by show 2 ≤ sizeLine; decide, fun p4 hp4 => w_nil ⟨by show 1 ≤ sizeLine; decide, fun p5 hp5 => ?_⟩⟩
      have e4 := Ex.new (o := .tup [V.str "say", v']) hp4
      have t4 : Td K (upd H3' p4 (.tup [V.str "say", v'])) (.ref p4) (.tuple [.str "say", d']) := td_new hp4 (.cons (.str _) (.cons t3' .nil))
      generalize upd H3' p4 (.tup [V.str "say", v']) = H4' at *
      have e5 := Ex.new (o := .tup [V.ref p4]) hp5
      have e45 := e4.trans e5
      refine w_cat ((((t1'.ex en).kp kp2).kp kp3).ex e45) (td_new hp5 (.cons t4 .nil)) (by have := (gb.take kk).len; simp only [List.length_singleton]; omega) fun v Hz ez tz => ?_
      have gs : GoodD (.tuple [.str "say", d']) := GoodB.tup (by decide +kernel) (GoodB.one gd) (by decide)
      exact hN _ _ ⟨os, v, _, rfl, ((((fb.trans (Fr.of (e1'.trans en))).trans f2').trans f3').trans (Fr.of (e45.trans ez))), R3'.ex (e45.trans ez), tz, ((((tub.ex e1').ex en).kp kp2).kp kp3).ex (e45.trans ez), ((gb.take kk).app (GoodB.one gs)).mono (by decide)⟩
    · exact ifF (by simp; omega) (w_next (hN _ _ ⟨_, _, _, rfl, fb, Rb, ta.ex eb, tub, gb.mono (by decide)⟩))
  clear ta tu gb fa Ra
  obtain ⟨os, ub, ds, rfl, fa, Ra, ta, tu, gb⟩ := hst
  have tpa := tp0.kp (R0.kp fa)
  -- way 5
  refine w_seq (w_ifs (w_t (K := K) (tk_v (ed_eqi (ed_var rfl (.int _)) ed_ci)) fun Hb eb => ?_))
  have Rb := Ra.ex eb
  have tub := tu.ex eb
  have fb := fa.trans (Fr.of (S := [r]) eb)
  have tpb := tpa.ex eb
  by_cases hw : way = 5
  · refine ifT (by simp [hw]) ?_
    refine w_ret (w_d (K := K) (ed_cat (ed_tup (eda_cons (ed_tup (eda_cons ed_ci (eda_cons (ed_var rfl (.int _)) (eda_cons (ed_var rfl (ta.ex eb)) eda_nil))) (by simp)) eda_nil) (by simp)) (ed_is (ed_sl (lo := some ((1 : Nat) : Int)) (hi := none) (ed_var rfl tpb) (eok_some ed_ci) eok_none) (by rw [cutD_suf])) (by simp only [List.length_singleton, List.length_drop, List.length_map]; omega)) fun v Hz ez tz => ?_)
    refine told v (⟨1, os, .tuple ds⟩ :: (p.map toD).drop 1) Hz (by simp only [List.length_cons, List.length_drop, List.length_map]; omega) (fun x hx => ?_) (fb.trans (Fr.of ez)) (Rb.ex ez) ?_
    · rcases List.mem_cons.mp hx with z | z
      · subst z
        exact .inr ⟨by show (0 : Int) ≤ 1; decide, gb.d (by decide)⟩
      · exact .inl (List.mem_of_mem_drop z)
    · rw [List.map_cons, List.map_drop, encWD_toD]
      exact tz
  refine ifF (by simp; omega) (w_next ?_)
  dsimp only
  -- beyond
  refine seq_cut (St 2005) (fun σ' Hc hst => ?_) fun N hN => ?_
  rotate_left
  · refine w_ifs (w_t (K := K) (tk_v (ed_I0b (ed_var rfl (.int _)) ed_ci)) fun Hc ec => ?_)
    have Rc := Rb.ex ec
    have tuc := tub.ex ec
    have tac := (ta.ex eb).ex ec
    have fc := fb.trans (Fr.of (S := [r]) ec)
    by_cases hw : way > 5
    · refine ifT (by simp; omega) ?_
      refine w_asg (w_op (w_op (w_d (K := K) (ed_is (ed_sl (lo := none) (hi := some (kk : Int)) (ed_var rfl tac) eok_none (eok_some (ed_var rfl (.int _)))) (by rw [cutD_pre])) fun x1 H1' e1' t1' => ?_)))
      refine w_tup (w_cons (w_call (w_cons (w_v rfl (w_cons (w_call (w_cons (w_v rfl (w_nil ⟨r, s, ns, rfl, Rc.ex e1', hn, fun vo do_ Ho go fo Ro to => w_cons (w_taken rfl Ro hn (m := 3) ed_ci (by decide) (by decide) fun k1 H2' hk1 f2' R2' => w_nil ?_)⟩)))))))))
      have kpo := (Rc.ex e1').kp fo
      have kp2 := Ro.kp f2'
      refine ⟨r, s, ns, vo, do_, k1, rfl, R2', hn, to.kp kp2, go, by omega, fun v' d' H3' gd f3' R3' t3' => ?_⟩
      have kp3 := R2'.kp f3'
      refine w_nil ⟨by show 1 ≤ sizeLine; decide, fun p4 hp4 => ?_⟩
      have e4 := Ex.new (o := .tup [v']) hp4
      refine w_cat ((((t1'.kp kpo).kp kp2).kp kp3).ex e4) (td_new hp4 (.cons t3' .nil)) (by have := (gb.take kk).len; simp only [List.length_singleton]; omega) fun v Hz ez tz => ?_
      have tuz := ((((((tac.ex e1').kp kpo).kp kp2).kp kp3).ex e4).ex ez)
      refine w_d (K := K) (ed_is (ed_sl (lo := some (kk : Int)) (hi := none) (ed_var rfl tuz) (eok_some (ed_var rfl (.int _))) eok_none) (by rw [cutD_suf])) fun x7 H7' e7' t7' => ?_
      refine w_cat (tz.ex e7') t7' (by have := (gb.take kk).len; have := (gb.drop kk).len; simp only [List.length_append, List.length_singleton]; omega) fun v9 Hy ey ty => ?_
      have ex := ((e4.trans ez).trans e7').trans ey
      exact hN _ _ ⟨os, v9, _, rfl, (((((fc.trans (Fr.of e1')).trans fo).trans f2').trans f3').trans (Fr.of ex)), R3'.ex ex, ty, (((((tuc.ex e1').kp kpo).kp kp2).kp kp3).ex ex), ((((gb.take kk).app (GoodB.one gd)).app (gb.drop kk)).mono (by decide))⟩
    · exact ifF (by simp; omega) (w_next (hN _ _ ⟨_, _, _, rfl, fc, Rc, (ta.ex eb).ex ec, tuc, gb.mono (by decide)⟩))
  clear ta tu gb fa Ra Rb tub fb tpb tpa
  obtain ⟨os, ub, ds, rfl, fa, Ra, ta, tu, gb⟩ := hst
  have tpa := tp0.kp (R0.kp fa)
  refine w_ret (w_d (K := K) (ecut rfl rfl tpa (ed_tup (eda_cons (ed_var rfl (.int _)) (eda_cons (ed_var rfl (.int _)) (eda_cons (ed_var rfl ta) eda_nil))) (by simp))) fun v Hz ez tz => ?_)
  refine told v _ Hz (midl ⟨wk.params, os, .tuple ds⟩) (mid ⟨wk.params, os, .tuple ds⟩ (by show (0 : Int) ≤ (wk.params : Int); omega) (gb.d (by decide))) (fa.trans (Fr.of ez)) (Ra.ex ez) ?_
  rw [mide]
  exact tz
end
end Hw

set_option maxRecDepth 100000
set_option maxHeartbeats 4000000
/-! KL9: the law's own lambdas; lists of lambdas -/
namespace Hw
open PySem PySem.Spec PyProof.Rows L2 Evl LamX NdefX LamK
local macro_rules | `(tactic| walk_at "dd") => `(tactic| first | rfl | decide | (simp; done) | omega)
local macro_rules | `(tactic| walk_at "td") => `(tactic| first | assumption | exact Td.int _ | exact Td.bl _ | exact Td.str _ | exact Td.non | exact Td.tup (by assumption) (by assumption))
local macro_rules | `(tactic| walk_at "ev") => `(tactic| first
  | exact ed_ci | exact ed_cs | exact ed_cb | exact ed_cn
  | (apply ed_cg; assumption)
  | (apply ed_var; (rfl); (walk_at "td"))
  | (apply ed_ixT; (walk_at "ev"); (walk_at "ev"); (first | rfl | assumption))
  | (apply ed_rowI; (rfl); (assumption); (walk_at "ev"); (rfl))
  | (apply ed_ixL; (apply EvDL.rd; walk_at "edl"); (walk_at "ev"); (rfl))
  | (apply ed_intb; (walk_at "ev"))
  | (apply ed_len; walk_at "ev")
  | (apply ed_lenV; (apply ev_rowR; (rfl); (assumption); (walk_at "ev"); (rfl)); (assumption))
  | (apply ed_Ii; (walk_at "ev"); (walk_at "ev"); (walk_at "cc"))
  | (apply ed_isi; (walk_at "ev"); (rfl))
  | (apply ed_I0i; (walk_at "ev"); (walk_at "ev"))
  | (apply ed_I0b; (walk_at "ev"); (walk_at "ev"))
  | (apply ed_eqi; (walk_at "ev"); (walk_at "ev"))
  | (apply ed_nei; (walk_at "ev"); (walk_at "ev"))
  | (apply ed_andF; walk_at "ev")
  | (apply ed_andV; (walk_at "ev"); (intro _; walk_at "ev"))
  | (apply ed_orT; walk_at "ev")
  | (apply ed_orV; (walk_at "ev"); (intro _; walk_at "ev"))
  | (apply ed_notT; walk_at "ev")
  | (apply ed_notF; walk_at "ev")
  | (apply ed_notV; walk_at "ev")
  | (apply ed_chain; (walk_at "ev"); (walk_at "ev"); (intro _; walk_at "ev"))
  | (apply ed_eqS; (walk_at "ev"); (walk_at "ev"); (walk_at "bb"); (walk_at "bb"))
  | (apply ed_neS; (walk_at "ev"); (walk_at "ev"); (walk_at "bb"); (walk_at "bb"))
  | (apply ed_inT; (walk_at "ev"); (walk_at "ev"); (rfl); (rfl))
  | (apply ed_niT; (walk_at "ev"); (walk_at "ev"); (rfl); (rfl))
  | (apply ed_tup; (walk_at "eva"); (walk_at "bb"))
  | (apply ed_sl; (walk_at "ev"); (walk_at "evo"); (walk_at "evo"))
  | (apply ed_eqN; (apply EvDL.rd; walk_at "edl"); (walk_at "edl"); (walk_at "bb"))
  | (apply ed_neN; (apply EvDL.rd; walk_at "edl"); (walk_at "edl"); (walk_at "bb"))
  | (apply ed_ixL; (apply edr_var; (rfl); (assumption); (assumption)); (walk_at "ev"); (first | rfl | assumption))
  | (apply ed_lenL; (apply edr_var; (rfl); (assumption); (assumption)))
  | (apply ed_call; (walk_at "eva"); (walk_at "post")))
local macro_rules | `(tactic| walk_at "edl") => `(tactic| first
  | assumption
  | (apply edl_lst; (walk_at "eva"); (walk_at "bb")))
local macro_rules | `(tactic| walk_at "eva") => `(tactic| first
  | exact eda_nil
  | (apply eda_cons; (walk_at "ev"); (walk_at "eva")))
local macro_rules | `(tactic| walk_at "evo") => `(tactic| first
  | exact eok_none
  | (apply eok_some; walk_at "ev"))
local macro_rules | `(tactic| walk_at "bb") => `(tactic| first | rfl | assumption | (simp; done) | (simp; omega) | decide +kernel)
local macro_rules | `(tactic| walk_at "et") => `(tactic| first
  | exact tk_yes
  | (apply tk_andF; walk_at "et")
  | (apply tk_and; (walk_at "et"); (intro _; walk_at "et"))
  | (apply tk_orT; walk_at "et")
  | (apply tk_or; (walk_at "et"); (intro _; walk_at "et"))
  | (apply tk_notT; walk_at "et")
  | (apply tk_notF; walk_at "et")
  | (apply tk_not; walk_at "et")
  | (apply tk_v; walk_at "ev")
  | (apply tk_vB; walk_at "ev"))
local macro_rules | `(tactic| walk_at "if") => `(tactic| first
  | (apply pst_whenF; (walk_at "et"); (walk_at "bb"))
  | (apply pst_whenT; (walk_at "et"); (walk_at "bb")))
local macro_rules | `(tactic| walk_at "post") => `(tactic| first | assumption | exact ⟨_, _, rfl, rfl⟩ | exact ⟨_, _, _, _, rfl, by omega, by omega, rfl⟩ | exact ⟨_, _, _, 0, rfl, by omega, by omega, rfl⟩)
local macro_rules | `(tactic| walk_at "cc") => `(tactic| first | assumption | decide | omega | (refine ⟨?_, ?_⟩ <;> first | decide | omega) | (exact Or.inl (by constructor <;> omega)))

def lawL (i : Nat) : Expr := match (defBody s_law).getD 1 (.Pass ⟨0, 0, 0, 0⟩) with
  | .For _ _ body _ _ => (match body.getD i (.Pass ⟨0, 0, 0, 0⟩) with
    | .If (.Compare (.Call _ (l :: _) _ _) _ _ _) _ _ _ => l
    | _ => .Name "" ⟨0, 0, 0, 0⟩)
  | _ => .Name "" ⟨0, 0, 0, 0⟩
def spLawT (K : PySem.W.Frag) : Sp := fun vs H Q _ => ∃ (s : Addr) (ns : List Int), vs = [.ref s] ∧ SqL K H s (ns.map V.int) ∧ ns.length ≤ 63 ∧ Tabs (tabT K) H ∧ ∀ H', Q (.bl true) H'
def tfs0 : List He.Defn := [("law", none), ("_law_works", none), ("_law_others", none)]
theorem tabs_nil {K : PySem.W.Frag} {H : Hp} (h : ∀ p ∈ tfs0.map (He.cT K), H p.2 = some (.tbl #[])) : Tabs (tabT K) H := fun p hp => by
  simp only [tabT, List.mem_cons, List.not_mem_nil, or_false] at hp
  rcases hp with rfl | rfl | rfl
  · exact TabS.nil (h (He.cT K ("law", none)) (List.mem_map_of_mem (by simp [tfs0])))
  · exact TabS.nil (h (He.cT K ("_law_works", none)) (List.mem_map_of_mem (by simp [tfs0])))
  · exact TabS.nil (h (He.cT K ("_law_others", none)) (List.mem_map_of_mem (by simp [tfs0])))
theorem tbs_of {K : PySem.W.Frag} {mg : Str → Option Value} {base : Heap} (h : ∀ p ∈ tfs0.map (He.cT K), TabB base mg p.1 p.2) : TBs K mg base :=
  ⟨h (He.cT K ("law", none)) (List.mem_map_of_mem (by simp [tfs0])), h (He.cT K ("_law_works", none)) (List.mem_map_of_mem (by simp [tfs0])), h (He.cT K ("_law_others", none)) (List.mem_map_of_mem (by simp [tfs0]))⟩
/-- _law_word(lambda: ..) -/
def tWL (Ts : List (Addr × Str)) (mk : Addr → LF) (js : List Nat) (K : PySem.W.Frag) (sp : List (Option V) → Hp → VK → XK → Prop) : TE := fun σ H Q => Tabs Ts H ∧ ∀ (G : Hp), ExtN H G → Tabs Ts G → ∃ wd, Tells K (sp (js.map (slotAt σ))) G wd ∧ (wd = .non ∨ wd = .str "program" ∨ wd = .str "ways") ∧ ∀ H', Ex G H' → Q wd H'
theorem pe_wordL0 {X : Cx} (T : Tx X.K X.mg) {Ts : List (Addr × Str)} {cm Pt : Addr} {qn : Str} {params : Arguments} {body : Expr} {scope : Scope} {lpos : Pos} {fr : List Str} {js : List Nat} {k : Nat} {sp : List (Option V) → Hp → VK → XK → Prop} (hqn : X.env.qual ++ "<lambda>" = qn) (TB : TabB X.base X.mg cm Pt) (hcode : X.env.code = .ref cm) (hmem : (Pt, qn) ∈ Ts) (huni : ∀ p ∈ Ts, p.1 = Pt → p.2 = qn)
    (hdef : defaultsOf params X.env = ([], [])) (L : LamS X.env.scope scope) (Lm : ∀ f co : Addr, LmOk X.prog X.w X.K X.mg X.base (L2.CX X.prog X.w) k f ⟨qn, params, body, scope, cloFrom X.env.cells scope.names [], co⟩ fr sp) (hB : ndefB X.env.scope scope fr = true) (hjs : js.map (fun j => X.N[j]?) = fr.map some) (hr : Room (k + 1) X.A) (hg : Gl X "_law_word") {p pos : Pos} :
    PE X (.Call (.Name "_law_word" p) [.Lambda params body scope lpos] [] pos) (tWL Ts (fun co => ⟨qn, params, body, scope, cloFrom X.env.cells scope.names [], co⟩) js X.K sp) := by
  refine ⟨fun pins s σ H Q I h => ?_⟩
  obtain ⟨hT, h⟩ := h
  refine wpAny_Call_Name_kw (ld_glob I hg T.g__law_word ?_ (by decide))
  refine PySem.W.callWith_K (h₀ := X.base) I.ok.mod.kin T.k__law_word ?_ (by rfl) (by rfl)
  show wpAny _ _ (spliced ((false, eval (.Lambda params body scope lpos) X.env) :: backTo pos (starEach [] X.env))) _ _ s
  refine Calls.spliced_cons (mk_lam I hqn TB hcode hmem huni hT hdef (L.has I.ok) fun f co G s' J a b c d e g => ?_)
  refine Calls.spliced_nil ⟨J.kIn, ?_⟩
  obtain ⟨wd, tells, hwd, kq⟩ := h G a c
  have C := cells_of J (Caps.made J.ok (ndef_free hB) (ndef_fr hB) hjs)
  have hb := T.bd__law_word s' [.ref f] J.kIn rfl
  have rc := word_run T (P := X.prog) (w := X.w) (base := X.base) (Lm f co) (A := X.A) (outer := X.stack) (s := s') (H := G) (args := ⟨[.ref f], []⟩) (Q := Q) (E := fun _ _ _ => False) hr J.env0 hb e g C tells hwd kq
  refine wpAny_call (codeAny_mono rc fun r s2 hq => ?_)
  cases r with
  | error e => exact (show False from hq).elim
  | ok fl =>
    cases fl with
    | ret u => exact J.after hq
    | next => exact False.elim hq
    | brk => exact False.elim hq
    | cont => exact False.elim hq
theorem pe_wordL {X : Cx} (T : Tx X.K X.mg) (l : Expr) (lpos : Pos) (hl : l = .Lambda (lamP l) (lamB l) (lamC l) lpos) {Ts : List (Addr × Str)} {cm Pt : Addr} {qn : Str} {fr : List Str} {js : List Nat} {k : Nat} {sp : List (Option V) → Hp → VK → XK → Prop} (hqn : X.env.qual ++ "<lambda>" = qn) (TB : TabB X.base X.mg cm Pt) (hcode : X.env.code = .ref cm) (hmem : (Pt, qn) ∈ Ts) (huni : ∀ p ∈ Ts, p.1 = Pt → p.2 = qn)
    (hdef : defaultsOf (lamP l) X.env = ([], [])) (L : LamS X.env.scope (lamC l)) (Lm : ∀ f co : Addr, LmOk X.prog X.w X.K X.mg X.base (L2.CX X.prog X.w) k f (mkF l qn X.env.cells co) fr sp) (hB : ndefB X.env.scope (lamC l) fr = true) (hjs : js.map (fun j => X.N[j]?) = fr.map some) (hr : Room (k + 1) X.A) (hg : Gl X "_law_word") {p pos : Pos} :
    PE X (.Call (.Name "_law_word" p) [l] [] pos) (tWL Ts (fun co => mkF l qn X.env.cells co) js X.K sp) := by
  have e := pe_wordL0 (X := X) T (lpos := lpos) (p := p) (pos := pos) hqn TB hcode hmem huni hdef L Lm hB hjs hr hg
  rw [← hl] at e
  exact e
section
variable {P : Program} {w : World} {K : PySem.W.Frag} {mg : Str → Option Value} {base : Heap} (T : Tx K mg)
include T
theorem lm_l1 {f c : Addr} {cells : List (Str × Addr)} (G : Fn_need_program T P w base (L2.CX P w) 22 (spNPD K)) : LmOk P w K mg base (L2.CX P w) 25 f (mkF (lawL 2) qnL cells c) ["_law_program_here"] (fun ws H Q E => ∃ pw, ws = [some pw] ∧ spNPD K [pw] H Q E) :=
  lmok_of (N := ["_law_program_here"]) (k := 24) (nscope_by (sc := lamC (lawL 2)) (by decide +kernel)) (fun pm ctv => by rfl) (fun A outer s H ws Q E hr hl h => by
    obtain ⟨pw, rfl, h⟩ := h
    exact ⟨_, pe_call G (hr.mono (by omega)) (by rfl) T.g_need_program T.k_need_program T.bd_need_program .nil (passes_call (L2.takes_of rfl rfl rfl rfl) (fun _ _ _ _ h => h)) (pa_cons (pv 0) pa_nil), w_call (w_cons (w_v rfl (w_nil h)))⟩)
theorem lm_l2 {f c : Addr} {cells : List (Str × Addr)} (G : Fn_parted T P w base (L2.CX P w) 24 (spRf3 K)) : LmOk P w K mg base (L2.CX P w) 25 f (mkF (lawL 7) qnL cells c) ["_law_program_here", "_law_ways_here", "_law_bad"] (fun ws H Q E => ∃ pw yw zw, ws = [some pw, some yw, some zw] ∧ spRf3 K [pw, yw, zw] H Q E) :=
  lmok_of (N := ["_law_program_here", "_law_ways_here", "_law_bad"]) (k := 24) (nscope_by (sc := lamC (lawL 7)) (by decide +kernel)) (fun pm ctv => by rfl) (fun A outer s H ws Q E hr hl h => by
    obtain ⟨pw, yw, zw, rfl, h⟩ := h
    exact ⟨_, pe_call G (hr.mono (by omega)) (by rfl) T.g_parted T.k_parted T.bd_parted .nil (passes_call (L2.takes_of rfl rfl rfl rfl) (fun _ _ _ _ h => h)) (pa_cons (pv 0) (pa_cons (pv 1) (pa_cons (pv 2) pa_nil))), w_call (w_cons (w_v rfl (w_cons (w_v rfl (w_cons (w_v rfl (w_nil h)))))))⟩)
end
/-! lists of lambdas, asked -/
theorem CanW.kp {K : PySem.W.Frag} {H H' : Hp} {pw yw wd : V} (h : CanW K H pw yw wd) (k : Keep K H H') : CanW K H' pw yw wd := by
  obtain ⟨ws, ys, a, b, c⟩ := h
  exact ⟨ws, ys, a.kp k, b.kp k, c⟩
theorem CanO.kp {K : PySem.W.Frag} {H H' : Hp} {q : Bool} {pw wd : V} (h : CanO K q H pw wd) (k : Keep K H H') : CanO K q H' pw wd := by
  obtain ⟨ws, a, c⟩ := h
  exact ⟨ws, a.kp k, c⟩
theorem extN_keep {K : PySem.W.Frag} {H H' : Hp} (e : ExtN H H') : Keep K H H' := fun a xs q => by
  rcases q with (q | ⟨oo, q⟩) | q
  · exact .inl (.inl (e _ _ q fun ps z => by cases z))
  · exact .inl (.inr ⟨oo, e _ _ q fun ps z => by cases z⟩)
  · exact .inr q
theorem extN_seq {K : PySem.W.Frag} {H H' : Hp} {a : Addr} {xs : List V} (e : ExtN H H') (q : SqL K H a xs) : SqL K H' a xs := by
  rcases q with (q | ⟨oo, q⟩) | q
  · exact .inl (.inl (e _ _ q fun ps z => by cases z))
  · exact .inl (.inr ⟨oo, e _ _ q fun ps z => by cases z⟩)
  · exact .inr q
theorem RowAt.extN {K : PySem.W.Frag} {s : Addr} {ns : List Int} {H H' : Hp} {r : Addr} (h : RowAt K s ns H r) (e : ExtN H H') : RowAt K s ns H' r := by
  obtain ⟨a, b, c, h1, h2, h3⟩ := h
  exact ⟨a, b, c, e _ _ h1 (fun ps z => by cases z), extN_seq e h2, h3⟩
theorem wd_td {K : PySem.W.Frag} {wd : V} (h : wd = .non ∨ wd = .str "program" ∨ wd = .str "ways") : ∃ d, ∀ H, Td K H wd d := by
  rcases h with rfl | rfl | rfl
  · exact ⟨.none, fun _ => .non⟩
  · exact ⟨_, fun _ => .str _⟩
  · exact ⟨_, fun _ => .str _⟩
section
variable {P : Program} {w : World} {K : PySem.W.Frag} {mg : Str → Option Value} {base : Heap} {σ : L2.St} {H : Hp} {f : Addr} {j : Nat} {pw yw wd : V} {E : XK} {b : Bool} {d : PyData}
theorem ed_askW (hs : σ[j]? = some (some (.ref f))) (h : ∃ F fr us, KnownL H f F fr us ∧ LamW P w K mg base f F fr us pw yw) (can : CanW K H pw yw wd) (hwd : wd = .non ∨ wd = .str "program" ∨ wd = .str "ways") (td : ∀ H, Td K H wd d) : EvD K (tCall (spWk P w K mg base 25) [] E (tCons (tVar j) tNil)) σ H d := fun H1 e Q q => by
  obtain ⟨F, fr, us, kn, sp, Lm, hT⟩ := h
  exact w_call (w_cons (w_v hs (w_nil ⟨f, F, fr, us, wd, sp, rfl, kn.ex e, Lm, fun H' kp => hT H' wd (can.kp ((ex_keep e).trans kp)), hwd, fun H' e' => q wd H' e' (td H')⟩)))
theorem ed_askO (hs : σ[j]? = some (some (.ref f))) (h : ∃ F fr us, KnownL H f F fr us ∧ LamO P w K mg base b f F fr us pw) (can : CanO K b H pw wd) (hwd : wd = .non ∨ wd = .str "program" ∨ wd = .str "ways") (td : ∀ H, Td K H wd d) : EvD K (tCall (spWk P w K mg base 25) [] E (tCons (tVar j) tNil)) σ H d := fun H1 e Q q => by
  obtain ⟨F, fr, us, kn, sp, Lm, hT⟩ := h
  exact w_call (w_cons (w_v hs (w_nil ⟨f, F, fr, us, wd, sp, rfl, kn.ex e, Lm, fun H' kp => hT H' wd (can.kp ((ex_keep e).trans kp)), hwd, fun H' e' => q wd H' e' (td H')⟩)))
theorem tk_isN {te : TE} (h : EvD K te σ H .none) : EvTK K (tTest (tNotN te)) σ H false := fun H1 e Q q => h H1 e _ fun v H2 e2 tv => by
  cases tv
  exact ⟨false, rfl, q H2 e2⟩
end
section
variable {K : PySem.W.Frag} {σ : L2.St} {H : Hp} {D : Ends} {te tl : TE} {t : TT} {Q : VK} {j : Nat} {vs : List Nat} {n : Nat}
/-- [te for j in xs], the same data for each -/
theorem lc_same {a Dl : Addr} {xs : List V} {d : PyData} {Qd : Hp → Prop} (hD : H Dl = none) (hx : SqL K H a xs) (hl : xs.length ≤ 1000) (hw : ∀ x, wipe ((wipe σ vs).set j (some x)) vs = wipe σ vs) (he : ∀ x ∈ xs, EvD K te ((wipe σ vs).set j (some x)) H d) (hd : ∀ H' acc, Ex H H' → H' Dl = some (.lst acc) → TdAll K H' acc (List.replicate xs.length d) → Qd H') :
    ∃ W : Nat → Nat → Hp → Prop, (∃ m, W 0 m (upd H Dl (.lst []))) ∧ ∀ i m H, W i m H →
      ((Itl K a).stop i H ∧ Qd H) ∨ ((Itl K a).go i H ∧ ∃ Nx : Hp → Prop, (∀ H', Nx H' → ∃ m', m' < m ∧ W (i + 1) m' H') ∧ ∀ x H', (Itl K a).yld i H x H' → gName j x (wipe σ vs) H' fun σ2 H2 => wipe σ2 vs = wipe σ vs ∧ tYes σ2 H2 fun b H3 =>
        if b = true then te σ2 H3 fun y H4 => ∃ acc, H4 Dl = some (.lst acc) ∧ acc.length < sizeLine ∧ Nx (upd H4 Dl (.lst (acc ++ [y]))) else Nx H3) := by
  refine lc_list (xs := xs) (fun i H' => Cd K H Dl (List.replicate i d) H') ⟨hD, Ex.new hD, [], upd_same, .nil⟩ (fun i H' _ c => ex_l c.2.1 hx) (fun i x H' hi c => ⟨hw x, ?_⟩) (fun H' c => ?_)
  · have hlt := (List.getElem?_eq_some_iff.mp hi).1
    have := cd_step (t := tYes) (te := te) (b := true) (e := d) (σ2 := (wipe σ vs).set j (some x)) c (by rw [List.length_replicate]; omega) tk_yes (fun _ => he x (List.mem_of_getElem? hi))
    have er : List.replicate (i + 1) d = List.replicate i d ++ [d] := List.replicate_succ'
    rw [er]
    exact this
  · obtain ⟨_, e, acc, h1, h2⟩ := c
    exact hd H' acc e h1 h2
/-- [.. for j in xs if t], t false -/
theorem lc_none {a Dl : Addr} {xs : List V} {Qd : Hp → Prop} (hD : H Dl = none) (hx : SqL K H a xs) (hw : ∀ x, wipe ((wipe σ vs).set j (some x)) vs = wipe σ vs) (ht : ∀ x ∈ xs, EvTK K t ((wipe σ vs).set j (some x)) H false) (hd : ∀ H', Ex H H' → H' Dl = some (.lst []) → Qd H') :
    ∃ W : Nat → Nat → Hp → Prop, (∃ m, W 0 m (upd H Dl (.lst []))) ∧ ∀ i m H, W i m H →
      ((Itl K a).stop i H ∧ Qd H) ∨ ((Itl K a).go i H ∧ ∃ Nx : Hp → Prop, (∀ H', Nx H' → ∃ m', m' < m ∧ W (i + 1) m' H') ∧ ∀ x H', (Itl K a).yld i H x H' → gName j x (wipe σ vs) H' fun σ2 H2 => wipe σ2 vs = wipe σ vs ∧ t σ2 H2 fun b H3 =>
        if b = true then te σ2 H3 fun y H4 => ∃ acc, H4 Dl = some (.lst acc) ∧ acc.length < sizeLine ∧ Nx (upd H4 Dl (.lst (acc ++ [y]))) else Nx H3) := by
  refine lc_list (xs := xs) (fun i H' => Ex H H' ∧ H' Dl = some (.lst [])) ⟨Ex.new hD, upd_same⟩ (fun i H' _ c => ex_l c.1 hx) (fun i x H' hi c => ⟨hw x, ?_⟩) (fun H' c => hd H' c.1 c.2)
  refine ht x (List.mem_of_getElem? hi) H' c.1 _ fun H3 e3 => ?_
  rw [if_neg (by decide)]
  exact ⟨c.1.trans e3, e3 _ _ c.2⟩
end
end Hw

set_option maxRecDepth 100000
set_option maxHeartbeats 4000000
/-! KLA: ways that are none -/
namespace Hw
open PySem PySem.Spec PyProof.Rows L2 Evl LamX
local macro_rules | `(tactic| walk_at "dd") => `(tactic| first | rfl | decide | (simp; done) | omega)
local macro_rules | `(tactic| walk_at "td") => `(tactic| first | assumption | exact Td.int _ | exact Td.bl _ | exact Td.str _ | exact Td.non | exact Td.tup (by assumption) (by assumption))
local macro_rules | `(tactic| walk_at "ev") => `(tactic| first
  | exact ed_ci | exact ed_cs | exact ed_cb | exact ed_cn
  | (apply ed_cg; assumption)
  | (apply ed_var; (rfl); (walk_at "td"))
  | (apply ed_ixT; (walk_at "ev"); (walk_at "ev"); (first | rfl | assumption))
  | (apply ed_rowI; (rfl); (assumption); (walk_at "ev"); (rfl))
  | (apply ed_ixL; (apply EvDL.rd; walk_at "edl"); (walk_at "ev"); (rfl))
  | (apply ed_intb; (walk_at "ev"))
  | (apply ed_len; walk_at "ev")
  | (apply ed_lenV; (apply ev_rowR; (rfl); (assumption); (walk_at "ev"); (rfl)); (assumption))
  | (apply ed_Ii; (walk_at "ev"); (walk_at "ev"); (walk_at "cc"))
  | (apply ed_isi; (walk_at "ev"); (rfl))
  | (apply ed_I0i; (walk_at "ev"); (walk_at "ev"))
  | (apply ed_I0b; (walk_at "ev"); (walk_at "ev"))
  | (apply ed_eqi; (walk_at "ev"); (walk_at "ev"))
  | (apply ed_nei; (walk_at "ev"); (walk_at "ev"))
  | (apply ed_andF; walk_at "ev")
  | (apply ed_andV; (walk_at "ev"); (intro _; walk_at "ev"))
  | (apply ed_orT; walk_at "ev")
  | (apply ed_orV; (walk_at "ev"); (intro _; walk_at "ev"))
  | (apply ed_notT; walk_at "ev")
  | (apply ed_notF; walk_at "ev")
  | (apply ed_notV; walk_at "ev")
  | (apply ed_chain; (walk_at "ev"); (walk_at "ev"); (intro _; walk_at "ev"))
  | (apply ed_eqS; (walk_at "ev"); (walk_at "ev"); (walk_at "bb"); (walk_at "bb"))
  | (apply ed_neS; (walk_at "ev"); (walk_at "ev"); (walk_at "bb"); (walk_at "bb"))
  | (apply ed_inT; (walk_at "ev"); (walk_at "ev"); (rfl); (rfl))
  | (apply ed_niT; (walk_at "ev"); (walk_at "ev"); (rfl); (rfl))
  | (apply ed_tup; (walk_at "eva"); (walk_at "bb"))
  | (apply ed_sl; (walk_at "ev"); (walk_at "evo"); (walk_at "evo"))
  | (apply ed_eqN; (apply EvDL.rd; walk_at "edl"); (walk_at "edl"); (walk_at "bb"))
  | (apply ed_neN; (apply EvDL.rd; walk_at "edl"); (walk_at "edl"); (walk_at "bb"))
  | (apply ed_ixL; (apply edr_var; (rfl); (assumption); (assumption)); (walk_at "ev"); (first | rfl | assumption))
  | (apply ed_lenL; (apply edr_var; (rfl); (assumption); (assumption)))
  | (apply ed_call; (walk_at "eva"); (walk_at "post")))
local macro_rules | `(tactic| walk_at "edl") => `(tactic| first
  | assumption
  | (apply edl_lst; (walk_at "eva"); (walk_at "bb")))
local macro_rules | `(tactic| walk_at "eva") => `(tactic| first
  | exact eda_nil
  | (apply eda_cons; (walk_at "ev"); (walk_at "eva")))
local macro_rules | `(tactic| walk_at "evo") => `(tactic| first
  | exact eok_none
  | (apply eok_some; walk_at "ev"))
local macro_rules | `(tactic| walk_at "bb") => `(tactic| first | rfl | assumption | (simp; done) | (simp; omega) | decide +kernel)
local macro_rules | `(tactic| walk_at "et") => `(tactic| first
  | exact tk_yes
  | (apply tk_andF; walk_at "et")
  | (apply tk_and; (walk_at "et"); (intro _; walk_at "et"))
  | (apply tk_orT; walk_at "et")
  | (apply tk_or; (walk_at "et"); (intro _; walk_at "et"))
  | (apply tk_notT; walk_at "et")
  | (apply tk_notF; walk_at "et")
  | (apply tk_not; walk_at "et")
  | (apply tk_v; walk_at "ev")
  | (apply tk_vB; walk_at "ev"))
local macro_rules | `(tactic| walk_at "if") => `(tactic| first
  | (apply pst_whenF; (walk_at "et"); (walk_at "bb"))
  | (apply pst_whenT; (walk_at "et"); (walk_at "bb")))
local macro_rules | `(tactic| walk_at "post") => `(tactic| first | assumption | exact ⟨_, _, rfl, rfl⟩ | exact ⟨_, _, _, _, rfl, by omega, by omega, rfl⟩ | exact ⟨_, _, _, 0, rfl, by omega, by omega, rfl⟩)
local macro_rules | `(tactic| walk_at "cc") => `(tactic| first | assumption | decide | omega | (refine ⟨?_, ?_⟩ <;> first | decide | omega) | (exact Or.inl (by constructor <;> omega)))

theorem goP_small {most : Nat} {p : List Wk} (h : GoP most p) (hm : most ≤ 18) : smallP p = true := by
  refine List.all_eq_true.mpr fun w hw => ?_
  obtain ⟨i, hi⟩ := List.mem_iff_getElem?.mp hw
  have g := h.ws i w hi
  have hb := h.hs.ok _ (List.mem_of_getElem? g.sh)
  have := g.cnt
  simp only [Bool.and_eq_true, decide_eq_true_eq]
  exact ⟨hb.2, by omega⟩
/-! a greater work in a program -/
abbrev ewD (y : List Str) : PyData := .tuple (y.map PyData.str)
theorem encY_ew (ys : List (List Str)) : encY ys = .tuple (ys.map ewD) := rfl
theorem cutD_m1 (ds : List PyData) : cutD ds none (some (-1)) = ds.take (ds.length - 1) := by
  unfold cutD
  rw [HT.sIx_none, List.drop_zero, Nat.sub_zero]
  congr 1
  show (if (-1 : Int) < 0 then ((-1 : Int) + (ds.length : Int)).toNat else min (-1 : Int).toNat ds.length) = _
  rw [if_pos (by decide)]
  omega
/-- ways that are none of the program's -/
def BadY (p : List Wk) (d : PyData) : Prop := ∃ bs, d = encY bs ∧ okY p bs = false ∧ smY bs
theorem okY_len {p : List Wk} {bs : List (List Str)} (h : bs.length ≠ p.length) : okY p bs = false := by
  simp [okY, h]
theorem okY_at {p : List Wk} {bs : List (List Str)} {i : Nat} {y : List Str} (hi : i < p.length) (hy : bs[i]? = some y) (h : y.length ≠ shP (shapes p) i ∨ y.all isWay = false) : okY p bs = false := by
  have : (List.range p.length).all (fun i => decide ((bs.getD i []).length = shP (shapes p) i) && (bs.getD i []).all isWay) = false := by
    rw [List.all_eq_false]
    refine ⟨i, List.mem_range.mpr hi, ?_⟩
    have e : bs.getD i [] = y := by simp [List.getD, hy]
    rw [e]
    rcases h with h | h
    · simp [h]
    · simp [h]
  unfold okY
  rw [this, Bool.and_false]
section
variable {p : List Wk} {ys : List (List Str)} {at_ : Nat}
theorem midY_get {a : List (List Str)} {x : List Str} {b : List (List Str)} : (a ++ [x] ++ b)[a.length]? = some x := by simp
theorem bad0 (hl : ys.length = p.length) (hs : smY ys) (h4 : p.length ≤ 4) : BadY p (.tuple (ys.map ewD ++ [.tuple []])) := by
  refine ⟨ys ++ [[]], by simp [encY], okY_len (by simp [hl]), ⟨by simp; omega, fun y hy => ?_⟩⟩
  rcases List.mem_append.mp hy with h | h
  · exact hs.2 y h
  · obtain rfl : y = [] := by simpa using h
    exact ⟨by simp, fun s hs => absurd hs (by simp)⟩
theorem bad1 (hl : ys.length = p.length) (hs : smY ys) (h1 : 1 ≤ p.length) : BadY p (.tuple ((ys.map ewD).take ((ys.map ewD).length - 1))) := by
  refine ⟨ys.take (ys.length - 1), by simp [encY, List.map_take], okY_len (by rw [List.length_take]; omega), ⟨by rw [List.length_take]; have := hs.1; omega, fun y hy => hs.2 y (List.mem_of_mem_take hy)⟩⟩
theorem badm {x : List Str} (hl : ys.length = p.length) (hs : smY ys) (hat : at_ < ys.length) (hx : x.length ≤ 1000 ∧ ∀ s ∈ x, (PyData.str s).canLay0 = true) (h : x.length ≠ shP (shapes p) at_ ∨ x.all isWay = false) : BadY p (.tuple ((ys.map ewD).take at_ ++ [ewD x] ++ (ys.map ewD).drop (at_ + 1))) := by
  have hta : (ys.take at_).length = at_ := by rw [List.length_take]; omega
  refine ⟨ys.take at_ ++ [x] ++ ys.drop (at_ + 1), by simp [encY, List.map_take, List.map_drop], okY_at (i := at_) (by omega) (by
    have := midY_get (a := ys.take at_) (x := x) (b := ys.drop (at_ + 1))
    rw [hta] at this
    exact this) h, ⟨?_, fun y hy => ?_⟩⟩
  · simp only [List.length_append, List.length_take, List.length_drop, List.length_singleton]
    have := hs.1
    omega
  · simp only [List.append_assoc, List.mem_append, List.mem_singleton] at hy
    rcases hy with z | z | z
    · exact hs.2 y (List.mem_of_mem_take z)
    · subst z; exact hx
    · exact hs.2 y (List.mem_of_mem_drop z)
end
def wyS : List Str := ["copy", "place", "back", "want"]
theorem tabs_fr {K : PySem.W.Frag} {H H' : Hp} {r s : Addr} {ns : List Int} {Ts : List (Addr × Str)} (h : Tabs Ts H) (R : RowAt K s ns H r) (f : Fr [r] H H') : Tabs Ts H' := fun q hq => by
  obtain ⟨a, b, c, h1, _⟩ := R
  obtain ⟨ps, e1, e2, e3⟩ := h q hq
  refine ⟨ps, f _ _ (by simpa using ne_of e1 h1 (fun z => by cases z)) e1, e2, fun pos cv hc => ?_⟩
  obtain ⟨c0, g1, g2⟩ := e3 pos cv hc
  exact ⟨c0, g1, f _ _ (by simpa using ne_of g2 h1 (fun z => by unfold CodeO at z; cases z)) g2⟩
theorem tabs_fr1 {H H' : Hp} {l : Addr} {xs : List V} {Ts : List (Addr × Str)} (h : Tabs Ts H) (hl : H l = some (.lst xs)) (f : Fr [l] H H') : Tabs Ts H' := fun q hq => by
  obtain ⟨ps, e1, e2, e3⟩ := h q hq
  refine ⟨ps, f _ _ (by simpa using ne_of e1 hl (fun z => by cases z)) e1, e2, fun pos cv hc => ?_⟩
  obtain ⟨c0, g1, g2⟩ := e3 pos cv hc
  exact ⟨c0, g1, f _ _ (by simpa using ne_of g2 hl (fun z => by unfold CodeO at z; cases z)) g2⟩
section
variable {K : PySem.W.Frag} {σ : L2.St} {H : Hp} {ta tb te : TE} {ds es : List PyData} {Dl q : Addr} {n : Nat} {lp : Addr} {xs : List V} {i : Int}
theorem ed_neLL (ha : EvDR K ta σ H ds) (hb : EvDL K tb σ H es) (sd : PyData.canLayAll0 ds = true) (se : PyData.canLayAll0 es = true) (hm : PyData.depthAll es ≤ 60) : EvD K (tOp (rNeM K) ta tb) σ H (.bool (!PyData.eqvAll ds es)) := fun H1 a Q q =>
  ha H1 a _ fun p xs H2 e2 hs ht => hb H2 (a.trans e2) _ fun w ys H3 _ e3 hw hy => ⟨.list ds, .list es, .lst (ex_l e3 hs) (ht.ex e3).dp, .lst (SqL.of hw) hy.dp, (show PyData.canLay0 (.list ds) = true by simpa [PyData.canLay0] using sd), (show PyData.canLay0 (.list es) = true by simpa [PyData.canLay0] using se), by
    have : PyData.depth (.list es) ≤ 61 := by simp only [PyData.depth]; omega
    have := Nat.min_le_right (PyData.depth (.list ds)) (PyData.depth (.list es))
    omega, by
    have e : PyData.eqv (.list ds) (.list es) = PyData.eqvAll ds es := by simp [PyData.eqv]
    rw [e]
    exact q _ H3 (e2.trans e3) (.bl _)⟩
theorem edl_slL {tl th : TO} {lo hi : Option Int} (h : EvDR K te σ H ds) (h1 : EvOK K tl σ H lo) (h2 : EvOK K th σ H hi) : EvDL K (tSl (rSlL K) te tl th) σ H (cutD ds lo hi) := fun H1 a Q q =>
  h H1 a _ fun p xs H2 e2 hs hall => by
    refine h1 H2 (a.trans e2) _ fun H3 e3 => h2 H3 ((a.trans e2).trans e3) _ fun H4 e4 => ?_
    refine ⟨p, xs, rfl, ex_l (e3.trans e4) hs, fun n hn => ?_⟩
    exact q n _ _ (fresh_back ((e2.trans e3).trans e4) hn) (((e2.trans e3).trans e4).trans (Ex.new hn)) upd_same (((hall.ex (e3.trans e4)).cut lo hi).ex (Ex.new hn))
/-- ["ways"] * k -/
theorem edl_rep1 {z : Str} {k : Nat} (hk : k ≤ 100) (hi : i = (k : Int)) : EvDL K (tOp rRep (tLst (tCons (tC (.str z)) tNil)) (tC (.int i))) σ H (List.replicate k (.str z)) := fun H1 a Q q => by
  subst hi
  refine w_op (w_lst (w_cons (w_c (w_nil ⟨by show 1 ≤ sizeLine; decide, fun l hl => w_c ?_⟩))))
  refine ⟨l, (k : Int), [V.str z], rfl, rfl, upd_same, by omega, by omega, by rw [Int.toNat_natCast]; simp; exact Nat.le_trans hk (by decide), fun p hp => ?_⟩
  have e := (Ex.new (o := .lst [V.str z]) hl).trans (Ex.new (o := .lst (List.replicate (k : Int).toNat [V.str z]).flatten) hp)
  refine q p _ _ (fresh_back (Ex.new hl) hp) e upd_same ?_
  rw [Int.toNat_natCast]
  have : ∀ k : Nat, TdAll K (upd (upd H1 l (.lst [V.str z])) p (.lst (List.replicate k [V.str z]).flatten)) (List.replicate k [V.str z]).flatten (List.replicate k (.str z)) := fun k => by
    have h : ∀ (j : Nat) (Hx : Hp), TdAll K Hx (List.replicate j [V.str z]).flatten (List.replicate j (.str z)) := fun j Hx => by
      induction j with
      | zero => exact .nil
      | succ j ih => rw [List.replicate_succ, List.replicate_succ, List.flatten_cons]; exact .cons (.str _) ih
    exact h k _
  exact this k
theorem ne_none {Qx : VK} (hD : H Dl = some (.lst [])) (hq : H q = none) (k : ∀ H', Ex H H' → Qx (.bl false) H') : rNeM K (.ref Dl) (.ref q) (upd H q (.lst [])) Qx :=
  ⟨.list [], .list [], .lst (SqL.of (by rw [upd_ne (ne_of_none hD hq)]; exact hD)) .nil, .lst (SqL.of upd_same) .nil, rfl, rfl, by decide, k _ (Ex.new hq)⟩
end
end Hw

set_option maxRecDepth 100000
set_option maxHeartbeats 4000000
/-! KLB: the law's walk -/
namespace Hw
open PySem PySem.Spec PyProof.Rows L2 Evl LamX NdefX LamK
local macro_rules | `(tactic| walk_at "dd") => `(tactic| first | rfl | decide | (simp; done) | omega)
local macro_rules | `(tactic| walk_at "td") => `(tactic| first | assumption | exact Td.int _ | exact Td.bl _ | exact Td.str _ | exact Td.non | exact Td.tup (by assumption) (by assumption))
local macro_rules | `(tactic| walk_at "ev") => `(tactic| first
  | exact ed_ci | exact ed_cs | exact ed_cb | exact ed_cn
  | (apply ed_cg; assumption)
  | (apply ed_var; (rfl); (walk_at "td"))
  | (apply ed_ixT; (walk_at "ev"); (walk_at "ev"); (first | rfl | assumption))
  | (apply ed_rowI; (rfl); (assumption); (walk_at "ev"); (rfl))
  | (apply ed_ixL; (apply EvDL.rd; walk_at "edl"); (walk_at "ev"); (rfl))
  | (apply ed_intb; (walk_at "ev"))
  | (apply ed_len; walk_at "ev")
  | (apply ed_lenV; (apply ev_rowR; (rfl); (assumption); (walk_at "ev"); (rfl)); (assumption))
  | (apply ed_Ii; (walk_at "ev"); (walk_at "ev"); (walk_at "cc"))
  | (apply ed_isi; (walk_at "ev"); (rfl))
  | (apply ed_I0i; (walk_at "ev"); (walk_at "ev"))
  | (apply ed_I0b; (walk_at "ev"); (walk_at "ev"))
  | (apply ed_eqi; (walk_at "ev"); (walk_at "ev"))
  | (apply ed_nei; (walk_at "ev"); (walk_at "ev"))
  | (apply ed_andF; walk_at "ev")
  | (apply ed_andV; (walk_at "ev"); (intro _; walk_at "ev"))
  | (apply ed_orT; walk_at "ev")
  | (apply ed_orV; (walk_at "ev"); (intro _; walk_at "ev"))
  | (apply ed_notT; walk_at "ev")
  | (apply ed_notF; walk_at "ev")
  | (apply ed_notV; walk_at "ev")
  | (apply ed_chain; (walk_at "ev"); (walk_at "ev"); (intro _; walk_at "ev"))
  | (apply ed_eqS; (walk_at "ev"); (walk_at "ev"); (walk_at "bb"); (walk_at "bb"))
  | (apply ed_neS; (walk_at "ev"); (walk_at "ev"); (walk_at "bb"); (walk_at "bb"))
  | (apply ed_inT; (walk_at "ev"); (walk_at "ev"); (rfl); (rfl))
  | (apply ed_niT; (walk_at "ev"); (walk_at "ev"); (rfl); (rfl))
  | (apply ed_tup; (walk_at "eva"); (walk_at "bb"))
  | (apply ed_sl; (walk_at "ev"); (walk_at "evo"); (walk_at "evo"))
  | (apply ed_eqN; (apply EvDL.rd; walk_at "edl"); (walk_at "edl"); (walk_at "bb"))
  | (apply ed_neN; (apply EvDL.rd; walk_at "edl"); (walk_at "edl"); (walk_at "bb"))
  | (apply ed_ixL; (apply edr_var; (rfl); (assumption); (assumption)); (walk_at "ev"); (first | rfl | assumption))
  | (apply ed_lenL; (apply edr_var; (rfl); (assumption); (assumption)))
  | (apply ed_call; (walk_at "eva"); (walk_at "post")))
local macro_rules | `(tactic| walk_at "edl") => `(tactic| first
  | assumption
  | (apply edl_lst; (walk_at "eva"); (walk_at "bb")))
local macro_rules | `(tactic| walk_at "eva") => `(tactic| first
  | exact eda_nil
  | (apply eda_cons; (walk_at "ev"); (walk_at "eva")))
local macro_rules | `(tactic| walk_at "evo") => `(tactic| first
  | exact eok_none
  | (apply eok_some; walk_at "ev"))
local macro_rules | `(tactic| walk_at "bb") => `(tactic| first | rfl | assumption | (simp; done) | (simp; omega) | decide +kernel)
local macro_rules | `(tactic| walk_at "et") => `(tactic| first
  | exact tk_yes
  | (apply tk_andF; walk_at "et")
  | (apply tk_and; (walk_at "et"); (intro _; walk_at "et"))
  | (apply tk_orT; walk_at "et")
  | (apply tk_or; (walk_at "et"); (intro _; walk_at "et"))
  | (apply tk_notT; walk_at "et")
  | (apply tk_notF; walk_at "et")
  | (apply tk_not; walk_at "et")
  | (apply tk_v; walk_at "ev")
  | (apply tk_vB; walk_at "ev"))
local macro_rules | `(tactic| walk_at "if") => `(tactic| first
  | (apply pst_whenF; (walk_at "et"); (walk_at "bb"))
  | (apply pst_whenT; (walk_at "et"); (walk_at "bb")))
local macro_rules | `(tactic| walk_at "post") => `(tactic| first | assumption | exact ⟨_, _, rfl, rfl⟩ | exact ⟨_, _, _, _, rfl, by omega, by omega, rfl⟩ | exact ⟨_, _, _, 0, rfl, by omega, by omega, rfl⟩)
local macro_rules | `(tactic| walk_at "cc") => `(tactic| first | assumption | decide | omega | (refine ⟨?_, ?_⟩ <;> first | decide | omega) | (exact Or.inl (by constructor <;> omega)))

theorem ways_ne : (!PyData.eqv (.str "ways") (.str "ways")) = false := by decide +kernel
theorem prog_ne : (!PyData.eqv (.str "program") (.str "program")) = false := by decide +kernel
theorem told_a : (!PyData.eqvAll (cutD (List.replicate 7 (.str "ways")) none (some 5)) (List.replicate 5 (.str "ways"))) = false := by decide +kernel
theorem told_b : (!PyData.eqvAll (cutD (List.replicate 7 (.str "ways")) (some 5) none) (List.replicate 2 (.str "ways"))) = false := by decide +kernel
section
variable {P : Program} {w : World} {K : PySem.W.Frag} {mg : Str → Option Value} {base : Heap} (T : Tx K mg)
include T
theorem ok_law (TB : TBs K mg base) (GT : Fn__law_taken T P w base CX0 1 (spTaken K)) (GP : Fn__law_program T P w base CX0 12 (spProg K)) (GY : Fn__law_ways T P w base CX0 2 (spWays K)) (GNP : Fn_need_program T P w base (L2.CX P w) 22 (spNPD K)) (GPA : Fn_parted T P w base (L2.CX P w) 24 (spRf3 K))
    (GW : Fn__law_works T P w base CX0 25 (spWorks P w K mg base)) (GO : Fn__law_others T P w base CX0 25 (spOthers P w K mg base)) (GWD : Fn__law_word T P w base CX0 26 (spWk P w K mg base 25)) (GS : Fn__law_spoilt T P w base CX0 3 (spSpoilt K)) (GIP : Fn__law_is_program T P w base CX0 20 (spF K pLP)) : Fn_law T P w base CX0 30 (spLawT K) := by
  have G__law_taken := GT
  have G__law_program := GP
  have G__law_ways := GY
  have G__law_works := GW
  have G__law_others := GO
  have G__law_word := GWD
  have G__law_spoilt := GS
  have G__law_is_program := GIP
  refine ⟨fun vs H Q E h => by obtain ⟨_, _, rfl, _⟩ := h; rfl, fun A outer s0 H args us vs Q E hr e0 hb rv h => ?_⟩
  obtain ⟨s, ns, rfl, hS, hn, hT, kq⟩ := h
  refine run_fd (N := ["_law_script", "_law_row", "_law_turn", "_law_program_here", "_law_ways_here", "_law_at", "_law_odd", "_law_bad", "_law_told", "_law_other", "_law_work"]) (ps := ["_law_script"]) (pt := ("law", none)) T.F_law sc_law rfl hr e0 hb rv rfl fun cdv hcd hr => ?_
  subst hcd
  refine ⟨_, (pss_cons (ps_set (i := 1) sc_law.nd rfl (Or.inl rfl) (pe_lst (pa_cons (pv 0) (pa_cons pe_int (pa_cons pe_int (pa_cons pe_int pa_nil))))))
  (pss_cons (ps_for (passes_of rfl) rfl (pi_range1 rfl T.b_range (pa_cons pe_int pa_nil)) (pg_name (i := 2) sc_law.nd rfl (Or.inl rfl))
    (pss_cons (ps_set (i := 3) sc_law.nd rfl (Or.inr rfl) (pe_call G__law_program (hr.mono (by omega)) (by rfl) T.g__law_program T.k__law_program T.bd__law_program .nil pass0 (pa_cons (pv 1) (pa_cons pe_int pa_nil))))
    (pss_cons (ps_set (i := 4) sc_law.nd rfl (Or.inr rfl) (pe_call G__law_ways (hr.mono (by omega)) (by rfl) T.g__law_ways T.k__law_ways T.bd__law_ways .nil pass0 (pa_cons (pv 1) (pa_cons (pv 3) (pa_cons (pe_lst (pa_cons pe_str (pa_cons pe_str (pa_cons pe_str (pa_cons pe_str pa_nil))))) pa_nil)))))
    (pss_cons (ps_if (pt_cmp (pc_notN (pe_wordL (X := cxOf CX0 P w K mg base ["_law_script", "_law_row", "_law_turn", "_law_program_here", "_law_ways_here", "_law_at", "_law_odd", "_law_bad", "_law_told", "_law_other", "_law_work"] "law" (defScope s_law) (He.ga K "law") (.ref (He.codeOf K ("law", none))) A outer s0 H E) T (lawL 2) _ (by rfl) (Ts := tabT K) (cm := (He.cT K ("law", none)).1) (Pt := (He.cT K ("law", none)).2) (qn := qnL) (fr := ["_law_program_here"]) (js := [3]) rfl TB.l rfl (by simp [tabT]) (fun p hp e => (tab_uni T p hp).1 e) (by rfl) (lamS_by (sc := defScope s_law) (scope := lamC (lawL 2)) (by decide +kernel)) (fun f co => lm_l1 T GNP) (show ndefB (defScope s_law) (lamC (lawL 2)) ["_law_program_here"] = true from by decide +kernel) rfl (hr.mono (by omega)) (by rfl))) rfl)
      (pss_one (ps_ret pe_bl))
      pss_nil)
    (pss_cons (ps_set (i := 5) sc_law.nd rfl (Or.inl rfl) (pe_call G__law_taken (hr.mono (by omega)) (by rfl) T.g__law_taken T.k__law_taken T.bd__law_taken .nil pass0 (pa_cons (pv 1) (pa_cons (pe_callB (kc_len K) rfl T.b_len PySem.boot_len (pa_cons (pv 4) pa_nil)) pa_nil))))
    (pss_cons (ps_set (i := 6) sc_law.nd rfl (Or.inl rfl) (pe_lst (pa_cons (pe_op (kop_cat K) (pv 4) (pe_tup (pa_cons (pe_tup pa_nil) pa_nil))) (pa_cons (pe_slice (ksl_tup K) (pv 4) po_none (po_some (pe_un un_neg pe_int))) (pa_cons (pe_op (kop_cat K) (pe_op (kop_cat K) (pe_slice (ksl_tup K) (pv 4) po_none (po_some (pv 5))) (pe_tup (pa_cons (pe_op (kop_cat K) (pe_ix (kix_tup K) (pv 4) (pv 5) (fun _ _ => rfl)) (pe_tup (pa_cons pe_str pa_nil))) pa_nil))) (pe_slice (ksl_tup K) (pv 4) (po_some (pe_op op_add (pv 5) pe_int)) po_none)) pa_nil)))))
    (pss_cons (ps_expr (pe_bm PySem.F.plainAttrs_list PySem.F.slot_list_append PySem.F.type_list_append mt_append (pv 6) (pa_cons (pe_op (kop_cat K) (pe_op (kop_cat K) (pe_slice (ksl_tup K) (pv 4) po_none (po_some (pv 5))) (pe_tup (pa_cons (pe_op (kop_cat K) (pe_slice (ksl_tup K) (pe_ix (kix_tup K) (pv 4) (pv 5) (fun _ _ => rfl)) (po_some pe_int) po_none) (pe_tup (pa_cons pe_str pa_nil))) pa_nil))) (pe_slice (ksl_tup K) (pv 4) (po_some (pe_op op_add (pv 5) pe_int)) po_none)) pa_nil)))
    (pss_cons (ps_set (i := 7) sc_law.nd rfl (Or.inr rfl) (pe_ix (kix_list K) (pv 6) (pe_call G__law_taken (hr.mono (by omega)) (by rfl) T.g__law_taken T.k__law_taken T.bd__law_taken .nil pass0 (pa_cons (pv 1) (pa_cons pe_int pa_nil))) (fun _ _ => rfl)))
    (pss_cons (ps_if (pt_cmpR (kop_ne K hr.units) (pe_wordL (X := cxOf CX0 P w K mg base ["_law_script", "_law_row", "_law_turn", "_law_program_here", "_law_ways_here", "_law_at", "_law_odd", "_law_bad", "_law_told", "_law_other", "_law_work"] "law" (defScope s_law) (He.ga K "law") (.ref (He.codeOf K ("law", none))) A outer s0 H E) T (lawL 7) _ (by rfl) (Ts := tabT K) (cm := (He.cT K ("law", none)).1) (Pt := (He.cT K ("law", none)).2) (qn := qnL) (fr := ["_law_program_here", "_law_ways_here", "_law_bad"]) (js := [3, 4, 7]) rfl TB.l rfl (by simp [tabT]) (fun p hp e => (tab_uni T p hp).1 e) (by rfl) (lamS_by (sc := defScope s_law) (scope := lamC (lawL 7)) (by decide +kernel)) (fun f co => lm_l2 T GPA) (show ndefB (defScope s_law) (lamC (lawL 7)) ["_law_program_here", "_law_ways_here", "_law_bad"] = true from by decide +kernel) rfl (hr.mono (by omega)) (by rfl)) pe_str (nomark _))
      (pss_one (ps_ret pe_bl))
      pss_nil)
    (pss_cons (ps_setLc (i := 8) (own := [("_law_work", 10)]) (g := gName 10) (tt := tYes) rfl sc_law.nd rfl rfl (sw_true rfl rfl rfl (by decide +kernel)) (kpi_list K (pe_call G__law_works (hr.mono (by omega)) (by rfl) T.g__law_works T.k__law_works T.bd__law_works .nil pass0 (pa_cons (pv 3) (pa_cons (pv 7) (pa_cons (pe_tup (pa_cons pe_int (pa_cons pe_int pa_nil))) pa_nil))))) (blkOk_by (N := ["_law_script", "_law_row", "_law_turn", "_law_program_here", "_law_ways_here", "_law_at", "_law_odd", "_law_bad", "_law_told", "_law_other", "_law_work"]) (sc := defScope s_law) (by decide +kernel)) (fun _ _ _ _ _ => (pg_name (i := 10) sc_law.nd rfl (Or.inl rfl))) (fun _ _ _ _ _ => pts_nil) (fun _ _ _ _ _ => (pe_call G__law_word (hr.mono (by omega)) (by rfl) T.g__law_word T.k__law_word T.bd__law_word .nil pass0 (pa_cons (pv 10) pa_nil))))
    (pss_cons (ps_if (PW.pt (pw_or (pt_cmpR (kop_ne K hr.units) (pe_slice (ksl_list K) (pv 8) po_none (po_some pe_int)) (pe_op op_rep (pe_lst (pa_cons pe_str pa_nil)) pe_int) (nomark _)) (pw_or1 (pt_cmpR (kop_ne K hr.units) (pe_slice (ksl_list K) (pv 8) (po_some pe_int) po_none) (pe_op op_rep (pe_lst (pa_cons pe_str pa_nil)) pe_int) (nomark _)))))
      (pss_one (ps_ret pe_bl))
      pss_nil)
    (pss_cons (ps_set (i := 9) sc_law.nd rfl (Or.inl rfl) (pe_call G__law_spoilt (hr.mono (by omega)) (by rfl) T.g__law_spoilt T.k__law_spoilt T.bd__law_spoilt .nil pass0 (pa_cons (pv 1) (pa_cons (pv 3) pa_nil))))
    (pss_one (ps_if (pt_val (pe_call G__law_is_program (hr.mono (by omega)) (by rfl) T.g__law_is_program T.k__law_is_program T.bd__law_is_program .nil pass0 (pa_cons (pv 9) pa_nil)))
      (pss_one (ps_if (pt_cmpR (kop_ne K hr.units) (pe_lc (own := [("_law_work", 10)]) (g := gName 10) (tt := _) rfl sc_law.nd (kpi_list K (pe_slice (ksl_list K) (pe_call G__law_others (hr.mono (by omega)) (by rfl) T.g__law_others T.k__law_others T.bd__law_others .nil pass0 (pa_cons (pv 9) pa_nil)) po_none (po_some pe_int))) (blkOk_by (N := ["_law_script", "_law_row", "_law_turn", "_law_program_here", "_law_ways_here", "_law_at", "_law_odd", "_law_bad", "_law_told", "_law_other", "_law_work"]) (sc := defScope s_law) (by decide +kernel)) (fun _ _ _ _ _ => (pg_name (i := 10) sc_law.nd rfl (Or.inl rfl))) (fun _ _ _ _ _ => (pts_one (pt_cmp (pc_notN (pe_call G__law_word (hr.mono (by omega)) (by rfl) T.g__law_word T.k__law_word T.bd__law_word .nil pass0 (pa_cons (pv 10) pa_nil))) rfl))) (fun _ _ _ _ _ => (pv 10))) (pe_lst pa_nil) (nomark _))
        (pss_one (ps_ret pe_bl))
        pss_nil))
      (pss_one (ps_if (pt_cmpR (kop_ne K hr.units) (pe_lc (own := [("_law_work", 10)]) (g := gName 10) (tt := _) rfl sc_law.nd (kpi_list K (pe_call G__law_works (hr.mono (by omega)) (by rfl) T.g__law_works T.k__law_works T.bd__law_works .nil pass0 (pa_cons (pv 9) (pa_cons (pv 7) (pa_cons (pe_tup (pa_cons pe_int (pa_cons pe_int pa_nil))) pa_nil))))) (blkOk_by (N := ["_law_script", "_law_row", "_law_turn", "_law_program_here", "_law_ways_here", "_law_at", "_law_odd", "_law_bad", "_law_told", "_law_other", "_law_work"]) (sc := defScope s_law) (by decide +kernel)) (fun _ _ _ _ _ => (pg_name (i := 10) sc_law.nd rfl (Or.inl rfl))) (fun _ _ _ _ _ => (pts_one (pt_cmpR (kop_ne K hr.units) (pe_call G__law_word (hr.mono (by omega)) (by rfl) T.g__law_word T.k__law_word T.bd__law_word .nil pass0 (pa_cons (pv 10) pa_nil)) pe_str (nomark _)))) (fun _ _ _ _ _ => (pv 10))) (pe_lst pa_nil) (nomark _))
        (pss_one (ps_ret pe_bl))
        (pss_one (ps_if (pt_cmpR (kop_ne K hr.units) (pe_lc (own := [("_law_work", 10)]) (g := gName 10) (tt := _) rfl sc_law.nd (kpi_list K (pe_call G__law_others (hr.mono (by omega)) (by rfl) T.g__law_others T.k__law_others T.bd__law_others .nil pass0 (pa_cons (pv 9) pa_nil))) (blkOk_by (N := ["_law_script", "_law_row", "_law_turn", "_law_program_here", "_law_ways_here", "_law_at", "_law_odd", "_law_bad", "_law_told", "_law_other", "_law_work"]) (sc := defScope s_law) (by decide +kernel)) (fun _ _ _ _ _ => (pg_name (i := 10) sc_law.nd rfl (Or.inl rfl))) (fun _ _ _ _ _ => (pts_one (pt_cmpR (kop_ne K hr.units) (pe_call G__law_word (hr.mono (by omega)) (by rfl) T.g__law_word T.k__law_word T.bd__law_word .nil pass0 (pa_cons (pv 10) pa_nil)) pe_str (nomark _)))) (fun _ _ _ _ _ => (pv 10))) (pe_lst pa_nil) (nomark _))
          (pss_one (ps_ret pe_bl))
          pss_nil))))))))))))))))))
  (pss_one (ps_ret pe_bl)))), ?_⟩
  refine w_seq (w_asg (w_lst (w_cons (w_v rfl (w_cons (w_c (w_cons (w_c (w_cons (w_c (w_nil ⟨by show 4 ≤ sizeLine; decide, fun r hr0 => ?_⟩)))))))))))
  have R1 : RowAt K s ns (upd H r (.lst [.ref s, .int 0, .int 0, .int 0])) r := ⟨0, 0, 0, upd_same, ex_l (Ex.new hr0) hS, by decide, by decide, by decide, by decide⟩
  have T1 := tabs_new (o := .lst [.ref s, .int 0, .int 0, .int 0]) hT hr0
  try dsimp only
  generalize upd H r (.lst [.ref s, .int 0, .int 0, .int 0]) = H1 at *
  refine w_seq (w_forR (K := K) (n := 5) (eda_cons ed_ci eda_nil) (by decide) (fun i σ' H' => ∃ u2 u3 u4 u5 u6 u7 u8 u9 : Option V, σ' = [some (.ref s), some (.ref r), u2, u3, u4, u5, u6, u7, u8, u9, none] ∧ RowAt K s ns H' r ∧ Tabs (tabT K) H') ?_ ?_ ?_)
  · exact fun H2 e2 => ⟨_, _, _, _, _, _, _, _, rfl, R1.ex e2, T1.ext e2⟩
  · rintro tn σ' H2 htn ⟨u2, u3, u4, u5, u6, u7, u8, u9, rfl, R2, T2⟩
    try dsimp only
    refine w_seq (w_asg (w_call (w_cons (w_v rfl (w_cons (w_c (w_nil ⟨r, s, ns, 6, rfl, R2, hn, by decide, fun p vp H3 gp f3 R3 tp3 => ?_⟩)))))))
    have T3 := tabs_fr T2 R2 f3
    have hok := goP_ok gp (by decide : 6 ≤ 98)
    have hsm := goP_sm gp
    have hsl := goP_small gp (by decide : 6 ≤ 18)
    have hpl := okP_len hok
    have hpr : isPrD (p.map toD) = true := by rw [isPrD_toD]; exact hok
    have hpp : ∀ w ∈ p, w.params ≤ 1000 := fun w hw => by
      obtain ⟨i, hi⟩ := List.mem_iff_getElem?.mp hw
      have := (okP_get hok hi).1
      omega
    have hbl : ∀ w ∈ p, w.body.length ≤ 1000 := fun w hw => by
      obtain ⟨i, hi⟩ := List.mem_iff_getElem?.mp hw
      have := (gp.ws i w hi).len
      omega
    have nso : ∀ {so : Addr}, H3 so = none → so ≠ r := fun {so} h e => by
      obtain ⟨u, hu, _⟩ := R3.mu
      rw [e, hu] at h
      cases h
    try dsimp only
    refine w_seq (w_asg (w_call (w_cons (w_v rfl (w_cons (w_v rfl (w_cons (w_wd (K := K) (ws := wyS) (edl_lst (ds := wyS.map PyData.str) (eda_cons ed_cs (eda_cons ed_cs (eda_cons ed_cs (eda_cons ed_cs eda_nil)))) (by decide)) fun so H4 hso e4 h4 => w_nil ⟨r, s, so, ns, vp, p, wyS, rfl, R3.ex e4, hn, tp3.ex e4, h4, nso hso, by decide, by decide, by omega, hpp, fun ys yv H5 gy f5 R5 ty5 => ?_⟩))))))))
    have tp5 := (tp3.ex e4).kp ((R3.ex e4).kp f5)
    have T5 := tabs_fr (T3.ext e4) (R3.ex e4) f5
    have hoy := goY_ok gy fun z hz => (way_all z hz).1
    have hsy := goY_sm gp gy fun z hz => (way_all z hz).2
    have hyl : ys.length = p.length := gy.1
    rw [encP_ws] at tp5
    clear e4 h4 hso f3 f5 tp3 T2 T3 R2 R3
    try dsimp only
    -- what is a program is let by
    refine w_seq (w_ifs (w_test ?_))
    refine ⟨T5, fun G eG TG => ⟨.non, fun Q' E' h1 h2 h3 => ⟨vp, rfl, p.map toD, .cons (tp5.kp (extN_keep eG)) .nil, smP_ws hsm, (fun _ H' e' => h1 rfl .non H' e'), (fun e => by rw [hpr] at e; cases e)⟩, .inl rfl, fun H6 e6 => ⟨_, rfl, ifF (by simp) (w_next ?_)⟩⟩⟩
    have R6 := (R5.extN eG).ex e6
    have T6 := TG.ext e6
    have tp6 := (tp5.kp (extN_keep eG)).ex e6
    have ty6 : Td K H6 yv (.tuple (ys.map ewD)) := (ty5.kp (extN_keep eG)).ex e6
    clear eG TG e6 tp5 ty5 R5 T5
    try dsimp only
    refine w_seq (w_asg (w_taken rfl R6 hn (m := (ys.length : Int)) (ed_is (ed_len (ed_var rfl ty6)) (by rw [List.length_map])) (by omega) (by omega) fun at_ H7 hat f7 R7 => ?_))
    have tp7 := tp6.kp (R6.kp f7)
    have ty7 := ty6.kp (R6.kp f7)
    have T7 := tabs_fr T6 R6 f7
    have hat2 : at_ < ys.length := by omega
    have hya : ys[at_]? = some ys[at_] := List.getElem?_eq_getElem hat2
    generalize ys[at_] = ya at hya
    have hgy := gy.2 at_ ya hya
    have hsya := hsy.2 ya (List.mem_of_getElem? hya)
    have eat : ∀ {Hz : Hp} {σ : L2.St}, σ[4]? = some (some yv) → σ[5]? = some (some (.int (at_ : Int))) → Td K Hz yv (.tuple (ys.map ewD)) → EvD K (tOp (rIxT K) (tVar 4) (tVar 5)) σ Hz (ewD ya) := fun s1 s2 t => ed_ixT (i := (at_ : Int)) (ed_var s1 t) (ed_var s2 (.int _)) (atI_nat (by rw [List.getElem?_map, hya]; rfl))
    have emid : ∀ {Hz : Hp} {σ : L2.St} {x : PyData} {tw : TE}, σ[4]? = some (some yv) → σ[5]? = some (some (.int (at_ : Int))) → Td K Hz yv (.tuple (ys.map ewD)) → EvD K tw σ Hz x →
        EvD K (tOp (rCatA K) (tOp (rCatA K) (tSl (rSlA K) (tVar 4) tNoPart (tPart (tVar 5))) (tTup (tCons tw tNil))) (tSl (rSlA K) (tVar 4) (tPart (tOp (rI0 fun i j => .int (i + j)) (tVar 5) (tC (.int 1)))) tNoPart)) σ Hz (.tuple ((ys.map ewD).take at_ ++ [x] ++ (ys.map ewD).drop (at_ + 1))) := fun {Hz σ x tw} s1 s2 t ex =>
      ed_cat (ed_cat (ed_is (ed_sl (lo := none) (hi := some (at_ : Int)) (ed_var s1 t) eok_none (eok_some (ed_var s2 (.int _)))) (by rw [cutD_pre])) (ed_tup (eda_cons ex eda_nil) (by simp)) (by simp only [List.length_take, List.length_map, List.length_singleton]; omega)) (ed_is (ed_sl (lo := some ((at_ + 1 : Nat) : Int)) (hi := none) (ed_var s1 t) (eok_some (ed_is (ed_I0i (ed_var s2 (.int _)) ed_ci) (by simp))) eok_none) (by rw [cutD_suf])) (by simp only [List.length_append, List.length_take, List.length_drop, List.length_map, List.length_singleton]; omega)
    try dsimp only
    refine w_seq (w_asg (w_dl (K := K) (ds := [.tuple (ys.map ewD ++ [.tuple []]), .tuple ((ys.map ewD).take ((ys.map ewD).length - 1)), .tuple ((ys.map ewD).take at_ ++ [ewD (ya ++ [("copy" : Str)])] ++ (ys.map ewD).drop (at_ + 1))])
      (edl_lst (eda_cons (ed_cat (ed_var rfl ty7) (ed_tup (eda_cons (ed_tup eda_nil (by simp)) eda_nil) (by simp)) (by simp only [List.length_map, List.length_singleton]; omega)) (eda_cons (ed_is (ed_sl (lo := none) (hi := some (-1)) (ed_var rfl ty7) eok_none (eok_some ?_)) (by rw [cutD_m1])) (eda_cons (emid rfl rfl ty7 (ed_is (ed_cat (eat rfl rfl ty7) (ed_tup (ds := [.str "copy"]) (eda_cons ed_cs eda_nil) (by simp)) ?_) (by simp [ewD]))) eda_nil))) (by simp)) fun lo xs H8 hlo e8 hx8 ta8 => ?_))
    · exact fun Hz _ Q q => ⟨1, rfl, q _ Hz (Ex.refl _) (.int _)⟩
    · have := hsya.1
      simp only [List.length_map, List.length_singleton]
      omega
    have nlo : lo ≠ r := fun e => by
      obtain ⟨u, hu, _⟩ := R7.mu
      rw [e, hu] at hlo
      cases hlo
    have ty8 := ty7.ex e8
    try dsimp only
    refine w_seq (w_appD (K := K) rfl hx8 ta8 (d := .tuple ((ys.map ewD).take at_ ++ [ewD (ya.drop 1 ++ [("Copy" : Str)])] ++ (ys.map ewD).drop (at_ + 1))) (emid rfl rfl ty8 (ed_is (ed_cat (ed_is (ed_sl (lo := some ((1 : Nat) : Int)) (hi := none) (eat rfl rfl ty8) (eok_some ed_ci) eok_none) (by rw [cutD_suf])) (ed_tup (ds := [.str "Copy"]) (eda_cons ed_cs eda_nil) (by simp)) ?_) (by simp [ewD, List.map_drop]))) (by simp) fun H9 xs9 f9 hx9 ta9 => ?_)
    · have := hsya.1
      simp only [List.length_drop, List.length_map, List.length_singleton]
      omega
    have e79 := ex_fr1 e8 hlo f9
    have R9 := R7.ex e79
    have T9 := T7.ext e79
    have tp9 := tp7.ex e79
    have ty9 := ty7.ex e79
    clear hx8 ta8 ty8
    try dsimp only
    refine w_seq (w_asg (w_pickV (m := 4) rfl R9 hn rfl hx9 ta9 nlo (by simp) (by decide) (by decide) rfl fun j d bv H10 hj f10 R10 tb => ?_))
    have hbad : BadY p d := by
      match j, hj with
      | 0, hj => cases hj; exact bad0 hyl hsy hpl.2
      | 1, hj => cases hj; exact bad1 hyl hsy hpl.1
      | 2, hj =>
        cases hj
        refine badm hyl hsy hat2 ⟨?_, fun z hz => ?_⟩ (.inl ?_)
        · have := hgy.1
          have := goH_le gp.hs at_
          simp only [List.length_append, List.length_singleton]
          omega
        · rcases List.mem_append.mp hz with z1 | z1
          · exact hsya.2 z z1
          · obtain rfl : z = "copy" := by simpa using z1
            decide +kernel
        · have := hgy.1
          simp only [List.length_append, List.length_singleton]
          omega
      | 3, hj =>
        cases hj
        refine badm hyl hsy hat2 ⟨?_, fun z hz => ?_⟩ (.inr ?_)
        · have := hgy.1
          have := goH_le gp.hs at_
          simp only [List.length_append, List.length_drop, List.length_singleton]
          omega
        · rcases List.mem_append.mp hz with z1 | z1
          · exact hsya.2 z (List.mem_of_mem_drop z1)
          · obtain rfl : z = "Copy" := by simpa using z1
            decide +kernel
        · rw [List.all_append]
          have : isWay "Copy" = false := by decide +kernel
          simp [this]
    obtain ⟨bs, rfl, hob, hsb⟩ := hbad
    have kp10 := R9.kp (H' := H10) f10
    have tp10 := tp9.kp kp10
    have ty10 : Td K H10 yv (encY ys) := ty9.kp kp10
    have T10 := tabs_fr T9 R9 f10
    clear hx9 ta9 R9 T9 tp9 ty9
    try dsimp only
    -- ways that are none
    refine w_seq (w_ifs (w_test (w_op ?_)))
    refine ⟨T10, fun G eG TG => ⟨.str "ways", fun Q' E' h1 h2 h3 => ⟨vp, yv, bv, rfl, vp, yv, bv, p.map toD, ys, bs, rfl, tp10.kp (extN_keep eG), ty10.kp (extN_keep eG), tb.kp (extN_keep eG), smP_ws hsm, hsy, hsb, .inr (.inr ⟨p, rfl, hok, hoy, hob, fun H' e' => h3 rfl H' e'⟩)⟩, .inr (.inr rfl), fun H11 e11 => w_c ⟨.str "ways", .str "ways", .str _, .str _, by decide +kernel, by decide +kernel, by decide +kernel, _, rfl, ifF ways_ne (w_next ?_)⟩⟩⟩
    have R11 := (R10.extN eG).ex e11
    have T11 := TG.ext e11
    have tp11 := (tp10.kp (extN_keep eG)).ex e11
    have tb11 := (tb.kp (extN_keep eG)).ex e11
    clear eG TG e11 tp10 ty10 tb R10 T10
    try dsimp only
    -- all that takes a program and ways
    have canW : ∀ H', Td K H' vp (.tuple ((p.map toD).map encWD)) → Td K H' bv (encY bs) → CanW K H' vp bv (.str "ways") := fun H' t1 t2 => ⟨p.map toD, bs, t1, t2, smP_ws hsm, hsb, .inr ⟨p, rfl, hok, hsm, hsl, hob, rfl⟩⟩
    refine w_seq (w_asg (w_call (w_cons (w_v rfl (w_cons (w_v rfl (w_cons (w_d (K := K) (ed_tup (eda_cons ed_ci (eda_cons ed_ci eda_nil)) (by simp)) fun cv Ha ea ta => w_nil ⟨vp, bv, cv, rfl, T11.ext ea, fun lp fs Hb eb Tb hlp0 hlp hlen hk => ⟨lp, rfl, ⟨_, SqL.of hlp⟩, fun Dl hD => lc_same (d := .str "ways") hD (SqL.of hlp) (by rw [List.length_map]; omega) (fun _ => rfl) (fun x hx => ?_) fun Hc acc ec hacc hall => ?_⟩⟩))))))))
    · obtain ⟨f, hf, rfl⟩ := List.mem_map.mp hx
      exact ed_askW rfl (hk f hf) (canW _ ((tp11.ex ea).kp (extN_keep eb)) ((tb11.ex ea).kp (extN_keep eb))) (.inr (.inr rfl)) fun _ => .str _
    have R12 := ((R11.ex ea).extN eb).ex ec
    have T12 := Tb.ext ec
    have tp12 := ((tp11.ex ea).kp (extN_keep eb)).ex ec
    have tb12 := ((tb11.ex ea).kp (extN_keep eb)).ex ec
    rw [List.length_map, hlen] at hall
    clear hk eb ea ta R11 T11 tp11 tb11 hlp hlp0
    try dsimp only
    refine w_seq (w_ifs (w_t (K := K) (b := false) (tk_is (tk_or (tk_v (ed_neLL (EvDL.rd (edl_slL (edr_var rfl (SqL.of hacc) hall) eok_none (eok_some ed_ci))) (edl_rep1 (k := 5) (by decide) rfl) (by decide +kernel) (by decide +kernel) (by decide +kernel))) fun _ => tk_v (ed_neLL (EvDL.rd (edl_slL (edr_var rfl (SqL.of hacc) hall) (eok_some ed_ci) eok_none)) (edl_rep1 (k := 2) (by decide) rfl) (by decide +kernel) (by decide +kernel) (by decide +kernel))) (by rw [told_a, told_b]; rfl)) fun Hd ed => ifF rfl (w_next ?_)))
    have R13 := R12.ex ed
    have T13 := T12.ext ed
    have tp13 : Td K Hd vp (encP p) := by rw [encP_ws]; exact tp12.ex ed
    have tb13 := tb12.ex ed
    clear hall hacc R12 T12 tp12 tb12
    try dsimp only
    -- a program told otherwise
    refine w_seq (w_asg (w_call (w_cons (w_v rfl (w_cons (w_v rfl (w_nil ⟨r, s, ns, vp, p, rfl, R13, hn, tp13, hok, hsm, hbl, fun ov ws He hws fe Re to => ?_⟩)))))))
    have Te := tabs_fr T13 R13 fe
    have tbe := tb13.kp (R13.kp fe)
    try dsimp only
    refine w_ifs (w_t (K := K) (b := isPrD ws) (tk_vB (ed_call (eda_cons (ed_var rfl to) eda_nil) ⟨ws, rfl, hws.1.1, hws.2, rfl⟩)) fun Hf ef => ?_)
    have Rf := Re.ex ef
    have Tf := Te.ext ef
    replace to := to.ex ef
    replace tbe := tbe.ex ef
    cases hpw : isPrD ws with
    | true =>
      refine ifT rfl ?_
      refine w_ifs (w_test (w_op ?_))
      refine w_call (w_cons (w_v rfl (w_nil ⟨ov, rfl, Tf, fun lp f0 f1 f2 Hg eg Tg hlp0 hlp k0 k1 k2 => ?_⟩)))
      refine eok_none (K := K) Hg (Ex.refl _) _ fun Hh eh => eok_some (K := K) (i := 2) ed_ci Hh (Ex.refl _) _ fun Hi ei => ⟨lp, _, rfl, ex_l (eh.trans ei) (SqL.of hlp), fun q hq => ⟨q, rfl, ⟨_, SqL.of upd_same⟩, fun Dl hD => ?_⟩⟩
      have ej := (eh.trans ei).trans (Ex.new (o := .lst (cutV [V.ref f0, V.ref f1, V.ref f2] none (some 2))) hq)
      have hcut : cutV [V.ref f0, V.ref f1, V.ref f2] none (some 2) = [V.ref f0, V.ref f1] := rfl
      have hqs : upd Hi q (.lst (cutV [V.ref f0, V.ref f1, V.ref f2] none (some 2))) q = some (.lst [V.ref f0, V.ref f1]) := by rw [upd_same, hcut]
      generalize upd Hi q (.lst (cutV [V.ref f0, V.ref f1, V.ref f2] none (some 2))) = Hj at *
      have can : CanO K true Hj ov .non := ⟨ws, (to.kp (extN_keep eg)).ex ej, hws, .inr ⟨rfl, hpw, rfl⟩⟩
      refine lc_none (xs := [V.ref f0, V.ref f1]) hD (SqL.of hqs) (fun _ => rfl) (fun x hx => ?_) fun Hk ek hDk => ?_
      · simp only [List.mem_cons, List.not_mem_nil, or_false] at hx
        rcases hx with rfl | rfl
        · obtain ⟨F, fr, us, kn, lm⟩ := k0
          exact tk_isN (ed_askO rfl ⟨F, fr, us, kn.ex ej, lm⟩ can (.inl rfl) fun _ => .non)
        · obtain ⟨F, fr, us, kn, lm⟩ := k1
          exact tk_isN (ed_askO rfl ⟨F, fr, us, kn.ex ej, lm⟩ can (.inl rfl) fun _ => .non)
      refine w_lst (w_nil ⟨Nat.zero_le _, fun q2 hq2 => ne_none hDk hq2 fun Hl el => ⟨_, rfl, ifF rfl (w_next ?_)⟩⟩)
      exact ⟨_, _, _, _, _, _, _, _, rfl, ((Rf.extN eg).ex ej).ex (ek.trans el), ((Tg.ext ej).ext ek).ext el⟩
    | false =>
      refine ifF (by simp) ?_
      refine w_ifs (w_test (w_op ?_))
      refine w_call (w_cons (w_v rfl (w_cons (w_v rfl (w_cons (w_d (K := K) (ed_tup (eda_cons ed_ci (eda_cons ed_ci eda_nil)) (by simp)) fun cv Hg eg tg => w_nil ⟨ov, bv, cv, rfl, Tf.ext eg, fun lp fs Hh eh Th hlp0 hlp hlen hk => ⟨lp, rfl, ⟨_, SqL.of hlp⟩, fun Dl hD => ?_⟩⟩))))))
      have can : CanW K Hh ov bv (.str "program") := ⟨ws, bs, (to.ex eg).kp (extN_keep eh), (tbe.ex eg).kp (extN_keep eh), hws, hsb, .inl ⟨hpw, rfl⟩⟩
      refine lc_none hD (SqL.of hlp) (fun _ => rfl) (fun x hx => ?_) fun Hi ei hDi => ?_
      · obtain ⟨f, hf, rfl⟩ := List.mem_map.mp hx
        exact tk_is (tk_v (ed_neS (s := "program") (ed_askW rfl (hk f hf) can (.inr (.inl rfl)) fun _ => .str _) ed_cs (by decide +kernel) (by decide +kernel))) prog_ne
      refine w_lst (w_nil ⟨Nat.zero_le _, fun q2 hq2 => ne_none hDi hq2 fun Hj ej => ⟨_, rfl, ifF rfl ?_⟩⟩)
      have Rj := ((Rf.ex eg).extN eh).ex (ei.trans ej)
      have Tj := (Th.ext ei).ext ej
      have toj := ((to.ex eg).kp (extN_keep eh)).ex (ei.trans ej)
      try dsimp only
      refine w_ifs (w_test (w_op ?_))
      refine w_call (w_cons (w_v rfl (w_nil ⟨ov, rfl, Tj, fun lp2 f0 f1 f2 Hk ek Tk hlp02 hlp2 k0 k1 k2 => ⟨lp2, rfl, ⟨_, SqL.of hlp2⟩, fun Dl2 hD2 => ?_⟩⟩)))
      have can2 : ∀ q, CanO K q Hk ov (.str "program") := fun q => ⟨ws, toj.kp (extN_keep ek), hws, .inl ⟨hpw, rfl⟩⟩
      refine lc_none hD2 (SqL.of hlp2) (fun _ => rfl) (fun x hx => ?_) fun Hm em hDm => ?_
      · simp only [List.mem_cons, List.not_mem_nil, or_false] at hx
        rcases hx with rfl | rfl | rfl
        · exact tk_is (tk_v (ed_neS (s := "program") (ed_askO rfl k0 (can2 _) (.inr (.inl rfl)) fun _ => .str _) ed_cs (by decide +kernel) (by decide +kernel))) prog_ne
        · exact tk_is (tk_v (ed_neS (s := "program") (ed_askO rfl k1 (can2 _) (.inr (.inl rfl)) fun _ => .str _) ed_cs (by decide +kernel) (by decide +kernel))) prog_ne
        · exact tk_is (tk_v (ed_neS (s := "program") (ed_askO rfl k2 (can2 _) (.inr (.inl rfl)) fun _ => .str _) ed_cs (by decide +kernel) (by decide +kernel))) prog_ne
      refine w_lst (w_nil ⟨Nat.zero_le _, fun q3 hq3 => ne_none hDm hq3 fun Hn en => ⟨_, rfl, ifF rfl (w_next ?_)⟩⟩)
      exact ⟨_, _, _, _, _, _, _, _, rfl, (Rj.extN ek).ex (em.trans en), (Tk.ext em).ext en⟩
  · rintro σ' H2 ⟨u2, u3, u4, u5, u6, u7, u8, u9, rfl, R2, T2⟩
    try dsimp only
    exact w_ret (w_c (kq H2))
end
end Hw

set_option maxRecDepth 100000
set_option maxHeartbeats 4000000
/-! LA01: the law -/
namespace Hw
open PySem PySem.Spec PyProof.Rows L2 Evl LamX NdefX LamK
section
variable {P : Program} {w : World} {K : PySem.W.Frag} {mg : Str → Option Value} {base : Heap} (T : Tx K mg)
include T
/-- all of it -/
theorem law_ok (TB : TBs K mg base) : Fn_law T P w base CX0 30 (spLawT K) := by
  have gT := ok_taken (P := P) (w := w) (base := base) T
  have gN := ok_is_number (P := P) (w := w) (base := base) T
  have pT := ok_pth T gN
  have pC := ok_pcall T gN (pT 5)
  have gC := ok_count T (ok_bodies_of (P := P) (w := w) (base := base) (k := 0) T)
  have gNP := ok_pprog T (ok_pwork T (ok_pbdN T (pT 5) pC 5) (gC 7))
  have gNY := ok_pways T gNP
  have gSm := ok_psmall T (gC 7)
  have gPa := ok_pparted T gNP gNY
  have gWr := ok_pwritten T gNP (ok_bw T (ok_tw T 4) 5)
  have gW := ok_works T TB gNY gPa (ok_pmixed T gNP gNY gSm) (ok_pmay_set T gNP gNY gSm) (ok_pran T gNP gNY) (ok_pplaced T gNP gNY gSm) (ok_pwanted T gNP gNY gSm)
  have gO := ok_others T TB gNP gWr (ok_pclasses T gNP)
  have LN := ok_lnumber (P := P) (w := w) (base := base) T
  have LT := ok_lth T LN
  have LS : ∀ n, Fn__law_is_step T P w base CX0 (8 + 2 * n) (spLS K (fSt n) n) := by
    intro n
    induction n with
    | zero => exact ok_lst T (k := 7) (by decide) (fun _ _ _ _ => False) (fun h => absurd h (Nat.lt_irrefl _)) LN (LT 5) (fn_vac fun _ _ _ _ h => h)
    | succ n ih => exact ok_lst T (k := 8 + 2 * n + 1) (by omega) (spLS K (fBd n) n) (fun _ => rfl) LN (LT 5) (ok_lbd T ih)
  have LP := ok_lpr T (ok_lbd T (LS 5)) (ok_lcnt T 6)
  exact ok_law T TB gT (ok_gen T gT) (ok_ways T gT) gNP gPa gW gO (ok_word T) (ok_spoilt T gT (ok_deep T gT) (ok_around T gT) (ok_odd T gT)) LP
end
end Hw

set_option maxRecDepth 100000
set_option maxHeartbeats 0
namespace Hw
open PySem PySem.Spec PyProof.Rows L2
def dd_BadText___init__ : He.DefD := ⟨("BadText", some "__init__"), "__init__", "BadText.__init__", defArgs s_BadText___init__, defBody s_BadText___init__, defScope s_BadText___init__, [], []⟩
def dd_is_number : He.DefD := ⟨("is_number", none), "is_number", "is_number", defArgs s_is_number, defBody s_is_number, defScope s_is_number, [], []⟩
def dd_is_thing : He.DefD := ⟨("is_thing", none), "is_thing", "is_thing", defArgs s_is_thing, defBody s_is_thing, defScope s_is_thing, [], []⟩
def dd_is_call : He.DefD := ⟨("is_call", none), "is_call", "is_call", defArgs s_is_call, defBody s_is_call, defScope s_is_call, [], []⟩
def dd_is_step : He.DefD := ⟨("is_step", none), "is_step", "is_step", defArgs s_is_step, defBody s_is_step, defScope s_is_step, [], []⟩
def dd_is_body : He.DefD := ⟨("is_body", none), "is_body", "is_body", defArgs s_is_body, defBody s_is_body, defScope s_is_body, [], []⟩
def dd_bodies_of : He.DefD := ⟨("bodies_of", none), "bodies_of", "bodies_of", defArgs s_bodies_of, defBody s_bodies_of, defScope s_bodies_of, [], []⟩
def dd_count : He.DefD := ⟨("count", none), "count", "count", defArgs s_count, defBody s_count, defScope s_count, [], []⟩
def dd_is_work : He.DefD := ⟨("is_work", none), "is_work", "is_work", defArgs s_is_work, defBody s_is_work, defScope s_is_work, [], []⟩
def dd_need_program : He.DefD := ⟨("need_program", none), "need_program", "need_program", defArgs s_need_program, defBody s_need_program, defScope s_need_program, [], []⟩
def dd_need_ways : He.DefD := ⟨("need_ways", none), "need_ways", "need_ways", defArgs s_need_ways, defBody s_need_ways, defScope s_need_ways, [], []⟩
def dd_Frame___init__ : He.DefD := ⟨("Frame", some "__init__"), "__init__", "Frame.__init__", defArgs s_Frame___init__, defBody s_Frame___init__, defScope s_Frame___init__, [], []⟩
def dd_Lent___init__ : He.DefD := ⟨("Lent", some "__init__"), "__init__", "Lent.__init__", defArgs s_Lent___init__, defBody s_Lent___init__, defScope s_Lent___init__, [], []⟩
def dd_Run___init__ : He.DefD := ⟨("Run", some "__init__"), "__init__", "Run.__init__", defArgs s_Run___init__, defBody s_Run___init__, defScope s_Run___init__, [], []⟩
def dd_Run_fresh : He.DefD := ⟨("Run", some "fresh"), "fresh", "Run.fresh", defArgs s_Run_fresh, defBody s_Run_fresh, defScope s_Run_fresh, [], []⟩
def dd_Run_come : He.DefD := ⟨("Run", some "come"), "come", "Run.come", defArgs s_Run_come, defBody s_Run_come, defScope s_Run_come, [], []⟩
def dd_Run_find : He.DefD := ⟨("Run", some "find"), "find", "Run.find", defArgs s_Run_find, defBody s_Run_find, defScope s_Run_find, [], []⟩
def dd_Run_number : He.DefD := ⟨("Run", some "number"), "number", "Run.number", defArgs s_Run_number, defBody s_Run_number, defScope s_Run_number, [], []⟩
def dd_Run_do : He.DefD := ⟨("Run", some "do"), "do", "Run.do", defArgs s_Run_do, defBody s_Run_do, defScope s_Run_do, [], []⟩
def dd_Run_steps : He.DefD := ⟨("Run", some "steps"), "steps", "Run.steps", defArgs s_Run_steps, defBody s_Run_steps, defScope s_Run_steps, [], []⟩
def dd_Run_put : He.DefD := ⟨("Run", some "put"), "put", "Run.put", defArgs s_Run_put, defBody s_Run_put, defScope s_Run_put, [], []⟩
def dd_Run_call : He.DefD := ⟨("Run", some "call"), "call", "Run.call", defArgs s_Run_call, defBody s_Run_call, defScope s_Run_call, [], []⟩
def dd_out_of : He.DefD := ⟨("out_of", none), "out_of", "out_of", defArgs s_out_of, defBody s_out_of, defScope s_out_of, [], []⟩
def dd_ran : He.DefD := ⟨("ran", none), "ran", "ran", defArgs s_ran, defBody s_ran, defScope s_ran, [], []⟩
def dd_all_cells : He.DefD := ⟨("all_cells", none), "all_cells", "all_cells", defArgs s_all_cells, defBody s_all_cells, defScope s_all_cells, [], []⟩
def dd_parted : He.DefD := ⟨("parted", none), "parted", "parted", defArgs s_parted, defBody s_parted, defScope s_parted, [], []⟩
def dd_mixed : He.DefD := ⟨("mixed", none), "mixed", "mixed", defArgs s_mixed, defBody s_mixed, defScope s_mixed, [], []⟩
def dd_all_ways : He.DefD := ⟨("all_ways", none), "all_ways", "all_ways", defArgs s_all_ways, defBody s_all_ways, defScope s_all_ways, [], []⟩
def dd_classes : He.DefD := ⟨("classes", none), "classes", "classes", defArgs s_classes, defBody s_classes, defScope s_classes, [], []⟩
def dd_need_small : He.DefD := ⟨("need_small", none), "need_small", "need_small", defArgs s_need_small, defBody s_need_small, defScope s_need_small, [], []⟩
def dd_thing_anew : He.DefD := ⟨("thing_anew", none), "thing_anew", "thing_anew", defArgs s_thing_anew, defBody s_thing_anew, defScope s_thing_anew, [], []⟩
def dd_Maker___init__ : He.DefD := ⟨("Maker", some "__init__"), "__init__", "Maker.__init__", defArgs s_Maker___init__, defBody s_Maker___init__, defScope s_Maker___init__, [], []⟩
def dd_Maker_fresh : He.DefD := ⟨("Maker", some "fresh"), "fresh", "Maker.fresh", defArgs s_Maker_fresh, defBody s_Maker_fresh, defScope s_Maker_fresh, [], []⟩
def dd_Maker_made : He.DefD := ⟨("Maker", some "made"), "made", "Maker.made", defArgs s_Maker_made, defBody s_Maker_made, defScope s_Maker_made, [], []⟩
def dd_Maker_steps : He.DefD := ⟨("Maker", some "steps"), "steps", "Maker.steps", defArgs s_Maker_steps, defBody s_Maker_steps, defScope s_Maker_steps, [], []⟩
def dd_Maker_call : He.DefD := ⟨("Maker", some "call"), "call", "Maker.call", defArgs s_Maker_call, defBody s_Maker_call, defScope s_Maker_call, [], []⟩
def dd_Maker_held : He.DefD := ⟨("Maker", some "held"), "held", "Maker.held", defArgs s_Maker_held, defBody s_Maker_held, defScope s_Maker_held, [], []⟩
def dd_anew : He.DefD := ⟨("anew", none), "anew", "anew", defArgs s_anew, defBody s_anew, defScope s_anew, [], []⟩
def dd_placed : He.DefD := ⟨("placed", none), "placed", "placed", defArgs s_placed, defBody s_placed, defScope s_placed, [], []⟩
def dd_wanted : He.DefD := ⟨("wanted", none), "wanted", "wanted", defArgs s_wanted, defBody s_wanted, defScope s_wanted, [], []⟩
def dd_thing_words : He.DefD := ⟨("thing_words", none), "thing_words", "thing_words", defArgs s_thing_words, defBody s_thing_words, defScope s_thing_words, [], []⟩
def dd_body_words : He.DefD := ⟨("body_words", none), "body_words", "body_words", defArgs s_body_words, defBody s_body_words, defScope s_body_words, [], []⟩
def dd_written : He.DefD := ⟨("written", none), "written", "written", defArgs s_written, defBody s_written, defScope s_written, [], []⟩
def dd_sets : He.DefD := ⟨("sets", none), "sets", "sets", defArgs s_sets, defBody s_sets, defScope s_sets, [], []⟩
def dd_may_set : He.DefD := ⟨("may_set", none), "may_set", "may_set", defArgs s_may_set, defBody s_may_set, defScope s_may_set, [], []⟩
def dd__law_taken : He.DefD := ⟨("_law_taken", none), "_law_taken", "_law_taken", defArgs s__law_taken, defBody s__law_taken, defScope s__law_taken, [], []⟩
def dd__law_thing : He.DefD := ⟨("_law_thing", none), "_law_thing", "_law_thing", defArgs s__law_thing, defBody s__law_thing, defScope s__law_thing, [], []⟩
def dd__law_place : He.DefD := ⟨("_law_place", none), "_law_place", "_law_place", defArgs s__law_place, defBody s__law_place, defScope s__law_place, [], []⟩
def dd__law_step : He.DefD := ⟨("_law_step", none), "_law_step", "_law_step", defArgs s__law_step, defBody s__law_step, defScope s__law_step, [], []⟩
def dd__law_body : He.DefD := ⟨("_law_body", none), "_law_body", "_law_body", defArgs s__law_body, defBody s__law_body, defScope s__law_body, [], []⟩
def dd__law_program : He.DefD := ⟨("_law_program", none), "_law_program", "_law_program", defArgs s__law_program, defBody s__law_program, defScope s__law_program, [], []⟩
def dd__law_ways : He.DefD := ⟨("_law_ways", none), "_law_ways", "_law_ways", defArgs s__law_ways, defBody s__law_ways, defScope s__law_ways, [], []⟩
def dd__law_cells : He.DefD := ⟨("_law_cells", none), "_law_cells", "_law_cells", defArgs s__law_cells, defBody s__law_cells, defScope s__law_cells, [], []⟩
def dd__law_is_number : He.DefD := ⟨("_law_is_number", none), "_law_is_number", "_law_is_number", defArgs s__law_is_number, defBody s__law_is_number, defScope s__law_is_number, [], []⟩
def dd__law_is_thing : He.DefD := ⟨("_law_is_thing", none), "_law_is_thing", "_law_is_thing", defArgs s__law_is_thing, defBody s__law_is_thing, defScope s__law_is_thing, [], []⟩
def dd__law_is_step : He.DefD := ⟨("_law_is_step", none), "_law_is_step", "_law_is_step", defArgs s__law_is_step, defBody s__law_is_step, defScope s__law_is_step, [], []⟩
def dd__law_is_body : He.DefD := ⟨("_law_is_body", none), "_law_is_body", "_law_is_body", defArgs s__law_is_body, defBody s__law_is_body, defScope s__law_is_body, [], []⟩
def dd__law_count : He.DefD := ⟨("_law_count", none), "_law_count", "_law_count", defArgs s__law_count, defBody s__law_count, defScope s__law_count, [], []⟩
def dd__law_is_program : He.DefD := ⟨("_law_is_program", none), "_law_is_program", "_law_is_program", defArgs s__law_is_program, defBody s__law_is_program, defScope s__law_is_program, [], []⟩
def dd__law_deep : He.DefD := ⟨("_law_deep", none), "_law_deep", "_law_deep", defArgs s__law_deep, defBody s__law_deep, defScope s__law_deep, [], []⟩
def dd__law_around : He.DefD := ⟨("_law_around", none), "_law_around", "_law_around", defArgs s__law_around, defBody s__law_around, defScope s__law_around, [], []⟩
def dd__law_odd_step : He.DefD := ⟨("_law_odd_step", none), "_law_odd_step", "_law_odd_step", defArgs s__law_odd_step, defBody s__law_odd_step, defScope s__law_odd_step, [], []⟩
def dd__law_spoilt : He.DefD := ⟨("_law_spoilt", none), "_law_spoilt", "_law_spoilt", defArgs s__law_spoilt, defBody s__law_spoilt, defScope s__law_spoilt, [], []⟩
def dd__law_works : He.DefD := ⟨("_law_works", none), "_law_works", "_law_works", defArgs s__law_works, defBody s__law_works, defScope s__law_works, [], []⟩
def dd__law_others : He.DefD := ⟨("_law_others", none), "_law_others", "_law_others", defArgs s__law_others, defBody s__law_others, defScope s__law_others, [], []⟩
def dd__law_word : He.DefD := ⟨("_law_word", none), "_law_word", "_law_word", defArgs s__law_word, defBody s__law_word, defScope s__law_word, [], []⟩
def dd_law : He.DefD := ⟨("law", none), "law", "law", defArgs s_law, defBody s_law, defScope s_law, [], []⟩
def fns : List He.DefD := [dd_BadText___init__, dd_is_number, dd_is_thing, dd_is_call, dd_is_step, dd_is_body, dd_bodies_of, dd_count, dd_is_work, dd_need_program, dd_need_ways, dd_Frame___init__, dd_Lent___init__, dd_Run___init__, dd_Run_fresh, dd_Run_come, dd_Run_find, dd_Run_number, dd_Run_do, dd_Run_steps, dd_Run_put, dd_Run_call, dd_out_of, dd_ran, dd_all_cells, dd_parted, dd_mixed, dd_all_ways, dd_classes, dd_need_small, dd_thing_anew, dd_Maker___init__, dd_Maker_fresh, dd_Maker_made, dd_Maker_steps, dd_Maker_call, dd_Maker_held, dd_anew, dd_placed, dd_wanted, dd_thing_words, dd_body_words, dd_written, dd_sets, dd_may_set, dd__law_taken, dd__law_thing, dd__law_place, dd__law_step, dd__law_body, dd__law_program, dd__law_ways, dd__law_cells, dd__law_is_number, dd__law_is_thing, dd__law_is_step, dd__law_is_body, dd__law_count, dd__law_is_program, dd__law_deep, dd__law_around, dd__law_odd_step, dd__law_spoilt, dd__law_works, dd__law_others, dd__law_word, dd_law]
def fas : List He.Fa := [.glo "is_number", .glo "is_thing", .glo "is_call", .glo "is_step", .glo "is_body", .glo "bodies_of", .glo "count", .glo "is_work", .glo "need_program", .glo "need_ways", .glo "out_of", .glo "ran", .glo "all_cells", .glo "parted", .glo "mixed", .glo "all_ways", .glo "classes", .glo "need_small", .glo "thing_anew", .glo "anew", .glo "placed", .glo "wanted", .glo "thing_words", .glo "body_words", .glo "written", .glo "sets", .glo "may_set", .glo "_law_taken", .glo "_law_thing", .glo "_law_place", .glo "_law_step", .glo "_law_body", .glo "_law_program", .glo "_law_ways", .glo "_law_cells", .glo "_law_is_number", .glo "_law_is_thing", .glo "_law_is_step", .glo "_law_is_body", .glo "_law_count", .glo "_law_is_program", .glo "_law_deep", .glo "_law_around", .glo "_law_odd_step", .glo "_law_spoilt", .glo "_law_works", .glo "_law_others", .glo "_law_word", .glo "law", .glo "HandError", .keep "HandError", .glo "BadProgram", .keep "BadProgram", .glo "BadWays", .keep "BadWays", .glo "BadCells", .keep "BadCells", .glo "BadText", .keep "BadText", .glo "Frame", .keep "Frame", .cls "Frame", .mkr "Frame", .noat "Frame" "owns", .noat "Frame" "pars", .glo "Lent", .keep "Lent", .cls "Lent", .mkr "Lent", .noat "Lent" "place", .noat "Lent" "through", .noat "Lent" "thing", .noat "Lent" "frame", .glo "Run", .keep "Run", .cls "Run", .mkr "Run", .noat "Run" "program", .noat "Run" "ways", .noat "Run" "numbers", .noat "Run" "said", .noat "Run" "lent", .noat "Run" "many", .noat "Run" "mixed", .noat "Run" "owns", .meth "Run" "fresh", .meth "Run" "come", .meth "Run" "find", .meth "Run" "number", .meth "Run" "do", .meth "Run" "steps", .meth "Run" "put", .meth "Run" "call", .glo "Maker", .keep "Maker", .cls "Maker", .mkr "Maker", .noat "Maker" "ways", .noat "Maker" "frozen", .noat "Maker" "news", .noat "Maker" "own", .noat "Maker" "many", .noat "Maker" "params", .noat "Maker" "body", .meth "Maker" "fresh", .meth "Maker" "made", .meth "Maker" "steps", .meth "Maker" "call", .meth "Maker" "held", .free "ValueError", .free "bool", .free "int", .free "isinstance", .free "len", .free "list", .free "range", .free "reversed", .free "str", .free "sum", .free "tuple", .free "zip", .int "NUMBERS" 3, .int "MOST_WORKS" 4, .int "MOST_PARAMS" 3, .int "MOST_OWNS_programs" 99, .int "MOST_STEPS_programs" 100, .int "MOST_WITHIN" 4, .glo "PLACES", .glo "WAYS", .int "COMMON" 3, .int "MOST_IN_ALL" 3, .int "MOST_STEPS_making" 20, .int "MOST_OWNS_making" 10]
def exs : List (PySem.W.Frag → Bool) := [fun K => PySem.W.excIn K (He.ga K "HandError") [.type "ValueError", .type "Exception", .type "BaseException", .type "object"] "ValueError.__new__", fun K => decide (PySem.W.subIn K (.ref (He.ga K "HandError")) (.type "BaseException") = some true), fun K => decide (PySem.W.typeIn K (.ref (He.ga K "HandError")) = some (.type "type")), fun K => decide (PySem.W.exmOne K (.ref (He.ga K "HandError")) (.ref (He.ga K "HandError")) = some true), fun K => decide (PySem.W.exmOne K (.ref (He.ga K "HandError")) (.ref (He.ga K "BadProgram")) = some false), fun K => decide (PySem.W.exmOne K (.ref (He.ga K "HandError")) (.ref (He.ga K "BadWays")) = some false), fun K => decide (PySem.W.exmOne K (.ref (He.ga K "HandError")) (.ref (He.ga K "BadCells")) = some false), fun K => decide (PySem.W.exmOne K (.ref (He.ga K "HandError")) (.ref (He.ga K "BadText")) = some false), fun K => PySem.W.excIn K (He.ga K "BadProgram") [.type "ValueError", .type "Exception", .type "BaseException", .type "object"] "ValueError.__new__", fun K => decide (PySem.W.subIn K (.ref (He.ga K "BadProgram")) (.type "BaseException") = some true), fun K => decide (PySem.W.typeIn K (.ref (He.ga K "BadProgram")) = some (.type "type")), fun K => decide (PySem.W.exmOne K (.ref (He.ga K "BadProgram")) (.ref (He.ga K "HandError")) = some true), fun K => decide (PySem.W.exmOne K (.ref (He.ga K "BadProgram")) (.ref (He.ga K "BadProgram")) = some true), fun K => decide (PySem.W.exmOne K (.ref (He.ga K "BadProgram")) (.ref (He.ga K "BadWays")) = some false), fun K => decide (PySem.W.exmOne K (.ref (He.ga K "BadProgram")) (.ref (He.ga K "BadCells")) = some false), fun K => decide (PySem.W.exmOne K (.ref (He.ga K "BadProgram")) (.ref (He.ga K "BadText")) = some false), fun K => PySem.W.excIn K (He.ga K "BadWays") [.type "ValueError", .type "Exception", .type "BaseException", .type "object"] "ValueError.__new__", fun K => decide (PySem.W.subIn K (.ref (He.ga K "BadWays")) (.type "BaseException") = some true), fun K => decide (PySem.W.typeIn K (.ref (He.ga K "BadWays")) = some (.type "type")), fun K => decide (PySem.W.exmOne K (.ref (He.ga K "BadWays")) (.ref (He.ga K "HandError")) = some true), fun K => decide (PySem.W.exmOne K (.ref (He.ga K "BadWays")) (.ref (He.ga K "BadProgram")) = some false), fun K => decide (PySem.W.exmOne K (.ref (He.ga K "BadWays")) (.ref (He.ga K "BadWays")) = some true), fun K => decide (PySem.W.exmOne K (.ref (He.ga K "BadWays")) (.ref (He.ga K "BadCells")) = some false), fun K => decide (PySem.W.exmOne K (.ref (He.ga K "BadWays")) (.ref (He.ga K "BadText")) = some false), fun K => PySem.W.excIn K (He.ga K "BadCells") [.type "ValueError", .type "Exception", .type "BaseException", .type "object"] "ValueError.__new__", fun K => decide (PySem.W.subIn K (.ref (He.ga K "BadCells")) (.type "BaseException") = some true), fun K => decide (PySem.W.typeIn K (.ref (He.ga K "BadCells")) = some (.type "type")), fun K => decide (PySem.W.exmOne K (.ref (He.ga K "BadCells")) (.ref (He.ga K "HandError")) = some true), fun K => decide (PySem.W.exmOne K (.ref (He.ga K "BadCells")) (.ref (He.ga K "BadProgram")) = some false), fun K => decide (PySem.W.exmOne K (.ref (He.ga K "BadCells")) (.ref (He.ga K "BadWays")) = some false), fun K => decide (PySem.W.exmOne K (.ref (He.ga K "BadCells")) (.ref (He.ga K "BadCells")) = some true), fun K => decide (PySem.W.exmOne K (.ref (He.ga K "BadCells")) (.ref (He.ga K "BadText")) = some false), fun K => decide (PySem.W.subIn K (.ref (He.ga K "BadText")) (.type "BaseException") = some true), fun K => decide (PySem.W.typeIn K (.ref (He.ga K "BadText")) = some (.type "type")), fun K => decide (PySem.W.exmOne K (.ref (He.ga K "BadText")) (.ref (He.ga K "HandError")) = some true), fun K => decide (PySem.W.exmOne K (.ref (He.ga K "BadText")) (.ref (He.ga K "BadProgram")) = some false), fun K => decide (PySem.W.exmOne K (.ref (He.ga K "BadText")) (.ref (He.ga K "BadWays")) = some false), fun K => decide (PySem.W.exmOne K (.ref (He.ga K "BadText")) (.ref (He.ga K "BadCells")) = some false), fun K => decide (PySem.W.exmOne K (.ref (He.ga K "BadText")) (.ref (He.ga K "BadText")) = some true), fun K => decide (PySem.W.findIn K (.ref (He.ga K "BadProgram")) "__getattribute__" = some (some (.builtin "BaseException.__getattribute__"))), fun K => decide (PySem.W.findIn K (.ref (He.ga K "BadProgram")) "__getattr__" = some none), fun K => decide (PySem.W.hasDictIn K (He.ga K "BadProgram") = true), fun K => decide (PySem.W.findIn K (.ref (He.ga K "BadProgram")) "__class__" = some (some (.builtin "object.__class__"))), fun K => decide (PySem.W.specialIn K (.builtin "object.__class__") "__get__" = some (some (.builtin "getset_descriptor.__get__"))), fun K => decide (PySem.W.takesIn K (.builtin "object.__class__") = some true), fun K => decide (PySem.W.mroIn K (He.ga K "BadProgram") (.type "object") = some true), fun K => decide (PySem.W.kitOne K (.ref (He.ga K "BadProgram")) (.type "ValueError") = some true), fun K => decide (PySem.W.findIn K (.ref (He.ga K "BadWays")) "__getattribute__" = some (some (.builtin "BaseException.__getattribute__"))), fun K => decide (PySem.W.findIn K (.ref (He.ga K "BadWays")) "__getattr__" = some none), fun K => decide (PySem.W.hasDictIn K (He.ga K "BadWays") = true), fun K => decide (PySem.W.findIn K (.ref (He.ga K "BadWays")) "__class__" = some (some (.builtin "object.__class__"))), fun K => decide (PySem.W.specialIn K (.builtin "object.__class__") "__get__" = some (some (.builtin "getset_descriptor.__get__"))), fun K => decide (PySem.W.takesIn K (.builtin "object.__class__") = some true), fun K => decide (PySem.W.mroIn K (He.ga K "BadWays") (.type "object") = some true), fun K => decide (PySem.W.kitOne K (.ref (He.ga K "BadWays")) (.type "ValueError") = some true), fun K => decide ((He.cT K ("law", none)).2 ≠ (He.cT K ("_law_works", none)).2), fun K => decide ((He.cT K ("law", none)).2 ≠ (He.cT K ("_law_others", none)).2), fun K => decide ((He.cT K ("_law_works", none)).2 ≠ (He.cT K ("_law_others", none)).2), fun K => decide (PySem.W.kitOne K (.ref (He.ga K "BadProgram")) (.ref (He.ga K "BadProgram")) = some true), fun K => decide (PySem.W.kitOne K (.ref (He.ga K "BadProgram")) (.ref (He.ga K "BadWays")) = some false), fun K => decide (PySem.W.kitOne K (.ref (He.ga K "BadProgram")) (.ref (He.ga K "BadCells")) = some false), fun K => decide (PySem.W.kitOne K (.ref (He.ga K "BadProgram")) (.ref (He.ga K "BadText")) = some false), fun K => decide (PySem.W.kitOne K (.ref (He.ga K "BadWays")) (.ref (He.ga K "BadProgram")) = some false), fun K => decide (PySem.W.kitOne K (.ref (He.ga K "BadWays")) (.ref (He.ga K "BadWays")) = some true), fun K => decide (PySem.W.kitOne K (.ref (He.ga K "BadWays")) (.ref (He.ga K "BadCells")) = some false), fun K => decide (PySem.W.kitOne K (.ref (He.ga K "BadWays")) (.ref (He.ga K "BadText")) = some false), fun K => He.tupB K "PLACES" [.str "cell", .str "own", .str "par"], fun K => He.tupB K "WAYS" [.str "back", .str "copy", .str "place", .str "want"]]
def exB (K : PySem.W.Frag) : Bool := exs.all fun f => f K
theorem exs_at {K : PySem.W.Frag} (e : exB K = true) (i : Nat) {f : PySem.W.Frag → Bool} (h : exs[i]? = some f) : f K = true := List.all_eq_true.mp e f (List.mem_of_getElem? h)
abbrev R : PySem.W.OpenRow := PySem.W.OpenLaw.row PySem.Challenge.rw_handways_k01_programs_and_ways_refused
def tfs : List He.Defn := [("law", none), ("_law_works", none), ("_law_others", none)]
abbrev hk : PySem.W.Hook := He.hookX 4 fas fns [] tfs exB
def ob (s : PySem.W.SharedT) : He.AlX := He.obsX 4 fas fns [] tfs exB (HandSHeadRun.getT s)
theorem ob_eq (s : PySem.W.SharedT) : ob s = hk.obs s.abs := He.obsX_eq (HandSHeadRun.getT_eq s)
def loose0 : List Str := [("HandError" : Str), ("BadProgram" : Str), ("BadWays" : Str), ("BadCells" : Str), ("BadText" : Str), ("NUMBERS" : Str), ("MOST_WORKS" : Str), ("MOST_PARAMS" : Str), ("MOST_OWNS_programs" : Str), ("MOST_STEPS_programs" : Str), ("MOST_WITHIN" : Str), ("PLACES" : Str)]
def loose1 : List Str := [("WAYS" : Str), ("is_number" : Str), ("is_thing" : Str), ("is_call" : Str), ("is_step" : Str), ("is_body" : Str), ("bodies_of" : Str), ("count" : Str), ("is_work" : Str), ("need_program" : Str), ("need_ways" : Str), ("COMMON" : Str)]
def loose2 : List Str := [("Frame" : Str), ("Lent" : Str), ("Run" : Str), ("out_of" : Str), ("ran" : Str), ("MOST_IN_ALL" : Str), ("all_cells" : Str), ("parted" : Str), ("mixed" : Str), ("all_ways" : Str), ("classes" : Str), ("MOST_STEPS_making" : Str)]
def loose3 : List Str := [("MOST_OWNS_making" : Str), ("need_small" : Str), ("thing_anew" : Str), ("Maker" : Str), ("anew" : Str), ("placed" : Str), ("wanted" : Str), ("thing_words" : Str), ("body_words" : Str), ("written" : Str), ("sets" : Str), ("may_set" : Str)]
def loose4 : List Str := [("_law_taken" : Str), ("_law_thing" : Str), ("_law_place" : Str), ("_law_step" : Str), ("_law_body" : Str), ("_law_program" : Str), ("_law_ways" : Str), ("_law_cells" : Str), ("_law_is_number" : Str), ("_law_is_thing" : Str), ("_law_is_step" : Str), ("_law_is_body" : Str)]
def loose5 : List Str := [("_law_count" : Str), ("_law_is_program" : Str), ("_law_deep" : Str), ("_law_around" : Str), ("_law_odd_step" : Str), ("_law_spoilt" : Str), ("_law_works" : Str), ("_law_others" : Str), ("_law_word" : Str)]
def loose : List Str := loose0 ++ loose1 ++ loose2 ++ loose3 ++ loose4 ++ loose5
theorem run (w : World) : HandSHeadRun.RunEq R (PySem.W.view R.prog [77]) hk ob 8000 loose w := by
  intro os
  kernel_rfl
theorem tx_of {w : World} {K : PySem.W.Frag} {h : Heap} {mg : Str → Option Value} (X : K.In h) (G : h.Ns mainGlobals mg) (y : He.SaysX fas fns [] tfs exB w h K) : Tx K mg := by
  have c := y.t.d
  have e := y.more
  refine ⟨?f0, ?f1, ?f2, ?f3, ?f4, ?f5, ?f6, ?f7, ?f8, ?f9, ?f10, ?f11, ?f12, ?f13, ?f14, ?f15, ?f16, ?f17, ?f18, ?f19, ?f20, ?f21, ?f22, ?f23, ?f24, ?f25, ?f26, ?f27, ?f28, ?f29, ?f30, ?f31, ?f32, ?f33, ?f34, ?f35, ?f36, ?f37, ?f38, ?f39, ?f40, ?f41, ?f42, ?f43, ?f44, ?f45, ?f46, ?f47, ?f48, ?f49, ?f50, ?f51, ?f52, ?f53, ?f54, ?f55, ?f56, ?f57, ?f58, ?f59, ?f60, ?f61, ?f62, ?f63, ?f64, ?f65, ?f66, ?f67, ?f68, ?f69, ?f70, ?f71, ?f72, ?f73, ?f74, ?f75, ?f76, ?f77, ?f78, ?f79, ?f80, ?f81, ?f82, ?f83, ?f84, ?f85, ?f86, ?f87, ?f88, ?f89, ?f90, ?f91, ?f92, ?f93, ?f94, ?f95, ?f96, ?f97, ?f98, ?f99, ?f100, ?f101, ?f102, ?f103, ?f104, ?f105, ?f106, ?f107, ?f108, ?f109, ?f110, ?f111, ?f112, ?f113, ?f114, ?f115, ?f116, ?f117, ?f118, ?f119, ?f120, ?f121, ?f122, ?f123, ?f124, ?f125, ?f126, ?f127, ?f128, ?f129, ?f130, ?f131, ?f132, ?f133, ?f134, ?f135, ?f136, ?f137, ?f138, ?f139, ?f140, ?f141, ?f142, ?f143, ?f144, ?f145, ?f146, ?f147, ?f148, ?f149, ?f150, ?f151, ?f152, ?f153, ?f154, ?f155, ?f156, ?f157, ?f158, ?f159, ?f160, ?f161, ?f162, ?f163, ?f164, ?f165, ?f166, ?f167, ?f168, ?f169, ?f170, ?f171, ?f172, ?f173, ?f174, ?f175, ?f176, ?f177, ?f178, ?f179, ?f180, ?f181, ?f182, ?f183, ?f184, ?f185, ?f186, ?f187, ?f188, ?f189, ?f190, ?f191, ?f192, ?f193, ?f194, ?f195, ?f196, ?f197, ?f198, ?f199, ?f200, ?d0, ?d1, ?d2, ?d3, ?d4, ?d5, ?d6, ?d7, ?d8, ?d9, ?d10, ?d11, ?d12, ?d13, ?d14, ?d15, ?d16, ?d17, ?d18, ?d19, ?d20, ?d21, ?d22, ?d23, ?d24, ?d25, ?d26, ?d27, ?d28, ?d29, ?d30, ?d31, ?d32, ?d33, ?d34, ?d35, ?d36, ?d37, ?d38, ?d39, ?d40, ?d41, ?d42, ?d43, ?d44, ?d45, ?d46, ?d47, ?d48, ?d49, ?d50, ?d51, ?d52, ?d53, ?d54, ?d55, ?d56, ?d57, ?d58, ?d59, ?d60, ?d61, ?d62, ?d63, ?d64, ?d65, ?d66⟩
  case f0 => exact He.glo_ok X G (c.fact 0 (by rfl))
  case f1 => exact He.glo_ok X G (c.fact 1 (by rfl))
  case f2 => exact He.glo_ok X G (c.fact 2 (by rfl))
  case f3 => exact He.glo_ok X G (c.fact 3 (by rfl))
  case f4 => exact He.glo_ok X G (c.fact 4 (by rfl))
  case f5 => exact He.glo_ok X G (c.fact 5 (by rfl))
  case f6 => exact He.glo_ok X G (c.fact 6 (by rfl))
  case f7 => exact He.glo_ok X G (c.fact 7 (by rfl))
  case f8 => exact He.glo_ok X G (c.fact 8 (by rfl))
  case f9 => exact He.glo_ok X G (c.fact 9 (by rfl))
  case f10 => exact He.glo_ok X G (c.fact 10 (by rfl))
  case f11 => exact He.glo_ok X G (c.fact 11 (by rfl))
  case f12 => exact He.glo_ok X G (c.fact 12 (by rfl))
  case f13 => exact He.glo_ok X G (c.fact 13 (by rfl))
  case f14 => exact He.glo_ok X G (c.fact 14 (by rfl))
  case f15 => exact He.glo_ok X G (c.fact 15 (by rfl))
  case f16 => exact He.glo_ok X G (c.fact 16 (by rfl))
  case f17 => exact He.glo_ok X G (c.fact 17 (by rfl))
  case f18 => exact He.glo_ok X G (c.fact 18 (by rfl))
  case f19 => exact He.glo_ok X G (c.fact 19 (by rfl))
  case f20 => exact He.glo_ok X G (c.fact 20 (by rfl))
  case f21 => exact He.glo_ok X G (c.fact 21 (by rfl))
  case f22 => exact He.glo_ok X G (c.fact 22 (by rfl))
  case f23 => exact He.glo_ok X G (c.fact 23 (by rfl))
  case f24 => exact He.glo_ok X G (c.fact 24 (by rfl))
  case f25 => exact He.glo_ok X G (c.fact 25 (by rfl))
  case f26 => exact He.glo_ok X G (c.fact 26 (by rfl))
  case f27 => exact He.glo_ok X G (c.fact 27 (by rfl))
  case f28 => exact He.glo_ok X G (c.fact 28 (by rfl))
  case f29 => exact He.glo_ok X G (c.fact 29 (by rfl))
  case f30 => exact He.glo_ok X G (c.fact 30 (by rfl))
  case f31 => exact He.glo_ok X G (c.fact 31 (by rfl))
  case f32 => exact He.glo_ok X G (c.fact 32 (by rfl))
  case f33 => exact He.glo_ok X G (c.fact 33 (by rfl))
  case f34 => exact He.glo_ok X G (c.fact 34 (by rfl))
  case f35 => exact He.glo_ok X G (c.fact 35 (by rfl))
  case f36 => exact He.glo_ok X G (c.fact 36 (by rfl))
  case f37 => exact He.glo_ok X G (c.fact 37 (by rfl))
  case f38 => exact He.glo_ok X G (c.fact 38 (by rfl))
  case f39 => exact He.glo_ok X G (c.fact 39 (by rfl))
  case f40 => exact He.glo_ok X G (c.fact 40 (by rfl))
  case f41 => exact He.glo_ok X G (c.fact 41 (by rfl))
  case f42 => exact He.glo_ok X G (c.fact 42 (by rfl))
  case f43 => exact He.glo_ok X G (c.fact 43 (by rfl))
  case f44 => exact He.glo_ok X G (c.fact 44 (by rfl))
  case f45 => exact He.glo_ok X G (c.fact 45 (by rfl))
  case f46 => exact He.glo_ok X G (c.fact 46 (by rfl))
  case f47 => exact He.glo_ok X G (c.fact 47 (by rfl))
  case f48 => exact He.glo_ok X G (c.fact 48 (by rfl))
  case f49 => exact He.glo_ok X G (c.fact 49 (by rfl))
  case f50 => exact He.keep_ok (c.fact 50 (by rfl))
  case f51 => exact (exs_at e 0 (by rfl))
  case f52 => exact of_decide_eq_true (exs_at e 1 (by rfl))
  case f53 => exact of_decide_eq_true (exs_at e 2 (by rfl))
  case f54 => exact of_decide_eq_true (exs_at e 3 (by rfl))
  case f55 => exact of_decide_eq_true (exs_at e 4 (by rfl))
  case f56 => exact of_decide_eq_true (exs_at e 5 (by rfl))
  case f57 => exact of_decide_eq_true (exs_at e 6 (by rfl))
  case f58 => exact of_decide_eq_true (exs_at e 7 (by rfl))
  case f59 => exact He.glo_ok X G (c.fact 51 (by rfl))
  case f60 => exact He.keep_ok (c.fact 52 (by rfl))
  case f61 => exact (exs_at e 8 (by rfl))
  case f62 => exact of_decide_eq_true (exs_at e 9 (by rfl))
  case f63 => exact of_decide_eq_true (exs_at e 10 (by rfl))
  case f64 => exact of_decide_eq_true (exs_at e 11 (by rfl))
  case f65 => exact of_decide_eq_true (exs_at e 12 (by rfl))
  case f66 => exact of_decide_eq_true (exs_at e 13 (by rfl))
  case f67 => exact of_decide_eq_true (exs_at e 14 (by rfl))
  case f68 => exact of_decide_eq_true (exs_at e 15 (by rfl))
  case f69 => exact He.glo_ok X G (c.fact 53 (by rfl))
  case f70 => exact He.keep_ok (c.fact 54 (by rfl))
  case f71 => exact (exs_at e 16 (by rfl))
  case f72 => exact of_decide_eq_true (exs_at e 17 (by rfl))
  case f73 => exact of_decide_eq_true (exs_at e 18 (by rfl))
  case f74 => exact of_decide_eq_true (exs_at e 19 (by rfl))
  case f75 => exact of_decide_eq_true (exs_at e 20 (by rfl))
  case f76 => exact of_decide_eq_true (exs_at e 21 (by rfl))
  case f77 => exact of_decide_eq_true (exs_at e 22 (by rfl))
  case f78 => exact of_decide_eq_true (exs_at e 23 (by rfl))
  case f79 => exact He.glo_ok X G (c.fact 55 (by rfl))
  case f80 => exact He.keep_ok (c.fact 56 (by rfl))
  case f81 => exact (exs_at e 24 (by rfl))
  case f82 => exact of_decide_eq_true (exs_at e 25 (by rfl))
  case f83 => exact of_decide_eq_true (exs_at e 26 (by rfl))
  case f84 => exact of_decide_eq_true (exs_at e 27 (by rfl))
  case f85 => exact of_decide_eq_true (exs_at e 28 (by rfl))
  case f86 => exact of_decide_eq_true (exs_at e 29 (by rfl))
  case f87 => exact of_decide_eq_true (exs_at e 30 (by rfl))
  case f88 => exact of_decide_eq_true (exs_at e 31 (by rfl))
  case f89 => exact He.glo_ok X G (c.fact 57 (by rfl))
  case f90 => exact He.keep_ok (c.fact 58 (by rfl))
  case f91 => exact of_decide_eq_true (exs_at e 32 (by rfl))
  case f92 => exact of_decide_eq_true (exs_at e 33 (by rfl))
  case f93 => exact of_decide_eq_true (exs_at e 34 (by rfl))
  case f94 => exact of_decide_eq_true (exs_at e 35 (by rfl))
  case f95 => exact of_decide_eq_true (exs_at e 36 (by rfl))
  case f96 => exact of_decide_eq_true (exs_at e 37 (by rfl))
  case f97 => exact of_decide_eq_true (exs_at e 38 (by rfl))
  case f98 => exact He.glo_ok X G (c.fact 59 (by rfl))
  case f99 => exact He.keep_ok (c.fact 60 (by rfl))
  case f100 => exact He.cls_ok (c.fact 61 (by rfl))
  case f101 => exact He.mkr_ok (c.fact 62 (by rfl))
  case f102 => exact He.noat_ok (c.fact 63 (by rfl))
  case f103 => exact He.noat_ok (c.fact 64 (by rfl))
  case f104 => exact He.glo_ok X G (c.fact 65 (by rfl))
  case f105 => exact He.keep_ok (c.fact 66 (by rfl))
  case f106 => exact He.cls_ok (c.fact 67 (by rfl))
  case f107 => exact He.mkr_ok (c.fact 68 (by rfl))
  case f108 => exact He.noat_ok (c.fact 69 (by rfl))
  case f109 => exact He.noat_ok (c.fact 70 (by rfl))
  case f110 => exact He.noat_ok (c.fact 71 (by rfl))
  case f111 => exact He.noat_ok (c.fact 72 (by rfl))
  case f112 => exact He.glo_ok X G (c.fact 73 (by rfl))
  case f113 => exact He.keep_ok (c.fact 74 (by rfl))
  case f114 => exact He.cls_ok (c.fact 75 (by rfl))
  case f115 => exact He.mkr_ok (c.fact 76 (by rfl))
  case f116 => exact He.noat_ok (c.fact 77 (by rfl))
  case f117 => exact He.noat_ok (c.fact 78 (by rfl))
  case f118 => exact He.noat_ok (c.fact 79 (by rfl))
  case f119 => exact He.noat_ok (c.fact 80 (by rfl))
  case f120 => exact He.noat_ok (c.fact 81 (by rfl))
  case f121 => exact He.noat_ok (c.fact 82 (by rfl))
  case f122 => exact He.noat_ok (c.fact 83 (by rfl))
  case f123 => exact He.noat_ok (c.fact 84 (by rfl))
  case f124 => exact He.meth_ok (c.fact 85 (by rfl))
  case f125 => exact He.meth_ok (c.fact 86 (by rfl))
  case f126 => exact He.meth_ok (c.fact 87 (by rfl))
  case f127 => exact He.meth_ok (c.fact 88 (by rfl))
  case f128 => exact He.meth_ok (c.fact 89 (by rfl))
  case f129 => exact He.meth_ok (c.fact 90 (by rfl))
  case f130 => exact He.meth_ok (c.fact 91 (by rfl))
  case f131 => exact He.meth_ok (c.fact 92 (by rfl))
  case f132 => exact He.glo_ok X G (c.fact 93 (by rfl))
  case f133 => exact He.keep_ok (c.fact 94 (by rfl))
  case f134 => exact He.cls_ok (c.fact 95 (by rfl))
  case f135 => exact He.mkr_ok (c.fact 96 (by rfl))
  case f136 => exact He.noat_ok (c.fact 97 (by rfl))
  case f137 => exact He.noat_ok (c.fact 98 (by rfl))
  case f138 => exact He.noat_ok (c.fact 99 (by rfl))
  case f139 => exact He.noat_ok (c.fact 100 (by rfl))
  case f140 => exact He.noat_ok (c.fact 101 (by rfl))
  case f141 => exact He.noat_ok (c.fact 102 (by rfl))
  case f142 => exact He.noat_ok (c.fact 103 (by rfl))
  case f143 => exact He.meth_ok (c.fact 104 (by rfl))
  case f144 => exact He.meth_ok (c.fact 105 (by rfl))
  case f145 => exact He.meth_ok (c.fact 106 (by rfl))
  case f146 => exact He.meth_ok (c.fact 107 (by rfl))
  case f147 => exact He.meth_ok (c.fact 108 (by rfl))
  case f148 => exact of_decide_eq_true (exs_at e 39 (by rfl))
  case f149 => exact of_decide_eq_true (exs_at e 40 (by rfl))
  case f150 => exact of_decide_eq_true (exs_at e 41 (by rfl))
  case f151 => exact of_decide_eq_true (exs_at e 42 (by rfl))
  case f152 => exact of_decide_eq_true (exs_at e 43 (by rfl))
  case f153 => exact of_decide_eq_true (exs_at e 44 (by rfl))
  case f154 => exact of_decide_eq_true (exs_at e 45 (by rfl))
  case f155 => exact of_decide_eq_true (exs_at e 46 (by rfl))
  case f156 => exact of_decide_eq_true (exs_at e 47 (by rfl))
  case f157 => exact of_decide_eq_true (exs_at e 48 (by rfl))
  case f158 => exact of_decide_eq_true (exs_at e 49 (by rfl))
  case f159 => exact of_decide_eq_true (exs_at e 50 (by rfl))
  case f160 => exact of_decide_eq_true (exs_at e 51 (by rfl))
  case f161 => exact of_decide_eq_true (exs_at e 52 (by rfl))
  case f162 => exact of_decide_eq_true (exs_at e 53 (by rfl))
  case f163 => exact of_decide_eq_true (exs_at e 54 (by rfl))
  case f164 => exact of_decide_eq_true (exs_at e 55 (by rfl))
  case f165 => exact of_decide_eq_true (exs_at e 56 (by rfl))
  case f166 => exact of_decide_eq_true (exs_at e 57 (by rfl))
  case f167 => exact of_decide_eq_true (exs_at e 58 (by rfl))
  case f168 => exact of_decide_eq_true (exs_at e 59 (by rfl))
  case f169 => exact of_decide_eq_true (exs_at e 60 (by rfl))
  case f170 => exact of_decide_eq_true (exs_at e 61 (by rfl))
  case f171 => exact of_decide_eq_true (exs_at e 62 (by rfl))
  case f172 => exact of_decide_eq_true (exs_at e 63 (by rfl))
  case f173 => exact of_decide_eq_true (exs_at e 64 (by rfl))
  case f174 => exact of_decide_eq_true (exs_at e 65 (by rfl))
  case f175 => exact He.free_ok X G (c.fact 109 (by rfl))
  case f176 => exact He.free_ok X G (c.fact 110 (by rfl))
  case f177 => exact He.free_ok X G (c.fact 111 (by rfl))
  case f178 => exact He.free_ok X G (c.fact 112 (by rfl))
  case f179 => exact He.free_ok X G (c.fact 113 (by rfl))
  case f180 => exact He.free_ok X G (c.fact 114 (by rfl))
  case f181 => exact He.free_ok X G (c.fact 115 (by rfl))
  case f182 => exact He.free_ok X G (c.fact 116 (by rfl))
  case f183 => exact He.free_ok X G (c.fact 117 (by rfl))
  case f184 => exact He.free_ok X G (c.fact 118 (by rfl))
  case f185 => exact He.free_ok X G (c.fact 119 (by rfl))
  case f186 => exact He.free_ok X G (c.fact 120 (by rfl))
  case f187 => exact He.int_ok X G (c.fact 121 (by rfl))
  case f188 => exact He.int_ok X G (c.fact 122 (by rfl))
  case f189 => exact He.int_ok X G (c.fact 123 (by rfl))
  case f190 => exact He.int_ok X G (c.fact 124 (by rfl))
  case f191 => exact He.int_ok X G (c.fact 125 (by rfl))
  case f192 => exact He.int_ok X G (c.fact 126 (by rfl))
  case f193 => exact He.glo_ok X G (c.fact 127 (by rfl))
  case f194 => exact fun H => He.tupB_ok (exs_at e 66 (by rfl)) H
  case f195 => exact He.glo_ok X G (c.fact 128 (by rfl))
  case f196 => exact fun H => He.tupB_ok (exs_at e 67 (by rfl)) H
  case f197 => exact He.int_ok X G (c.fact 129 (by rfl))
  case f198 => exact He.int_ok X G (c.fact 130 (by rfl))
  case f199 => exact He.int_ok X G (c.fact 131 (by rfl))
  case f200 => exact He.int_ok X G (c.fact 132 (by rfl))
  case d0 => exact c.def_ 0 (d := dd_BadText___init__) (by rfl)
  case d1 => exact c.def_ 1 (d := dd_is_number) (by rfl)
  case d2 => exact c.def_ 2 (d := dd_is_thing) (by rfl)
  case d3 => exact c.def_ 3 (d := dd_is_call) (by rfl)
  case d4 => exact c.def_ 4 (d := dd_is_step) (by rfl)
  case d5 => exact c.def_ 5 (d := dd_is_body) (by rfl)
  case d6 => exact c.def_ 6 (d := dd_bodies_of) (by rfl)
  case d7 => exact c.def_ 7 (d := dd_count) (by rfl)
  case d8 => exact c.def_ 8 (d := dd_is_work) (by rfl)
  case d9 => exact c.def_ 9 (d := dd_need_program) (by rfl)
  case d10 => exact c.def_ 10 (d := dd_need_ways) (by rfl)
  case d11 => exact c.def_ 11 (d := dd_Frame___init__) (by rfl)
  case d12 => exact c.def_ 12 (d := dd_Lent___init__) (by rfl)
  case d13 => exact c.def_ 13 (d := dd_Run___init__) (by rfl)
  case d14 => exact c.def_ 14 (d := dd_Run_fresh) (by rfl)
  case d15 => exact c.def_ 15 (d := dd_Run_come) (by rfl)
  case d16 => exact c.def_ 16 (d := dd_Run_find) (by rfl)
  case d17 => exact c.def_ 17 (d := dd_Run_number) (by rfl)
  case d18 => exact c.def_ 18 (d := dd_Run_do) (by rfl)
  case d19 => exact c.def_ 19 (d := dd_Run_steps) (by rfl)
  case d20 => exact c.def_ 20 (d := dd_Run_put) (by rfl)
  case d21 => exact c.def_ 21 (d := dd_Run_call) (by rfl)
  case d22 => exact c.def_ 22 (d := dd_out_of) (by rfl)
  case d23 => exact c.def_ 23 (d := dd_ran) (by rfl)
  case d24 => exact c.def_ 24 (d := dd_all_cells) (by rfl)
  case d25 => exact c.def_ 25 (d := dd_parted) (by rfl)
  case d26 => exact c.def_ 26 (d := dd_mixed) (by rfl)
  case d27 => exact c.def_ 27 (d := dd_all_ways) (by rfl)
  case d28 => exact c.def_ 28 (d := dd_classes) (by rfl)
  case d29 => exact c.def_ 29 (d := dd_need_small) (by rfl)
  case d30 => exact c.def_ 30 (d := dd_thing_anew) (by rfl)
  case d31 => exact c.def_ 31 (d := dd_Maker___init__) (by rfl)
  case d32 => exact c.def_ 32 (d := dd_Maker_fresh) (by rfl)
  case d33 => exact c.def_ 33 (d := dd_Maker_made) (by rfl)
  case d34 => exact c.def_ 34 (d := dd_Maker_steps) (by rfl)
  case d35 => exact c.def_ 35 (d := dd_Maker_call) (by rfl)
  case d36 => exact c.def_ 36 (d := dd_Maker_held) (by rfl)
  case d37 => exact c.def_ 37 (d := dd_anew) (by rfl)
  case d38 => exact c.def_ 38 (d := dd_placed) (by rfl)
  case d39 => exact c.def_ 39 (d := dd_wanted) (by rfl)
  case d40 => exact c.def_ 40 (d := dd_thing_words) (by rfl)
  case d41 => exact c.def_ 41 (d := dd_body_words) (by rfl)
  case d42 => exact c.def_ 42 (d := dd_written) (by rfl)
  case d43 => exact c.def_ 43 (d := dd_sets) (by rfl)
  case d44 => exact c.def_ 44 (d := dd_may_set) (by rfl)
  case d45 => exact c.def_ 45 (d := dd__law_taken) (by rfl)
  case d46 => exact c.def_ 46 (d := dd__law_thing) (by rfl)
  case d47 => exact c.def_ 47 (d := dd__law_place) (by rfl)
  case d48 => exact c.def_ 48 (d := dd__law_step) (by rfl)
  case d49 => exact c.def_ 49 (d := dd__law_body) (by rfl)
  case d50 => exact c.def_ 50 (d := dd__law_program) (by rfl)
  case d51 => exact c.def_ 51 (d := dd__law_ways) (by rfl)
  case d52 => exact c.def_ 52 (d := dd__law_cells) (by rfl)
  case d53 => exact c.def_ 53 (d := dd__law_is_number) (by rfl)
  case d54 => exact c.def_ 54 (d := dd__law_is_thing) (by rfl)
  case d55 => exact c.def_ 55 (d := dd__law_is_step) (by rfl)
  case d56 => exact c.def_ 56 (d := dd__law_is_body) (by rfl)
  case d57 => exact c.def_ 57 (d := dd__law_count) (by rfl)
  case d58 => exact c.def_ 58 (d := dd__law_is_program) (by rfl)
  case d59 => exact c.def_ 59 (d := dd__law_deep) (by rfl)
  case d60 => exact c.def_ 60 (d := dd__law_around) (by rfl)
  case d61 => exact c.def_ 61 (d := dd__law_odd_step) (by rfl)
  case d62 => exact c.def_ 62 (d := dd__law_spoilt) (by rfl)
  case d63 => exact c.def_ 63 (d := dd__law_works) (by rfl)
  case d64 => exact c.def_ 64 (d := dd__law_others) (by rfl)
  case d65 => exact c.def_ 65 (d := dd__law_word) (by rfl)
  case d66 => exact c.def_ 66 (d := dd_law) (by rfl)
end Hw
set_option maxRecDepth 100000
set_option maxHeartbeats 0
open PySem PySem.W PySem.Calls PyProof.Rows
theorem PySem.Challenge.cw_handways_k01_programs_and_ways_refused_holds : PySem.Challenge.rw_handways_k01_programs_and_ways_refused.Holds := by
  w_on; o_law
  refine HandSHeadRun.head_any (r := OpenLaw.row PySem.Challenge.rw_handways_k01_programs_and_ways_refused) (q := view (OpenLaw.row PySem.Challenge.rw_handways_k01_programs_and_ways_refused).prog [77]) (H := Hw.hk) (ob := Hw.ob) (M := 8000) (loose := Hw.loose)
    (d := HandSHeadRun.topDef (OpenLaw.row PySem.Challenge.rw_handways_k01_programs_and_ways_refused).prog 77) (kwd := []) Hw.ob_eq (by kernel_rfl) (fun s => by kernel_rfl) Hw.run (by kernel_rfl) (by kernel_rfl) (by kernel_rfl) (by rfl)
    (by first | assumption | decide +kernel) (by decide +kernel) ⟨rfl, rfl, rfl, rfl, rfl, by decide +kernel⟩ ?hw ?hc
  case hw => w_witness2
  case hc =>
    refine LamX.walk_ofTsE (l := PySem.Challenge.rw_handways_k01_programs_and_ways_refused) (n := 63) (k := 30) (x := "_law_script") (CX := fun _ => L2.CX0) rfl (by decide) (by kernel_rfl) ⟨rfl, by decide, by decide⟩ ?F (fun _ _ _ _ _ z => z)
    intro w mg fa h Y G hmg0
    obtain ⟨K, KX, y⟩ := Y
    have T := Hw.tx_of KX G y
    have e : (HandSHeadRun.topDef (OpenLaw.row PySem.Challenge.rw_handways_k01_programs_and_ways_refused).prog 77).name = ("law" : PySem.Str) := by kernel_rfl
    rw [e] at hmg0
    have e2 := hmg0.symm.trans T.g_law
    cases e2
    have b := L2.FunD.bindsA (ps := ["_law_script"]) T.F_law fun _ _ _ _ _ _ us hl => match us, hl with | [_], _ => rfl
    have mem : ∀ p ∈ Hw.tfs.map (He.cT K), ∃ q ∈ Hw.tfs, p = He.cT K q := fun p hp => by
      obtain ⟨q, hq, e⟩ := List.mem_map.mp hp
      exact ⟨q, hq, e.symm⟩
    refine ⟨K, KX, T.fd_law, Hw.tfs.map (He.cT K), Hw.spLawT K, fun p hp => ?_, fun p hp => ?_, fun p hp => ?_, fun s v => b s [v] rfl, fun H a ns hl _ hT hS => ⟨a, ns, rfl, hS, hl, Hw.tabs_nil hT, fun _ => rfl⟩, fun base _ _ hB => Hw.law_ok T (Hw.tbs_of hB)⟩
    · obtain ⟨q, hq, rfl⟩ := mem p hp
      exact y.empty q hq
    · obtain ⟨q, hq, rfl⟩ := mem p hp
      exact y.out q hq
    · obtain ⟨q, hq, rfl⟩ := mem p hp
      exact PySem.W.codeHd_of_K KX (y.hd q hq)
