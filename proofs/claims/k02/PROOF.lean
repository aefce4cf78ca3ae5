import PyProof.Rows.All
import Wide.All
import OpenK.AllK
import Wide.FinOn
import HandS.ForMost
import HandS.ForExc
import HandS.EndBits
import HandS.IsInst
import HandS.Defaults
import HandS.DictComp
import HandS.FStr
import HandS.Star
import HandS.Flow
import HandS.Style
import HandS.Wide
import HandS.SortRule
import HandS.TupLe
import HandS.Walk
import HandS.Conv
import HandS.Evl
import KE.KCallOwn
import KE.SortData
import HandS.TupLen
import PySem.Challenge.RW_plateways_k02_steps_made
set_option Elab.async false
set_option linter.all false
set_option maxRecDepth 100000
set_option maxHeartbeats 4000000
/-! the generic layer of these proofs -/
namespace Pw
open PySem L2 PySem.Spec PyProof.Rows

/-! ### heaps: all but two cells stay -/
structure Kp (d l : Addr) (H H' : Hp) : Prop where
  stay : ∀ b o, H b = some o → b ≠ d → b ≠ l → H' b = some o
  free : ∀ b, H' b = none → H b = none
theorem Kp.refl (d l : Addr) (H : Hp) : Kp d l H H := ⟨fun _ _ h _ _ => h, fun _ h => h⟩
theorem Kp.trans {d l : Addr} {H H1 H2 : Hp} (a : Kp d l H H1) (b : Kp d l H1 H2) : Kp d l H H2 :=
  ⟨fun c o h n m => b.stay c o (a.stay c o h n m) n m, fun c h => a.free c (b.free c h)⟩
theorem Kp.new {d l : Addr} {H H1 : Hp} {p : Addr} {o : HO} (a : Kp d l H H1) (hp : H1 p = none) : Kp d l H (upd H1 p o) := by
  refine ⟨fun c u h n m => ?_, fun c h => ?_⟩
  · have e := a.stay c u h n m
    rw [upd_ne (ne_of_none e hp)]
    exact e
  · refine a.free c ?_
    unfold upd at h
    split at h
    · cases h
    · exact h
theorem Kp.put {d l : Addr} {H H1 : Hp} {p : Addr} {o : HO} (a : Kp d l H H1) (hp : p = d ∨ p = l) : Kp d l H (upd H1 p o) := by
  refine ⟨fun c u h n m => ?_, fun c h => ?_⟩
  · rw [upd_ne (by rcases hp with e | e <;> (rw [e]; assumption))]
    exact a.stay c u h n m
  · refine a.free c ?_
    unfold upd at h
    split at h
    · cases h
    · exact h
/-- a cell that was free may be written again -/
theorem Kp.mut {d l : Addr} {H H1 : Hp} {p : Addr} {o : HO} (a : Kp d l H H1) (hp : H p = none) : Kp d l H (upd H1 p o) := by
  refine ⟨fun c u h n m => ?_, fun c h => ?_⟩
  · rw [upd_ne (ne_of_none h hp)]
    exact a.stay c u h n m
  · refine a.free c ?_
    unfold upd at h
    split at h
    · cases h
    · exact h
theorem Kp.ofSame {d l : Addr} {H H' : Hp} (h : Same H H') : Kp d l H H' := ⟨fun b o e _ _ => h b o e, fun b e => h.free e⟩
theorem Kp.seq {K : PySem.W.Frag} {d l : Addr} {H H' : Hp} {a : Addr} {xs : List V} (k : Kp d l H H') (n : a ≠ d) (m : a ≠ l) (h : SqL K H a xs) : SqL K H' a xs := by
  rcases h with (h | ⟨o, h⟩) | h
  · exact .inl (.inl (k.stay _ _ h n m))
  · exact .inl (.inr ⟨o, k.stay _ _ h n m⟩)
  · exact .inr h
theorem same_new {H : Hp} {p : Addr} {o : HO} (h : H p = none) : Same H (upd H p o) := fun b u e => by
  rw [upd_ne (ne_of_none e h)]
  exact e
theorem Same.new {H H1 : Hp} {p : Addr} {o : HO} (s : Same H H1) (h : H1 p = none) : Same H (upd H1 p o) := s.trans (same_new h)
theorem Same.mut {H H1 : Hp} {p : Addr} {o : HO} (s : Same H H1) (h : H p = none) : Same H (upd H1 p o) := fun b u e => by
  rw [upd_ne (ne_of_none e h)]
  exact s b u e
theorem Same.tup {K : PySem.W.Frag} {H H' : Hp} {a : Addr} {xs : List V} (e : Same H H') (h : SqT K H a xs) : SqT K H' a xs := by
  rcases h with (h | ⟨o, h⟩) | h
  · exact .inl (.inl (e _ _ h))
  · exact .inl (.inr ⟨o, e _ _ h⟩)
  · exact .inr h

/-! ### rules that the layer lacks -/
section
variable {X : Cx}
/-- xs != [] -/
def rNeNil (K : PySem.W.Frag) : R2 := fun x y H Q => ∃ a b xs, x = .ref a ∧ y = .ref b ∧ SqL K H a xs ∧ SqL K H b [] ∧ Q (.bl (!xs.isEmpty)) H
theorem op_neNil (hu : X.A.units + 64 < cLine) : OpR X (compareOp .NotEq) (rNeNil X.K) := by
  intro pins s σ H x y v u Q I rx ry h
  obtain ⟨a, b, xs, rfl, rfl, ha, hb, q⟩ := h
  cases (show v = Value.ref a from rx)
  cases (show u = Value.ref b from ry)
  obtain ⟨i1, r1, l1, _⟩ := I.list ha
  obtain ⟨i2, r2, l2, _⟩ := I.list hb
  cases r2
  have hu' : X.A.units < cLine := by omega
  cases xs with
  | nil =>
    cases r1
    refine SeqAt.RcNeAt.lists (e := fun _ => true) l1.isList l2.isList rfl hu' (fun j h1 _ => absurd h1 (by simp)) _ _ _ _ ?_
    exact ⟨.bl _, H, I, rfl, q⟩
  | cons z zs =>
    cases r1 with
    | cons r t =>
      refine SeqAt.RcNeAt.lists_lengths l1.isList l2.isList (by simp) hu' _ _ _ _ ?_
      exact ⟨.bl _, H, I, rfl, q⟩
/-- xs == [] -/
def rEqNil (K : PySem.W.Frag) : R2 := fun x y H Q => ∃ a b xs, x = .ref a ∧ y = .ref b ∧ SqL K H a xs ∧ SqL K H b [] ∧ Q (.bl xs.isEmpty) H
theorem op_eqNil (hu : X.A.units + 64 < cLine) : OpR X (compareOp .Eq) (rEqNil X.K) := by
  intro pins s σ H x y v u Q I rx ry h
  obtain ⟨a, b, xs, rfl, rfl, ha, hb, q⟩ := h
  cases (show v = Value.ref a from rx)
  cases (show u = Value.ref b from ry)
  obtain ⟨i1, r1, l1, _⟩ := I.list ha
  obtain ⟨i2, r2, l2, _⟩ := I.list hb
  cases r2
  have hu' : X.A.units < cLine := by omega
  cases xs with
  | nil =>
    cases r1
    refine SeqAt.RcAt.lists (e := fun _ => true) l1.isList l2.isList rfl hu' (fun j h1 _ => absurd h1 (by simp)) _ _ _ _ ?_
    exact ⟨.bl _, H, I, rfl, q⟩
  | cons z zs =>
    cases r1 with
    | cons r t =>
      refine SeqAt.RcAt.lists_lengths l1.isList l2.isList (by simp) hu' _ _ _ _ ?_
      exact ⟨.bl _, H, I, rfl, q⟩
end
section
variable {X : Cx}
/-- xs[::e], e worth -1 -/
def tRevG (K : PySem.W.Frag) (te ts : TE) : TE := fun σ H Q => te σ H fun x H1 => ts σ H1 fun y H2 => ∃ i : Int, y = .int i ∧ (some i = some (-1) ∧ ∃ a xs, x = .ref a ∧ SqL K H2 a xs ∧ ∀ p, H2 p = none → Q (.ref p) (upd H2 p (.lst xs.reverse)))
theorem pe_revG {e a b : Expr} {te ts : TE} {op : Operator} {p2 p3 pos : Pos} (he : PE X e te) (hs : PE X (.BinOp a op b p2) ts) : PE X (.Subscript e (.Slice none none (some (.BinOp a op b p2)) p3) pos) (tRevG X.K te ts) := by
  refine ⟨fun pins s σ H Q I h => Subscript_ (thn (he.run pins s σ H _ I h) fun v s1 z => ?_)⟩
  obtain ⟨x, H1, I1, r1, q1⟩ := z
  have hst : PO X (some (.BinOp a op b p2)) (tPart ts) := po_some hs
  refine wpAny_Slice (thn (po_none.run pins s1 σ H1 (fun o H2 => o = none ∧ H2 = H1) I1 ⟨rfl, rfl⟩) fun vl s2 z2 => ?_)
  obtain ⟨l, H2, I2, pl, rfl, rfl⟩ := z2
  refine thn (po_none.run pins s2 σ H2 (fun o H3 => o = none ∧ H3 = H2) I2 ⟨rfl, rfl⟩) fun vu s3 z3 => ?_
  obtain ⟨u, H3, I3, pu, rfl, rfl⟩ := z3
  refine thn (hst.run pins s3 σ H3 (fun o H4 => o = some (-1) ∧ ∃ a xs, x = .ref a ∧ SqL X.K H4 a xs ∧ ∀ p, H4 p = none → Q (.ref p) (upd H4 p (.lst xs.reverse))) I3 q1) fun vs s4 z4 => ?_
  obtain ⟨o, H4, I4, ps, rfl, c, xs, rfl, hx, q⟩ := z4
  cases r1
  have I5 : Inv X pins σ H4 { s4 with heap := s4.heap.push { cls := .type "slice", data := .fields #[vl, vu, vs] } } := I4.kept (t' := s4.toks) fun b ob q => Heap.get?_push_of_some _ q
  obtain ⟨its, r, ht, hz⟩ := I5.list hx
  have hlen := r.length
  refine tail_any (ops := [.ref c, .ref s4.heap.objs.size]) ht.isList.typeIs (PySem.slot_list_getitem.lookup) ?_ (by with_unfolding_all rfl)
  refine wpAny_getItem_list_slice ht.isList (Heap.IsSliceOf.new _ vl vu vs) pl pu ps (by decide) ?_ (by rw [List.size_toArray]; omega)
  rw [PySem.W.krv_pick]
  exact ⟨.ref _, _, I5.laid (t' := s4.toks) (o := .lst xs.reverse) (fun b ob q => Heap.get?_push_of_some _ q) (Nat.le_refl _) ⟨by rw [List.length_reverse]; exact hz, _, 0, r.reverse, Heap.get?_push_size _ rfl⟩, rfl, q _ (I5.hok.fresh (Nat.le_refl _))⟩
end
section
variable {X : Cx}
/-- what is walked, in one of two ways -/
theorem PI.or {tg it : Expr} {w1 w2 : TI} (h1 : PI X tg it w1) (h2 : PI X tg it w2) : PI X tg it (fun σ H R => w1 σ H R ∨ w2 σ H R) :=
  ⟨fun pins s σ H R I h => by
    rcases h with h | h
    · exact h1.run pins s σ H R I h
    · exact h2.run pins s σ H R I h⟩
/-- a list or a tuple -/
theorem pi_seq {tg l : Expr} {tl : TE} (h : PE X l tl) : PI X tg l (fun σ H R => iList X.K tl σ H R ∨ iTup X.K tl σ H R) := PI.or (pi_list h) (pi_tup h)
end
/-! ### any value: what isinstance tells -/
/-- an own class that is no int, str, list .. -/
structure OwnC (K : PySem.W.Frag) (C : Addr) : Prop where
  cl : Cls K C
  ha : PySem.W.findIn K (.ref C) "__class__" = some (some (.builtin "object.__class__"))
  hn : PySem.W.specialIn K (.builtin "object.__class__") "__get__" = some (some (.builtin "getset_descriptor.__get__"))
  htk : PySem.W.takesIn K (.builtin "object.__class__") = some true
  hm : PySem.W.mroIn K C (.type "object") = some true
  ki : PySem.W.kitOne K (.ref C) (.type "int") = some false
  kb : PySem.W.kitOne K (.ref C) (.type "bool") = some false
  ks : PySem.W.kitOne K (.ref C) (.type "str") = some false
  kl : PySem.W.kitOne K (.ref C) (.type "list") = some false
  kt : PySem.W.kitOne K (.ref C) (.type "tuple") = some false
  kc : ((PySem.W.clsIn K C).isSome && PySem.W.typeIn K (.ref C) == some (.type "type")) = true
inductive Kd where
  | non | bl | int | str | lst | tup | own (C : Addr)
def Kd.ty : Kd → Value
  | .non => .type "NoneType"
  | .bl => .type "bool"
  | .int => .type "int"
  | .str => .type "str"
  | .lst => .type "list"
  | .tup => .type "tuple"
  | .own C => .ref C
inductive Any (K : PySem.W.Frag) (H : Hp) : V → Kd → Prop where
  | non : Any K H .non .non
  | bl (b : Bool) : Any K H (.bl b) .bl
  | int (i : Int) : Any K H (.int i) .int
  | str (x : Str) : Any K H (.str x) .str
  | lst {a : Addr} {xs : List V} (h : SqL K H a xs) : Any K H (.ref a) .lst
  | tup {a : Addr} {xs : List V} (h : SqT K H a xs) : Any K H (.ref a) .tup
  | own {a C dx : Addr} {fs : List (Str × V)} (h : H a = some (.ins C dx fs)) (c : OwnC K C) : Any K H (.ref a) (.own C)
section
variable {K : PySem.W.Frag} {H H' : Hp} {v : V} {k : Kd}
theorem ty_list {a : Addr} {xs : List V} (h : SqL K H a xs) : TyX K H (.ref a) (.type "list") := by
  rcases h with (h | ⟨o, h⟩) | ⟨o, _, _, e, c, _⟩
  · exact .base (.lst h)
  · exact .base (.frz h)
  · exact .kList e c
theorem ty_tup {a : Addr} {xs : List V} (h : SqT K H a xs) : TyX K H (.ref a) (.type "tuple") := by
  rcases h with (h | ⟨o, h⟩) | ⟨o, _, _, e, c, _⟩
  · exact .base (.tup h)
  · exact .fTuple h
  · exact .kTuple e c
theorem Any.ty (h : Any K H v k) : TyX K H v k.ty := by
  cases h with
  | non => exact .base .non
  | bl b => exact .base (.bl b)
  | int i => exact .base (.int i)
  | str x => exact .base (.str x)
  | lst h => exact ty_list h
  | tup h => exact ty_tup h
  | own h c => exact .base (.ins h c.cl c.ha c.hn c.htk c.hm)
theorem Any.same (h : Any K H v k) (s : Same H H') : Any K H' v k := by
  cases h with
  | non => exact .non
  | bl b => exact .bl b
  | int i => exact .int i
  | str x => exact .str x
  | lst h => exact .lst (s.seq h)
  | tup h => exact .tup (Same.tup s h)
  | own h c => exact .own (s _ _ h) c
def Kd.isInt : Kd → Bool
  | .int => true
  | .bl => true
  | _ => false
def Kd.isBool : Kd → Bool
  | .bl => true
  | _ => false
def Kd.isStr : Kd → Bool
  | .str => true
  | _ => false
def Kd.isLst : Kd → Bool
  | .lst => true
  | _ => false
def Kd.isTup : Kd → Bool
  | .tup => true
  | _ => false
theorem Any.kInt (h : Any K H v k) : PySem.W.kitOne K k.ty (.type "int") = some k.isInt := by
  cases h with
  | own h c => exact c.ki
  | _ => exact kit_ty (by decide +kernel)
theorem Any.kBool (h : Any K H v k) : PySem.W.kitOne K k.ty (.type "bool") = some k.isBool := by
  cases h with
  | own h c => exact c.kb
  | _ => exact kit_ty (by decide +kernel)
theorem Any.kStr (h : Any K H v k) : PySem.W.kitOne K k.ty (.type "str") = some k.isStr := by
  cases h with
  | own h c => exact c.ks
  | _ => exact kit_ty (by decide +kernel)
theorem Any.kTup (h : Any K H v k) : PySem.W.kitOne K k.ty (.type "tuple") = some k.isTup := by
  cases h with
  | own h c => exact c.kt
  | _ => exact kit_ty (by decide +kernel)
theorem Any.kLst (h : Any K H v k) : PySem.W.kitOne K k.ty (.type "list") = some k.isLst := by
  cases h with
  | own h c => exact c.kl
  | _ => exact kit_ty (by decide +kernel)
theorem Any.kSeq (h : Any K H v k) : PySem.W.kitAny K k.ty [.type "list", .type "tuple"] = some (k.isLst || k.isTup) := by
  refine kitAny_cons h.kLst (fun e => kitAny_cons h.kTup (fun e2 => ?_) fun e2 => ?_) fun e => ?_
  · rw [kitAny_nil, e, e2]; rfl
  · rw [e2, Bool.or_true]
  · rw [e]; rfl
end
/-! ### a dict comprehension, keys flat or tuples -/
section
variable {X : Cx}
theorem d_setBy {pins : List (Addr × Obj)} {σ : L2.St} {H H' : Hp} {s : Shared} {E : Value → Shared → Prop} {D : Addr} {y v : V} {u r : Value} {Q : Unit → Shared → Prop} (hu : X.A.units + 1 < cLine) (I : Inv X pins σ H s) (g : DPut H D y v H')
    (ry : RelV y u) (rv : RelV v r) (h : ∀ s', Inv X pins σ H' s' → Q () s') : wpAny (model X.prog X.w) X.A (dictSet D u r) Q E s := by
  rcases g with ⟨kvs, k, e, rfl, l, rfl⟩ | ⟨kvs, k, b, e, rfl, eb, l, rfl⟩
  · exact d_dictSet I e l ry rv h
  · cases (show u = Value.ref b from ry)
    obtain ⟨z, hd, xs, rel, dd⟩ := dt_of I.hok e
    have hz : xs.length ≤ sizeLine := by rw [← Paired.length rel]; exact z
    have hl : (putK kvs k v).length ≤ sizeLine := by have := length_putK kvs k v; omega
    refine wpAny_dictSet_heap (hsz := hz) (show X.A.units < cLine by omega) (key_of I.hok eb) dd fun h' dd' hs => h _ ?_
    obtain ⟨q, es, ep, hq, h2, h3, h4, _, h5⟩ := dd'
    refine d_write I (by rw [e]; exact True.intro) hs ⟨q, hq⟩ ⟨hl, hd, _, (rel.put k eb rv).keeps fun c ys ec => ?_, q, es, ep, hq, h2, h3, h4, h5⟩
    rw [upd_ne (ne_of ec e (fun z => nomatch z))]
    exact ec
def tDcP (wi : TI) (g : TG) (tt : TT) (tk tv : TE) (vs : List Nat) : TE := fun σ H Q => wi σ H fun J H1 => ∀ D, H1 D = none → ∃ o0 : HO, (o0 = .dK [] ∨ o0 = .dT []) ∧ ∃ W : Nat → Nat → Hp → Prop, (∃ m, W 0 m (upd H1 D o0)) ∧ ∀ i m H, W i m H →
  (J.stop i H ∧ Q (.ref D) H) ∨ (J.go i H ∧ ∃ Nx : Hp → Prop, (∀ H', Nx H' → ∃ m', m' < m ∧ W (i + 1) m' H') ∧ ∀ x H', J.yld i H x H' → g x (wipe σ vs) H' fun σ2 H2 => wipe σ2 vs = wipe σ vs ∧ tt σ2 H2 fun b H3 =>
    if b = true then tk σ2 H3 fun y H4 => tv σ2 H4 fun z H5 => ∃ H6, DPut H5 D y z H6 ∧ Nx H6 else Nx H3)
theorem pe_dcP {kx vx tg iter : Expr} {ifs : List Expr} {scope : Scope} {own : List (Str × Nat)} {pos : Pos} {wi : TI} {g : TG} {tt : TT} {tk tv : TE} (hu : X.A.units + 1 < cLine) (hc : X.calm = true) (hN : X.N.Nodup) (hi : PI X tg iter wi) (ok : BlkOk X.N X.env.scope scope own)
    (hg : ∀ (s : Shared) (H : Hp) (C : Addr) (cl : List (Str × Addr)) (fp : List Addr), PG (X.blk s H scope (compEnvC scope cl C X.env) fp) tg g)
    (ht : ∀ (s : Shared) (H : Hp) (C : Addr) (cl : List (Str × Addr)) (fp : List Addr), PTs (X.blk s H scope (compEnvC scope cl C X.env) fp) ifs tt)
    (hk : ∀ (s : Shared) (H : Hp) (C : Addr) (cl : List (Str × Addr)) (fp : List Addr), PE (X.blk s H scope (compEnvC scope cl C X.env) fp) kx tk)
    (he : ∀ (s : Shared) (H : Hp) (C : Addr) (cl : List (Str × Addr)) (fp : List Addr), PE (X.blk s H scope (compEnvC scope cl C X.env) fp) vx tv) (hs : ∀ x, foldedSetIterable iter X.env x = pure x := by intro _; rfl) :
    PE X (.DictComp kx vx [⟨tg, iter, ifs, 0⟩] scope pos) (tDcP wi g tt tk tv (own.map (·.2))) := by
  refine ⟨fun pins s σ H Q I h => ?_⟩
  rw [arm_eval_DictComp]
  have hfree : ∀ y ∈ scope.names, y.2 = .free → ∃ c, X.env.cells.lookup y.1 = some c := fun y hy e => (ok.free y hy e).elim (fun k => I.ok.has _ (.inl k)) fun k => I.ok.has _ (.inr k)
  refine wpAny_comprehension_free rfl hs (closure_ok hfree) ok.kind (fun y hy e => by rw [ok.uniq y hy, e])
    (thn (hi.run pins s σ H _ I h) fun xv s1 hx => thn hx fun itv s2 h2 => ?_)
  obtain ⟨it, fp, tn, J, H2, rfl, I2, T, st2, f2, q⟩ := h2
  refine wpAny_newObj_type (newEnv_comp ?_)
  generalize hD : s2.heap.objs.size = D
  have hDn : H2 D = none := I2.hok.fresh (Nat.le_of_eq hD)
  obtain ⟨o0, ho0, W, ⟨m0, w0⟩, turn⟩ := q D hDn
  generalize hs3 : ({ s2 with heap := s2.heap.push { cls := .type "dict", data := .dict #[] } } : Shared) = s3
  have I3 : Inv X pins σ (upd H2 D o0) s3 := by
    rw [← hs3]
    refine I2.laid (t' := s2.toks) (fun b o e => Heap.get?_push_of_some _ e) (Nat.le_of_eq hD) ?_
    rw [← hD]
    rcases ho0 with rfl | rfl
    · exact dk_empty s2.heap I2.big
    · exact dt_empty s2.heap I2.big
  have h3 : s3.heap = s2.heap.push { cls := .type "dict", data := .dict #[] } := by rw [← hs3]
  have f3 : ∀ b ∈ fp, FpOk X pins (upd H2 D o0) b ∧ b < s3.heap.objs.size := fun b hb => by
    obtain ⟨o, e, _⟩ := T.obj _ _ st2 b hb
    have hlt := Heap.lt_size e
    refine ⟨⟨?_, (f2 b hb).2⟩, by rw [h3, Heap.size_push]; exact Nat.lt_succ_of_lt hlt⟩
    rw [upd_ne (by rw [← hD]; exact Nat.ne_of_lt hlt)]
    exact (f2 b hb).1
  have st3 : tn 0 s3.heap := T.keep _ _ _ st2 fun b _ o e => by rw [h3]; exact Heap.get?_push_of_some _ e
  have I4 := block_start I3 ok hN f3
  generalize hcc : (cellsFrom (s3.heap.objs.size + 1) scope.names (cloFrom X.env.cells scope.names [])) = cc at I4
  have pg := hg s3 (upd H2 D o0) s3.heap.objs.size cc fp
  have pt := ht s3 (upd H2 D o0) s3.heap.objs.size cc fp
  have pk := hk s3 (upd H2 D o0) s3.heap.objs.size cc fp
  have pe := he s3 (upd H2 D o0) s3.heap.objs.size cc fp
  have nfp : ∀ b ∈ fp, (upd H2 D o0) b = none := fun b hb => (f3 b hb).1.1
  generalize hce : compEnvC scope cc s3.heap.objs.size X.env = ce at I4 pg pt pk pe ⊢
  have cL : ce.locals = s3.heap.objs.size := by subst hce; rfl
  generalize hH3 : upd H2 D o0 = H3 at I3 I4 pg pt pk pe w0 nfp f3
  generalize hs4 : ({ s3 with heap := pushCells (s3.heap.push { cls := .type "dict", data := .dict #[] }) scope.names } : Shared) = s4 at I4
  have st4 : tn 0 s4.heap := T.keep _ _ _ st3 fun b _ o e => by rw [← hs4]; exact pushCells_keeps _ _ _ _ (Heap.get?_push_of_some _ e)
  have stat : ∀ {σ' : L2.St} {H' : Hp} {s' : Shared}, Inv (X.blk s3 H3 scope ce fp) [] σ' H' s' → (∀ b ∈ fp, H' b = none) → ∀ b ∈ fp, FpOk (X.blk s3 H3 scope ce fp) [] H' b := fun {σ' H' s'} I' hn b hb =>
    ⟨hn b hb, (I'.ok.exf b hb).1, I'.ok.exfs b hb, .inl hb, fun x c e => (I'.ok.exf b hb).2 x c e, fun p hp => absurd (show p ∈ ([] : List (Addr × Obj)) ++ [] from hp) (by simp)⟩
  have RR : ∀ s' m H', Inv X pins σ H' s' → Q (.ref D) H' → s'.heap.Ns s3.heap.objs.size m → FpOk X pins H' s3.heap.objs.size → compPost (model X.prog X.w) X.A X.xe none (EP X pins σ Q) (.ref D) s3.heap.objs.size (.ok .next) s' :=
    fun s' m H' I' q hn ⟨f0, f1, f2, f3, f4, f5⟩ => ⟨m, hn, fun h'' sb => ⟨.ref D, H', I'.turned (t' := s'.toks) (fun b o hb e => (sb.2 b hb).trans e) f0 f1 f3 f4 f5, rfl, q⟩⟩
  have loop : codeAny (model X.prog X.w) X.A (.compLoop (.DictComp kx vx [⟨tg, iter, ifs, 0⟩] scope pos) 0 (.ref it) (.ref D) ce) (compPost (model X.prog X.w) X.A X.xe none (EP X pins σ Q) (.ref D) s3.heap.objs.size) s4 := by
    refine compLoop_anyD (fun n s' => ∃ i H', Inv (X.blk s3 H3 scope ce fp) [] (wipe σ (own.map (·.2))) H' s' ∧ tn i s'.heap ∧ (∀ b ∈ fp, H' b = none) ∧ W i n H') ?_ m0 ⟨0, H3, I4, st4, nfp, w0⟩
    rintro n s5 ⟨i, H5, I5, st5, n5, w5⟩
    rcases turn i n H5 w5 with ⟨stop, qq⟩ | ⟨go, Nx, hNx, step⟩
    · refine thnF (T.done (X.blk s3 H3 scope ce fp) rfl rfl rfl hc i [] s5 _ H5 (fun _ _ => False) I5 (stat I5 n5) st5 stop) fun r s6 ⟨hr, I6⟩ => ?_
      subst hr
      have I7 : Inv X pins σ H5 s6 := I3.call' (ch := fp) I6.os I6.base I6.hok I6.bare fun b hb => ⟨(f3 b hb).1.2.2.2.1, (f3 b hb).1.2.1, (f3 b hb).1.2.2.2.2.1, (f3 b hb).1.2.2.2.2.2⟩
      have nC : H5 s3.heap.objs.size = none := by
        rw [← cL]
        exact I6.free
      obtain ⟨m, hn, _⟩ := I6.loc
      have hn : s6.heap.Ns ce.locals m := hn
      rw [cL] at hn
      exact RR s6 m H5 I7 qq hn (I3.fpOk (Nat.le_refl _) nC)
    · refine thnF (T.item (X.blk s3 H3 scope ce fp) rfl rfl rfl hc i [] s5 _ H5 (fun _ _ => False) I5 (stat I5 n5) st5 go) fun r s6 ⟨u, hr, h6⟩ => ?_
      subst hr
      refine thnF h6 fun _ s7 ⟨x, H7, I7, r7, y7, st7, n7⟩ => ?_
      refine thnF (pg.run _ s7 _ H7 x u _ (I7.pinned (stat I7 n7) (T.obj _ _ st7)) r7 (step x H7 y7)) fun _ s8 ⟨σ8, H8, I8, hw8, q8⟩ => ?_
      refine thnF (pt.run _ s8 σ8 H8 _ I8 q8) fun b s9 ⟨H9, I9, q9⟩ => ?_
      have fin : ∀ {s' : Shared} {H' : Hp}, Inv (X.blk s3 H3 scope ce fp) ([] ++ pinsAt fp s7.heap) σ8 H' s' → Nx H' → ∃ m, m < n ∧ ∃ i H', Inv (X.blk s3 H3 scope ce fp) [] (wipe σ (own.map (·.2))) H' s' ∧ tn i s'.heap ∧ (∀ b ∈ fp, H' b = none) ∧ W i m H' := fun {s' H'} I' nx => by
        obtain ⟨m', hm, w'⟩ := hNx H' nx
        have pin' : ∀ b ∈ fp, ∀ o, s7.heap.get? b = some o → s'.heap.get? b = some o ∧ H' b = none := fun b hb o e =>
          let z := I'.pin (b, o) (List.mem_append_right _ (List.mem_append_right _ (mem_pinsAt hb e)))
          ⟨z.1, z.2.1⟩
        refine ⟨m', hm, i + 1, H', (I'.unpinned (pins := [])).weak (by rw [← hw8, wipe_length]) (fun j v e => ?_), T.keep _ _ _ st7 fun b hb o e => (pin' b hb o e).1, fun b hb => ?_, w'⟩
        · rw [← hw8] at e
          exact (wipe_some e).1
        · obtain ⟨o, e, _⟩ := T.obj _ _ st7 b hb
          exact (pin' b hb o e).2
      cases b with
      | false => exact fin I9 q9
      | true =>
        refine thnF (pk.run _ s9 σ8 H9 _ I9 q9) fun z s10 ⟨yk, H10, I10, r10, q10⟩ => ?_
        refine thnF (pe.run _ s10 σ8 H10 _ I10 q10) fun z2 s11 ⟨yv, H11, I11, r11, H12, put, nx⟩ => ?_
        exact d_setBy (X := X.blk s3 H3 scope ce fp) hu I11 put r10 r11 fun s12 I12 => fin I12 nx
  have res := codeAny_compStart_dict loop (T.self X.A 0 _ _ _ st4 loop)
  rw [← hce] at res
  exact res
end
/-! ### str(o), o == y, o != y of an own class -/
section
variable {X : Cx} {C g : Addr} {CX : CXT} {n : Nat} {fd : FuncData} {ps : List Str} {sp : Sp} {E : XK} {pins : List (Addr × Obj)} {σ : L2.St} {H : Hp} {s : Shared} {Q : VK}
/-- a def runs under a deeper around -/
theorem run_fnA {A : Around} {us : List Value} {vs : List V} (F : FnOk X.prog X.w X.K X.mg X.base CX n g fd ps sp) (hr : Room n A) (e0 : Env0 X.prog X.w X.K X.mg X.base A X.stack s H) (hb : Binds X.K fd ps []) (hx : Passes CX X E)
    (I : Inv X pins σ H s) (r : Vals vs us) (h : sp vs H Q E) : wpAny (model X.prog X.w) A (call (.ref g) us) (EP X pins σ Q) X.xe s := by
  have hl : (us ++ []).length = ps.length := by rw [List.append_nil, ← r.length]; exact F.len _ _ _ _ h
  refine wpAny_call (codeAny_mono (F.run A X.stack s H ⟨us, []⟩ (us ++ []) vs Q E hr e0 (hb s us I.kIn hl) (by rw [List.append_nil]; exact r) h) fun r s' hq => ?_)
  cases r with
  | error e => exact hx pins σ H s e s' I hq
  | ok fl =>
    cases fl with
    | ret u => exact I.after hq
    | next => exact False.elim hq
    | brk => exact False.elim hq
    | cont => exact False.elim hq
def rStrOwn (C : Addr) (sp : Sp) (E : XK) : List V → Hp → VK → Prop := fun xs H Q => ∃ a dx fs, xs = [V.ref a] ∧ H a = some (.ins C dx fs) ∧ sp [.ref a] H (fun z H' => ∃ t, z = .str t ∧ Q z H') E
theorem call_strOwn (hs : PySem.W.findIn X.K (.ref C) "__str__" = some (some (.ref g))) (hf : PySem.W.isFn X.K (.ref g) = true) (F : FnOk X.prog X.w X.K X.mg X.base CX n g fd ps sp) (hb : Binds X.K fd ps []) (hr : Room (n + 2) X.A) (hx : Passes CX X E) :
    CallR X (.type "str") (rStrOwn C sp E) := by
  intro pins s σ H xs us Q I r h
  obtain ⟨a, dx, fs, rfl, ha, q⟩ := h
  obtain ⟨u, rfl, ru⟩ := vals1 r
  cases (show u = Value.ref a from ru)
  obtain ⟨mA, O, _⟩ := ins_get I.hok ha
  obtain ⟨od, J, _⟩ := O.look
  have hr2 : Room n X.A.in1.in1 := (show Room (n + 1) X.A.in1 from Room.in1 hr).in1
  refine PySem.W.kso_call hr2.units0 I.kIn J hs hf (wpAny_mono (run_fnA (us := [.ref a]) (vs := [.ref a]) F hr2 I.env0.in1.in1 hb hx I (.cons rfl .nil) q) (fun w s' z => ?_) fun _ _ x => x)
  obtain ⟨z', H', I', rz, t, rfl, qz⟩ := z
  obtain ⟨tk, e⟩ := (show ∃ tk, w = Value.str t tk from rz)
  cases e
  exact ⟨.str t, H', I', ⟨tk, rfl⟩, qz⟩
/-- the type of a right operand, for comparisons with an own class ahead -/
theorem any_type {k : Kd} {v : V} {u : Value} (I : Inv X pins σ H s) (h : Any X.K H v k) (r : RelV v u) : PySem.W.Looks (model X.prog X.w) s.heap (typeOf u) k.ty := by
  obtain ⟨P, Z, p, _⟩ := kit_of I r h.ty
  exact Z.ty _ _ I.kIn p
def rEqOwn (K : PySem.W.Frag) (C : Addr) (sp : Sp) (E : XK) : R2 := fun x y H Q => ∃ a dx fs k, x = .ref a ∧ H a = some (.ins C dx fs) ∧ Any K H y k ∧ PySem.W.notFirst K C k.ty = true ∧ sp [x, y] H (fun z H' => ∃ b, z = .bl b ∧ Q (.bl b) H') E
theorem op_eqOwn (hs : PySem.W.findIn X.K (.ref C) "__eq__" = some (some (.ref g))) (hf : PySem.W.isFn X.K (.ref g) = true) (F : FnOk X.prog X.w X.K X.mg X.base CX n g fd ps sp) (hb : Binds X.K fd ps []) (hr : Room n X.A) (hx : Passes CX X E) :
    OpR X (compareOp .Eq) (rEqOwn X.K C sp E) := by
  intro pins s σ H x y v u Q I rx ry h
  obtain ⟨a, dx, fs, k, rfl, ha, hy, hn, q⟩ := h
  cases (show v = Value.ref a from rx)
  obtain ⟨mA, O, _⟩ := ins_get I.hok ha
  obtain ⟨od, J, _⟩ := O.look
  obtain ⟨m, hF⟩ := I.fr
  refine PySem.W.cmp_K (op := .Eq) (tb := k.ty) hr.units0 hF I.ok.mod.kin J (any_type I hy ry) hn hs hf ?_
  refine wpAny_mono (run_fnA (us := [.ref a, u]) (vs := [.ref a, y]) F hr I.env0 hb hx I (.cons rfl (.cons ry .nil)) q) (fun w s' z => ?_) fun _ _ x => x
  obtain ⟨z', H', I', rz, b, rfl, qz⟩ := z
  cases (show w = Value.bool b from rz)
  exact ⟨.bl b, H', I', rfl, qz⟩
end
section
variable {prog : Program} {w : World} {M : Model} {A : Around} {E : Value → Shared → Prop} {s : Shared} {K : PySem.W.Frag} {x C f L : Addr} {h₀ : Heap} {m : Str → Option Value} {ox : Obj} {od : Option Obj} {b tb : Value}
theorem ifBound_B {name : Str} {id : String} {args : List Value} {Q : Option Value → Shared → Prop} (X : K.In s.heap) (I : PySem.W.InstAt s.heap x ox C od) (hs : PySem.W.findIn K (.ref C) name = some (some (.builtin id)))
    (hb : ∀ self, bindSpecial (.builtin id) self = pure (.builtin id, [self])) (h : wpAny M A (call (.builtin id) (.ref x :: args)) (fun v => Q (some v)) E s) : wpAny M A (callSpecialIfBound? (.ref x) name args) Q E s := by
  simp only [callSpecialIfBound?, bindSpecialIfBound?]
  refine wpAny_holding (wpAny_bind (wpAny_bind (wpAny_bind (I.type.here ((PySem.W.looks_findIn X hs).here ?_)))))
  refine wpAny_bind (wpAny_askSetting (wpAny_ite ?_))
  have fin : wpAny M A (call (.builtin id) ([.ref x] ++ args) >>= fun v => pure (some v)) Q E s := wpAny_bind (wpAny_mono h (fun v s' h' => wpAny_pure h') fun _ _ h' => h')
  split
  · exact wpAny_bind ((PySem.W.Looks.of_pure (hb _)).here (wpAny_pure (by exact fin)))
  · exact wpAny_tryCatch (wpAny_bind ((PySem.W.Looks.of_pure (hb _)).here (wpAny_pure (by exact fin))))
open Builtin in
theorem objNe_call {Q : Value → Shared → Prop} (hu : A.in1.units < cLine) (X : K.In s.heap) (I : PySem.W.InstAt s.heap x ox C od) (hm : PySem.W.mroIn K C (.type "object") = some true) (hs : PySem.W.findIn K (.ref C) "__eq__" = some (some (.ref f))) (hf : PySem.W.isFn K (.ref f) = true)
    (h : wpAny (model prog w) A.in1 (call (.ref f) [.ref x, b]) (fun v s' => ∃ k, v = .bool k ∧ Q (.bool (!k)) s') E s) : wpAny (model prog w) A (call (.builtin "object.__ne__") [.ref x, b]) Q E s := by
  refine wpAny_call (codeAny_call_builtin (by decide +kernel) F.cmpEntry_ne (PySem.W.check_slot (i := "object.__ne__") (owner := "object") (n := "__ne__") (by decide +kernel) (by decide +kernel) (I.type.andThen (PySem.W.looks_mroIn X hm)) (F.cmpArgs_ne _ _) ?_))
  unfold Builtin.«object.__ne__»
  refine wpAny_bind (m := slotArgs "__ne__" 1 _) (wpAny_pure ?_)
  refine wpAny_bind (m := cRoomFor _ _) (wpAny_cRoomFor hu ?_)
  refine wpAny_bind (m := callSpecialIfBound? (.ref x) (Str.ofString "__eq__") _) (PySem.W.ifBound_K X I hs hf (wpAny_mono h (fun r s' hq => ?_) fun _ _ y => y))
  obtain ⟨k, rfl, q⟩ := hq
  exact wpAny_bind (wpAny_truthy_bool (wpAny_pure q))
theorem ne_K {Q : Value → Shared → Prop} (hu : A.units + 1 < cLine) (X : K.In s.heap) (I : PySem.W.InstAt s.heap x ox C od) (hm : PySem.W.mroIn K C (.type "object") = some true) (hb : PySem.W.Looks (model prog w) s.heap (typeOf b) tb) (hn : PySem.W.notFirst K C tb = true)
    (hne : PySem.W.findIn K (.ref C) "__ne__" = some (some (.builtin "object.__ne__"))) (hs : PySem.W.findIn K (.ref C) "__eq__" = some (some (.ref f))) (hf : PySem.W.isFn K (.ref f) = true)
    (h : wpAny (model prog w) A.in1 (call (.ref f) [.ref x, b]) (fun v s' => ∃ k, v = .bool k ∧ Q (.bool (!k)) s') E s) : wpAny (model prog w) A (richCompare .NotEq (.ref x) b) Q E s := by
  have hu1 : A.in1.units < cLine := hu
  have one : wpAny (model prog w) A (tryCompare (.ref x) (cmpInfo .NotEq).2.1 b) (fun r s' => ∃ v, r = some v ∧ Q v s') E s := by
    unfold tryCompare
    refine wpAny_bind (ifBound_B X I hne (fun self => by kernel_rfl) (objNe_call hu1 X I hm hs hf (wpAny_mono h (fun v s' hv => ?_) fun _ _ e => e)))
    obtain ⟨k, rfl, q⟩ := hv
    exact ⟨k, rfl, wpAny_pure ⟨_, rfl, q⟩⟩
  unfold richCompare
  simp only [oneThing_ref]
  refine wpAny_holding (wpAny_bind (wpAny_cRoomFor (by omega) ?_))
  refine wpAny_bind (I.type.here (wpAny_bind (hb.here ?_)))
  split
  · rename_i q
    have e : PySem.W.subIn K tb (.ref C) = some false := by
      rcases Bool.or_eq_true_iff.mp hn with e | e
      · rw [beq_iff_eq.mp e] at q; simp at q
      · exact beq_iff_eq.mp e
    refine wpAny_bind ((PySem.W.looks_subIn X e).here ?_)
    simp only [Bool.false_eq_true, if_false]
    refine wpAny_bind (wpAny_mono one (fun r s' z => ?_) fun _ _ e => e)
    obtain ⟨v, rfl, hq⟩ := z
    exact wpAny_pure hq
  · refine wpAny_bind (wpAny_pure ?_)
    simp only [Bool.false_eq_true, if_false]
    refine wpAny_bind (wpAny_mono one (fun r s' z => ?_) fun _ _ e => e)
    obtain ⟨v, rfl, hq⟩ := z
    exact wpAny_pure hq
end
section
variable {X : Cx} {C g : Addr} {CX : CXT} {n : Nat} {fd : FuncData} {ps : List Str} {sp : Sp} {E : XK}
def rNeOwn (K : PySem.W.Frag) (C : Addr) (sp : Sp) (E : XK) : R2 := fun x y H Q => ∃ a dx fs k, x = .ref a ∧ H a = some (.ins C dx fs) ∧ Any K H y k ∧ PySem.W.notFirst K C k.ty = true ∧ sp [x, y] H (fun z H' => ∃ b, z = .bl b ∧ Q (.bl (!b)) H') E
theorem op_neOwn (hm : PySem.W.mroIn X.K C (.type "object") = some true) (hne : PySem.W.findIn X.K (.ref C) "__ne__" = some (some (.builtin "object.__ne__"))) (hs : PySem.W.findIn X.K (.ref C) "__eq__" = some (some (.ref g))) (hf : PySem.W.isFn X.K (.ref g) = true)
    (F : FnOk X.prog X.w X.K X.mg X.base CX n g fd ps sp) (hb : Binds X.K fd ps []) (hr : Room (n + 1) X.A) (hx : Passes CX X E) : OpR X (compareOp .NotEq) (rNeOwn X.K C sp E) := by
  intro pins s σ H x y v u Q I rx ry h
  obtain ⟨a, dx, fs, k, rfl, ha, hy, hn, q⟩ := h
  cases (show v = Value.ref a from rx)
  obtain ⟨mA, O, _⟩ := ins_get I.hok ha
  obtain ⟨od, J, _⟩ := O.look
  have hu : X.A.units + 1 < cLine := hu_of hr
  refine ne_K hu I.kIn J hm (any_type I hy ry) hn hne hs hf ?_
  refine wpAny_mono (run_fnA (us := [.ref a, u]) (vs := [.ref a, y]) F hr.in1 I.env0.in1 hb hx I (.cons rfl (.cons ry .nil)) q) (fun w s' z => ?_) fun _ _ x => x
  obtain ⟨z', H', I', rz, b, rfl, qz⟩ := z
  cases (show w = Value.bool b from rz)
  exact ⟨b, rfl, .bl (!b), H', I', rfl, qz⟩
end
/-! ### sorted of a list or tuple of data that can be compared -/
section
open PySem.W
variable {prog : Program} {w : World} {A : Around} {E : Value → Shared → Prop} {s : Shared}
theorem collect_tup {l : Addr} {vs : List Value} {Q : List Value → Shared → Prop} (hl : s.heap.IsTuple l vs.toArray)
    (h : Q vs { s with heap := (s.heap.push (seqObj "list" #[] 0)).update s.heap.objs.size (Obj.mapSeq (· ++ vs.toArray)) }) (hsz : vs.length ≤ sizeLine) :
    wpAny (model prog w) A (collect (.ref l)) Q E s := by
  obtain ⟨o, ho, hc, n, hd⟩ := id hl
  unfold collect
  refine wpAny_bind (wpAny_runValue (codeAny_builtin entry_proto_collect' ?_))
  show wpAny _ _ (do again (.builtin "list.__iadd__" ⟨[← newList [], .ref l], []⟩)) _ _ s
  refine wpAny_bind (wpAny_newList (wpAny_pure ⟨Code.quiet_builtin _ (by decide +kernel), codeAny_builtin entry_list_iadd' ?_⟩))
  show wpAny _ _ (Builtin.List.listExtendWith (.ref s.heap.objs.size) (.ref l) (.ref s.heap.objs.size)) _ _ { s with heap := s.heap.push (seqObj "list" #[] 0) }
  unfold Builtin.List.listExtendWith
  have ho' : (s.heap.push (seqObj "list" #[] 0)).get? l = some o := Heap.get?_push_of_some _ ho
  refine wpAny_bind (wpAny_typeOf (T := "tuple") ⟨o, ho', hc⟩ ?_)
  have ht : (Value.type "tuple" == Value.type "tuple") = true := by rfl
  rw [if_pos (by rw [ht]; simp)]
  refine wpAny_bind (listItems_at ho' hd ?_)
  refine wpAny_bind (listItems_at (xs := #[]) (n := 0) (Heap.get?_push_size _ rfl) rfl ?_)
  rw [if_neg (by simp)]
  refine wpAny_bind (listUpdate_at (xs := #[]) (n := 0) (Heap.get?_push_size _ rfl) rfl ?_ (Nat.zero_le _) (by show (#[] ++ vs.toArray).size ≤ sizeLine + 1; simp only [Array.size_append, List.size_toArray, List.length_nil]; omega))
  refine wpAny_pure ?_
  show wpAny (model prog w) A (do
      let o ← load s.heap.objs.size
      match o.data with
      | .seq xs _ => pure xs.toList
      | _ => unsupported "internal:collect") Q E { s with heap := (s.heap.push (seqObj "list" #[] 0)).update s.heap.objs.size (Obj.mapSeq (· ++ vs.toArray)) }
  refine wpAny_bind (wpAny_load (get?_update_seq (Heap.get?_push_size _ rfl) _) ?_)
  show wpAny _ _ (pure ((#[] : Array Value) ++ vs.toArray).toList) Q E _
  rw [show ((#[] : Array Value) ++ vs.toArray).toList = vs by simp]
  exact wpAny_pure h
theorem sorted_of_sortT {l : Addr} {vs : List Value} {Q : Value → Shared → Prop} (hl : s.heap.IsTuple l vs.toArray) (hL : vs.length ≤ sizeLine)
    (body : ∀ E' : Value → Shared → Prop, wpAny (model prog w) A.in1.in1 (Builtin.«list.sort» ⟨[.ref (s.heap.objs.size + 1)], []⟩) (fun f s' => f = .done (.ret .none) ∧ Q (.ref (s.heap.objs.size + 1)) s') E' { s with heap := copyHeap s.heap vs }) :
    wpAny (model prog w) A (call (.builtin "sorted") [.ref l] []) Q E s := by
  refine call_function_entry_kw kind_sorted plain_sorted entry_sorted (args_sorted1 _) ?_
  unfold Builtin.«sorted»
  refine wpAny_bind (m := checkCount "sorted" 1 1 _) (wpAny_pure ?_)
  refine wpAny_bind (collect_tup hl ?_ hL)
  refine wpAny_bind (wpAny_newList ?_ hL)
  have hsz : ((s.heap.push (seqObj "list" #[] 0)).update s.heap.objs.size (Obj.mapSeq (· ++ vs.toArray))).objs.size = s.heap.objs.size + 1 := by
    rw [Heap.size_update, size_push']
  show wpAny _ _ _ _ _ { s with heap := copyHeap s.heap vs }
  rw [hsz]
  refine wpAny_bind (wpAny_holding (wpAny_call_entry_kw slot_list_sort ⟨_, copyHeap_at s.heap vs, rfl⟩ entry_list_sort ?body (args_list_sort _)))
  case body =>
    refine wpAny_mono (body _) (fun f s' hf => ?_) fun _ _ e => e
    obtain ⟨rfl, hq⟩ := hf
    exact ⟨_, rfl, wpAny_pure ⟨_, rfl, hq⟩⟩
theorem sorted_dataT {β : Type} {R : Value → β → Prop} {enc : β → PyData} {bs : List β} {l : Addr} {vs : List Value} {Q : Value → Shared → Prop} (hl : s.heap.IsTuple l vs.toArray) (e : EachIs R vs bs) (er : EachIs (fun v b => ∃ as, Reads s.heap v (enc b) as) vs bs) (hal : AllAlike (bs.map enc)) (hk : Sortable (bs.map enc)) (hL : bs.length ≤ sizeLine)
    (hu : ∀ b, b ∈ bs → A.units + 2 + (enc b).depth < cLine) (h : ∀ out, out.length = bs.length → EachIs R out (bs.mergeSort (dataLe false enc)) → Q (.ref (s.heap.objs.size + 1)) { s with heap := sortedAll s.heap vs (List.toArray out) }) :
    wpAny (model prog w) A (call (.builtin "sorted") [.ref l]) Q E s := by
  have er' : EachIs (fun v b => ∃ as, Reads (sortingHeap (copyHeap s.heap vs) (s.heap.objs.size + 1) vs) v (enc b) as) vs bs := er.mono fun _ _ ⟨as, r⟩ => ⟨as, PyProof.Rows.Reads.keeps (fun _ _ => sorting_copy_old) r⟩
  refine sorted_of_sortT hl (by rw [e.length]; exact hL) fun _ => list_sort_vals (s := { s with heap := copyHeap s.heap vs }) (copyHeap_at s.heap vs)
    (SortsAt.data (s := { s with heap := sortingHeap (copyHeap s.heap vs) (s.heap.objs.size + 1) vs }) (each_map (R := fun v d => ∃ as, Reads (sortingHeap (copyHeap s.heap vs) (s.heap.objs.size + 1) vs) v d as) enc er') hal hk (bound_map hu)) (by rw [e.length]; exact hL) ⟨rfl, ?_⟩
  exact h _ (by rw [sortVals_length false rfl]; exact e.length) (sortVals_data false e er' hal)
end
section
open PySem.W
variable {X : Cx}
theorem each_of_vals {β : Type} {val : β → V} : ∀ {bs : List β} {us : List Value}, Vals (bs.map val) us → EachIs (fun v b => RelV (val b) v) us bs
  | [], _, .nil => .nil
  | b :: bs, _, .cons r t => .cons r (each_of_vals t)
theorem vals_of_each {β : Type} {val : β → V} : ∀ {bs : List β} {us : List Value}, EachIs (fun v b => RelV (val b) v) us bs → Vals (bs.map val) us
  | [], _, .nil => .nil
  | b :: bs, _, .cons r t => .cons r (vals_of_each t)
/-- sorted(xs), xs a list or tuple of alike data -/
def rSortedD (K : PySem.W.Frag) : List V → Hp → VK → Prop := fun vs H Q => ∃ (β : Type) (a : Addr) (bs : List β) (val : β → V) (enc : β → PyData), vs = [V.ref a] ∧ (SqL K H a (bs.map val) ∨ SqT K H a (bs.map val)) ∧ (∀ b ∈ bs, Dp K H (val b) (enc b)) ∧
  AllAlike (bs.map enc) ∧ Sortable (bs.map enc) ∧ (∀ b ∈ bs, (enc b).depth ≤ 40) ∧ ∀ p, H p = none → Q (.ref p) (upd H p (.lst ((bs.mergeSort (dataLe false enc)).map val)))
theorem each_reads {β : Type} {val : β → V} {enc : β → PyData} {pins : List (Addr × Obj)} {σ : L2.St} {H : Hp} {s : Shared} (I : Inv X pins σ H s) : ∀ {bs : List β} {us : List Value}, (∀ b ∈ bs, Dp X.K H (val b) (enc b)) → Vals (bs.map val) us → EachIs (fun v b => ∃ as, Reads s.heap v (enc b) as) us bs
  | [], _, _, .nil => .nil
  | b :: bs, _, h, .cons r t => .cons (Dp.reads I _ _ _ (h b (List.mem_cons_self ..)) r) (each_reads I (fun c hc => h c (List.mem_cons_of_mem _ hc)) t)
theorem cr_sortedD (hu : X.A.units + 64 < cLine) : CallR X (.builtin "sorted") (rSortedD X.K) := by
  intro pins s σ H vs us Q I r h
  obtain ⟨β, a, bs, val, enc, rfl, hs, hd, hal, hk, hdp, q⟩ := h
  obtain ⟨u, rfl, ru⟩ := vals1 r
  cases (show u = Value.ref a from ru)
  have hu2 : ∀ b, b ∈ bs → X.A.units + 2 + (enc b).depth < cLine := fun b hb => by have := hdp b hb; omega
  have fin : ∀ {its : List Value}, (bs.map val).length ≤ sizeLine → ∀ out : List Value, out.length = bs.length → EachIs (fun v b => RelV (val b) v) out (bs.mergeSort (dataLe false enc)) → EP X pins σ Q (.ref (s.heap.objs.size + 1)) { s with heap := sortedAll s.heap its (List.toArray out) } := fun {its} hz out ho e => by
    obtain ⟨ep, he'⟩ := PyProof.Rows.sortedAll_at s.heap its (List.toArray out)
    refine ⟨.ref _, upd H (s.heap.objs.size + 1) (.lst ((bs.mergeSort (dataLe false enc)).map val)), I.laid (t' := s.toks) (fun _ _ => PyProof.Rows.sortedAll_old) (Nat.le_succ _) ⟨?_, out, ep, vals_of_each e, he'⟩, rfl, q _ (I.hok.fresh (Nat.le_succ _))⟩
    rw [List.length_map, List.length_mergeSort]
    rwa [List.length_map] at hz
  rcases hs with hs | hs
  · obtain ⟨its, rv, hl, hz⟩ := I.list hs
    exact sorted_data hl.isList (each_of_vals rv) (each_reads I hd rv) hal hk (by rwa [List.length_map] at hz) hu2 (fin hz)
  · obtain ⟨its, rv, hl, hz⟩ := I.tuple hs
    exact sorted_dataT hl (each_of_vals rv) (each_reads I hd rv) hal hk (by rwa [List.length_map] at hz) hu2 (fin hz)
end
/-! ### comprehensions over a list or tuple, whose parts keep what stands -/
/-- what is walked gives xs, while what stands in H stands -/
def SeqWalk (H : Hp) (xs : List V) (wi : TI) (σ : L2.St) : Prop := ∀ R : It → Hp → Prop, (∀ J, Walk J xs.length (fun H' => Same H H') (YAt xs) → R J H) → wi σ H R
section
variable {K : PySem.W.Frag} {H : Hp} {a : Addr} {xs : List V} {tl : TE} {σ : L2.St} {wi : TI} {g : TG} {tt : TT} {te : TE} {vs : List Nat} {Q : VK}
theorem Walk.weak {J : It} {n : Nat} {G G' : Hp → Prop} {Y : Nat → Hp → V → Hp → Prop} (w : Walk J n G Y) (h : ∀ H, G' H → G H) : Walk J n G' Y :=
  ⟨fun i H a b => w.goes i H a (h H b), fun H b => w.stops H (h H b), fun i H x H' a b c => w.yields i H x H' a (h H b) c⟩
theorem sw_list (he : ∀ R : VK, R (.ref a) H → tl σ H R) (h : SqL K H a xs) : SeqWalk H xs (iList K tl) σ := fun R k =>
  he _ ⟨a, rfl, ⟨_, h⟩, k _ (Walk.weak walk_list fun H' s => s.seq h)⟩
theorem sw_tup (he : ∀ R : VK, R (.ref a) H → tl σ H R) (h : SqT K H a xs) : SeqWalk H xs (iTup K tl) σ := fun R k =>
  he _ ⟨a, rfl, ⟨_, h⟩, k _ (Walk.weak walk_tup fun H' s => Same.tup s h)⟩
theorem sw_seq (he : ∀ R : VK, R (.ref a) H → tl σ H R) (h : SqL K H a xs ∨ SqT K H a xs) : SeqWalk H xs (fun σ H R => iList K tl σ H R ∨ iTup K tl σ H R) σ := fun R k => by
  rcases h with h | h
  · exact .inl (sw_list he h R k)
  · exact .inr (sw_tup he h R k)
theorem paired_snoc {α β : Type} {F : α → β → Prop} : ∀ {l : List α} {m : List β} {x : α} {y : β}, Paired F l m → F x y → Paired F (l ++ [x]) (m ++ [y])
  | _, _, _, _, .nil, h => .cons h .nil
  | _, _, _, _, .cons r t, h => .cons r (paired_snoc t h)
/-- all but D stands -/
def SameX (D : Addr) (H H' : Hp) : Prop := ∀ b o, b ≠ D → H b = some o → H' b = some o
theorem tLc_fm (hw : SeqWalk H xs wi σ) (hz : xs.length ≤ 1000) (Rel : V → V → Addr → Hp → Prop) (p : V → Bool) (mono : ∀ y x D H1 H2, SameX D H1 H2 → Rel y x D H1 → Rel y x D H2)
    (hs : ∀ x D l H1 (R : VK) (R' : Hp → Prop), H D = none → H1 D = some (.lst l) → Same H H1 → x ∈ xs → (p x = true → ∀ y H2, Same H1 H2 → Rel y x D H2 → R y H2) → (p x = false → ∀ H2, Same H1 H2 → R' H2) →
      g x (wipe σ vs) H1 fun σ2 H2 => wipe σ2 vs = wipe σ vs ∧ tt σ2 H2 fun b H3 => if b = true then te σ2 H3 R else R' H3)
    (hd : ∀ D ys H', H D = none → Same H H' → H' D = some (.lst ys) → Paired (fun y x => Rel y x D H') ys (xs.filter p) → Q (.ref D) H') : tLc wi g tt te vs σ H Q := by
  refine hw _ fun J w D hD => ?_
  refine lc_it w (fun i H2 => ∃ ys, H2 D = some (.lst ys) ∧ Same H H2 ∧ Paired (fun y x => Rel y x D H2) ys ((xs.take i).filter p)) ⟨[], upd_same, same_new hD, .nil⟩ (fun _ _ _ ⟨_, _, s, _⟩ => s) ?_ ?_
  · rintro i x H1 H1' hi ⟨ys, h1, sm, pr⟩ ⟨rfl, hx⟩
    have ht : xs.take (i + 1) = xs.take i ++ [x] := by rw [List.take_succ, hx]; rfl
    refine hs x D ys H1' _ _ hD h1 sm (List.mem_of_getElem? hx) (fun e y H2 s2 r => ?_) (fun e H2 s2 => ?_)
    · refine ⟨ys, s2 _ _ h1, ?_, ys ++ [y], upd_same, Same.mut (sm.trans s2) hD, ?_⟩
      · have l1 : ys.length = ((xs.take i).filter p).length := Paired.length pr
        have l2 := List.length_filter_le p (xs.take i)
        rw [List.length_take] at l2
        exact small1000 (by omega)
      · rw [ht, List.filter_append, List.filter_cons_of_pos e, List.filter_nil]
        refine paired_snoc (Paired.mapP pr fun y x h => mono y x D _ _ (fun b o hb hh => ?_) h) (mono _ _ _ _ _ (fun b o hb hh => ?_) r)
        · rw [upd_ne hb]; exact s2 b o hh
        · rw [upd_ne hb]; exact hh
    · refine ⟨ys, s2 _ _ h1, sm.trans s2, ?_⟩
      rw [ht, List.filter_append, List.filter_cons_of_neg (by rw [e]; decide), List.filter_nil, List.append_nil]
      exact Paired.mapP pr fun y x h => mono y x D _ _ (fun b o _ hh => s2 b o hh) h
  · rintro H2 ⟨ys, h1, sm, pr⟩
    rw [List.take_length] at pr
    exact hd D ys H2 hD sm h1 pr
theorem paired_map {f : V → V} : ∀ {ys zs : List V}, Paired (fun y x => y = f x) ys zs → ys = zs.map f
  | _, _, .nil => rfl
  | _, _, .cons r t => by rw [List.map_cons, r, paired_map t]
/-- [f(x) for x in xs], f a function of the value -/
theorem tLc_map (hw : SeqWalk H xs wi σ) (hz : xs.length ≤ 1000) (f : V → V)
    (hs : ∀ x H1 (R : VK), Same H H1 → x ∈ xs → (∀ H2, Same H1 H2 → R (f x) H2) → g x (wipe σ vs) H1 fun σ2 H2 => wipe σ2 vs = wipe σ vs ∧ te σ2 H2 R)
    (hd : ∀ D H', H D = none → Same H H' → H' D = some (.lst (xs.map f)) → Q (.ref D) H') : tLc wi g tYes te vs σ H Q := by
  refine tLc_fm hw hz (fun y x _ _ => y = f x) (fun _ => true) (fun _ _ _ _ _ _ h => h) (fun x D l H1 R R' _ _ sm hx k _ => hs x H1 R sm hx fun H2 s2 => k rfl _ H2 s2 rfl) fun D ys H' hD sm h1 pr => ?_
  have e := paired_map pr
  rw [List.filter_eq_self.mpr (fun _ _ => rfl)] at e
  rw [e] at h1
  exact hd D H' hD sm h1
end
section
variable {X : Cx}
/-- len of a dict of either kind -/
theorem call_lenKT : CallR X (.builtin "len") (fun xs H Q => (∃ a kvs, xs = [V.ref a] ∧ H a = some (.dK kvs) ∧ Q (.int kvs.length) H) ∨ rLenT xs H Q) := CallR.or call_lenD call_len_dT
end
section
variable {κ : Type} [DecidableEq κ]
/-- the dict of some keys -/
def keyed (v : V) (ks : List κ) : List (κ × V) := ks.foldl (fun acc k => putK acc k v) []
theorem keyed_snoc (v : V) (ks : List κ) (k : κ) : keyed v (ks ++ [k]) = putK (keyed v ks) k v := by
  unfold keyed
  rw [List.foldl_append]
  rfl
theorem putK_old {kvs : List (κ × V)} {k : κ} (v : V) (h : (valV kvs k).isSome = true) : (putK kvs k v).length = kvs.length := by
  unfold putK
  rw [valV_any, h]
  simp
theorem keyed_facts (v : V) (n : Nat) : ∀ ks : List κ, ks.length = n → (∀ k, (valV (keyed v ks) k).isSome = true ↔ k ∈ ks) ∧ (keyed v ks).length ≤ ks.length ∧ ((keyed v ks).length = ks.length ↔ ks.Nodup) := by
  induction n with
  | zero =>
    intro ks h
    have e : ks = [] := List.length_eq_zero_iff.mp h
    subst e
    exact ⟨fun k => by simp [keyed, valV], Nat.le_refl _, by simp [keyed]⟩
  | succ n ih =>
    intro ks h
    rcases List.eq_nil_or_concat ks with rfl | ⟨r, k, e⟩
    · simp at h
    · rw [List.concat_eq_append] at e
      subst e
      have hr : r.length = n := by simpa using h
      obtain ⟨h1, h2, h3⟩ := ih r hr
      rw [keyed_snoc]
      have hv : ∀ j, (valV (putK (keyed v r) k v) j).isSome = true ↔ j ∈ r ++ [k] := fun j => by
        rw [valV_put]
        by_cases e : j = k
        · simp [e]
        · rw [if_neg e, h1 j]
          simp [e]
      refine ⟨hv, ?_⟩
      by_cases hk : k ∈ r
      · have e := putK_old v ((h1 k).mpr hk)
        rw [e]
        refine ⟨by simp; omega, ?_⟩
        constructor
        · intro q
          simp at q
          omega
        · intro q
          rw [List.nodup_append] at q
          exact absurd rfl (q.2.2 k hk k (by simp))
      · have e : valV (keyed v r) k = none := by
          cases q : valV (keyed v r) k with
          | none => rfl
          | some z => exact absurd ((h1 k).mp (by rw [q]; rfl)) hk
        rw [putK_new v e]
        simp only [List.length_append, List.length_singleton]
        refine ⟨by omega, ?_⟩
        rw [List.nodup_append]
        constructor
        · intro q
          refine ⟨h3.mp (by omega), by simp, fun x hx y hy => ?_⟩
          have : y = k := by simpa using hy
          rw [this]
          exact fun z => hk (z ▸ hx)
        · intro q
          have := h3.mpr q.1
          omega
theorem keyed_len (v : V) (ks : List κ) : ((keyed v ks).length = ks.length) ↔ ks.Nodup := (keyed_facts v _ ks rfl).2.2
theorem keyed_le (v : V) (ks : List κ) : (keyed v ks).length ≤ ks.length := (keyed_facts v _ ks rfl).2.1
end
/-- a dict comprehension's turns over a walk -/
theorem dcP_it {J : It} {n : Nat} {G : Hp → Prop} {Y : Nat → Hp → V → Hp → Prop} (w : Walk J n G Y) {g : TG} {tt : TT} {tk tv : TE} {vs : List Nat} {σ : L2.St} {H1 : Hp} {D : Addr} {Qd : Hp → Prop} {o0 : HO} (Pv : Nat → Hp → Prop) (h0 : Pv 0 (upd H1 D o0)) (hG : ∀ i H, i ≤ n → Pv i H → G H)
    (hs : ∀ i x H H', i < n → Pv i H → Y i H x H' → g x (wipe σ vs) H' fun σ2 H2 => wipe σ2 vs = wipe σ vs ∧ tt σ2 H2 fun b H3 =>
      if b = true then tk σ2 H3 fun y H4 => tv σ2 H4 fun z H5 => ∃ H6, DPut H5 D y z H6 ∧ Pv (i + 1) H6 else Pv (i + 1) H3) (hd : ∀ H, Pv n H → Qd H) :
    ∃ W : Nat → Nat → Hp → Prop, (∃ m, W 0 m (upd H1 D o0)) ∧ ∀ i m H, W i m H →
      (J.stop i H ∧ Qd H) ∨ (J.go i H ∧ ∃ Nx : Hp → Prop, (∀ H', Nx H' → ∃ m', m' < m ∧ W (i + 1) m' H') ∧ ∀ x H', J.yld i H x H' → g x (wipe σ vs) H' fun σ2 H2 => wipe σ2 vs = wipe σ vs ∧ tt σ2 H2 fun b H3 =>
        if b = true then tk σ2 H3 fun y H4 => tv σ2 H4 fun z H5 => ∃ H6, DPut H5 D y z H6 ∧ Nx H6 else Nx H3) := by
  refine ⟨fun i m H => m = n - i ∧ i ≤ n ∧ Pv i H, ⟨n, by simp, Nat.zero_le _, h0⟩, ?_⟩
  rintro i m H ⟨rfl, hi, p⟩
  have q := hG i H hi p
  by_cases hlt : i < n
  · exact .inr ⟨w.goes i H hlt q, Pv (i + 1), fun H' p' => ⟨n - (i + 1), by omega, rfl, hlt, p'⟩, fun x H' y => hs i x H H' hlt p (w.yields i H x H' hlt q y)⟩
  · have e : i = n := by omega
    subst e
    exact .inl ⟨w.stops H q, hd H p⟩
/-! ### readings opened by one step -/
section
variable {ta tb te : TE} {t : TA} {σ : L2.St} {H : Hp} {Q : VK} {r : R2} {D : Ends} {g : TG}
theorem o_cb {r : List V → Hp → VK → Prop} (h : ta σ H fun x H1 => t σ H1 fun xs H2 => r (x :: xs) H2 Q) : tCB r (tCons ta t) σ H Q := h
theorem o_op (h : ta σ H fun x H1 => tb σ H1 fun y H2 => r x y H2 Q) : tOp r ta tb σ H Q := h
theorem o_asg (h : te σ H fun x H1 => g x σ H1 D.nx) : tAsg te g D σ H := h
theorem o_ret (h : te σ H D.rt) : tRet te D σ H := h
theorem o_seq {t u : TS} (h : t { D with nx := u D } σ H) : tSeq t u D σ H := h
theorem o_call {sp : Sp} {dvs : List V} {E : XK} (h : ta σ H fun x H1 => t σ H1 fun xs H2 => sp (x :: xs ++ dvs) H2 Q E) : tCall sp dvs E (tCons ta t) σ H Q := h
end
/-! ### rules whose readings name the written part K itself: for use within comprehensions -/
section
variable {X : Cx} (K : PySem.W.Frag)
theorem kx_ix_list (h : X.K = K) : IxR X (rIxL K) := by subst h; exact ix_list
theorem kx_ix_tup (h : X.K = K) : IxR X (rIxT K) := by subst h; exact ix_tup
theorem kx_sl_list (h : X.K = K) : SlR X (rSlL K) := by subst h; exact sl_list
theorem kx_op_in_seq (h : X.K = K) : OpR X (compareOp .In) (rIn K false) := by subst h; exact op_in_seq
theorem kx_op_notIn_seq (h : X.K = K) : OpR X (compareOp .NotIn) (rIn K true) := by subst h; exact op_notIn_seq
theorem kx_call_isi (h : X.K = K) : CallR X (.builtin "isinstance") (rIsi K) := by subst h; exact call_isi
theorem kx_call_isiT (h : X.K = K) : CallR X (.builtin "isinstance") (rIsiT K) := by subst h; exact call_isiT
theorem kx_call_len_seq (h : X.K = K) : CallR X (.builtin "len") (fun xs H Q => ∃ p ys, xs = [.ref p] ∧ (SqL K H p ys ∨ SqT K H p ys) ∧ Q (.int ys.length) H) := by subst h; exact call_len_seq
theorem kx_call_list_of (h : X.K = K) : CallR X (.type "list") (fun xs H Q => ∃ p ys, xs = [.ref p] ∧ (SqL K H p ys ∨ SqT K H p ys) ∧ ∀ l, H l = none → Q (.ref l) (upd H l (.lst ys))) := by subst h; exact call_list_of
theorem kx_call_tuple_of (h : X.K = K) : CallR X (.type "tuple") (fun xs H Q => ∃ p ys, xs = [.ref p] ∧ ((SqL K H p ys ∧ ∀ l, H l = none → Q (.ref l) (upd H l (.tup ys))) ∨ (SqT K H p ys ∧ Q (.ref p) H))) := by subst h; exact call_tuple_of
theorem kx_cr_all (h : X.K = K) (hc : X.calm = true) : CallR X (.builtin "all") (rAll K) := by subst h; exact cr_all hc
theorem kx_cr_any (h : X.K = K) (hc : X.calm = true) : CallR X (.builtin "any") (rAny K) := by subst h; exact cr_any hc
theorem kx_pe_fld {e : Expr} {f : Str} {pos : Pos} {ta : TE} (h : X.K = K) (ha : PE X e ta) (hb : attributeBase e f X.env (eval e X.env) = eval e X.env) : PE X (.Attribute e f pos) (tFld K ta f) := by subst h; exact pe_fld ha hb
theorem kx_pi_list {tg l : Expr} {tl : TE} (h : X.K = K) (hl : PE X l tl) : PI X tg l (iList K tl) := by subst h; exact pi_list hl
theorem kx_pi_tup {tg l : Expr} {tl : TE} (h : X.K = K) (hl : PE X l tl) : PI X tg l (iTup K tl) := by subst h; exact pi_tup hl
theorem kx_pi_seq {tg l : Expr} {tl : TE} (h : X.K = K) (hl : PE X l tl) : PI X tg l (fun σ H R => iList K tl σ H R ∨ iTup K tl σ H R) := by subst h; exact pi_seq hl
theorem kx_pe_join {o e : Expr} {apos pos : Pos} {to te : TE} (h : X.K = K) (ho : PE X o to) (he : PE X e te) (hb : attributeBase o "join" X.env (eval o X.env) = eval o X.env) (hl : (apos.endLine == pos.line) = true) (hs : starEach [e] X.env = [(false, eval e X.env)]) :
    PE X (.Call (.Attribute o "join" apos) [e] [] pos) (tM1 (fun x xs H Q => ∃ a p, ∃ ys : List Str, x = .str a ∧ xs = [.ref p] ∧ (SqL K H p (ys.map V.str) ∨ SqT K H p (ys.map V.str)) ∧ (ys.map (·.length)).sum + ys.length * a.length ≤ 16777216 ∧ Q (.str (Txt.join a ys)) H) to te) := by subst h; exact pe_join ho he hs hb hl
end
section
variable {ta tb te : TE} {t u : TT} {σ : L2.St} {H : Hp} {D : Ends}
theorem o_not {Q : Bool → Hp → Prop} (h : t σ H fun c H1 => Q (!c) H1) : tNot t σ H Q := h
theorem o_b {Q : Bool → Hp → Prop} (h : te σ H fun x H1 => ∃ c, x = .bl c ∧ Q c H1) : tB te σ H Q := h
theorem o_test {Q : Bool → Hp → Prop} (h : te σ H fun x H1 => ∃ c, x = .bl c ∧ Q c H1) : tTest te σ H Q := h
theorem o_and {Q : Bool → Hp → Prop} (h : t σ H fun c H1 => if c = true then u σ H1 Q else Q false H1) : tAnd t u σ H Q := h
theorem o_or {Q : Bool → Hp → Prop} (h : t σ H fun c H1 => if c = true then Q true H1 else u σ H1 Q) : tOr t u σ H Q := h
theorem o_ifs {a b : TS} (h : t σ H fun c H1 => if c = true then a D σ H1 else b D σ H1) : tIfS t a b D σ H := h
theorem o_if {Q : VK} (h : t σ H fun c H1 => if c = true then ta σ H1 Q else tb σ H1 Q) : tIf t ta tb σ H Q := h
theorem o_drop (h : te σ H fun _ H1 => D.nx σ H1) : tDrop te D σ H := h
theorem o_m1 {Q : VK} {r : V → List V → Hp → VK → Prop} (h : ta σ H fun x H1 => (∃ a, x = .str a) ∧ te σ H1 fun y H2 => r x [y] H2 Q) : tM1 r ta te σ H Q := h
theorem o_lst {t : TA} {Q : VK} (h : t σ H fun xs H1 => xs.length ≤ sizeLine ∧ ∀ p, H1 p = none → Q (.ref p) (upd H1 p (.lst xs))) : tLst t σ H Q := h
theorem o_tup {t : TA} {Q : VK} (h : t σ H fun xs H1 => xs.length ≤ sizeLine ∧ ∀ p, H1 p = none → Q (.ref p) (upd H1 p (.tup xs))) : tTup t σ H Q := h
theorem o_cons {t : TA} {Q : List V → Hp → Prop} (h : ta σ H fun x H1 => t σ H1 fun xs H2 => Q (x :: xs) H2) : tCons ta t σ H Q := h
theorem o_fld {K : PySem.W.Frag} {tv : TE} {f : Str} (h : tv σ H fun v H1 => ta σ H1 fun x H2 => ∃ a C dx fs, x = .ref a ∧ H2 a = some (.ins C dx fs) ∧ Cls K C ∧ NoAttr K C f ∧ fs.length < 1000 ∧ D.nx σ (upd H2 a (.ins C dx (putF f v fs)))) : sFld K ta tv f D σ H := h
end
theorem o_next {D : Ends} {σ : L2.St} {H : Hp} (h : D.nx σ H) : tNext D σ H := h
/-! ### all but one object stands -/
section
variable {K : PySem.W.Frag} {x C dx p a : Addr} {fs : List (Str × V)} {H H1 H2 : Hp} {o : HO} {xs : List V}
theorem SameX.refl (x : Addr) (H : Hp) : SameX x H H := fun _ _ _ h => h
theorem SameX.of (s : Same H H1) : SameX x H H1 := fun b o _ h => s b o h
theorem SameX.trans (a : SameX x H H1) (b : SameX x H1 H2) : SameX x H H2 := fun c o n h => b c o n (a c o n h)
theorem SameX.new (s : SameX x H H1) (hp : H1 p = none) : SameX x H (upd H1 p o) := fun b u n h => by
  have e := s b u n h
  rw [upd_ne (ne_of_none e hp)]
  exact e
theorem SameX.put (s : SameX x H H1) : SameX x H (upd H1 x o) := fun b u n h => by
  rw [upd_ne n]
  exact s b u n h
theorem SameX.mut (s : SameX x H H1) (hp : H p = none) : SameX x H (upd H1 p o) := fun b u n h => by
  rw [upd_ne (ne_of_none h hp)]
  exact s b u n h
theorem SameX.seq (s : SameX x H H1) (hx : H x = some (.ins C dx fs)) (h : SqL K H a xs) : SqL K H1 a xs := by
  rcases h with (h | ⟨o, h⟩) | h
  · exact .inl (.inl (s _ _ (ne_of h hx (by intro z; cases z)) h))
  · exact .inl (.inr ⟨o, s _ _ (ne_of h hx (by intro z; cases z)) h⟩)
  · exact .inr h
theorem SameX.tup (s : SameX x H H1) (hx : H x = some (.ins C dx fs)) (h : SqT K H a xs) : SqT K H1 a xs := by
  rcases h with (h | ⟨o, h⟩) | h
  · exact .inl (.inl (s _ _ (ne_of h hx (by intro z; cases z)) h))
  · exact .inl (.inr ⟨o, s _ _ (ne_of h hx (by intro z; cases z)) h⟩)
  · exact .inr h
theorem SameX.sq (s : SameX x H H1) (hx : H x = some (.ins C dx fs)) (h : SqL K H a xs ∨ SqT K H a xs) : SqL K H1 a xs ∨ SqT K H1 a xs := h.imp (s.seq hx) (s.tup hx)
theorem SameX.free (s : SameX x H H1) (hx : H1 x ≠ none) (h : H1 p = none) : H p = none := by
  cases q : H p with
  | none => rfl
  | some o =>
    have e := s p o (fun z => hx (z ▸ h)) q
    rw [e] at h
    cases h
theorem paired_of_mem {α β : Type} {F : α → β → Prop} : ∀ {l : List (α × β)}, (∀ r ∈ l, F r.1 r.2) → Paired F (l.map (·.1)) (l.map (·.2))
  | [], _ => .nil
  | r :: l, h => .cons (h r (List.mem_cons_self ..)) (paired_of_mem fun q hq => h q (List.mem_cons_of_mem _ hq))
theorem paired_get {α β : Type} {F : α → β → Prop} : ∀ {l : List α} {m : List β} {i : Nat} {y : α}, Paired F l m → l[i]? = some y → ∃ z, m[i]? = some z ∧ F y z
  | _, _, _, _, .nil, e => by simp at e
  | _, _, 0, _, .cons r _, e => by simp at e; subst e; exact ⟨_, rfl, r⟩
  | _, _, i + 1, y, .cons _ t, e => by
    obtain ⟨z, h1, h2⟩ := paired_get (i := i) (y := y) t (by simpa using e)
    exact ⟨z, by simpa using h1, h2⟩
theorem dp_strs {ss : List Str} : DpAll K H (ss.map V.str) (ss.map PyData.str) := by
  induction ss with
  | nil => exact .nil
  | cons s r ih => exact .cons (.str s) ih
end
section
/-- a dict comprehension over a walked sequence, no test -/
theorem tDc_it {H : Hp} {xs : List V} {wi : TI} {g : TG} {tk tv : TE} {vs : List Nat} {σ : L2.St} {Q : VK} (hw : SeqWalk H xs wi σ) (o0 : HO) (ho : o0 = .dK [] ∨ o0 = .dT []) (Pv : Addr → Nat → Hp → Prop) (h0 : ∀ D, H D = none → Pv D 0 (upd H D o0)) (hG : ∀ D i H', Pv D i H' → Same H H')
    (hs : ∀ D i x H', H D = none → xs[i]? = some x → Pv D i H' → g x (wipe σ vs) H' fun σ2 H2 => wipe σ2 vs = wipe σ vs ∧ tk σ2 H2 fun y H4 => tv σ2 H4 fun z H5 => ∃ H6, DPut H5 D y z H6 ∧ Pv D (i + 1) H6)
    (hd : ∀ D H', H D = none → Pv D xs.length H' → Q (.ref D) H') : tDcP wi g tYes tk tv vs σ H Q := by
  refine hw _ fun J w D hD => ⟨o0, ho, ?_⟩
  refine dcP_it w (Pv D) (h0 D hD) (fun i H' _ p => hG D i H' p) ?_ (fun H' p => hd D H' hD p)
  rintro i x H1 H1' hi p ⟨rfl, hx⟩
  exact hs D i x H1' hD hx p
end
theorem SameX.tupL {K : PySem.W.Frag} {x a : Addr} {ys xs : List V} {H H1 : Hp} (s : SameX x H H1) (hx : H x = some (.lst ys)) (h : SqT K H a xs) : SqT K H1 a xs := by
  rcases h with (h | ⟨o, h⟩) | h
  · exact .inl (.inl (s _ _ (ne_of h hx (by intro z; cases z)) h))
  · exact .inl (.inr ⟨o, s _ _ (ne_of h hx (by intro z; cases z)) h⟩)
  · exact .inr h
theorem paired_zip {α β : Type} {F : α → β → Prop} : ∀ {l : List α} {m : List β}, Paired F l m → ∃ es : List (α × β), l = es.map (·.1) ∧ m = es.map (·.2) ∧ ∀ e ∈ es, F e.1 e.2
  | _, _, .nil => ⟨[], rfl, rfl, fun _ h => by cases h⟩
  | x :: _, y :: _, .cons r t => by
    obtain ⟨es, h1, h2, h3⟩ := paired_zip t
    refine ⟨(x, y) :: es, by rw [h1]; rfl, by rw [h2]; rfl, fun e he => ?_⟩
    rcases List.mem_cons.mp he with rfl | he
    · exact r
    · exact h3 e he
theorem sub_bltn {K : PySem.W.Frag} {C : Addr} : ∀ T ∈ (["NoneType", "bool", "int", "str", "list", "tuple"] : List String), PySem.W.subIn K (.type T) (.ref C) = some false := by
  intro T hT
  simp only [List.mem_cons, List.not_mem_nil, or_false] at hT
  rcases hT with rfl | rfl | rfl | rfl | rfl | rfl <;> rfl
def Kd.plain : Kd → Bool
  | .own _ => false
  | _ => true
theorem Kd.sub {K : PySem.W.Frag} {C : Addr} {k : Kd} (h : k.plain = true) : PySem.W.subIn K k.ty (.ref C) = some false := by
  cases k with
  | own c => cases h
  | _ => exact sub_bltn _ (by decide)
theorem Kd.notFirst {K : PySem.W.Frag} {C : Addr} {k : Kd} (h : k.plain = true) : PySem.W.notFirst K C k.ty = true := by
  unfold PySem.W.notFirst
  rw [Kd.sub h]
  simp
theorem notFirst_self {K : PySem.W.Frag} {C : Addr} : PySem.W.notFirst K C (.ref C) = true := by
  unfold PySem.W.notFirst
  simp
theorem kit_self {K : PySem.W.Frag} {C : Addr} : PySem.W.kitOne K (.ref C) (.ref C) = some true := by
  unfold PySem.W.kitOne
  simp
theorem Kd.kitOwn {K : PySem.W.Frag} {C : Addr} {k : Kd} (o : OwnC K C) (h : k.plain = true) : PySem.W.kitOne K k.ty (.ref C) = some false := by
  have e : (k.ty == Value.ref C) = false := by
    cases k with
    | own c => cases h
    | _ => rfl
  unfold PySem.W.kitOne PySem.W.kitCls
  rw [e]
  dsimp only
  rw [if_neg (by decide), if_pos o.kc, Kd.sub h]
theorem kit_mro {K : PySem.W.Frag} {C : Addr} {T : String} (m : PySem.W.kitMeta T = true) (h : PySem.W.mroIn K C (.type T) = some false) : PySem.W.kitOne K (.ref C) (.type T) = some false := by
  unfold PySem.W.kitOne PySem.W.kitCls PySem.W.subIn
  dsimp only
  rw [if_neg (by intro z; cases z), if_pos m, h]
theorem own_mk {K : PySem.W.Frag} {C : Addr} (cl : Cls K C) (ha : PySem.W.findIn K (.ref C) "__class__" = some (some (.builtin "object.__class__"))) (hn : PySem.W.specialIn K (.builtin "object.__class__") "__get__" = some (some (.builtin "getset_descriptor.__get__")))
    (ht : PySem.W.takesIn K (.builtin "object.__class__") = some true) (hm : PySem.W.mroIn K C (.type "object") = some true) (mi : PySem.W.mroIn K C (.type "int") = some false) (mb : PySem.W.mroIn K C (.type "bool") = some false) (ms : PySem.W.mroIn K C (.type "str") = some false)
    (ml : PySem.W.mroIn K C (.type "list") = some false) (mt : PySem.W.mroIn K C (.type "tuple") = some false) (ic : PySem.W.isClsIn K C = true) (ty : PySem.W.typeIn K (.ref C) = some (.type "type")) : OwnC K C :=
  ⟨cl, ha, hn, ht, hm, kit_mro (by decide +kernel) mi, kit_mro (by decide +kernel) mb, kit_mro (by decide +kernel) ms, kit_mro (by decide +kernel) ml, kit_mro (by decide +kernel) mt, by
    rw [Bool.and_eq_true_iff]
    refine ⟨ic, ?_⟩
    rw [ty]
    rfl⟩
end Pw

set_option Elab.async false
set_option linter.all false
set_option maxRecDepth 100000
set_option maxHeartbeats 4000000
namespace Pw
open PySem L2
local macro_rules | `(tactic| walk_at "op") => `(tactic| repeat (with_reducible (first | refine o_cb ?_ | refine o_next ?_ | refine o_not ?_ | refine o_b ?_ | refine o_test ?_ | refine o_and ?_ | refine o_or ?_ | refine o_ifs ?_ | refine o_if ?_ | refine o_drop ?_ | refine o_m1 ?_ | refine o_lst ?_ | refine o_tup ?_ | refine o_cons ?_ | refine o_fld ?_ | refine o_asg ?_ | refine o_ret ?_ | refine o_seq ?_ | refine o_call ?_ | refine o_op ?_)))
def top (i : Nat) : Stmt := PySem.Challenge.pw_plateways_k02_steps_made.main.body.getD i (.Pass ⟨0, 0, 0, 0⟩)
abbrev s_is_integer : Stmt := top 9
abbrev n_is_integer : List Str := ["value"]
theorem sc_is_integer : FnScope n_is_integer ["value"] (defScope s_is_integer) := ⟨rfl, rfl, rfl, by decide +kernel, rfl, by decide +kernel, by decide +kernel⟩
abbrev s_is_number : Stmt := top 10
abbrev n_is_number : List Str := ["value"]
theorem sc_is_number : FnScope n_is_number ["value"] (defScope s_is_number) := ⟨rfl, rfl, rfl, by decide +kernel, rfl, by decide +kernel, by decide +kernel⟩
abbrev s_is_sequence : Stmt := top 11
abbrev n_is_sequence : List Str := ["value"]
theorem sc_is_sequence : FnScope n_is_sequence ["value"] (defScope s_is_sequence) := ⟨rfl, rfl, rfl, by decide +kernel, rfl, by decide +kernel, by decide +kernel⟩
abbrev s_is_name : Stmt := top 12
abbrev n_is_name : List Str := ["value", "sign"]
theorem sc_is_name : FnScope n_is_name ["value"] (defScope s_is_name) := ⟨rfl, rfl, rfl, by decide +kernel, rfl, by decide +kernel, by decide +kernel⟩
abbrev s_is_row_of_names : Stmt := top 13
abbrev n_is_row_of_names : List Str := ["value", "one"]
theorem sc_is_row_of_names : FnScope n_is_row_of_names ["value"] (defScope s_is_row_of_names) := ⟨rfl, rfl, rfl, by decide +kernel, rfl, by decide +kernel, by decide +kernel⟩
abbrev s_are_unlike : Stmt := top 14
abbrev n_are_unlike : List Str := ["values", "value"]
theorem sc_are_unlike : FnScope n_are_unlike ["values"] (defScope s_are_unlike) := ⟨rfl, rfl, rfl, by decide +kernel, rfl, by decide +kernel, by decide +kernel⟩
abbrev s_is_arrow : Stmt := top 18
abbrev n_is_arrow : List Str := ["places", "value"]
theorem sc_is_arrow : FnScope n_is_arrow ["places", "value"] (defScope s_is_arrow) := ⟨rfl, rfl, rfl, by decide +kernel, rfl, by decide +kernel, by decide +kernel⟩
abbrev s_are_arrows : Stmt := top 19
abbrev n_are_arrows : List Str := ["places", "value", "one", "start", "end", "lost"]
theorem sc_are_arrows : FnScope n_are_arrows ["places", "value"] (defScope s_are_arrows) := ⟨rfl, rfl, rfl, by decide +kernel, rfl, by decide +kernel, by decide +kernel⟩
abbrev s_Step___init__ : Stmt := inClass (top 20) 0
abbrev n_Step___init__ : List Str := ["self", "name", "places", "arrows", "start", "end", "lost", "place"]
theorem sc_Step___init__ : FnScope n_Step___init__ ["self", "name", "places", "arrows"] (defScope s_Step___init__) := ⟨rfl, rfl, rfl, by decide +kernel, rfl, by decide +kernel, by decide +kernel⟩
abbrev s_Step___eq__ : Stmt := inClass (top 20) 6
abbrev n_Step___eq__ : List Str := ["self", "other"]
theorem sc_Step___eq__ : FnScope n_Step___eq__ ["self", "other"] (defScope s_Step___eq__) := ⟨rfl, rfl, rfl, by decide +kernel, rfl, by decide +kernel, by decide +kernel⟩
abbrev s_Step___str__ : Stmt := inClass (top 20) 7
abbrev n_Step___str__ : List Str := ["self", "head", "lines", "tail", "start", "end", "lost"]
theorem sc_Step___str__ : FnScope n_Step___str__ ["self"] (defScope s_Step___str__) := ⟨rfl, rfl, rfl, by decide +kernel, rfl, by decide +kernel, by decide +kernel⟩
abbrev s__law_deal : Stmt := top 24
abbrev n__law_deal : List Str := ["_law_script", "_law_base", "_law_stirred", "_law_cells", "_law_cell"]
theorem sc__law_deal : FnScope n__law_deal ["_law_script", "_law_base"] (defScope s__law_deal) := ⟨rfl, rfl, rfl, by decide +kernel, rfl, by decide +kernel, by decide +kernel⟩
abbrev s__law_draw : Stmt := top 25
abbrev n__law_draw : List Str := ["_law_deal_here", "_law_many", "_law_left"]
theorem sc__law_draw : FnScope n__law_draw ["_law_deal_here", "_law_many"] (defScope s__law_draw) := ⟨rfl, rfl, rfl, by decide +kernel, rfl, by decide +kernel, by decide +kernel⟩
abbrev s__law_pick : Stmt := top 26
abbrev n__law_pick : List Str := ["_law_deal_here", "_law_some"]
theorem sc__law_pick : FnScope n__law_pick ["_law_deal_here", "_law_some"] (defScope s__law_pick) := ⟨rfl, rfl, rfl, by decide +kernel, rfl, by decide +kernel, by decide +kernel⟩
abbrev s__law_mixed : Stmt := top 27
abbrev n__law_mixed : List Str := ["_law_deal_here", "_law_some", "_law_left", "_law_found"]
theorem sc__law_mixed : FnScope n__law_mixed ["_law_deal_here", "_law_some"] (defScope s__law_mixed) := ⟨rfl, rfl, rfl, by decide +kernel, rfl, by decide +kernel, by decide +kernel⟩
abbrev s__law_spots : Stmt := top 28
abbrev n__law_spots : List Str := ["_law_deal_here", "_law_many"]
theorem sc__law_spots : FnScope n__law_spots ["_law_deal_here", "_law_many"] (defScope s__law_spots) := ⟨rfl, rfl, rfl, by decide +kernel, rfl, by decide +kernel, by decide +kernel⟩
abbrev s__law_stage : Stmt := top 29
abbrev n__law_stage : List Str := ["_law_deal_here", "_law_title", "_law_spots_here", "_law_touched", "_law_marks", "_law_turn", "_law_rows", "_law_first", "_law_second"]
theorem sc__law_stage : FnScope n__law_stage ["_law_deal_here", "_law_title", "_law_spots_here"] (defScope s__law_stage) := ⟨rfl, rfl, rfl, by decide +kernel, rfl, by decide +kernel, by decide +kernel⟩
abbrev s__law_stage_text : Stmt := top 31
abbrev n__law_stage_text : List Str := ["_law_stage_here", "_law_tail", "_law_first", "_law_second", "_law_cost"]
theorem sc__law_stage_text : FnScope n__law_stage_text ["_law_stage_here"] (defScope s__law_stage_text) := ⟨rfl, rfl, rfl, by decide +kernel, rfl, by decide +kernel, by decide +kernel⟩
abbrev s_law : Stmt := top 34
abbrev n_law : List Str := ["_law_script", "_law_turn", "_law_deal_here", "_law_before_here", "_law_more", "_law_title", "_law_stage_here", "_law_touched", "_law_marks", "_law_loose", "_law_made", "_law_bare", "_law_line"]
theorem sc_law : FnScope n_law ["_law_script"] (defScope s_law) := ⟨rfl, rfl, rfl, by decide +kernel, rfl, by decide +kernel, by decide +kernel⟩
structure Txt (K : PySem.W.Frag) (mg : Str → Option Value) where
  b_abs : mg "abs" = none
  b_all : mg "all" = none
  b_bool : mg "bool" = none
  b_int : mg "int" = none
  b_isinstance : mg "isinstance" = none
  b_len : mg "len" = none
  b_list : mg "list" = none
  b_max : mg "max" = none
  b_min : mg "min" = none
  b_range : mg "range" = none
  b_sorted : mg "sorted" = none
  b_str : mg "str" = none
  b_tuple : mg "tuple" = none
  tk_LETTERS : Tok
  m_LETTERS : mg "LETTERS" = some (.str "abcdefghijklmnopqrstuvwxyz" tk_LETTERS)
  a_RESERVED : Addr
  m_RESERVED : mg "RESERVED" = some (.ref a_RESERVED)
  v_RESERVED : ∀ H, SqT K H a_RESERVED [.str "at", .str "go", .str "ahead", .str "trace", .str "limit", .str "work"]
  a_is_integer : Addr
  d_is_integer : FuncData
  F_is_integer : Fun K "is_integer" "is_integer" s_is_integer a_is_integer d_is_integer
  n_is_integer : Binds K d_is_integer ["value"] []
  m_is_integer : mg "is_integer" = some (.ref a_is_integer)
  a_is_number : Addr
  d_is_number : FuncData
  F_is_number : Fun K "is_number" "is_number" s_is_number a_is_number d_is_number
  n_is_number : Binds K d_is_number ["value"] []
  m_is_number : mg "is_number" = some (.ref a_is_number)
  a_is_sequence : Addr
  d_is_sequence : FuncData
  F_is_sequence : Fun K "is_sequence" "is_sequence" s_is_sequence a_is_sequence d_is_sequence
  n_is_sequence : Binds K d_is_sequence ["value"] []
  m_is_sequence : mg "is_sequence" = some (.ref a_is_sequence)
  a_is_name : Addr
  d_is_name : FuncData
  F_is_name : Fun K "is_name" "is_name" s_is_name a_is_name d_is_name
  n_is_name : Binds K d_is_name ["value"] []
  m_is_name : mg "is_name" = some (.ref a_is_name)
  a_is_row_of_names : Addr
  d_is_row_of_names : FuncData
  F_is_row_of_names : Fun K "is_row_of_names" "is_row_of_names" s_is_row_of_names a_is_row_of_names d_is_row_of_names
  n_is_row_of_names : Binds K d_is_row_of_names ["value"] []
  m_is_row_of_names : mg "is_row_of_names" = some (.ref a_is_row_of_names)
  a_are_unlike : Addr
  d_are_unlike : FuncData
  F_are_unlike : Fun K "are_unlike" "are_unlike" s_are_unlike a_are_unlike d_are_unlike
  n_are_unlike : Binds K d_are_unlike ["values"] []
  m_are_unlike : mg "are_unlike" = some (.ref a_are_unlike)
  a_is_arrow : Addr
  d_is_arrow : FuncData
  F_is_arrow : Fun K "is_arrow" "is_arrow" s_is_arrow a_is_arrow d_is_arrow
  n_is_arrow : Binds K d_is_arrow ["places", "value"] []
  m_is_arrow : mg "is_arrow" = some (.ref a_is_arrow)
  a_are_arrows : Addr
  d_are_arrows : FuncData
  F_are_arrows : Fun K "are_arrows" "are_arrows" s_are_arrows a_are_arrows d_are_arrows
  n_are_arrows : Binds K d_are_arrows ["places", "value"] []
  m_are_arrows : mg "are_arrows" = some (.ref a_are_arrows)
  a_Step___init__ : Addr
  d_Step___init__ : FuncData
  e0_Step___init__ : Addr
  v0_Step___init__ : ∀ H, SqT K H e0_Step___init__ []
  F_Step___init__ : FunD K "__init__" "Step.__init__" (defArgs s_Step___init__) (defBody s_Step___init__) (defScope s_Step___init__) [.ref e0_Step___init__] [] a_Step___init__ d_Step___init__
  n_Step___init__ : Binds K d_Step___init__ ["self", "name", "places", "arrows"] []
  nd_Step___init__ : ∃ ds, Vals [.ref e0_Step___init__] ds ∧ Binds K d_Step___init__ ["self", "name", "places", "arrows"] ds
  a_Step___eq__ : Addr
  d_Step___eq__ : FuncData
  F_Step___eq__ : Fun K "__eq__" "Step.__eq__" s_Step___eq__ a_Step___eq__ d_Step___eq__
  n_Step___eq__ : Binds K d_Step___eq__ ["self", "other"] []
  a_Step___str__ : Addr
  d_Step___str__ : FuncData
  F_Step___str__ : Fun K "__str__" "Step.__str__" s_Step___str__ a_Step___str__ d_Step___str__
  n_Step___str__ : Binds K d_Step___str__ ["self"] []
  a__law_deal : Addr
  d__law_deal : FuncData
  F__law_deal : Fun K "_law_deal" "_law_deal" s__law_deal a__law_deal d__law_deal
  n__law_deal : Binds K d__law_deal ["_law_script", "_law_base"] []
  m__law_deal : mg "_law_deal" = some (.ref a__law_deal)
  a__law_draw : Addr
  d__law_draw : FuncData
  F__law_draw : Fun K "_law_draw" "_law_draw" s__law_draw a__law_draw d__law_draw
  n__law_draw : Binds K d__law_draw ["_law_deal_here", "_law_many"] []
  m__law_draw : mg "_law_draw" = some (.ref a__law_draw)
  a__law_pick : Addr
  d__law_pick : FuncData
  F__law_pick : Fun K "_law_pick" "_law_pick" s__law_pick a__law_pick d__law_pick
  n__law_pick : Binds K d__law_pick ["_law_deal_here", "_law_some"] []
  m__law_pick : mg "_law_pick" = some (.ref a__law_pick)
  a__law_mixed : Addr
  d__law_mixed : FuncData
  F__law_mixed : Fun K "_law_mixed" "_law_mixed" s__law_mixed a__law_mixed d__law_mixed
  n__law_mixed : Binds K d__law_mixed ["_law_deal_here", "_law_some"] []
  m__law_mixed : mg "_law_mixed" = some (.ref a__law_mixed)
  a__law_spots : Addr
  d__law_spots : FuncData
  F__law_spots : Fun K "_law_spots" "_law_spots" s__law_spots a__law_spots d__law_spots
  n__law_spots : Binds K d__law_spots ["_law_deal_here", "_law_many"] []
  m__law_spots : mg "_law_spots" = some (.ref a__law_spots)
  a__law_stage : Addr
  d__law_stage : FuncData
  F__law_stage : Fun K "_law_stage" "_law_stage" s__law_stage a__law_stage d__law_stage
  n__law_stage : Binds K d__law_stage ["_law_deal_here", "_law_title", "_law_spots_here"] []
  m__law_stage : mg "_law_stage" = some (.ref a__law_stage)
  a__law_stage_text : Addr
  d__law_stage_text : FuncData
  F__law_stage_text : Fun K "_law_stage_text" "_law_stage_text" s__law_stage_text a__law_stage_text d__law_stage_text
  n__law_stage_text : Binds K d__law_stage_text ["_law_stage_here"] []
  m__law_stage_text : mg "_law_stage_text" = some (.ref a__law_stage_text)
  a_law : Addr
  d_law : FuncData
  F_law : Fun K "law" "law" s_law a_law d_law
  n_law : Binds K d_law ["_law_script"] []
  m_law : mg "law" = some (.ref a_law)
  a_InvalidStep : Addr
  m_InvalidStep : mg "InvalidStep" = some (.ref a_InvalidStep)
  a_Step : Addr
  m_Step : mg "Step" = some (.ref a_Step)
  c_Step : Cls K a_Step
  o_Step : OwnC K a_Step
  k_Step : Mk K a_Step a_Step___init__
  ne_Step : PySem.W.findIn K (.ref a_Step) "__ne__" = some (some (.builtin "object.__ne__"))
  t_Step___eq__ : Meth K a_Step "__eq__" a_Step___eq__
  t_Step___str__ : Meth K a_Step "__str__" a_Step___str__
  x_Step_name : NoAttr K a_Step "name"
  x_Step_places : NoAttr K a_Step "places"
  x_Step_arrows : NoAttr K a_Step "arrows"
  x_Step_losses : NoAttr K a_Step "losses"
  x_Step_leads : NoAttr K a_Step "leads"
section
variable {P : Program} {w : World} {K : PySem.W.Frag} {mg : Str → Option Value} {base : Heap}
/-- the source of draws: a list of a list of ints and an int -/
def DealAt (H : Hp) (d l : Addr) : Prop := ∃ (xs : List Int) (s : Int), H d = some (.lst [.ref l, .int s]) ∧ H l = some (.lst (xs.map V.int)) ∧ d ≠ l ∧ xs.length ≤ 1000
def spDraw : Sp := fun vs H Q _ => ∃ (d l : Addr) (m : Int), vs = [.ref d, .int m] ∧ DealAt H d l ∧ 0 < m ∧ m < 1073741824 ∧
  ∀ (r : Int) (H' : Hp), 0 ≤ r → r < m → DealAt H' d l → Kp d l H H' → Q (.int r) H'
theorem ok__law_draw (T : Txt K mg) : FnOk P w K mg base CX0 1 T.a__law_draw T.d__law_draw ["_law_deal_here", "_law_many"] spDraw := by
  refine T.F__law_draw.ok sc__law_draw (fun vs H Q E h => ?_) (fun cdv A outer s H vs Q E hr h => ?_)
  · obtain ⟨d, l, m, rfl, _⟩ := h
    rfl
  · obtain ⟨d, l, m, rfl, ⟨xs0, s0, hd0, hl0, hdl, hn0⟩, hm, hm2, k⟩ := h
    refine ⟨_, (Evl.pss_cut (ps_while PassesOwn.never (PW.pt (pw_and (pt_cmpR (op_neNil hr.units) (pe_ix ix_list (pv 0) pe_int (fun _ _ => rfl)) (pe_lst pa_nil) (nomark _)) (pw_and1 (pt_cmpR op_eq (pe_ix ix_list (pe_ix ix_list (pv 0) pe_int (fun _ _ => rfl)) (pe_un un_neg pe_int) (fun _ _ => rfl)) pe_int (nomark _)))))
          (pss_one (ps_expr (pe_bm0 PySem.F.plainAttrs_list PySem.F.slot_list_pop PySem.F.type_list_pop mt_pop (pe_ix ix_list (pv 0) pe_int (fun _ _ => rfl))))))
        (pss_cons (ps_if (pt_cmpR (op_neNil hr.units) (pe_ix ix_list (pv 0) pe_int (fun _ _ => rfl)) (pe_lst pa_nil) (nomark _))
          (pss_cons (ps_set (i := 2) sc__law_draw.nd rfl (Or.inl rfl) (pe_bm0 PySem.F.plainAttrs_list PySem.F.slot_list_pop PySem.F.type_list_pop mt_pop (pe_ix ix_list (pv 0) pe_int (fun _ _ => rfl))))
          (pss_cons (ps_expr (pe_bm PySem.F.plainAttrs_list PySem.F.slot_list_append PySem.F.type_list_append mt_append (pe_ix ix_list (pv 0) pe_int (fun _ _ => rfl)) (pa_cons (pe_op op_fdiv (pv 2) (pv 1)) pa_nil)))
          (pss_one (ps_ret (pe_op op_mod (pe_callTy call_int1 (by rfl) T.b_int (by decide +kernel) (pa_cons (pv 2) pa_nil)) (pv 1))))))
          pss_nil)
        (pss_cons (ps_asg (pe_op op_mod (pe_callTy call_int1 (by rfl) T.b_int (by decide +kernel) (pa_cons (pe_op op_add (pe_op op_mul (pe_ix ix_list (pv 0) pe_int (fun _ _ => rfl)) pe_int) pe_int) pa_nil)) pe_int) (pg_sub (pv 0) pe_int set_list))
        (pss_one (ps_ret (pe_op op_mod (pe_callTy call_int1 (by rfl) T.b_int (by decide +kernel) (pa_cons (pe_op op_fdiv (pe_ix ix_list (pv 0) pe_int (fun _ _ => rfl)) pe_int) pa_nil)) (pv 1))))))), ?_⟩
    refine ⟨fun σ H2 => ∃ (xs : List Int) (s : Int), σ = [some (.ref d), some (.int m), none] ∧ H2 d = some (.lst [.ref l, .int s]) ∧ H2 l = some (.lst (xs.map V.int)) ∧ xs.length ≤ 1000 ∧ Kp d l H H2, ?_, ?_⟩
    · refine ⟨fun n σ H2 => ∃ (xs : List Int) (s : Int), n = xs.length ∧ σ = [some (.ref d), some (.int m), none] ∧ H2 d = some (.lst [.ref l, .int s]) ∧ H2 l = some (.lst (xs.map V.int)) ∧ xs.length ≤ 1000 ∧ Kp d l H H2, ⟨_, xs0, s0, rfl, rfl, hd0, hl0, hn0, Kp.refl d l H⟩, ?_⟩
      rintro n σ H2 ⟨xs, s, rfl, rfl, hd, hl, hn, kp⟩
      refine ⟨_, rfl, d, _, 0, _, rfl, rfl, SqL.of hd, rfl, Nat.zero_le _, fun p hp => ?_⟩
      have e1 : ∀ {b o}, H2 b = some o → ∀ u, upd H2 p u b = some o := fun h u => by rw [upd_ne (ne_of_none h hp)]; exact h
      refine ⟨l, p, _, rfl, rfl, SqL.of (e1 hl _), SqL.of upd_same, _, rfl, ?_⟩
      rcases List.eq_nil_or_concat xs with rfl | ⟨ys, y, rfl⟩
      · refine iteF (iteF ?_)
        exact ⟨[], s, rfl, e1 hd _, e1 hl _, hn, kp.new hp⟩
      · have ee : (!(List.map V.int (ys.concat y)).isEmpty) = true := by simp
        rw [ee]
        refine iteT ?_
        have ea : List.map V.int (ys.concat y) = ys.map V.int ++ [V.int y] := by simp
        rw [ea] at hl
        refine ⟨_, rfl, d, _, 0, _, rfl, rfl, SqL.of (e1 hd _), rfl, _, rfl, l, _, -1, _, rfl, rfl, SqL.of (e1 hl _), atI_last _ _, rfl, _, rfl, ?_⟩
        refine ite2 (fun _ => ?_) (fun _ => ?_)
        · refine ⟨fun σ' H' => ∃ m', m' < (ys.concat y).length ∧ _, fun _ _ h => h, ?_⟩
          refine ⟨_, rfl, d, _, 0, _, rfl, rfl, SqL.of (e1 hd _), rfl, .inl ⟨rfl, _, SqL.of (e1 hl _)⟩, l, _, V.int y, rfl, rfl, e1 hl _, by simp, ?_⟩
          refine ⟨ys.length, by simp, ys, s, rfl, rfl, ?_, ?_, by simp at hn; omega, (kp.new hp).put (.inr rfl)⟩
          · rw [upd_ne hdl]; exact e1 hd _
          · rw [upd_same]; simp
        · exact ⟨ys.concat y, s, rfl, e1 hd _, by rw [ea]; exact e1 hl _, hn, kp.new hp⟩
    · rintro σ H2 ⟨xs, s, rfl, hd, hl, hn, kp⟩
      refine ⟨_, rfl, d, _, 0, _, rfl, rfl, SqL.of hd, rfl, Nat.zero_le _, fun p hp => ?_⟩
      have e1 : ∀ {b o}, H2 b = some o → ∀ u, upd H2 p u b = some o := fun h u => by rw [upd_ne (ne_of_none h hp)]; exact h
      refine ⟨l, p, _, rfl, rfl, SqL.of (e1 hl _), SqL.of upd_same, _, rfl, ?_⟩
      rcases List.eq_nil_or_concat xs with rfl | ⟨ys, y, rfl⟩
      · refine iteF ?_
        refine ⟨_, rfl, d, _, 1, _, rfl, rfl, SqL.of (e1 hd _), rfl, _, _, rfl, rfl, .inr ⟨by decide, by decide⟩, _, _, rfl, rfl, .inl ⟨_, rfl, _, _, rfl, rfl, (by show (0 : Int) < 2147483647; decide), ?_⟩⟩
        refine ⟨_, rfl, d, _, 1, 1, rfl, rfl, e1 hd _, rfl, ?_⟩
        refine ⟨_, rfl, d, _, 1, _, rfl, rfl, SqL.of upd_same, rfl, _, _, rfl, rfl, ⟨by decide, by decide⟩, .inl ⟨_, rfl, _, rfl, _, _, rfl, rfl, hm, ?_⟩⟩
        exact k _ _ (Int.emod_nonneg _ (by omega)) (Int.emod_lt_of_pos _ hm) ⟨[], _, upd_same, by rw [upd_ne hdl.symm]; exact e1 hl _, hdl, by simp⟩ ((kp.new hp).put (.inl rfl))
      · have ee : (!(List.map V.int (ys.concat y)).isEmpty) = true := by simp
        rw [ee]
        refine iteT ?_
        have ea : List.map V.int (ys.concat y) = ys.map V.int ++ [V.int y] := by simp
        rw [ea] at hl
        have hn' : ys.length + 1 ≤ 1000 := by simpa using hn
        refine ⟨_, rfl, d, _, 0, _, rfl, rfl, SqL.of (e1 hd _), rfl, .inl ⟨rfl, _, SqL.of (e1 hl _)⟩, l, _, V.int y, rfl, rfl, e1 hl _, by simp, ?_⟩
        have hd2 : ∀ u, upd (upd H2 p (.lst [])) l u d = some (.lst [.ref l, .int s]) := fun u => by rw [upd_ne hdl]; exact e1 hd _
        refine ⟨_, rfl, d, _, 0, _, rfl, rfl, SqL.of (hd2 _), rfl, .inl ⟨rfl, _, SqL.of upd_same⟩, _, rfl, _, rfl, _, _, rfl, rfl, ⟨hm, hm2⟩, l, _, _, rfl, rfl, upd_same, small1000 (by simp; omega), ?_⟩
        refine ⟨_, rfl, .inl ⟨_, rfl, _, rfl, _, _, rfl, rfl, hm, ?_⟩⟩
        refine k _ _ (Int.emod_nonneg _ (by omega)) (Int.emod_lt_of_pos _ hm) ⟨ys ++ [y / m], s, ?_, ?_, hdl, by simp; omega⟩ (((kp.new hp).put (.inr rfl)).put (.inr rfl))
        · rw [upd_ne hdl]; exact hd2 _
        · rw [upd_same]; simp
/-- pick: one of the items -/
def spPick (K : PySem.W.Frag) : Sp := fun vs H Q _ => ∃ (d l p : Addr) (xs : List V), vs = [.ref d, .ref p] ∧ DealAt H d l ∧ SqL K H p xs ∧ p ≠ d ∧ p ≠ l ∧ xs ≠ [] ∧ xs.length ≤ 1000 ∧
  ∀ (x : V) (H' : Hp), x ∈ xs → DealAt H' d l → Kp d l H H' → Q x H'
theorem ok__law_pick (T : Txt K mg) : FnOk P w K mg base CX0 2 T.a__law_pick T.d__law_pick ["_law_deal_here", "_law_some"] (spPick K) := by
  refine T.F__law_pick.ok sc__law_pick (fun vs H Q E h => ?_) (fun cdv A outer s H vs Q E hr h => ?_)
  · obtain ⟨d, l, p, xs, rfl, _⟩ := h
    rfl
  · obtain ⟨d, l, p, xs, rfl, D, hs, hpd, hpl, hx, hz, k⟩ := h
    refine ⟨_, (pss_one (ps_ret (pe_ix ix_list (pv 1) (pe_call (ok__law_draw T) (hr.mono (by decide)) rfl T.m__law_draw T.F__law_draw.kp T.n__law_draw .nil pass0 (pa_cons (pv 0) (pa_cons (pe_callB call_len_seq (by rfl) T.b_len (by decide +kernel) (pa_cons (pv 1) pa_nil)) pa_nil))) (fun _ _ => rfl)))), ?_⟩
    have hl : 0 < xs.length := List.length_pos_iff.mpr hx
    refine ⟨_, rfl, _, rfl, _, rfl, p, _, rfl, .inl hs, d, l, _, rfl, D, by omega, by omega, fun r H' h0 h1 D' kp => ?_⟩
    have hr' : r.toNat < xs.length := by omega
    refine ⟨p, xs, r, xs[r.toNat], rfl, rfl, kp.seq hpd hpl hs, at_of (j := r.toNat) (by omega) (by simp [hr']), ?_⟩
    exact k _ _ (List.getElem_mem hr') D' kp
/-- mixed: a new list of the same items -/
def spMixed (K : PySem.W.Frag) : Sp := fun vs H Q _ => ∃ (d l p : Addr) (xs : List V), vs = [.ref d, .ref p] ∧ DealAt H d l ∧ (SqL K H p xs ∨ SqT K H p xs) ∧ xs.length ≤ 1000 ∧
  ∀ (q : Addr) (ys : List V) (H' : Hp), ys.Perm xs → H q = none → H' q = some (.lst ys) → DealAt H' d l → Kp d l H H' → Q (.ref q) H'
theorem perm_pop {xs : List V} {k : Nat} {y : V} {zs : List V} (h : xs[k]? = some y) : ((zs ++ [y]) ++ xs.eraseIdx k).Perm (zs ++ xs) := by
  obtain ⟨hk, e⟩ := List.getElem?_eq_some_iff.mp h
  have h1 : xs = xs.take k ++ y :: xs.drop (k + 1) := by
    rw [← e, ← List.drop_eq_getElem_cons hk, List.take_append_drop]
  rw [List.eraseIdx_eq_take_drop_succ, List.append_assoc]
  refine List.Perm.append_left zs ?_
  conv => rhs; rw [h1]
  exact (show (y :: (xs.take k ++ xs.drop (k + 1))).Perm (xs.take k ++ y :: xs.drop (k + 1)) from List.perm_middle.symm)
theorem seqIndex_nat {r : Int} {n : Nat} (h0 : 0 ≤ r) (h1 : r < n) : seqIndex? r n = some r.toNat := by
  unfold seqIndex?
  simp only [show ¬ r < 0 by omega, if_false]
  simp [h0, h1]
theorem ok__law_mixed (T : Txt K mg) : FnOk P w K mg base CX0 2 T.a__law_mixed T.d__law_mixed ["_law_deal_here", "_law_some"] (spMixed K) := by
  refine T.F__law_mixed.ok sc__law_mixed (fun vs H Q E h => ?_) (fun cdv A outer s H vs Q E hr h => ?_)
  · obtain ⟨d, l, p, xs, rfl, _⟩ := h
    rfl
  · obtain ⟨d, l, p, xs, rfl, D, hs, hz, k⟩ := h
    refine ⟨_, (pss_cons (ps_par (i := 2) (j := 3) (by rfl) sc__law_mixed.nd rfl rfl (by decide) rfl rfl (pa_cons (pe_callTy call_list_of (by rfl) T.b_list (by decide +kernel) (pa_cons (pv 1) pa_nil)) (pa_cons (pe_lst pa_nil) pa_nil)) (by rfl))
        (pss_cons (ps_while PassesOwn.never (pt_cmpR (op_neNil hr.units) (pv 2) (pe_lst pa_nil) (nomark _))
          (pss_one (ps_expr (pe_bm PySem.F.plainAttrs_list PySem.F.slot_list_append PySem.F.type_list_append mt_append (pv 3) (pa_cons (pe_bm PySem.F.plainAttrs_list PySem.F.slot_list_pop PySem.F.type_list_pop mt_popAt (pv 2) (pa_cons (pe_call (ok__law_draw T) (hr.mono (by decide)) rfl T.m__law_draw T.F__law_draw.kp T.n__law_draw .nil pass0 (pa_cons (pv 0) (pa_cons (pe_callB call_len_seq (by rfl) T.b_len (by decide +kernel) (pa_cons (pv 2) pa_nil)) pa_nil))) pa_nil)) pa_nil)))))
        (pss_one (ps_ret (pv 3))))), ?_⟩
    refine ⟨_, rfl, p, xs, rfl, hs, fun a ha => ⟨Nat.zero_le _, fun b hb => ⟨_, _, rfl, ?_⟩⟩⟩
    have hba : b ≠ a := fun e => by rw [e, upd_same] at hb; cases hb
    have hb0 : H b = none := by rw [upd_ne hba] at hb; exact hb
    have D0 : DealAt (upd (upd H a (.lst xs)) b (.lst [])) d l := by
      obtain ⟨ws, s, h1, h2, h3, h4⟩ := D
      refine ⟨ws, s, ?_, ?_, h3, h4⟩
      · rw [upd_ne (ne_of_none h1 hb0), upd_ne (ne_of_none h1 ha)]; exact h1
      · rw [upd_ne (ne_of_none h2 hb0), upd_ne (ne_of_none h2 ha)]; exact h2
    obtain ⟨ws, s, w1, w2, _, _⟩ := id D
    have nad : a ≠ d := (ne_of_none w1 ha).symm
    have nal : a ≠ l := (ne_of_none w2 ha).symm
    have nbd : b ≠ d := (ne_of_none w1 hb0).symm
    have nbl : b ≠ l := (ne_of_none w2 hb0).symm
    refine ⟨fun n σ H2 => ∃ (us ys : List V), n = us.length ∧ σ = [some (.ref d), some (.ref p), some (.ref a), some (.ref b)] ∧ H2 a = some (.lst us) ∧ H2 b = some (.lst ys) ∧ (ys ++ us).Perm xs ∧ DealAt H2 d l ∧ Kp d l H H2,
      ⟨_, xs, [], rfl, rfl, by rw [upd_ne hba.symm, upd_same], upd_same, List.Perm.refl _, D0, ((Kp.refl d l H).new ha).mut hb0⟩, ?_⟩
    rintro n σ H2 ⟨us, ys, rfl, rfl, h1, h2, hp, D2, kp⟩
    have hlen : ys.length + us.length = xs.length := by rw [← hp.length_eq, List.length_append]
    refine ⟨_, rfl, Nat.zero_le _, fun c hc => ?_⟩
    have e1 : ∀ {b o}, H2 b = some o → ∀ u, upd H2 c u b = some o := fun h u => by rw [upd_ne (ne_of_none h hc)]; exact h
    have D3 : DealAt (upd H2 c (.lst [])) d l := by
      obtain ⟨ws, s, h1, h2, h3, h4⟩ := D2
      exact ⟨ws, s, e1 h1 _, e1 h2 _, h3, h4⟩
    refine ⟨a, c, us, rfl, rfl, SqL.of (e1 h1 _), SqL.of upd_same, _, rfl, ?_⟩
    cases us with
    | nil =>
      refine iteF ?_
      refine ⟨_, rfl, ?_⟩
      rw [List.append_nil] at hp
      exact k b ys _ hp hb0 (e1 h2 _) D3 (kp.new hc)
    | cons u us' =>
      refine iteT ?_
      refine ⟨fun σ' H' => ∃ m', m' < (u :: us').length ∧ _, fun _ _ h => h, ?_⟩
      refine ⟨_, rfl, .inl ⟨rfl, _, SqL.of (e1 h2 _)⟩, _, rfl, .inl ⟨rfl, _, SqL.of (e1 h1 _)⟩, _, rfl, _, rfl, a, _, rfl, .inl (SqL.of (e1 h1 _)), d, l, _, rfl, D3, ?_, ?_, fun r H' h0 h1' D' kp' => ?_⟩
      · rw [List.length_cons]; omega
      · rw [List.length_cons] at hlen ⊢; omega
      · have hr' : r.toNat < (u :: us').length := by omega
        have q1 : H' a = some (.lst (u :: us')) := kp'.stay _ _ (e1 h1 _) nad nal
        have q2 : H' b = some (.lst ys) := kp'.stay _ _ (e1 h2 _) nbd nbl
        have q3 : (u :: us')[r.toNat]? = some (u :: us')[r.toNat] := by simp [hr']
        refine ⟨a, _, r, r.toNat, _, rfl, rfl, q1, by omega, ?_, ?_, q3, ?_⟩
        · rw [List.length_cons] at h1' hlen; omega
        · exact seqIndex_nat (by omega) h1'
        refine ⟨b, ys, _, rfl, rfl, by rw [upd_ne hba]; exact q2, small1000 (by rw [List.length_cons] at hlen; omega), ?_⟩
        have kp2 : Kp d l H H' := (kp.new hc).trans kp'
        refine ⟨((u :: us').eraseIdx r.toNat).length, ?_, _, _, rfl, rfl, ?_, upd_same, (perm_pop q3).trans hp, ?_, (kp2.mut ha).mut hb0⟩
        · rw [List.length_eraseIdx_of_lt hr', List.length_cons]; omega
        · rw [upd_ne hba.symm, upd_same]
        · obtain ⟨ws, s, h1, h2, h3, h4⟩ := D'
          refine ⟨ws, s, ?_, ?_, h3, h4⟩
          · rw [upd_ne nbd.symm, upd_ne nad.symm]; exact h1
          · rw [upd_ne nbl.symm, upd_ne nal.symm]; exact h2
theorem cutV_map {ns : List Int} {lo hi : Option Int} : ∃ ms : List Int, cutV (ns.map V.int) lo hi = ms.map V.int ∧ ms.length ≤ ns.length := by
  refine ⟨_, by unfold cutV; rw [← List.map_drop, ← List.map_take], ?_⟩
  simp only [List.length_take, List.length_drop]
  omega
theorem map_int_at {ms : List Int} {i : Nat} {x : V} (h : (ms.map V.int)[i]? = some x) : ∃ z, x = V.int z ∧ ms[i]? = some z := by
  rw [List.getElem?_map] at h
  cases e : ms[i]? with
  | none => rw [e] at h; cases h
  | some z => rw [e] at h; exact ⟨z, (Option.some.inj h).symm, rfl⟩
def spDeal (K : PySem.W.Frag) : Sp := fun vs H Q _ => ∃ (a : Addr) (ns : List Int) (b : Int), vs = [.ref a, .int b] ∧ SqL K H a (ns.map V.int) ∧ ns.length ≤ 63 ∧
  ∀ (d l : Addr) (H' : Hp), H d = none → H l = none → DealAt H' d l → Same H H' → Q (.ref d) H'
theorem ok__law_deal (T : Txt K mg) : FnOk P w K mg base CX0 1 T.a__law_deal T.d__law_deal ["_law_script", "_law_base"] (spDeal K) := by
  refine T.F__law_deal.ok sc__law_deal (fun vs H Q E h => ?_) (fun cdv A outer s H vs Q E hr h => ?_)
  · obtain ⟨a, ns, b, rfl, _⟩ := h
    rfl
  · obtain ⟨a, ns, b, rfl, hs, hz, k⟩ := h
    refine ⟨_, (pss_cons (ps_set (i := 2) sc__law_deal.nd rfl (Or.inl rfl) (pe_op op_add pe_int (pe_op op_mul pe_int (pv 1))))
        (pss_cons (ps_setLc (i := 3) (own := [("_law_cell", 4)]) (g := (gName 4)) (by rfl) sc__law_deal.nd rfl rfl (sw_true rfl rfl rfl (by decide +kernel)) (pi_list (pe_slice sl_list (pv 0) (po_some (pv 1)) (po_some pe_int))) (blkOk_by (own := [("_law_cell", 4)]) (N := n__law_deal) (sc := defScope s__law_deal) (by decide +kernel)) (fun _ _ _ _ _ => (pg_name (i := 4) sc__law_deal.nd rfl (Or.inl rfl) (Or.inr rfl))) (fun _ _ _ _ _ => pts_nil) (fun _ _ _ _ _ => (pe_callB call_abs (by rfl) T.b_abs (by decide +kernel) (pa_cons (pe_callTy call_int1 (by rfl) T.b_int (by decide +kernel) (pa_cons (pv 4) pa_nil)) pa_nil))))
        (pss_cons (ps_for PassesOwn.never rfl (pi_list (pv 3)) (pg_name (i := 4) sc__law_deal.nd rfl (Or.inl rfl))
          (pss_one (ps_set (i := 2) sc__law_deal.nd rfl (Or.inl rfl) (pe_op op_mod (pe_callTy call_int1 (by rfl) T.b_int (by decide +kernel) (pa_cons (pe_op op_add (pe_op op_add (pe_op op_mul (pv 2) pe_int) (pe_op op_mod (pe_callTy call_int1 (by rfl) T.b_int (by decide +kernel) (pa_cons (pv 4) pa_nil)) pe_int)) pe_int) pa_nil)) pe_int))))
        (pss_one (ps_ret (pe_lst (pa_cons (pe_revG (pe_lc (own := [("_law_cell", 4)]) (g := (gName 4)) (by rfl) sc__law_deal.nd (pi_list (pv 3)) (blkOk_by (own := [("_law_cell", 4)]) (N := n__law_deal) (sc := defScope s__law_deal) (by decide +kernel)) (fun _ _ _ _ _ => (pg_name (i := 4) sc__law_deal.nd rfl (Or.inl rfl) (Or.inr rfl))) (fun _ _ _ _ _ => (pts_one (pt_cmpR op_ge (pv 4) (pe_op op_pow pe_int pe_int) (nomark _)))) (fun _ _ _ _ _ => (pv 4))) (pe_op op_sub pe_int pe_int)) (pa_cons (pv 2) pa_nil)))))))), ?_⟩
    refine ⟨_, rfl, _, _, rfl, rfl, .inl ⟨by decide, by decide⟩, _, _, rfl, rfl, ?_⟩
    obtain ⟨ms, em, hm⟩ := @cutV_map ns (some b) (some 60)
    refine ⟨_, rfl, _, rfl, b, rfl, 60, rfl, a, _, rfl, hs, fun p hp => ⟨p, rfl, ⟨_, SqL.of upd_same⟩, fun D hD => ?_⟩⟩
    rw [em] at hD ⊢
    have hpD : p ≠ D := fun e => by rw [← e, upd_same] at hD; cases hD
    have hD0 : H D = none := by rw [upd_ne hpD.symm] at hD; exact hD
    refine lc_list (K := K) (a := p) (xs := ms.map V.int) (fun i H2 => ∃ acc : List Int, acc.length = i ∧ H2 D = some (.lst (acc.map V.int)) ∧ H2 p = some (.lst (ms.map V.int)) ∧ Same H H2)
      ⟨[], rfl, upd_same, by rw [upd_ne hpD, upd_same], Same.mut (same_new hp) hD0⟩ (fun i H2 _ ⟨_, _, _, h, _⟩ => SqL.of h) ?_ ?_
    · rintro i x H2 hx ⟨acc, rfl, h1, h2, sm⟩
      obtain ⟨z, rfl, hz'⟩ := map_int_at hx
      have hi : acc.length < ms.length := (List.getElem?_eq_some_iff.mp hz').1
      refine ⟨rfl, ?_⟩
      refine ⟨_, rfl, .inl ⟨_, rfl, _, rfl, _, h1, small1000 (by simp; omega), ?_⟩⟩
      refine ⟨acc ++ [if z < 0 then -z else z], by simp, ?_, by rw [upd_ne hpD]; exact h2, Same.mut sm hD0⟩
      rw [upd_same, List.map_append]
      rfl
    · rintro H2 ⟨acc, hacc, h1, h2, sm⟩
      rw [List.length_map] at hacc
      refine ⟨_, rfl, D, rfl, ⟨_, SqL.of h1⟩, ?_⟩
      refine for_list (K := K) (a := D) (xs := acc.map V.int) (fun i σ H3 => ∃ (z : Int) (c : Option V), H3 = H2 ∧ σ = [some (.ref a), some (.int b), some (.int z), some (.ref D), c]) ⟨_, _, rfl, rfl⟩ (fun i σ H3 _ ⟨_, _, e, _⟩ => by rw [e]; exact SqL.of h1) ?_ ?_
      · rintro i x σ H3 hx ⟨z, c, rfl, rfl⟩
        obtain ⟨y, rfl, _⟩ := map_int_at hx
        refine ⟨_, rfl, _, _, rfl, rfl, .inr ⟨by decide, by decide⟩, _, rfl, .inl ⟨_, rfl, _, _, rfl, rfl, (by show (0 : Int) < 2147483497; decide), _, _, rfl, rfl, _, _, rfl, rfl, .inl ⟨_, rfl, _, _, rfl, rfl, (by show (0 : Int) < 2147483647; decide), ?_⟩⟩⟩
        exact ⟨_, _, rfl, rfl⟩
      · rintro σ H3 ⟨z, c, rfl, rfl⟩
        refine ⟨_, rfl, D, rfl, ⟨_, SqL.of h1⟩, fun G hG => ?_⟩
        have hGD : G ≠ D := fun e => by rw [e, h1] at hG; cases hG
        have hG0 : H G = none := sm.free hG
        refine lc_list (K := K) (a := D) (xs := acc.map V.int) (fun i H4 => ∃ bs : List Int, bs.length ≤ i ∧ H4 G = some (.lst (bs.map V.int)) ∧ H4 D = some (.lst (acc.map V.int)) ∧ Same H H4)
          ⟨[], Nat.le_refl _, upd_same, by rw [upd_ne hGD.symm]; exact h1, Same.mut sm hG0⟩ (fun i H4 _ ⟨_, _, _, h, _⟩ => SqL.of h) ?_ ?_
        · rintro i x H4 hx ⟨bs, hb, g1, g2, sm4⟩
          obtain ⟨y, rfl, hy⟩ := map_int_at hx
          have hi : i < acc.length := (List.getElem?_eq_some_iff.mp hy).1
          refine ⟨rfl, ?_⟩
          refine ⟨_, rfl, _, _, rfl, rfl, ⟨by decide, by decide, by decide⟩, _, _, rfl, rfl, _, rfl, ?_⟩
          refine ite2 (fun _ => ?_) (fun _ => ?_)
          · refine ⟨_, rfl, _, g1, small1000 (by simp; omega), bs ++ [y], by simp; omega, ?_, by rw [upd_ne hGD.symm]; exact g2, Same.mut sm4 hG0⟩
            rw [upd_same, List.map_append]
            rfl
          · exact ⟨bs, by omega, g1, g2, sm4⟩
        · rintro H4 ⟨bs, hb, g1, g2, sm4⟩
          rw [List.length_map] at hb
          refine ⟨_, _, rfl, rfl, _, rfl, rfl, G, _, rfl, SqL.of g1, fun l hl => ?_⟩
          refine ⟨_, rfl, (by show 2 ≤ sizeLine; decide), fun d hd => ?_⟩
          have hld : l ≠ d := fun e => by rw [← e, upd_same] at hd; cases hd
          have hl0 : H l = none := sm4.free hl
          have hd0 : H d = none := by rw [upd_ne hld.symm] at hd; exact sm4.free hd
          refine k d l _ hd0 hl0 ⟨bs.reverse, z, upd_same, ?_, hld.symm, by simp; omega⟩ (Same.mut (Same.mut sm4 hl0) hd0)
          rw [upd_ne hld, upd_same, List.map_reverse]
/-! ### words -/
def spIsInt (K : PySem.W.Frag) : Sp := fun vs H Q _ => ∃ v k, vs = [v] ∧ Any K H v k ∧ Q (.bl (k.isInt && !k.isBool)) H
theorem ok_is_integer (T : Txt K mg) : FnOk P w K mg base CX0 1 T.a_is_integer T.d_is_integer ["value"] (spIsInt K) := by
  refine T.F_is_integer.ok sc_is_integer (fun vs H Q E h => ?_) (fun cdv A outer s H vs Q E hr h => ?_)
  · obtain ⟨v, k, rfl, _⟩ := h
    rfl
  · obtain ⟨v, k, rfl, hv, q⟩ := h
    refine ⟨_, (pss_one (ps_ret (pe_and (pe_callB call_isi (by rfl) T.b_isinstance (by decide +kernel) (pa_cons (pv 0) (pa_cons (pe_bltn (v := .ty "int") rfl T.b_int (by decide +kernel) rfl) pa_nil))) (pe_one (pe_not (pe_callB call_isi (by rfl) T.b_isinstance (by decide +kernel) (pa_cons (pv 0) (pa_cons (pe_bltn (v := .ty "bool") rfl T.b_bool (by decide +kernel) rfl) pa_nil)))))))), ?_⟩
    refine ⟨_, rfl, _, _, _, _, _, rfl, .ty _, hv.ty, hv.kInt, _, rfl, ?_⟩
    cases e : k.isInt with
    | false =>
      rw [e] at q
      exact iteF q
    | true =>
      rw [e] at q
      exact iteT ⟨_, rfl, _, _, _, _, _, rfl, .ty _, hv.ty, hv.kBool, _, rfl, q⟩
def numV : V → Bool
  | .int i => decide (0 ≤ i)
  | _ => false
def spIsNum (K : PySem.W.Frag) : Sp := fun vs H Q _ => ∃ v k, vs = [v] ∧ Any K H v k ∧ Q (.bl (numV v)) H
theorem ok_is_number (T : Txt K mg) : FnOk P w K mg base CX0 2 T.a_is_number T.d_is_number ["value"] (spIsNum K) := by
  refine T.F_is_number.ok sc_is_number (fun vs H Q E h => ?_) (fun cdv A outer s H vs Q E hr h => ?_)
  · obtain ⟨v, k, rfl, _⟩ := h
    rfl
  · obtain ⟨v, k, rfl, hv, q⟩ := h
    refine ⟨_, (pss_one (ps_ret (pe_and (pe_call (ok_is_integer T) (hr.mono (by decide)) rfl T.m_is_integer T.F_is_integer.kp T.n_is_integer .nil pass0 (pa_cons (pv 0) pa_nil)) (pe_one (pe_cmpR op_ge (pv 0) pe_int (nomark _)))))), ?_⟩
    refine ⟨_, rfl, v, k, rfl, hv, _, rfl, ?_⟩
    cases hv with
    | int i => exact iteT ⟨_, rfl, _, _, rfl, rfl, q⟩
    | _ => exact iteF q
def spIsSeq (K : PySem.W.Frag) : Sp := fun vs H Q _ => ∃ v k, vs = [v] ∧ Any K H v k ∧ ∀ H', Same H H' → Q (.bl (k.isLst || k.isTup)) H'
theorem ok_is_sequence (T : Txt K mg) : FnOk P w K mg base CX0 1 T.a_is_sequence T.d_is_sequence ["value"] (spIsSeq K) := by
  refine T.F_is_sequence.ok sc_is_sequence (fun vs H Q E h => ?_) (fun cdv A outer s H vs Q E hr h => ?_)
  · obtain ⟨v, k, rfl, _⟩ := h
    rfl
  · obtain ⟨v, k, rfl, hv, q⟩ := h
    refine ⟨_, (pss_one (ps_ret (pe_callB call_isiT (by rfl) T.b_isinstance (by decide +kernel) (pa_cons (pv 0) (pa_cons (pe_tup (pa_cons (pe_bltn (v := .ty "list") rfl T.b_list (by decide +kernel) rfl) (pa_cons (pe_bltn (v := .ty "tuple") rfl T.b_tuple (by decide +kernel) rfl) pa_nil))) pa_nil))))), ?_⟩
    refine ⟨_, rfl, (by show 2 ≤ sizeLine; decide), fun p hp => ?_⟩
    have sm := same_new (o := .tup [.ty "list", .ty "tuple"]) hp
    exact ⟨_, p, _, _, _, _, rfl, upd_same, .cons (.ty _) (.cons (.ty _) .nil), (hv.same sm).ty, hv.kSeq, q _ sm⟩
def resv : List V := [.str "at", .str "go", .str "ahead", .str "trace", .str "limit", .str "work"]
def abc : Str := "abcdefghijklmnopqrstuvwxyz"
def isName (x : Str) : Bool := (decide ((1 : Int) ≤ x.length) && decide ((x.length : Int) ≤ 6)) && !inV (.str x) resv && x.cps.toList.all fun c => decide (c ∈ abc.cps.toList)
def nameV : V → Bool
  | .str x => isName x
  | _ => false
def spIsName (K : PySem.W.Frag) : Sp := fun vs H Q _ => ∃ v k, vs = [v] ∧ Any K H v k ∧ (∀ x, v = .str x → x.length ≤ 100000) ∧ ∀ H', Same H H' → Q (.bl (nameV v)) H'
theorem ok_is_name (T : Txt K mg) : FnOk P w K mg base CX0 1 T.a_is_name T.d_is_name ["value"] (spIsName K) := by
  refine T.F_is_name.ok sc_is_name (fun vs H Q E h => ?_) (fun cdv A outer s H vs Q E hr h => ?_)
  · obtain ⟨v, k, rfl, _⟩ := h
    rfl
  · obtain ⟨v, k, rfl, hv, hz, q⟩ := h
    refine ⟨_, (pss_cons (ps_if (PW.pt (pw_or (pt_not (pt_val (pe_callB call_isi (by rfl) T.b_isinstance (by decide +kernel) (pa_cons (pv 0) (pa_cons (pe_bltn (v := .ty "str") rfl T.b_str (by decide +kernel) rfl) pa_nil))))) (pw_or (pt_not (pt_chain op_le op_le pe_int (pe_callB call_len_str (by rfl) T.b_len (by decide +kernel) (pa_cons (pv 0) pa_nil)) pe_int)) (pw_or1 (pt_cmpR op_in_seq (pv 0) (pe_glob (v := .ref T.a_RESERVED) rfl T.m_RESERVED rfl) (by rfl))))))
          (pss_one (ps_ret pe_bl))
          pss_nil)
        (pss_one (ps_ret (pe_callB (cr_all rfl) (by rfl) T.b_all (by decide +kernel) (pa_cons (pe_lc (own := [("sign", 1)]) (g := (gName 1)) (by rfl) sc_is_name.nd (pi_str (pv 0)) (blkOk_by (own := [("sign", 1)]) (N := n_is_name) (sc := defScope s_is_name) (by decide +kernel)) (fun _ _ _ _ _ => (pg_name (i := 1) sc_is_name.nd rfl (Or.inl rfl) (Or.inr rfl))) (fun _ _ _ _ _ => pts_nil) (fun _ _ _ _ _ => (pe_cmpR op_in_sign (pv 1) (pe_glob (v := .str "abcdefghijklmnopqrstuvwxyz") rfl T.m_LETTERS ⟨_, rfl⟩) (by rfl)))) pa_nil))))), ?_⟩
    refine ⟨_, rfl, _, _, _, _, _, rfl, .ty _, hv.ty, hv.kStr, _, rfl, ?_⟩
    cases hv with
    | str x =>
      have hx : x.length ≤ sizeLine := Nat.le_trans (hz x rfl) (by decide)
      have q' : ∀ H', Same H H' → Q (.bl (isName x)) H' := q
      refine iteF ⟨_, rfl, x, rfl, hx, _, _, rfl, rfl, _, rfl, ?_⟩
      refine ite2 (fun h1 => ?_) (fun h1 => ?_)
      · refine ⟨_, _, rfl, rfl, _, rfl, ?_⟩
        cases h2 : decide ((x.length : Int) ≤ 6) with
        | false =>
          have e : isName x = false := by unfold isName; rw [h2]; simp
          rw [e] at q'
          exact iteT (iteT (q' _ (Same.refl H)))
        | true =>
          refine iteF ⟨_, rfl, T.a_RESERVED, _, rfl, .inr (T.v_RESERVED H), rfl, rfl, _, rfl, ?_⟩
          cases h3 : inV (.str x) resv with
          | true =>
            have e : isName x = false := by unfold isName; rw [h3]; simp
            rw [e] at q'
            rw [show (if false = true then !inV (V.str x) [V.str "at", V.str "go", V.str "ahead", V.str "trace", V.str "limit", V.str "work"] else inV (V.str x) [V.str "at", V.str "go", V.str "ahead", V.str "trace", V.str "limit", V.str "work"]) = true from h3]
            exact iteT (q' _ (Same.refl H))
          | false =>
            rw [show (if false = true then !inV (V.str x) [V.str "at", V.str "go", V.str "ahead", V.str "trace", V.str "limit", V.str "work"] else inV (V.str x) [V.str "at", V.str "go", V.str "ahead", V.str "trace", V.str "limit", V.str "work"]) = false from h3]
            refine iteF ⟨_, rfl, x, rfl, fun D hD => ?_⟩
            refine lc_it walk_str (fun i H2 => ∃ bs : List Bool, bs = (x.cps.toList.take i).map (fun c => decide (c ∈ abc.cps.toList)) ∧ H2 D = some (.lst (bs.map V.bl)) ∧ Same H H2) ⟨[], rfl, upd_same, same_new hD⟩ (fun _ _ _ _ => True.intro) ?_ ?_
            · rintro i v H2 H3 hi ⟨bs, rfl, hb, sm⟩ ⟨rfl, c, hc, rfl⟩
              refine ⟨rfl, ?_⟩
              refine ⟨_, rfl, c, _, rfl, rfl, _, hb, ?_, _, rfl, ?_, Same.mut sm hD⟩
              · have h6 : x.length ≤ 6 := by have := of_decide_eq_true h2; omega
                have hl : x.length = x.cps.toList.length := by simp [Str.length]
                refine Nat.lt_of_le_of_lt ?_ (show 6 < sizeLine by decide)
                simp only [List.length_map, List.length_take]
                omega
              · have hi' : x.cps.toList[i]? = some c := by simpa using hc
                rw [upd_same, List.take_succ, hi', List.map_append, List.map_append]
                rfl
            · rintro H2 ⟨bs, rfl, hb, sm⟩
              refine ⟨D, _, rfl, SqL.of hb, ?_⟩
              have e : isName x = (((x.cps.toList.take x.cps.size).map (fun c => decide (c ∈ abc.cps.toList))).all id) := by
                unfold isName
                rw [show decide ((1 : Int) ≤ x.length) = true from h1, h2, h3]
                rw [show x.cps.size = x.cps.toList.length by simp, List.take_length, List.all_map]
                rfl
              rw [← e]
              exact q' _ sm
      · have e : isName x = false := by
          unfold isName
          rw [show decide ((1 : Int) ≤ x.length) = false from by simpa using h1]
          simp
        rw [e] at q'
        exact ⟨_, rfl, iteT (iteT (q' _ (Same.refl H)))⟩
    | _ => exact iteT (iteT (q _ (Same.refl H)))
/-- an argument of any kind, its texts not too long -/
def Arg (K : PySem.W.Frag) (H : Hp) (v : V) : Prop := ∃ k, Any K H v k ∧ ∀ x, v = .str x → x.length ≤ 100000
theorem Arg.same {H H' : Hp} {v : V} (h : Arg K H v) (s : Same H H') : Arg K H' v := by
  obtain ⟨k, a, b⟩ := h
  exact ⟨k, a.same s, b⟩
theorem arg_str {H : Hp} {x : Str} (h : x.length ≤ 100000) : Arg K H (.str x) := ⟨.str, .str x, fun y e => by cases e; exact h⟩
def spRow (K : PySem.W.Frag) : Sp := fun vs H Q _ => (∃ v k, vs = [v] ∧ Any K H v k ∧ (k.isLst || k.isTup) = false ∧ ∀ H', Same H H' → Q (.bl false) H') ∨
  ∃ a xs, vs = [.ref a] ∧ (SqL K H a xs ∨ SqT K H a xs) ∧ xs.length ≤ 1000 ∧ (∀ x ∈ xs, Arg K H x) ∧ ∀ H', Same H H' → Q (.bl (xs.all nameV)) H'
theorem any_seq {H : Hp} {a : Addr} {xs : List V} (h : SqL K H a xs ∨ SqT K H a xs) : ∃ k, Any K H (.ref a) k ∧ (k.isLst || k.isTup) = true := by
  rcases h with h | h
  · exact ⟨.lst, .lst h, rfl⟩
  · exact ⟨.tup, .tup h, rfl⟩
theorem Same.sq {H H' : Hp} {a : Addr} {xs : List V} (s : Same H H') (h : SqL K H a xs ∨ SqT K H a xs) : SqL K H' a xs ∨ SqT K H' a xs := h.imp s.seq (Same.tup s)
theorem ok_is_row_of_names (T : Txt K mg) : FnOk P w K mg base CX0 2 T.a_is_row_of_names T.d_is_row_of_names ["value"] (spRow K) := by
  refine T.F_is_row_of_names.ok sc_is_row_of_names (fun vs H Q E h => ?_) (fun cdv A outer s H vs Q E hr h => ?_)
  · rcases h with ⟨v, k, rfl, _⟩ | ⟨a, xs, rfl, _⟩ <;> rfl
  · skip
    refine ⟨_, (pss_one (ps_ret (pe_and (pe_call (ok_is_sequence T) (hr.mono (by decide)) rfl T.m_is_sequence T.F_is_sequence.kp T.n_is_sequence .nil pass0 (pa_cons (pv 0) pa_nil)) (pe_one (pe_callB (cr_all rfl) (by rfl) T.b_all (by decide +kernel) (pa_cons (pe_lc (own := [("one", 1)]) (g := (gName 1)) (by rfl) sc_is_row_of_names.nd (pi_seq (pv 0)) (blkOk_by (own := [("one", 1)]) (N := n_is_row_of_names) (sc := defScope s_is_row_of_names) (by decide +kernel)) (fun _ _ _ _ _ => (pg_name (i := 1) sc_is_row_of_names.nd rfl (Or.inl rfl) (Or.inr rfl))) (fun _ _ _ _ _ => pts_nil) (fun _ _ _ _ _ => (pe_call (ok_is_name T) (hr.mono (by decide)) rfl T.m_is_name T.F_is_name.kp T.n_is_name .nil pass0 (pa_cons (pv 1) pa_nil)))) pa_nil)))))), ?_⟩
    rcases h with ⟨v, k, rfl, hv, hk, q⟩ | ⟨a, xs, rfl, hs, hz, hx, q⟩
    · refine ⟨_, rfl, v, k, rfl, hv, fun H' sm => ⟨_, rfl, ?_⟩⟩
      rw [hk]
      exact iteF (q H' sm)
    · obtain ⟨k, hv, hk⟩ := any_seq hs
      refine ⟨_, rfl, _, k, rfl, hv, fun H' sm => ⟨_, rfl, ?_⟩⟩
      rw [hk]
      refine iteT ?_
      refine o_cb ?_
      refine tLc_map (xs := xs) (sw_seq (a := a) (fun R h => ⟨_, rfl, h⟩) (Same.sq sm hs)) hz (fun x => .bl (nameV x)) (fun x H1 R s1 hm kR => ?_) (fun D H2 _ s2 h2 => ?_)
      · obtain ⟨k, a1, a2⟩ := (hx x hm).same (sm.trans s1)
        exact ⟨rfl, _, rfl, x, k, rfl, a1, a2, kR⟩
      · refine ⟨D, xs.map nameV, rfl, SqL.of (by rw [h2, List.map_map]; rfl), ?_⟩
        rw [List.all_map]
        exact q H2 (sm.trans s2)
/-- are_unlike of names, of pairs of names -/
def spUnlike (K : PySem.W.Frag) : Sp := fun vs H Q _ => (∃ a ks, vs = [.ref a] ∧ (SqL K H a (List.map kV ks) ∨ SqT K H a (ks.map kV)) ∧ ks.length ≤ 1000 ∧ ∀ H', Same H H' → Q (.bl (decide ks.Nodup)) H') ∨
  ∃ (a : Addr) (ts : List (Addr × List Key)), vs = [.ref a] ∧ (SqL K H a (ts.map fun t => V.ref t.1) ∨ SqT K H a (ts.map fun t => V.ref t.1)) ∧ ts.length ≤ 1000 ∧ (∀ t ∈ ts, H t.1 = some (.tup (t.2.map kV))) ∧ ∀ H', Same H H' → Q (.bl (decide (ts.map (·.2)).Nodup)) H'
theorem dec_len {m n : Nat} {P : Prop} [Decidable P] (h : m = n ↔ P) : decide (V.int (m : Int) = V.int (n : Int)) = decide P := by
  rw [decide_eq_decide, ← h]
  constructor
  · intro e
    have := V.int.inj e
    omega
  · intro e
    rw [e]
theorem ok_are_unlike (T : Txt K mg) : FnOk P w K mg base CX0 1 T.a_are_unlike T.d_are_unlike ["values"] (spUnlike K) := by
  refine T.F_are_unlike.ok sc_are_unlike (fun vs H Q E h => ?_) (fun cdv A outer s H vs Q E hr h => ?_)
  · rcases h with ⟨a, ks, rfl, _⟩ | ⟨a, ts, rfl, _⟩ <;> rfl
  · have hu := hu_of hr
    refine ⟨_, (pss_one (ps_ret (pe_cmpR op_eq (pe_callB call_lenKT (by rfl) T.b_len (by decide +kernel) (pa_cons (pe_dcP hu (own := [("value", 1)]) (g := (gName 1)) (by rfl) sc_are_unlike.nd (pi_seq (pv 0)) (blkOk_by (own := [("value", 1)]) (N := n_are_unlike) (sc := defScope s_are_unlike) (by decide +kernel)) (fun _ _ _ _ _ => (pg_name (i := 1) sc_are_unlike.nd rfl (Or.inl rfl) (Or.inr rfl))) (fun _ _ _ _ _ => pts_nil) (fun _ _ _ _ _ => (pv 1)) (fun _ _ _ _ _ => pe_bl)) pa_nil)) (pe_callB call_len_seq (by rfl) T.b_len (by decide +kernel) (pa_cons (pv 0) pa_nil)) (nomark _)))), ?_⟩
    rcases h with ⟨a, ks, rfl, hs, hz, q⟩ | ⟨a, ts, rfl, hs, hz, ht, q⟩
    · refine sw_seq (a := a) (xs := ks.map kV) (fun R h => ⟨_, rfl, h⟩) hs _ fun J wk D hD => ?_
      refine ⟨.dK [], .inl rfl, ?_⟩
      refine dcP_it wk (fun i H2 => H2 D = some (.dK (keyed (.bl true) (ks.take i))) ∧ Same H H2) ⟨upd_same, same_new hD⟩ (fun _ _ _ h => h.2) ?_ ?_
      · rintro i x H1 H1' hi ⟨h1, sm⟩ ⟨rfl, hx⟩
        rw [List.getElem?_map] at hx
        cases e : ks[i]? with
        | none => rw [e] at hx; cases hx
        | some k =>
          rw [e] at hx
          have hx : kV k = x := Option.some.inj hx
          subst hx
          refine ⟨rfl, ?_⟩
          have hl := keyed_le (.bl true) (ks.take i)
          rw [List.length_take] at hl
          refine ⟨_, rfl, _, DPut.k h1 (small1000 (by omega)), ?_, Same.mut sm hD⟩
          rw [upd_same, List.take_succ, e]
          exact congrArg (fun l => some (HO.dK l)) (keyed_snoc _ _ _).symm
      · rintro H2 ⟨h1, sm⟩
        rw [List.length_map, List.take_length] at h1
        refine .inl ⟨D, _, rfl, h1, _, rfl, a, _, rfl, Same.sq sm hs, rfl, ?_⟩
        rw [List.length_map, dec_len (keyed_len _ ks)]
        exact q H2 sm
    · refine sw_seq (a := a) (xs := ts.map fun t => V.ref t.1) (fun R h => ⟨_, rfl, h⟩) hs _ fun J wk D hD => ?_
      refine ⟨.dT [], .inr rfl, ?_⟩
      refine dcP_it wk (fun i H2 => H2 D = some (.dT (keyed (.bl true) ((ts.take i).map (·.2)))) ∧ Same H H2) ⟨upd_same, same_new hD⟩ (fun _ _ _ h => h.2) ?_ ?_
      · rintro i x H1 H1' hi ⟨h1, sm⟩ ⟨rfl, hx⟩
        rw [List.getElem?_map] at hx
        cases e : ts[i]? with
        | none => rw [e] at hx; cases hx
        | some t =>
          rw [e] at hx
          have hx : V.ref t.1 = x := Option.some.inj hx
          subst hx
          refine ⟨rfl, ?_⟩
          have hl := keyed_le (.bl true) ((ts.take i).map (·.2))
          rw [List.length_map, List.length_take] at hl
          refine ⟨_, rfl, _, DPut.t h1 (sm _ _ (ht t (List.mem_of_getElem? e))) (small1000 (by omega)), ?_, Same.mut sm hD⟩
          rw [upd_same, List.take_succ, e, List.map_append]
          exact congrArg (fun l => some (HO.dT l)) (keyed_snoc _ _ _).symm
      · rintro H2 ⟨h1, sm⟩
        rw [List.length_map, List.take_length] at h1
        refine .inr ⟨D, _, rfl, h1, _, rfl, a, _, rfl, Same.sq sm hs, rfl, ?_⟩
        have hl : (ts.map fun t => V.ref t.1).length = (ts.map (·.2)).length := by simp
        rw [hl, dec_len (keyed_len _ _)]
        exact q H2 sm
/-! ### arrows -/
def arrowL (ps : List Str) (xs : List V) : Bool := match xs with
  | [x, y, z] => nameV x && nameV y && (inV x (ps.map V.str) && inV y (ps.map V.str) && numV z)
  | _ => false
theorem flat_strs (ps : List Str) : (ps.map V.str).all flatV = true := by simp [flatV]
theorem nameV_str {x : V} (h : nameV x = true) : ∃ s, x = .str s := by
  cases x with
  | str s => exact ⟨s, rfl⟩
  | _ => cases h
def spArrow (K : PySem.W.Frag) : Sp := fun vs H Q _ => (∃ a v k, vs = [.ref a, v] ∧ Any K H v k ∧ k.isTup = false ∧ ∀ H', Same H H' → Q (.bl false) H') ∨
  ∃ (a b : Addr) (ps : List Str) (xs : List V), vs = [.ref a, .ref b] ∧ (SqL K H a (ps.map V.str) ∨ SqT K H a (ps.map V.str)) ∧ SqT K H b xs ∧ (∀ x ∈ xs, Arg K H x) ∧ ∀ H', Same H H' → Q (.bl (arrowL ps xs)) H'
theorem ok_is_arrow (T : Txt K mg) : FnOk P w K mg base CX0 3 T.a_is_arrow T.d_is_arrow ["places", "value"] (spArrow K) := by
  refine T.F_is_arrow.ok sc_is_arrow (fun vs H Q E h => ?_) (fun cdv A outer s H vs Q E hr h => ?_)
  · rcases h with ⟨a, v, k, rfl, _⟩ | ⟨a, b, ps, xs, rfl, _⟩ <;> rfl
  · skip
    refine ⟨_, (pss_cons (ps_if (PW.pt (pw_or (pt_not (pt_val (pe_callB call_isi (by rfl) T.b_isinstance (by decide +kernel) (pa_cons (pv 1) (pa_cons (pe_bltn (v := .ty "tuple") rfl T.b_tuple (by decide +kernel) rfl) pa_nil))))) (pw_or (pt_cmpR op_ne (pe_callB call_len_seq (by rfl) T.b_len (by decide +kernel) (pa_cons (pv 1) pa_nil)) pe_int (nomark _)) (pw_or (pt_not (pt_val (pe_call (ok_is_name T) (hr.mono (by decide)) rfl T.m_is_name T.F_is_name.kp T.n_is_name .nil pass0 (pa_cons (pe_ix ix_tup (pv 1) pe_int (fun _ _ => rfl)) pa_nil)))) (pw_or1 (pt_not (pt_val (pe_call (ok_is_name T) (hr.mono (by decide)) rfl T.m_is_name T.F_is_name.kp T.n_is_name .nil pass0 (pa_cons (pe_ix ix_tup (pv 1) pe_int (fun _ _ => rfl)) pa_nil)))))))))
          (pss_one (ps_ret pe_bl))
          pss_nil)
        (pss_one (ps_ret (pe_and (pe_cmpR op_in_seq (pe_ix ix_tup (pv 1) pe_int (fun _ _ => rfl)) (pv 0) (by rfl)) (pe_and (pe_cmpR op_in_seq (pe_ix ix_tup (pv 1) pe_int (fun _ _ => rfl)) (pv 0) (by rfl)) (pe_one (pe_call (ok_is_number T) (hr.mono (by decide)) rfl T.m_is_number T.F_is_number.kp T.n_is_number .nil pass0 (pa_cons (pe_ix ix_tup (pv 1) pe_int (fun _ _ => rfl)) pa_nil)))))))), ?_⟩
    rcases h with ⟨a, v, k, rfl, hv, hk, q⟩ | ⟨a, b, ps, xs, rfl, hs, hx, he, q⟩
    · refine ⟨_, rfl, _, _, _, _, _, rfl, .ty _, hv.ty, hv.kTup, _, rfl, ?_⟩
      rw [hk]
      exact iteT (iteT (q _ (Same.refl H)))
    · have hv : Any K H (.ref b) .tup := .tup hx
      refine ⟨_, rfl, _, _, _, _, _, rfl, .ty _, hv.ty, hv.kTup, _, rfl, iteF ?_⟩
      refine ⟨_, rfl, b, xs, rfl, .inr hx, rfl, _, rfl, ?_⟩
      by_cases h3 : xs.length = 3
      · rw [decide_eq_true (show V.int (xs.length : Int) = V.int 3 by rw [h3]; rfl)]
        refine iteF ?_
        match xs, h3, hx, he, q with
        | [x, y, z], _, hx, he, q =>
          obtain ⟨kx, ax, bx⟩ := he x (by simp)
          refine ⟨_, rfl, b, _, 0, _, rfl, rfl, hx, rfl, x, kx, rfl, ax, bx, fun H1 s1 => ⟨_, rfl, ?_⟩⟩
          cases nx : nameV x with
          | false => exact iteT (iteT (by have := q H1 s1; simp only [arrowL, nx, Bool.false_and] at this; exact this))
          | true =>
            refine iteF ?_
            obtain ⟨ky, ay, by_⟩ := (he y (by simp)).same s1
            refine ⟨_, rfl, b, _, 1, _, rfl, rfl, Same.tup s1 hx, rfl, y, ky, rfl, ay, by_, fun H2 s2 => ⟨_, rfl, ?_⟩⟩
            have s12 := s1.trans s2
            cases ny : nameV y with
            | false => exact iteT (by have := q H2 s12; simp only [arrowL, nx, ny, Bool.false_and, Bool.and_false] at this; exact this)
            | true =>
              refine iteF ?_
              obtain ⟨sx, rfl⟩ := nameV_str nx
              obtain ⟨sy, rfl⟩ := nameV_str ny
              have q2 := q H2 s12
              simp only [arrowL, nx, ny, Bool.true_and] at q2
              refine ⟨_, rfl, b, _, 0, _, rfl, rfl, Same.tup s12 hx, rfl, _, rfl, a, _, rfl, Same.sq s12 hs, rfl, flat_strs ps, _, rfl, ?_⟩
              cases ix : inV (.str sx) (ps.map V.str) with
              | false => exact iteF (by simpa only [ix, Bool.false_and] using q2)
              | true =>
                refine iteT ?_
                refine ⟨_, rfl, b, _, 1, _, rfl, rfl, Same.tup s12 hx, rfl, _, rfl, a, _, rfl, Same.sq s12 hs, rfl, flat_strs ps, _, rfl, ?_⟩
                cases iy : inV (.str sy) (ps.map V.str) with
                | false => exact iteF (by simpa only [ix, iy, Bool.and_false, Bool.false_and] using q2)
                | true =>
                  refine iteT ?_
                  obtain ⟨kz, az, _⟩ := (he z (by simp)).same s12
                  refine ⟨_, rfl, b, _, 2, _, rfl, rfl, Same.tup s12 hx, rfl, z, kz, rfl, az, ?_⟩
                  simpa only [ix, iy, Bool.true_and] using q2
      · rw [decide_eq_false (show ¬ V.int (xs.length : Int) = V.int 3 from fun e => h3 (by have := V.int.inj e; omega))]
        refine iteT (iteT ?_)
        have e : arrowL ps xs = false := by
          unfold arrowL
          split
          · exact absurd rfl h3
          · rfl
        have q2 := q H (Same.refl H)
        rw [e] at q2
        exact q2
/-- an item: a value, and what it holds if it is a tuple -/
abbrev El := V × Option (List V)
def ElAt (K : PySem.W.Frag) (H : Hp) (e : El) : Prop := match e.2 with
  | none => ∃ k, Any K H e.1 k ∧ k.isTup = false
  | some xs => ∃ a, e.1 = .ref a ∧ SqT K H a xs ∧ ∀ x ∈ xs, Arg K H x
theorem ElAt.same {H H' : Hp} {e : El} (h : ElAt K H e) (s : Same H H') : ElAt K H' e := by
  unfold ElAt at h ⊢
  split at h
  · obtain ⟨k, a, b⟩ := h
    exact ⟨k, a.same s, b⟩
  · obtain ⟨a, b, c, d⟩ := h
    exact ⟨a, b, Same.tup s c, fun x hx => (d x hx).same s⟩
def arrowE (ps : List Str) (e : El) : Bool := match e.2 with
  | none => false
  | some xs => arrowL ps xs
def pairE (e : El) : List Key := match e.2 with
  | some (.str s :: .str t :: _) => [.inr s, .inr t]
  | _ => []
def arrowsOk (ps : List Str) (es : List El) : Bool := es.all (arrowE ps) && decide (es.map pairE).Nodup
theorem arrowL_form {ps : List Str} {xs : List V} (h : arrowL ps xs = true) : ∃ (s t : Str) (n : Int), xs = [.str s, .str t, .int n] := by
  unfold arrowL at h
  split at h
  · rename_i x y z
    simp only [Bool.and_eq_true] at h
    obtain ⟨s, rfl⟩ := nameV_str h.1.1
    obtain ⟨t, rfl⟩ := nameV_str h.1.2
    cases z with
    | int n => exact ⟨s, t, n, rfl⟩
    | _ => exact absurd h.2.2 (by simp [numV])
  · cases h
def spArrows (K : PySem.W.Frag) : Sp := fun vs H Q _ => (∃ a v k, vs = [.ref a, v] ∧ Any K H v k ∧ (k.isLst || k.isTup) = false ∧ ∀ H', Same H H' → Q (.bl false) H') ∨
  ∃ (a b : Addr) (ps : List Str) (es : List El), vs = [.ref a, .ref b] ∧ (SqL K H a (ps.map V.str) ∨ SqT K H a (ps.map V.str)) ∧ (SqL K H b (es.map (·.1)) ∨ SqT K H b (es.map (·.1))) ∧ es.length ≤ 1000 ∧ (∀ e ∈ es, ElAt K H e) ∧ ∀ H', Same H H' → Q (.bl (arrowsOk ps es)) H'
theorem paired_of_map {α : Type} {F : V → V → Prop} {f : α → V} : ∀ {ys : List V} {es : List α}, Paired F ys (es.map f) → Paired (fun y e => F y (f e)) ys es
  | _, [], .nil => .nil
  | _, _ :: _, .cons r t => .cons r (paired_of_map t)
/-- comprehensions over described items: each gives a value by the item's description -/
theorem tLc_el {α : Type} {H : Hp} {es : List α} {f : α → V} {wi : TI} {g : TG} {te : TE} {vs : List Nat} {σ : L2.St} {Q : VK} (hw : SeqWalk H (es.map f) wi σ) (hz : es.length ≤ 1000) (Rel : V → α → Addr → Hp → Prop) (mono : ∀ y e D H1 H2, SameX D H1 H2 → Rel y e D H1 → Rel y e D H2)
    (hs : ∀ e D l H1 (R : VK), H D = none → H1 D = some (.lst l) → Same H H1 → e ∈ es → (∀ y H2, Same H1 H2 → Rel y e D H2 → R y H2) → g (f e) (wipe σ vs) H1 fun σ2 H2 => wipe σ2 vs = wipe σ vs ∧ te σ2 H2 R)
    (hd : ∀ D ys H', H D = none → Same H H' → H' D = some (.lst ys) → Paired (fun y e => Rel y e D H') ys es → Q (.ref D) H') : tLc wi g tYes te vs σ H Q := by
  refine hw _ fun J w D hD => ?_
  rw [List.length_map] at w
  refine lc_it w (fun i H2 => ∃ ys, H2 D = some (.lst ys) ∧ Same H H2 ∧ Paired (fun y e => Rel y e D H2) ys (es.take i)) ⟨[], upd_same, same_new hD, .nil⟩ (fun _ _ _ ⟨_, _, s, _⟩ => s) ?_ ?_
  · rintro i x H1 H1' hi ⟨ys, h1, sm, pr⟩ ⟨rfl, hx⟩
    rw [List.getElem?_map] at hx
    cases he : es[i]? with
    | none => rw [he] at hx; cases hx
    | some e =>
      rw [he] at hx
      have hx : f e = x := Option.some.inj hx
      subst hx
      have ht : es.take (i + 1) = es.take i ++ [e] := by rw [List.take_succ, he]; rfl
      refine hs e D ys H1' _ hD h1 sm (List.mem_of_getElem? he) fun y H2 s2 r => ?_
      refine ⟨ys, s2 _ _ h1, ?_, ys ++ [y], upd_same, Same.mut (sm.trans s2) hD, ?_⟩
      · have l1 : ys.length = (es.take i).length := Paired.length pr
        rw [List.length_take] at l1
        exact small1000 (by omega)
      · rw [ht]
        refine paired_snoc (Paired.mapP pr fun y x h => mono y x D _ _ (fun b o hb hh => ?_) h) (mono _ _ _ _ _ (fun b o hb hh => ?_) r)
        · rw [upd_ne hb]; exact s2 b o hh
        · rw [upd_ne hb]; exact hh
  · rintro H2 ⟨ys, h1, sm, pr⟩
    rw [List.take_length] at pr
    exact hd D ys H2 hD sm h1 pr
theorem paired_map2 {α : Type} {f : α → V} : ∀ {ys : List V} {es : List α}, Paired (fun y e => y = f e) ys es → ys = es.map f
  | _, _, .nil => rfl
  | _, _, .cons r t => by rw [List.map_cons, r, paired_map2 t]
/-- pairs made: their addresses and keys -/
theorem paired_pairs {α : Type} {H : Hp} {f : α → List Key} : ∀ {ys : List V} {es : List α}, Paired (fun y e => ∃ t, y = V.ref t ∧ H t = some (.tup ((f e).map kV))) ys es →
    ∃ ts : List (Addr × List Key), ys = ts.map (fun t => V.ref t.1) ∧ (∀ t ∈ ts, H t.1 = some (.tup (t.2.map kV))) ∧ ts.map (·.2) = es.map f
  | _, _, .nil => ⟨[], rfl, (fun _ h => by cases h), rfl⟩
  | _, e :: _, .cons ⟨t, e1, e2⟩ r => by
    obtain ⟨ts, h1, h2, h3⟩ := paired_pairs r
    refine ⟨(t, f e) :: ts, by rw [h1, e1]; rfl, fun u hu => ?_, by rw [List.map_cons, List.map_cons, h3]⟩
    rcases List.mem_cons.mp hu with rfl | hu
    · exact e2
    · exact h2 u hu
theorem ok_are_arrows (T : Txt K mg) : FnOk P w K mg base CX0 4 T.a_are_arrows T.d_are_arrows ["places", "value"] (spArrows K) := by
  refine T.F_are_arrows.ok sc_are_arrows (fun vs H Q E h => ?_) (fun cdv A outer s H vs Q E hr h => ?_)
  · rcases h with ⟨a, v, k, rfl, _⟩ | ⟨a, b, ps, es, rfl, _⟩ <;> rfl
  · skip
    refine ⟨_, (pss_cons (ps_if (PW.pt (pw_or (pt_not (pt_val (pe_call (ok_is_sequence T) (hr.mono (by decide)) rfl T.m_is_sequence T.F_is_sequence.kp T.n_is_sequence .nil pass0 (pa_cons (pv 1) pa_nil)))) (pw_or1 (pt_not (pt_val (pe_callB (cr_all rfl) (by rfl) T.b_all (by decide +kernel) (pa_cons (pe_lc (own := [("one", 2)]) (g := (gName 2)) (by rfl) sc_are_arrows.nd (pi_seq (pv 1)) (blkOk_by (own := [("one", 2)]) (N := n_are_arrows) (sc := defScope s_are_arrows) (by decide +kernel)) (fun _ _ _ _ _ => (pg_name (i := 2) sc_are_arrows.nd rfl (Or.inl rfl) (Or.inr rfl))) (fun _ _ _ _ _ => pts_nil) (fun _ _ _ _ _ => (pe_call (ok_is_arrow T) (hr.mono (by decide)) rfl T.m_is_arrow T.F_is_arrow.kp T.n_is_arrow .nil pass0 (pa_cons (pv 0) (pa_cons (pv 2) pa_nil))))) pa_nil)))))))
          (pss_one (ps_ret pe_bl))
          pss_nil)
        (pss_one (ps_ret (pe_call (ok_are_unlike T) (hr.mono (by decide)) rfl T.m_are_unlike T.F_are_unlike.kp T.n_are_unlike .nil pass0 (pa_cons (pe_lc (own := [("start", 3), ("end", 4), ("lost", 5)]) (g := (gTup K 3 (gCons (gName 3) (gCons (gName 4) (gCons (gName 5) gNil))))) (by rfl) sc_are_arrows.nd (pi_seq (pv 1)) (blkOk_by (own := [("start", 3), ("end", 4), ("lost", 5)]) (N := n_are_arrows) (sc := defScope s_are_arrows) (by decide +kernel)) (fun _ _ _ _ _ => (pg_tup rfl (pgs_cons (pg_name (i := 3) sc_are_arrows.nd rfl (Or.inl rfl) (Or.inr rfl)) (pgs_cons (pg_name (i := 4) sc_are_arrows.nd rfl (Or.inl rfl) (Or.inr rfl)) (pgs_cons (pg_name (i := 5) sc_are_arrows.nd rfl (Or.inl rfl) (Or.inr rfl)) pgs_nil))))) (fun _ _ _ _ _ => pts_nil) (fun _ _ _ _ _ => (pe_tup (pa_cons (pv 3) (pa_cons (pv 4) pa_nil))))) pa_nil))))), ?_⟩
    rcases h with ⟨a, v, k, rfl, hv, hk, q⟩ | ⟨a, b, ps, es, rfl, hs, hb, hz, he, q⟩
    · refine ⟨_, rfl, v, k, rfl, hv, fun H1 s1 => ⟨_, rfl, ?_⟩⟩
      rw [hk]
      exact iteT (iteT (q _ s1))
    · obtain ⟨k, hv, hk⟩ := any_seq hb
      refine ⟨_, rfl, _, k, rfl, hv, fun H1 s1 => ⟨_, rfl, ?_⟩⟩
      rw [hk]
      refine iteF ?_
      walk_at "op"
      refine tLc_el (es := es) (f := (·.1)) (sw_seq (a := b) (fun R h => ⟨_, rfl, h⟩) (Same.sq s1 hb)) hz (fun y e _ _ => y = .bl (arrowE ps e)) (fun _ _ _ _ _ _ h => h) (fun e D l H2 R _ _ s2 hm kR => ?_) (fun D ys H2 hD s2 h2 pr => ?_)
      · have ee := (he e hm).same (s1.trans s2)
        refine ⟨rfl, _, rfl, _, rfl, ?_⟩
        unfold ElAt at ee
        split at ee
        · rename_i e0
          obtain ⟨k, a1, a2⟩ := ee
          exact .inl ⟨a, e.1, k, rfl, a1, a2, fun H3 s3 => kR _ _ s3 (by unfold arrowE; rw [e0])⟩
        · rename_i xs e0
          obtain ⟨c, e1, a1, a2⟩ := ee
          exact .inr ⟨a, c, ps, xs, by rw [e1]; rfl, Same.sq (s1.trans s2) hs, a1, a2, fun H3 s3 => kR _ _ s3 (by unfold arrowE; rw [e0])⟩
      · have ey := paired_map2 pr
        subst ey
        have s12 := s1.trans s2
        refine ⟨D, es.map (arrowE ps), rfl, SqL.of (by rw [h2, List.map_map]; rfl), _, rfl, ?_⟩
        rw [List.all_map]
        cases ea : es.all (arrowE ps) with
        | false =>
          rw [show es.all (id ∘ arrowE ps) = es.all (arrowE ps) from rfl, ea]
          refine iteT ?_
          have q2 := q H2 s12
          unfold arrowsOk at q2
          rw [ea, Bool.false_and] at q2
          exact q2
        | true =>
          rw [show es.all (id ∘ arrowE ps) = es.all (arrowE ps) from rfl, ea]
          refine iteF ?_
          walk_at "op"
          refine tLc_el (es := es) (f := (·.1)) (sw_seq (a := b) (fun R h => ⟨_, rfl, h⟩) (Same.sq s12 hb)) hz (fun y e D H3 => ∃ t, y = .ref t ∧ t ≠ D ∧ H3 t = some (.tup ((pairE e).map kV))) (fun y e D H3 H4 sx ⟨t, e1, e2, e3⟩ => ⟨t, e1, e2, sx _ _ e2 e3⟩) (fun e D' l H3 R _ hD' s3 hm kR => ?_) (fun D' ys H3 hD' s3 h3 pr => ?_)
          · have ee := (he e hm).same (s12.trans s3)
            have et := List.all_eq_true.mp ea e hm
            unfold arrowE at et
            unfold ElAt at ee
            split at ee
            · rename_i e0
              rw [e0] at et
              cases et
            · rename_i xs e0
              rw [e0] at et
              obtain ⟨c, e1, a1, a2⟩ := ee
              obtain ⟨s, t, n, rfl⟩ := arrowL_form et
              refine ⟨c, _, e1, a1, rfl, _, _, rfl, _, _, rfl, _, _, rfl, rfl, rfl, ?_⟩
              refine ⟨_, rfl, _, rfl, (by show 2 ≤ sizeLine; decide), fun p hp => kR _ _ (same_new hp) ⟨p, rfl, ?_, ?_⟩⟩
              · exact (ne_of_none hD' hp).symm
              · unfold pairE
                rw [e0, upd_same]
                rfl
          · obtain ⟨ts, e1, e2, e3⟩ := paired_pairs (H := H3) (f := pairE) (Paired.mapP pr fun y e ⟨t, a, _, c⟩ => ⟨t, a, c⟩)
            have hl : ts.length = es.length := by have := congrArg List.length e3; simpa using this
            refine .inr ⟨D', ts, rfl, .inl (SqL.of (by rw [h3, e1])), by omega, e2, fun H4 s4 => ?_⟩
            have q2 := q H4 ((s12.trans s3).trans s4)
            unfold arrowsOk at q2
            rw [ea, Bool.true_and, ← e3] at q2
            exact q2
/-! ### steps: the data, and how a step lies in the heap -/
abbrev Row := Str × Str × Int
def rowD (r : Row) : PyData := .tuple [.str r.1, .str r.2.1, .int r.2.2]
def rowV (r : Row) : List V := [.str r.1, .str r.2.1, .int r.2.2]
def srtS (ps : List Str) : List Str := ps.mergeSort (PySem.W.dataLe false PyData.str)
def srtR (rs : List Row) : List Row := rs.mergeSort (PySem.W.dataLe false rowD)
structure StepD where
  name : Str
  places : List Str
  arrows : List Row
def lossK (rs : List Row) : List (List Key × V) := rs.foldl (fun acc r => putK acc [.inr r.1, .inr r.2.1] (.int r.2.2)) []
/-- the arrows that start at a place -/
def lead (rs : List Row) (p : Str) : List (Str × Int) := (rs.filter fun r => decide (r.1 = p)).map (·.2)
def stepF (n : Str) (pa aa la ll : Addr) : List (Str × V) := putF "leads" (.ref ll) (putF "losses" (.ref la) (putF "arrows" (.ref aa) (putF "places" (.ref pa) (putF "name" (.str n) []))))
local macro_rules | `(tactic| walk_at "lk") => `(tactic| repeat (first | rw [lookup_putF, if_pos rfl] | rw [lookup_putF, if_neg (by decide +kernel)]))
theorem stepF_name (n : Str) (pa aa la ll : Addr) : (stepF n pa aa la ll).lookup ("name" : Str) = some (.str n) := by unfold stepF; walk_at "lk"
theorem stepF_places (n : Str) (pa aa la ll : Addr) : (stepF n pa aa la ll).lookup ("places" : Str) = some (.ref pa) := by unfold stepF; walk_at "lk"
theorem stepF_arrows (n : Str) (pa aa la ll : Addr) : (stepF n pa aa la ll).lookup ("arrows" : Str) = some (.ref aa) := by unfold stepF; walk_at "lk"
theorem stepF_losses (n : Str) (pa aa la ll : Addr) : (stepF n pa aa la ll).lookup ("losses" : Str) = some (.ref la) := by unfold stepF; walk_at "lk"
theorem stepF_leads (n : Str) (pa aa la ll : Addr) : (stepF n pa aa la ll).lookup ("leads" : Str) = some (.ref ll) := by unfold stepF; walk_at "lk"
theorem stepF_no {m : Str} (h1 : ¬ m = "name") (h2 : ¬ m = "places") (h3 : ¬ m = "arrows") (h4 : ¬ m = "losses") (h5 : ¬ m = "leads") (n : Str) (pa aa la ll : Addr) : (stepF n pa aa la ll).lookup m = none := by
  unfold stepF
  rw [lookup_putF, if_neg h5, lookup_putF, if_neg h4, lookup_putF, if_neg h3, lookup_putF, if_neg h2, lookup_putF, if_neg h1]
  rfl
/-- rows of tuples at addresses -/
def RowsAt (K : PySem.W.Frag) (H : Hp) (ts : List Addr) (rs : List Row) : Prop := Paired (fun t r => SqT K H t (rowV r)) ts rs
theorem RowsAt.same {H H' : Hp} {ts : List Addr} {rs : List Row} (h : RowsAt K H ts rs) (s : Same H H') : RowsAt K H' ts rs := Paired.mapP h fun _ _ h => Same.tup s h
structure StepAt (K : PySem.W.Frag) (C : Addr) (H : Hp) (x : Addr) (d : StepD) (lf : Str → Addr) : Prop where
  ex : ∃ (dx pa aa la ll : Addr) (ts : List Addr) (us : Str → List Addr), H x = some (.ins C dx (stepF d.name pa aa la ll)) ∧ SqT K H pa (d.places.map V.str) ∧ SqT K H aa (ts.map V.ref) ∧ RowsAt K H ts d.arrows ∧
    H la = some (.dT (lossK d.arrows)) ∧ H ll = some (.dK (d.places.map fun p => (Sum.inr p, V.ref (lf p)))) ∧
    ∀ p ∈ d.places, H (lf p) = some (.lst ((us p).map V.ref)) ∧ Paired (fun t (r : Str × Int) => SqT K H t [.str r.1, .int r.2]) (us p) (lead d.arrows p)
  nd : d.places.Nodup
  nms : ∀ p ∈ d.places, isName p = true
  nm : isName d.name = true
theorem StepAt.but {C : Addr} {H H' : Hp} {x : Addr} {d : StepD} {lf : Str → Addr} (h : StepAt K C H x d lf) (s : ∀ b o, H b = some o → (∀ ys, o ≠ .lst ys) → H' b = some o) (sl : ∀ p ∈ d.places, ∀ ys, H (lf p) = some (.lst ys) → H' (lf p) = some (.lst ys)) : StepAt K C H' x d lf := by
  obtain ⟨⟨dx, pa, aa, la, ll, ts, us, h1, h2, h3, h4, h5, h7, h8⟩, a, b, c⟩ := h
  have st : ∀ {a : Addr} {xs : List V}, SqT K H a xs → SqT K H' a xs := fun {a xs} h => by
    rcases h with (h | ⟨o, h⟩) | h
    · exact .inl (.inl (s _ _ h (by intro ys z; cases z)))
    · exact .inl (.inr ⟨o, s _ _ h (by intro ys z; cases z)⟩)
    · exact .inr h
  refine ⟨⟨dx, pa, aa, la, ll, ts, us, s _ _ h1 (by intro ys z; cases z), st h2, st h3, Paired.mapP h4 fun _ _ h => st h, s _ _ h5 (by intro ys z; cases z), s _ _ h7 (by intro ys z; cases z), fun q hq => ?_⟩, a, b, c⟩
  obtain ⟨e1, e2⟩ := h8 q hq
  exact ⟨sl _ hq _ e1, Paired.mapP e2 fun _ _ h => st h⟩
theorem StepAt.same {C : Addr} {H H' : Hp} {x : Addr} {d : StepD} {lf : Str → Addr} (h : StepAt K C H x d lf) (s : Same H H') : StepAt K C H' x d lf := h.but (fun b o e _ => s b o e) fun _ _ _ e => s _ _ e
theorem StepAt.cell {C : Addr} {H : Hp} {x : Addr} {d : StepD} {lf : Str → Addr} (h : StepAt K C H x d lf) : ∀ p ∈ d.places, ∃ ys, H (lf p) = some (.lst ys) := fun p hp => by
  obtain ⟨⟨dx, pa, aa, la, ll, ts, us, h1, h2, h3, h4, h5, h7, h8⟩, _⟩ := h
  exact ⟨_, (h8 p hp).1⟩
theorem StepAt.kp {C : Addr} {H H' : Hp} {x : Addr} {e : StepD} {lf : Str → Addr} {d l : Addr} (h : StepAt K C H x e lf) (D : DealAt H d l) (k : Kp d l H H') (hl : ∀ p ∈ e.places, lf p ≠ d ∧ lf p ≠ l) : StepAt K C H' x e lf := by
  obtain ⟨xs, s, h1, h2, _⟩ := D
  refine h.but (fun b o hb hn => k.stay b o hb (fun z => ?_) (fun z => ?_)) fun p hp ys hy => k.stay _ _ hy (hl p hp).1 (hl p hp).2
  · rw [z, h1] at hb
    exact hn _ (Option.some.inj hb).symm
  · rw [z, h2] at hb
    exact hn _ (Option.some.inj hb).symm
theorem lossK_snoc (rs : List Row) (r : Row) : lossK (rs ++ [r]) = putK (lossK rs) [.inr r.1, .inr r.2.1] (.int r.2.2) := by
  unfold lossK
  rw [List.foldl_append]
  rfl
theorem lossK_len (n : Nat) : ∀ rs : List Row, rs.length = n → (lossK rs).length ≤ n := by
  induction n with
  | zero =>
    intro rs h
    rw [List.length_eq_zero_iff.mp h]
    exact Nat.le_refl _
  | succ n ih =>
    intro rs h
    rcases List.eq_nil_or_concat rs with rfl | ⟨r, k, e⟩
    · simp at h
    · rw [List.concat_eq_append] at e
      subst e
      rw [lossK_snoc]
      have := ih r (by simpa using h)
      have := length_putK (lossK r) [.inr k.1, .inr k.2.1] (.int k.2.2)
      omega
theorem lead_snoc (rs : List Row) (r : Row) (p : Str) : lead (rs ++ [r]) p = if r.1 = p then lead rs p ++ [r.2] else lead rs p := by
  unfold lead
  rw [List.filter_append, List.map_append]
  by_cases e : r.1 = p
  · rw [if_pos e, List.filter_cons_of_pos (by simpa using e)]
    rfl
  · rw [if_neg e, List.filter_cons_of_neg (by simpa using e)]
    simp
theorem valV_map (ps : List Str) (lf : Str → Addr) (p : Str) : valV (ps.map fun p => ((Sum.inr p : Key), V.ref (lf p))) (Sum.inr p) = if p ∈ ps then some (V.ref (lf p)) else none := by
  induction ps with
  | nil => rfl
  | cons q r ih =>
    unfold valV at ih ⊢
    by_cases e : q = p
    · subst e
      simp
    · have e' : ¬ (Sum.inr q : Key) = Sum.inr p := fun z => e (Sum.inr.inj z)
      have e2 : ¬ p = q := fun z => e z.symm
      rw [List.map_cons, List.find?_cons_of_neg (by simpa using e'), ih]
      simp [e2]
/-- a row as an item -/
def rowE (r : Addr × Row) : El := (.ref r.1, some (rowV r.2))
/-- good arguments of a step -/
structure StepOk (K : PySem.W.Frag) (H : Hp) (n : Str) (p q : Addr) (ps : List Str) (rs : List (Addr × Row)) : Prop where
  nm : isName n = true
  hp : SqL K H p (ps.map V.str) ∨ SqT K H p (ps.map V.str)
  hq : SqL K H q (rs.map fun r => V.ref r.1) ∨ SqT K H q (rs.map fun r => V.ref r.1)
  ne : ps ≠ []
  nd : ps.Nodup
  nms : ∀ x ∈ ps, isName x = true
  rows : ∀ r ∈ rs, SqT K H r.1 (rowV r.2)
  ok : arrowsOk ps (rs.map rowE) = true
  lp : ps.length ≤ 1000
  lr : rs.length ≤ 1000
def spInit (K : PySem.W.Frag) (C : Addr) : Sp := fun vs H Q _ => ∃ (x dx : Addr) (n : Str) (p q : Addr) (ps : List Str) (rs : List (Addr × Row)), vs = [.ref x, .str n, .ref p, .ref q] ∧ H x = some (.ins C dx []) ∧ H dx = some (.own x) ∧ StepOk K H n p q ps rs ∧
  ∀ H' lf, StepAt K C H' x ⟨n, srtS ps, srtR (rs.map (·.2))⟩ lf → (∀ p ∈ srtS ps, H (lf p) = none) → (∀ b o, H b = some o → b ≠ x → H' b = some o) → Q .non H'
theorem isName_len {x : Str} (h : isName x = true) : x.length ≤ 6 := by
  unfold isName at h
  simp only [Bool.and_eq_true, decide_eq_true_eq] at h
  omega
theorem nodup_inr {ps : List Str} (h : ps.Nodup) : (ps.map (Sum.inr : Str → Key)).Nodup := by
  rw [List.nodup_iff_pairwise_ne] at h ⊢
  rw [List.pairwise_map]
  exact h.imp fun a b => a (Sum.inr.inj b)
theorem arrow_names {ps : List Str} {r : Addr × Row} (h : arrowE ps (rowE r) = true) : isName r.2.1 = true ∧ isName r.2.2.1 = true ∧ r.2.1 ∈ ps ∧ r.2.2.1 ∈ ps ∧ 0 ≤ r.2.2.2 := by
  have h' : arrowL ps (rowV r.2) = true := h
  unfold arrowL rowV at h'
  simp only [Bool.and_eq_true, nameV, numV, decide_eq_true_eq] at h'
  have mem : ∀ {s : Str}, inV (.str s) (ps.map V.str) = true → s ∈ ps := fun {s} h => by
    unfold inV at h
    obtain ⟨y, hy, e⟩ := List.any_eq_true.mp h
    obtain ⟨z, hz, rfl⟩ := List.mem_map.mp hy
    have : z = s := by simpa [eqV] using e
    rw [← this]
    exact hz
  exact ⟨h'.1.1, h'.1.2, mem h'.2.1.1, mem h'.2.1.2, h'.2.2⟩
theorem rowE_at {H : Hp} {r : Addr × Row} (h : SqT K H r.1 (rowV r.2)) {ps : List Str} (hn : isName r.2.1 = true ∧ isName r.2.2.1 = true ∧ r.2.1 ∈ ps ∧ r.2.2.1 ∈ ps ∧ 0 ≤ r.2.2.2) : ElAt K H (rowE r) := by
  have lt6 : ∀ {y : Str}, isName y = true → y.length ≤ 100000 := fun h => Nat.le_trans (isName_len h) (by decide)
  refine ⟨r.1, rfl, h, fun y hy => ?_⟩
  unfold rowV at hy
  rcases List.mem_cons.mp hy with rfl | hy
  · exact arg_str (lt6 hn.1)
  rcases List.mem_cons.mp hy with rfl | hy
  · exact arg_str (lt6 hn.2.1)
  rcases List.mem_cons.mp hy with rfl | hy
  · exact ⟨.int, .int _, fun z e => by cases e⟩
  · cases hy
theorem ok_Step___init__ (T : Txt K mg) : FnOk P w K mg base CX0 5 T.a_Step___init__ T.d_Step___init__ ["self", "name", "places", "arrows"] (spInit K T.a_Step) := by
  refine T.F_Step___init__.ok sc_Step___init__ (fun vs H Q E h => ?_) (fun cdv A outer s H vs Q E hr h => ?_)
  · obtain ⟨x, dx, n, p, q, ps, rs, rfl, _⟩ := h
    rfl
  · obtain ⟨x, dx, n, p, q, ps, rs, rfl, hx, hdx, ok, k⟩ := h
    have hu := hu_of hr
    refine ⟨_, PSs.nox (pss_cons (ps_if (pt_not (pt_val (pe_call (ok_is_name T) (hr.mono (by decide)) rfl T.m_is_name T.F_is_name.kp T.n_is_name .nil pass0 (pa_cons (pv 1) pa_nil))))
          (pss_one ps_never)
          pss_nil)
        (pss_cons (ps_if (PW.pt (pw_or (pt_not (pt_val (pe_call (ok_is_row_of_names T) (hr.mono (by decide)) rfl T.m_is_row_of_names T.F_is_row_of_names.kp T.n_is_row_of_names .nil pass0 (pa_cons (pv 2) pa_nil)))) (pw_or (pt_cmpR op_eq (pe_callB call_len_seq (by rfl) T.b_len (by decide +kernel) (pa_cons (pv 2) pa_nil)) pe_int (nomark _)) (pw_or1 (pt_not (pt_val (pe_call (ok_are_unlike T) (hr.mono (by decide)) rfl T.m_are_unlike T.F_are_unlike.kp T.n_are_unlike .nil pass0 (pa_cons (pv 2) pa_nil))))))))
          (pss_one ps_never)
          pss_nil)
        (Evl.pss_cut (ps_if (pt_not (pt_val (pe_call (ok_are_arrows T) (hr.mono (by decide)) rfl T.m_are_arrows T.F_are_arrows.kp T.n_are_arrows .nil pass0 (pa_cons (pv 2) (pa_cons (pv 3) pa_nil)))))
          (pss_one ps_never)
          pss_nil)
        (pss_cons (ps_fld (pv 0) (pv 1) rfl)
        (Evl.pss_cut (ps_fld (pv 0) (pe_callTy call_tuple_of (by rfl) T.b_tuple (by decide +kernel) (pa_cons (pe_callB (cr_sortedD hr.units) (by rfl) T.b_sorted (by decide +kernel) (pa_cons (pv 2) pa_nil)) pa_nil)) rfl)
        (Evl.pss_cut (ps_fld (pv 0) (pe_callTy call_tuple_of (by rfl) T.b_tuple (by decide +kernel) (pa_cons (pe_callB (cr_sortedD hr.units) (by rfl) T.b_sorted (by decide +kernel) (pa_cons (pv 3) pa_nil)) pa_nil)) rfl)
        (Evl.pss_cut (ps_fld (pv 0) (pe_dcP hu (own := [("start", 4), ("end", 5), ("lost", 6)]) (g := (gTup K 3 (gCons (gName 4) (gCons (gName 5) (gCons (gName 6) gNil))))) (by rfl) sc_Step___init__.nd (pi_tup (pe_fld (pv 0) rfl)) (blkOk_by (own := [("start", 4), ("end", 5), ("lost", 6)]) (N := n_Step___init__) (sc := defScope s_Step___init__) (by decide +kernel)) (fun _ _ _ _ _ => (pg_tup rfl (pgs_cons (pg_name (i := 4) sc_Step___init__.nd rfl (Or.inl rfl) (Or.inr rfl)) (pgs_cons (pg_name (i := 5) sc_Step___init__.nd rfl (Or.inl rfl) (Or.inr rfl)) (pgs_cons (pg_name (i := 6) sc_Step___init__.nd rfl (Or.inl rfl) (Or.inr rfl)) pgs_nil))))) (fun _ _ _ _ _ => pts_nil) (fun _ _ _ _ _ => (pe_tup (pa_cons (pv 4) (pa_cons (pv 5) pa_nil)))) (fun _ _ _ _ _ => (pv 6))) rfl)
        (Evl.pss_cut (ps_fld (pv 0) (pe_dcP hu (own := [("place", 7)]) (g := (gName 7)) (by rfl) sc_Step___init__.nd (pi_tup (pe_fld (pv 0) rfl)) (blkOk_by (own := [("place", 7)]) (N := n_Step___init__) (sc := defScope s_Step___init__) (by decide +kernel)) (fun _ _ _ _ _ => (pg_name (i := 7) sc_Step___init__.nd rfl (Or.inl rfl) (Or.inr rfl))) (fun _ _ _ _ _ => pts_nil) (fun _ _ _ _ _ => (pv 7)) (fun _ _ _ _ _ => (pe_lst pa_nil))) rfl)
        (pss_one (ps_for PassesOwn.never rfl (pi_tup (pe_fld (pv 0) rfl)) (pg_tup rfl (pgs_cons (pg_name (i := 4) sc_Step___init__.nd rfl (Or.inl rfl)) (pgs_cons (pg_name (i := 5) sc_Step___init__.nd rfl (Or.inl rfl)) (pgs_cons (pg_name (i := 6) sc_Step___init__.nd rfl (Or.inl rfl)) pgs_nil))))
          (pss_one (ps_expr (pe_bm PySem.F.plainAttrs_list PySem.F.slot_list_append PySem.F.type_list_append mt_append (pe_dget hu (pe_fld (pv 0) rfl) (pv 4) (fun _ _ => rfl)) (pa_cons (pe_tup (pa_cons (pv 5) (pa_cons (pv 6) pa_nil))) pa_nil)))))))))))))), ?_⟩
    have lt6 : ∀ {y : Str}, isName y = true → y.length ≤ 100000 := fun h => Nat.le_trans (isName_len h) (by decide)
    refine ⟨_, rfl, .str n, .str, rfl, .str n, fun y e => by cases e; exact lt6 ok.nm, fun H1 s1 => ⟨_, rfl, ?_⟩⟩
    rw [show nameV (.str n) = true from ok.nm]
    refine iteF ?_
    refine ⟨_, rfl, .inr ⟨p, _, rfl, Same.sq s1 ok.hp, by simpa using ok.lp, ?_, fun H2 s2 => ⟨_, rfl, ?_⟩⟩⟩
    · intro y hy
      obtain ⟨z, hz, rfl⟩ := List.mem_map.mp hy
      exact arg_str (lt6 (ok.nms z hz))
    rw [show (ps.map V.str).all nameV = true by rw [List.all_map]; exact List.all_eq_true.mpr ok.nms]
    have s12 := s1.trans s2
    refine iteF ⟨_, rfl, p, _, rfl, Same.sq s12 ok.hp, rfl, _, rfl, ?_⟩
    rw [decide_eq_false (show ¬ V.int ((ps.map V.str).length : Int) = V.int 0 from fun e => ok.ne (by have := V.int.inj e; rw [List.length_map] at this; exact List.length_eq_zero_iff.mp (by omega)))]
    have ekv : (ps.map (Sum.inr : Str → Key)).map kV = ps.map V.str := by rw [List.map_map]; rfl
    refine iteF ⟨_, rfl, .inl ⟨p, ps.map Sum.inr, rfl, by rw [ekv]; exact Same.sq s12 ok.hp, by simpa using ok.lp, fun H3 s3 => ⟨_, rfl, ?_⟩⟩⟩
    rw [decide_eq_true (nodup_inr ok.nd)]
    refine iteF ?_
    have s13 := s12.trans s3
    refine ⟨fun σ H4 => σ = start n_Step___init__ [.ref x, .str n, .ref p, .ref q] ∧ Same H H4, ?_, ?_⟩
    · have eel : (rs.map rowE).map (·.1) = rs.map fun r => V.ref r.1 := by rw [List.map_map]; rfl
      refine ⟨_, rfl, _, rfl, .inr ⟨p, q, ps, rs.map rowE, rfl, Same.sq s13 ok.hp, by rw [eel]; exact Same.sq s13 ok.hq, by simpa using ok.lr, ?_, fun H4 s4 => ⟨_, rfl, ?_⟩⟩⟩
      · intro e he
        obtain ⟨r, hr', rfl⟩ := List.mem_map.mp he
        exact rowE_at (Same.tup s13 (ok.rows r hr')) (arrow_names (List.all_eq_true.mp (Bool.and_eq_true_iff.mp ok.ok).1 _ he))
      · rw [ok.ok]
        exact iteF ⟨rfl, s13.trans s4⟩
    · rintro σ H4 ⟨rfl, s4⟩
      have hx4 : H4 x = some (.ins T.a_Step dx []) := s4 _ _ hx
      refine ⟨_, rfl, _, rfl, x, _, dx, [], rfl, hx4, T.c_Step, T.x_Step_name, by decide, ?_⟩
      have x5 : SameX x H (upd H4 x (.ins T.a_Step dx (putF "name" (.str n) []))) := (SameX.of s4).put
      have hx5 : (upd H4 x (.ins T.a_Step dx (putF "name" (.str n) []))) x = some (.ins T.a_Step dx (putF "name" (.str n) [])) := upd_same
      revert x5 hx5
      generalize upd H4 x (.ins T.a_Step dx (putF "name" (.str n) [])) = H5
      intro x5 hx5
      refine ⟨fun σ H6 => σ = start n_Step___init__ [.ref x, .str n, .ref p, .ref q] ∧ SameX x H H6 ∧ ∃ pa, H6 x = some (.ins T.a_Step dx (putF "places" (.ref pa) (putF "name" (.str n) []))) ∧ SqT K H6 pa ((srtS ps).map V.str), ?_, ?_⟩
      · refine ⟨_, rfl, Str, p, ps, V.str, PyData.str, rfl, x5.sq hx ok.hp, fun b _ => .str b, PySem.W.AllAlike.of (fun _ _ => rfl), PySem.W.Sortable.others (fun b => ⟨by simp, fun xs => by simp⟩), fun b _ => by simp [PyData.depth], fun l hl => ?_⟩
        refine ⟨l, _, rfl, .inl ⟨SqL.of upd_same, fun l2 hl2 => ?_⟩⟩
        have n1 : x ≠ l := ne_of_none hx5 hl
        have n2 : x ≠ l2 := fun z => by rw [← z, upd_ne n1, hx5] at hl2; cases hl2
        refine ⟨_, rfl, x, _, dx, _, rfl, ?_, T.c_Step, T.x_Step_places, Nat.lt_of_le_of_lt (length_putF _ _ _) (by decide), rfl, ((x5.new hl).new hl2).put, l2, upd_same, SqT.of ?_⟩
        · rw [upd_ne n2, upd_ne n1]
          exact hx5
        · rw [upd_ne n2.symm, upd_same]
          rfl
      · rintro σ H6 ⟨rfl, x6, pa, hx6, hpa⟩
        have eM : (rs.mergeSort (PySem.W.dataLe false fun r => rowD r.2)).map (·.2) = srtR (rs.map (·.2)) := by
          unfold srtR
          rw [List.map_mergeSort (r := PySem.W.dataLe false fun r : Addr × Row => rowD r.2) (s := PySem.W.dataLe false rowD) (fun _ _ _ _ => rfl)]
        have hM : ∀ r ∈ rs.mergeSort (PySem.W.dataLe false fun r => rowD r.2), r ∈ rs := fun r h => (List.mergeSort_perm ..).mem_iff.mp h
        have lM : (rs.mergeSort (PySem.W.dataLe false fun r => rowD r.2)).length = rs.length := List.length_mergeSort ..
        revert eM hM lM
        generalize hS : (rs.mergeSort (PySem.W.dataLe false fun r : Addr × Row => rowD r.2)) = S
        intro eM hM lM
        have rS : ∀ r ∈ S, ∀ {H' : Hp}, SameX x H H' → SqT K H' r.1 (rowV r.2) := fun r hr' H' sx => sx.tup hx (ok.rows r (hM r hr'))
        refine ⟨fun σ H7 => σ = start n_Step___init__ [.ref x, .str n, .ref p, .ref q] ∧ SameX x H H7 ∧ ∃ aa, H7 x = some (.ins T.a_Step dx (putF "arrows" (.ref aa) (putF "places" (.ref pa) (putF "name" (.str n) [])))) ∧ SqT K H7 pa ((srtS ps).map V.str) ∧ SqT K H7 aa (S.map fun r => V.ref r.1), ?_, ?_⟩
        · refine ⟨_, rfl, Addr × Row, q, rs, fun r => V.ref r.1, fun r => rowD r.2, rfl, x6.sq hx ok.hq, fun r hr' => .tup (x6.tup hx (ok.rows r hr')) (.cons (.str _) (.cons (.str _) (.cons (.int _) .nil))), PySem.W.AllAlike.of (fun _ _ => rfl), PySem.W.Sortable.tuples (fun b => ⟨_, _, rfl⟩), fun b _ => by simp [PyData.depth, PyData.depthAll, rowD], fun l hl => ?_⟩
          rw [hS]
          refine ⟨l, _, rfl, .inl ⟨SqL.of upd_same, fun l2 hl2 => ?_⟩⟩
          have n1 : x ≠ l := ne_of_none hx6 hl
          have n2 : x ≠ l2 := fun z => by rw [← z, upd_ne n1, hx6] at hl2; cases hl2
          have hx7 : upd (upd H6 l (.lst (S.map fun r => V.ref r.1))) l2 (.tup (S.map fun r => V.ref r.1)) x = some (.ins T.a_Step dx (putF "places" (.ref pa) (putF "name" (.str n) []))) := by rw [upd_ne n2, upd_ne n1]; exact hx6
          refine ⟨_, rfl, x, _, dx, _, rfl, hx7, T.c_Step, T.x_Step_arrows, Nat.lt_of_le_of_lt (length_putF _ _ _) (Nat.lt_of_le_of_lt (Nat.succ_le_succ (length_putF _ _ _)) (by decide)), rfl, ((x6.new hl).new hl2).put, l2, upd_same, ?_, SqT.of ?_⟩
          · exact SameX.tup (SameX.put (((SameX.refl x H6).new hl).new hl2)) hx6 hpa
          · rw [upd_ne n2.symm, upd_same]
        · rintro σ H7 ⟨rfl, x7, aa, hx7, hpa, haa⟩
          have l3 : (putF "arrows" (.ref aa) (putF "places" (.ref pa) (putF "name" (.str n) []))).length < 900 := Nat.lt_of_le_of_lt (length_putF _ _ _) (Nat.lt_of_le_of_lt (Nat.succ_le_succ (length_putF _ _ _)) (Nat.lt_of_le_of_lt (Nat.succ_le_succ (Nat.succ_le_succ (length_putF _ _ _))) (by decide)))
          have lkA : (putF "arrows" (.ref aa) (putF "places" (.ref pa) (putF "name" (.str n) []))).lookup ("arrows" : Str) = some (.ref aa) := by walk_at "lk"
          have lkP : (putF "arrows" (.ref aa) (putF "places" (.ref pa) (putF "name" (.str n) []))).lookup ("places" : Str) = some (.ref pa) := by walk_at "lk"
          refine ⟨fun σ H8 => σ = start n_Step___init__ [.ref x, .str n, .ref p, .ref q] ∧ SameX x H H8 ∧ ∃ la, H8 x = some (.ins T.a_Step dx (putF "losses" (.ref la) (putF "arrows" (.ref aa) (putF "places" (.ref pa) (putF "name" (.str n) []))))) ∧ SqT K H8 pa ((srtS ps).map V.str) ∧ SqT K H8 aa (S.map fun r => V.ref r.1) ∧ H8 la = some (.dT (lossK (S.map (·.2)))), ?_, ?_⟩
          · walk_at "op"
            refine tDc_it (sw_tup (a := aa) (fun R h => ⟨_, rfl, x, _, dx, _, _, rfl, hx7, T.c_Step, T.x_Step_arrows, lkA, h⟩) haa) (.dT []) (.inr rfl) (fun D i H2 => H2 D = some (.dT (lossK ((S.map (·.2)).take i))) ∧ Same H7 H2) (fun D hD => ⟨upd_same, same_new hD⟩) (fun _ _ _ h => h.2) ?_ ?_
            · rintro D i y H1 hD hy ⟨h1, sm⟩
              rw [List.getElem?_map] at hy
              cases e : S[i]? with
              | none => rw [e] at hy; cases hy
              | some r =>
                rw [e] at hy
                have hy : V.ref r.1 = y := Option.some.inj hy
                subst hy
                have hr1 := rS r (List.mem_of_getElem? e) (x7.trans (SameX.of sm))
                refine ⟨r.1, _, rfl, hr1, rfl, _, _, rfl, _, _, rfl, _, _, rfl, rfl, rfl, ?_⟩
                refine ⟨_, rfl, _, rfl, (by show 2 ≤ sizeLine; decide), fun t ht => ⟨_, rfl, ?_⟩⟩
                have hl := lossK_len _ ((S.map (·.2)).take i) rfl
                rw [List.length_take, List.length_map] at hl
                have lr := ok.lr
                have hDt : D ≠ t := ne_of_none h1 ht
                refine ⟨_, DPut.t (by rw [upd_ne hDt]; exact h1) (k := [.inr r.2.1, .inr r.2.2.1]) upd_same (small1000 (by omega)), ?_, Same.mut (Same.new sm ht) hD⟩
                rw [upd_same, List.take_succ, List.getElem?_map, e]
                exact congrArg (fun l => some (HO.dT l)) (lossK_snoc _ _).symm
            · rintro D H8 hD ⟨h8, sm⟩
              rw [List.length_map, ← List.length_map (f := (·.2)), List.take_length] at h8
              have hx8 := sm _ _ hx7
              refine ⟨_, rfl, x, _, dx, _, rfl, hx8, T.c_Step, T.x_Step_losses, by omega, rfl, (x7.trans (SameX.of sm)).put, D, upd_same, ?_, ?_, ?_⟩
              · exact SameX.tup (SameX.put (SameX.of sm)) hx7 hpa
              · exact SameX.tup (SameX.put (SameX.of sm)) hx7 haa
              · rw [upd_ne (ne_of h8 hx8 (by intro z; cases z))]
                exact h8
          · rintro σ H8 ⟨rfl, x8, la, hx8, hpa, haa, hla⟩
            have l4 : (putF "losses" (.ref la) (putF "arrows" (.ref aa) (putF "places" (.ref pa) (putF "name" (.str n) [])))).length < 1000 := Nat.lt_of_le_of_lt (length_putF _ _ _) (by omega)
            have lkP : (putF "losses" (.ref la) (putF "arrows" (.ref aa) (putF "places" (.ref pa) (putF "name" (.str n) [])))).lookup ("places" : Str) = some (.ref pa) := by walk_at "lk"
            have ndS : (srtS ps).Nodup := (List.mergeSort_perm ..).nodup_iff.mpr ok.nd
            have lnS : (srtS ps).length ≤ 1000 := by rw [show (srtS ps).length = ps.length from List.length_mergeSort ..]; exact ok.lp
            refine ⟨fun σ H9 => σ = start n_Step___init__ [.ref x, .str n, .ref p, .ref q] ∧ SameX x H H9 ∧ ∃ (ll : Addr) (lf : Str → Addr), H9 x = some (.ins T.a_Step dx (stepF n pa aa la ll)) ∧ SqT K H9 pa ((srtS ps).map V.str) ∧ SqT K H9 aa (S.map fun r => V.ref r.1) ∧ H9 la = some (.dT (lossK (S.map (·.2)))) ∧
              H9 ll = some (.dK ((srtS ps).map fun p => (Sum.inr p, V.ref (lf p)))) ∧ (∀ p ∈ srtS ps, H9 (lf p) = some (.lst []) ∧ H (lf p) = none) ∧ ∀ p ∈ srtS ps, ∀ q ∈ srtS ps, lf p = lf q → p = q, ?_, ?_⟩
            · walk_at "op"
              refine tDc_it (sw_tup (a := pa) (fun R h => ⟨_, rfl, x, _, dx, _, _, rfl, hx8, T.c_Step, T.x_Step_places, lkP, h⟩) hpa) (.dK []) (.inl rfl) (fun D i H2 => ∃ lf : Str → Addr, H2 D = some (.dK (((srtS ps).take i).map fun p => (Sum.inr p, V.ref (lf p)))) ∧ Same H8 H2 ∧ (∀ p ∈ (srtS ps).take i, H2 (lf p) = some (.lst []) ∧ H8 (lf p) = none ∧ lf p ≠ D) ∧ ∀ p ∈ (srtS ps).take i, ∀ q ∈ (srtS ps).take i, lf p = lf q → p = q)
                (fun D hD => ⟨fun _ => D, upd_same, same_new hD, (fun p hp => by cases hp), (fun p hp => by cases hp)⟩) (fun _ _ _ ⟨_, _, h, _⟩ => h) ?_ ?_
              · rintro D i y H1 hD hy ⟨lf, h1, sm, hl, hj⟩
                rw [List.getElem?_map] at hy
                cases e : (srtS ps)[i]? with
                | none => rw [e] at hy; cases hy
                | some r =>
                  rw [e] at hy
                  have hy : V.str r = y := Option.some.inj hy
                  subst hy
                  have ht : (srtS ps).take (i + 1) = (srtS ps).take i ++ [r] := by rw [List.take_succ, e]; rfl
                  have hn : r ∉ (srtS ps).take i := fun h => by
                    have h2 : ((srtS ps).take (i + 1)).Nodup := ndS.sublist (List.take_sublist ..)
                    rw [ht, List.nodup_append] at h2
                    exact h2.2.2 r h r (by simp) rfl
                  have hli : ((srtS ps).take i).length ≤ 1000 := by rw [List.length_take]; omega
                  refine ⟨rfl, _, rfl, (by show 0 ≤ sizeLine; exact Nat.zero_le _), fun t ht' => ?_⟩
                  have hDt : D ≠ t := ne_of_none h1 ht'
                  have nlf : ∀ p ∈ (srtS ps).take i, lf p ≠ t := fun p hp => ne_of_none (hl p hp).1 ht'
                  have eqn : ∀ p ∈ (srtS ps).take i, p ≠ r := fun p hp z => hn (z ▸ hp)
                  refine ⟨_, DPut.k (k := Sum.inr r) (by rw [upd_ne hDt]; exact h1) (small1000 (by rw [List.length_map]; exact hli)), fun p => if p = r then t else lf p, ?_, Same.mut (Same.new sm ht') hD, ?_, ?_⟩
                  · rw [upd_same, putK_new _ (by rw [valV_map, if_neg hn]), ht, List.map_append]
                    refine congrArg (fun l => some (HO.dK l)) (congr (congrArg _ (List.map_congr_left fun p hp => ?_)) ?_)
                    · dsimp only
                      rw [if_neg (eqn p hp)]
                    · simp
                  · rw [ht]
                    intro p hp
                    dsimp only
                    rcases List.mem_append.mp hp with hp | hp
                    · rw [if_neg (eqn p hp), upd_ne (hl p hp).2.2, upd_ne (nlf p hp)]
                      exact hl p hp
                    · have hp : p = r := by simpa using hp
                      rw [if_pos hp, upd_ne hDt.symm, upd_same]
                      exact ⟨rfl, sm.free ht', hDt.symm⟩
                  · rw [ht]
                    intro p hp q hq
                    dsimp only
                    rcases List.mem_append.mp hp with hp | hp
                    · rcases List.mem_append.mp hq with hq | hq
                      · rw [if_neg (eqn p hp), if_neg (eqn q hq)]
                        exact hj p hp q hq
                      · have hq : q = r := by simpa using hq
                        rw [if_neg (eqn p hp), if_pos hq]
                        exact fun z => absurd z (nlf p hp)
                    · have hp : p = r := by simpa using hp
                      rcases List.mem_append.mp hq with hq | hq
                      · rw [if_pos hp, if_neg (eqn q hq)]
                        exact fun z => absurd z.symm (nlf q hq)
                      · have hq : q = r := by simpa using hq
                        exact fun _ => hp.trans hq.symm
              · rintro D H9 hD ⟨lf, h1, sm, hl, hj⟩
                rw [List.length_map, List.take_length] at h1 hl hj
                have hx9 := sm _ _ hx8
                refine ⟨_, rfl, x, _, dx, _, rfl, hx9, T.c_Step, T.x_Step_leads, l4, rfl, (x8.trans (SameX.of sm)).put, D, lf, upd_same, ?_, ?_, ?_, ?_, fun p hp => ⟨?_, ?_⟩, hj⟩
                · exact SameX.tup (SameX.put (SameX.of sm)) hx8 hpa
                · exact SameX.tup (SameX.put (SameX.of sm)) hx8 haa
                · rw [upd_ne (ne_of hla hx8 (by intro z; cases z))]
                  exact sm _ _ hla
                · rw [upd_ne (ne_of h1 hx9 (by intro z; cases z))]
                  exact h1
                · rw [upd_ne (ne_of (hl p hp).1 hx9 (by intro z; cases z))]
                  exact (hl p hp).1
                · exact SameX.free (SameX.trans x8 (SameX.refl x H8)) (by rw [hx8]; simp) (hl p hp).2.1
            · rintro σ H9 ⟨rfl, x9, ll, lf, hx9, hpa, haa, hla, hll, hlf, hj⟩
              have arr : ∀ r ∈ S, r.2.1 ∈ srtS ps := fun r hr' => (List.mergeSort_perm ..).mem_iff.mpr (arrow_names (List.all_eq_true.mp (Bool.and_eq_true_iff.mp ok.ok).1 _ (List.mem_map_of_mem (hM r hr')))).2.2.1
              have fin : ∀ (H' : Hp) (us : Str → List Addr), (∀ b o, H9 b = some o → (∀ p ∈ srtS ps, b ≠ lf p) → H' b = some o) → (∀ p ∈ srtS ps, H' (lf p) = some (.lst ((us p).map V.ref)) ∧ Paired (fun t (r : Str × Int) => SqT K H' t [.str r.1, .int r.2]) (us p) (lead (S.map (·.2)) p)) → Q .non H' := fun H' us st hus => by
                have nxl : ∀ {a : Addr} {o : HO}, H9 a = some o → (∀ ys, o ≠ .lst ys) → ∀ p ∈ srtS ps, a ≠ lf p := fun {a o} h hn p hp z => by
                  have := (hlf p hp).1
                  rw [← z, h] at this
                  exact hn _ (Option.some.inj this)
                have stT : ∀ {a : Addr} {xs : List V}, SqT K H9 a xs → SqT K H' a xs := fun {a xs} h => by
                  rcases h with (h | ⟨o, h⟩) | h
                  · exact .inl (.inl (st _ _ h (nxl h (by intro ys z; cases z))))
                  · exact .inl (.inr ⟨o, st _ _ h (nxl h (by intro ys z; cases z))⟩)
                  · exact .inr h
                refine k H' lf ⟨⟨dx, pa, aa, la, ll, S.map (·.1), us, ?_, stT hpa, ?_, ?_, ?_, ?_, ?_⟩, ndS, ?_, ok.nm⟩ (fun p hp => (hlf p hp).2) (fun b o hb hn => ?_)
                · exact st _ _ hx9 (nxl hx9 (by intro ys z; cases z))
                · rw [List.map_map]
                  exact stT haa
                · show Paired _ (S.map (·.1)) (srtR (rs.map (·.2)))
                  rw [← eM]
                  exact paired_of_mem fun r hr' => stT (rS r hr' x9)
                · show H' la = some (.dT (lossK (srtR (rs.map (·.2)))))
                  rw [← eM]
                  exact st _ _ hla (nxl hla (by intro ys z; cases z))
                · exact st _ _ hll (nxl hll (by intro ys z; cases z))
                · show ∀ p ∈ srtS ps, _ ∧ Paired _ _ (lead (srtR (rs.map (·.2))) p)
                  rw [← eM]
                  exact hus
                · exact fun p hp => ok.nms p ((List.mergeSort_perm ..).mem_iff.mp hp)
                · exact st b o (x9 b o hn hb) fun p hp => ne_of_none hb (hlf p hp).2
              refine ⟨_, rfl, x, _, dx, _, _, rfl, hx9, T.c_Step, T.x_Step_arrows, stepF_arrows n pa aa la ll, aa, rfl, ⟨_, haa⟩, ?_⟩
              refine for_tup (K := K) (xs := S.map fun r => V.ref r.1) (fun i σ H' => (∃ m4 m5 m6, σ = [some (.ref x), some (.str n), some (.ref p), some (.ref q), m4, m5, m6, none]) ∧ ∃ us : Str → List Addr, (∀ b o, H9 b = some o → (∀ p ∈ srtS ps, b ≠ lf p) → H' b = some o) ∧ ∀ p ∈ srtS ps, H' (lf p) = some (.lst ((us p).map V.ref)) ∧ Paired (fun t (r : Str × Int) => SqT K H' t [.str r.1, .int r.2]) (us p) (lead ((S.map (·.2)).take i) p))
                ⟨⟨_, _, _, rfl⟩, fun _ => [], fun b o h _ => h, fun p hp => ⟨(hlf p hp).1, .nil⟩⟩ ?_ ?_ ?_
              · rintro i σ H' hi ⟨_, us, st, hus⟩
                rcases haa with (h | ⟨o, h⟩) | h
                · exact .inl (.inl (st _ _ h fun p hp => ne_of h (hlf p hp).1 (by intro z; cases z)))
                · exact .inl (.inr ⟨o, st _ _ h fun p hp => ne_of h (hlf p hp).1 (by intro z; cases z)⟩)
                · exact .inr h
              · rintro i y σ H' hy ⟨⟨m4, m5, m6, rfl⟩, us, st, hus⟩
                rw [List.getElem?_map] at hy
                cases e : S[i]? with
                | none => rw [e] at hy; cases hy
                | some r =>
                  rw [e] at hy
                  have hy : V.ref r.1 = y := Option.some.inj hy
                  subst hy
                  have hrm := List.mem_of_getElem? e
                  have hr1 : SqT K H' r.1 (rowV r.2) := by
                    rcases rS r hrm x9 with (h | ⟨o, h⟩) | h
                    · exact .inl (.inl (st _ _ h fun p hp => ne_of h (hlf p hp).1 (by intro z; cases z)))
                    · exact .inl (.inr ⟨o, st _ _ h fun p hp => ne_of h (hlf p hp).1 (by intro z; cases z)⟩)
                    · exact .inr h
                  refine ⟨r.1, _, rfl, hr1, rfl, _, _, rfl, _, _, rfl, _, _, rfl, rfl, ?_⟩
                  have hx' := st _ _ hx9 fun p hp => ne_of hx9 (hlf p hp).1 (by intro z; cases z)
                  have hll' := st _ _ hll fun p hp => ne_of hll (hlf p hp).1 (by intro z; cases z)
                  have hp := arr r hrm
                  obtain ⟨hl, pr⟩ := hus _ hp
                  have lu := Paired.length pr
                  have lu2 : (lead ((S.map (·.2)).take i) r.2.1).length ≤ 1000 := by
                    unfold lead
                    rw [List.length_map]
                    refine Nat.le_trans (List.length_filter_le ..) ?_
                    rw [List.length_take, List.length_map]
                    have := ok.lr
                    omega
                  refine ⟨_, rfl, x, _, dx, _, _, rfl, hx', T.c_Step, T.x_Step_leads, stepF_leads n pa aa la ll, _, rfl, ll, .ref (lf r.2.1), rfl, ?_, ?_⟩
                  · have := DGet.k (k := Sum.inr r.2.1) hll'
                    rw [valV_map, if_pos hp] at this
                    exact this
                  · refine ⟨.inl ⟨rfl, _, SqL.of hl⟩, _, rfl, _, rfl, (by show 2 ≤ sizeLine; decide), fun t ht => ?_⟩
                    have nt : ∀ p ∈ srtS ps, lf p ≠ t := fun p hp => ne_of_none (hus p hp).1 ht
                    refine ⟨lf r.2.1, _, _, rfl, rfl, by rw [upd_ne (nt _ hp)]; exact hl, small1000 (by rw [List.length_map]; omega), ⟨_, _, _, rfl⟩, fun p => if p = r.2.1 then us p ++ [t] else us p, fun b o hb hn => ?_, fun p' hp' => ?_⟩
                    · have e1 := st b o hb hn
                      rw [upd_ne (hn _ hp), upd_ne (ne_of_none e1 ht)]
                      exact e1
                    · dsimp only
                      have ht1 : (S.map (·.2)).take (i + 1) = (S.map (·.2)).take i ++ [r.2] := by rw [List.take_succ, List.getElem?_map, e]; rfl
                      obtain ⟨hl', pr'⟩ := hus _ hp'
                      rw [ht1, lead_snoc]
                      have keep : ∀ t' xs, SqT K H' t' xs → SqT K (upd (upd H' t (.tup [.str r.2.2.1, .int r.2.2.2])) (lf r.2.1) (.lst ((us r.2.1).map V.ref ++ [.ref t]))) t' xs := fun t' xs h => SameX.tupL (SameX.put ((SameX.refl (lf r.2.1) H').new ht)) hl h
                      by_cases ee : p' = r.2.1
                      · rw [if_pos ee, if_pos ee.symm, ee]
                        refine ⟨by rw [upd_same, List.map_append]; rfl, paired_snoc (Paired.mapP pr fun t' q' h => keep t' _ h) (SqT.of ?_)⟩
                        rw [upd_ne (nt _ hp).symm, upd_same]
                      · rw [if_neg ee, if_neg (fun z => ee z.symm)]
                        refine ⟨?_, Paired.mapP pr' fun t' q' h => keep t' _ h⟩
                        rw [upd_ne (fun z => ee (hj _ hp' _ hp z)), upd_ne (nt _ hp')]
                        exact hl'
              · rintro σ H' ⟨_, us, st, hus⟩
                rw [List.length_map, ← List.length_map (f := (·.2)), List.take_length] at hus
                exact fin H' us st hus
/-! ### the text of a step -/
def rowT (r : Row) : Str := Str.empty ++ r.1 ++ " " ++ r.2.1 ++ " " ++ (toString r.2.2 : String)
def stepT (d : StepD) : Str := Str.empty ++ Txt.join " " (d.name :: "at" :: d.places) ++ (if (0 : Int) < d.arrows.length then (" go " : Str) ++ Txt.join ", " (d.arrows.map rowT) else "")
structure Fit (d : StepD) : Prop where
  lp : d.places.length ≤ 1000
  lr : d.arrows.length ≤ 1000
  rows : ∀ r ∈ d.arrows, r.1.length ≤ 6 ∧ r.2.1.length ≤ 6 ∧ r.2.2.natAbs.log2 < 1920 ∧ (Str.ofString (toString r.2.2)).length ≤ 1000
theorem sum_le {ys : List Str} {c : Nat} (h : ∀ y ∈ ys, y.length ≤ c) : (ys.map (·.length)).sum ≤ ys.length * c := by
  induction ys with
  | nil => simp
  | cons y r ih =>
    have h1 := h y (List.mem_cons_self ..)
    have h2 := ih fun z hz => h z (List.mem_cons_of_mem _ hz)
    rw [List.map_cons, List.sum_cons, List.length_cons, Nat.succ_mul]
    omega
theorem len_app (a b : Str) : (a ++ b).length = a.length + b.length := by
  show (a.cps ++ b.cps).size = _
  rw [Array.size_append]
  rfl
theorem join_len (y : Str) : ∀ ys : List Str, (Txt.join y ys).length ≤ (ys.map (·.length)).sum + ys.length * y.length
  | [] => Nat.zero_le _
  | [x] => by
    rw [TL.join_eq]
    show x.length ≤ _
    simp
  | x :: z :: r => by
    have ih := join_len y (z :: r)
    rw [TL.join_eq] at ih ⊢
    show (x ++ y ++ Str.join y (z :: r)).length ≤ _
    rw [len_app, len_app]
    rw [List.map_cons, List.sum_cons, List.length_cons, Nat.succ_mul]
    omega
theorem rowT_len {r : Row} (h : r.1.length ≤ 6 ∧ r.2.1.length ≤ 6 ∧ r.2.2.natAbs.log2 < 1920 ∧ (Str.ofString (toString r.2.2)).length ≤ 1000) : (rowT r).length ≤ 1014 := by
  unfold rowT
  rw [len_app, len_app, len_app, len_app, len_app]
  have e1 : (Str.empty).length = 0 := rfl
  have e2 : (Str.ofString " ").length = 1 := by decide +kernel
  omega
def spStr (K : PySem.W.Frag) (C : Addr) : Sp := fun vs H Q _ => ∃ x d lf, vs = [.ref x] ∧ StepAt K C H x d lf ∧ Fit d ∧ ∀ H', Same H H' → Q (.str (stepT d)) H'
theorem ok_Step___str__ (T : Txt K mg) : FnOk P w K mg base CX0 1 T.a_Step___str__ T.d_Step___str__ ["self"] (spStr K T.a_Step) := by
  refine T.F_Step___str__.ok sc_Step___str__ (fun vs H Q E h => ?_) (fun cdv A outer s H vs Q E hr h => ?_)
  · obtain ⟨x, d, lf, rfl, _⟩ := h
    rfl
  · skip
    refine ⟨_, (pss_cons (ps_set (i := 1) sc_Step___str__.nd rfl (Or.inl rfl) (pe_join pe_str (pe_lst (pa_cons (pe_fld (pv 0) rfl) (pa_cons pe_str (StX.pa_star (pe_fld (pv 0) rfl) pa_nil))))))
        (Evl.pss_cut (ps_setLc (i := 2) (own := [("start", 4), ("end", 5), ("lost", 6)]) (g := (gTup K 3 (gCons (gName 4) (gCons (gName 5) (gCons (gName 6) gNil))))) (by rfl) sc_Step___str__.nd rfl rfl (sw_true rfl rfl rfl (by decide +kernel)) (pi_tup (pe_fld (pv 0) rfl)) (blkOk_by (own := [("start", 4), ("end", 5), ("lost", 6)]) (N := n_Step___str__) (sc := defScope s_Step___str__) (by decide +kernel)) (fun _ _ _ _ _ => (pg_tup rfl (pgs_cons (pg_name (i := 4) sc_Step___str__.nd rfl (Or.inl rfl) (Or.inr rfl)) (pgs_cons (pg_name (i := 5) sc_Step___str__.nd rfl (Or.inl rfl) (Or.inr rfl)) (pgs_cons (pg_name (i := 6) sc_Step___str__.nd rfl (Or.inl rfl) (Or.inr rfl)) pgs_nil))))) (fun _ _ _ _ _ => pts_nil) (fun _ _ _ _ _ => (pe_joined (PJ.cons (pe_fmt (pv 4)) (PJ.cons pe_str (PJ.cons (pe_fmt (pv 5)) (PJ.cons pe_str (PJ.cons (pe_fmt (pv 6)) PJ.nil))))))))
        (pss_cons (ps_set (i := 3) sc_Step___str__.nd rfl (Or.inl rfl) (pe_ifExp (pt_cmpR op_gt (pe_callB call_len_seq (by rfl) T.b_len (by decide +kernel) (pa_cons (pv 2) pa_nil)) pe_int (nomark _)) (pe_op op_add_str pe_str (pe_join pe_str (pv 2))) pe_str))
        (pss_one (ps_ret (pe_joined (PJ.cons (pe_fmt (pv 1)) (PJ.cons (pe_fmt (pv 3)) PJ.nil)))))))), ?_⟩
    obtain ⟨x, d, lf, rfl, st, fit, q⟩ := h
    obtain ⟨dx, pa, aa, la, ll, ts, us, h1, h2, h3, h4, h5, h7, h8⟩ := st.ex
    have e1 : (Str.ofString " ").length = 1 := by decide +kernel
    have e2 : (Str.ofString "at").length = 2 := by decide +kernel
    have e3 : (Str.ofString ", ").length = 2 := by decide +kernel
    have e4 : (Str.ofString " go ").length = 4 := by decide +kernel
    have l1 : ∀ y ∈ d.name :: "at" :: d.places, y.length ≤ 6 := fun y hy => by
      rcases List.mem_cons.mp hy with rfl | hy
      · exact isName_len st.nm
      rcases List.mem_cons.mp hy with rfl | hy
      · rw [e2]; decide
      · exact isName_len (st.nms y hy)
    have l2 := sum_le l1
    have l3 : (d.name :: "at" :: d.places).length ≤ 1002 := by have := fit.lp; simp; omega
    have l4 := join_len " " (d.name :: "at" :: d.places)
    have l5 : ∀ y ∈ d.arrows.map rowT, y.length ≤ 1014 := fun y hy => by
      obtain ⟨r, hr', rfl⟩ := List.mem_map.mp hy
      exact rowT_len (fit.rows r hr')
    have l6 := sum_le l5
    have l7 : (d.arrows.map rowT).length ≤ 1000 := by rw [List.length_map]; exact fit.lr
    have l8 := join_len ", " (d.arrows.map rowT)
    have b1 : ((d.name :: "at" :: d.places).map (·.length)).sum + (d.name :: "at" :: d.places).length * (Str.ofString " ").length ≤ 10000 := by rw [e1]; omega
    have b2 : ((d.arrows.map rowT).map (·.length)).sum + (d.arrows.map rowT).length * (Str.ofString ", ").length ≤ 1100000 := by rw [e3]; omega
    have sz : sizeLine = 16777216 := rfl
    refine ⟨⟨_, rfl⟩, ⟨_, rfl, x, _, dx, _, _, rfl, h1, T.c_Step, T.x_Step_name, stepF_name .., _, rfl, x, _, dx, _, _, rfl, h1, T.c_Step, T.x_Step_places, stepF_places .., pa, _, rfl, .inl h2, ?_, fun p hp => ?_⟩⟩
    · rw [List.append_nil]
      have := fit.lp
      simp only [List.length_cons, List.length_map]
      omega
    · refine ⟨_, p, d.name :: "at" :: d.places, rfl, rfl, .inl (SqL.of (by rw [upd_same, List.append_nil]; rfl)), by omega, ?_⟩
      have s1 : Same H (upd H p (.lst ([.str d.name, .str "at"] ++ (d.places.map V.str ++ [])))) := same_new hp
      refine ⟨fun σ H2 => ∃ D, σ = [some (.ref x), some (.str (Txt.join " " (d.name :: "at" :: d.places))), some (.ref D), none, none, none, none] ∧ Same H H2 ∧ H2 D = some (.lst ((d.arrows.map rowT).map V.str)), ?_, ?_⟩
      · obtain ⟨es, z1, z2, z3⟩ := paired_zip h4
        walk_at "op"
        refine tLc_el (es := es) (f := fun e => V.ref e.1) (sw_tup (a := aa) (fun R h => ⟨_, rfl, x, _, dx, _, _, rfl, s1 _ _ h1, T.c_Step, T.x_Step_arrows, stepF_arrows .., h⟩) (Same.tup s1 (by rw [z1, List.map_map] at h3; exact h3))) (by have := congrArg List.length z2; rw [List.length_map] at this; have := fit.lr; omega) (fun y e _ _ => y = .str (rowT e.2)) (fun _ _ _ _ _ _ h => h) (fun e D l H2 R _ _ s2 hm kR => ?_) (fun D ys H2 hD s2 h2 pr => ?_)
        · have hf := fit.rows e.2 (by rw [z2]; exact List.mem_map_of_mem hm)
          have hl := rowT_len hf
          unfold rowT at hl
          rw [len_app, len_app, len_app, len_app, len_app] at hl
          refine ⟨e.1, _, rfl, Same.tup s2 (Same.tup s1 (z3 e hm)), rfl, _, _, rfl, _, _, rfl, _, _, rfl, rfl, rfl, ?_⟩
          refine ⟨_, rfl, .inl ⟨_, rfl, by omega, _, rfl, by rw [len_app]; omega, _, rfl, by rw [len_app, len_app]; omega, _, rfl, .inl ⟨_, rfl, by omega, _, rfl, by rw [len_app, len_app, len_app]; omega, _, rfl, by rw [len_app, len_app, len_app, len_app]; omega, _, rfl, .inr ⟨_, rfl, hf.2.2.1, _, rfl, by rw [len_app, len_app, len_app, len_app, len_app]; omega, kR _ _ (Same.refl H2) rfl⟩⟩⟩⟩
        · have ey := paired_map2 pr
          refine ⟨D, rfl, s1.trans s2, ?_⟩
          rw [h2, ey, z2, List.map_map, List.map_map]
          rfl
      · rintro σ H2 ⟨D, rfl, s2, h2⟩
        walk_at "op"
        refine ⟨_, rfl, D, _, rfl, .inl (SqL.of h2), _, _, rfl, rfl, _, rfl, ?_⟩
        have hl : (((d.arrows.map rowT).map V.str).length : Int) = (d.arrows.length : Int) := by simp
        rw [hl]
        have q2 := q H2 s2
        unfold stepT at q2
        by_cases hc : (0 : Int) < d.arrows.length
        · rw [if_pos hc] at q2
          rw [decide_eq_true hc]
          refine iteT ?_
          refine ⟨⟨_, rfl⟩, _, rfl, ⟨_, D, d.arrows.map rowT, rfl, rfl, .inl (SqL.of h2), by omega, ?_⟩⟩
          refine ⟨_, _, rfl, rfl, by omega, ?_⟩
          have e0 : (Str.empty).length = 0 := rfl
          exact ⟨_, rfl, .inl ⟨_, rfl, by omega, _, rfl, by rw [len_app]; omega, _, rfl, .inl ⟨_, rfl, by rw [len_app]; omega, _, rfl, by rw [len_app, len_app, len_app]; omega, q2⟩⟩⟩
        · rw [if_neg hc] at q2
          rw [decide_eq_false hc]
          refine iteF ?_
          have e0 : (Str.empty).length = 0 := rfl
          have e5 : (Str.ofString "").length = 0 := rfl
          exact ⟨_, rfl, .inl ⟨_, rfl, by omega, _, rfl, by rw [len_app]; omega, _, rfl, .inl ⟨_, rfl, by omega, _, rfl, by rw [len_app, len_app]; omega, q2⟩⟩⟩
/-! ### equality of steps -/
def spEq (K : PySem.W.Frag) (C : Addr) : Sp := fun vs H Q _ => (∃ x v k, vs = [.ref x, v] ∧ Any K H v k ∧ k.plain = true ∧ ∀ H', Same H H' → Q (.bl false) H') ∨
  ∃ x y d e lf lg, vs = [.ref x, .ref y] ∧ StepAt K C H x d lf ∧ StepAt K C H y e lg ∧ Fit d ∧ Fit e ∧ ∀ H', Same H H' → Q (.bl (decide (stepT d = stepT e))) H'
theorem ok_Step___eq__ (T : Txt K mg) : FnOk P w K mg base CX0 4 T.a_Step___eq__ T.d_Step___eq__ ["self", "other"] (spEq K T.a_Step) := by
  refine T.F_Step___eq__.ok sc_Step___eq__ (fun vs H Q E h => ?_) (fun cdv A outer s H vs Q E hr h => ?_)
  · rcases h with ⟨x, v, k, rfl, _⟩ | ⟨x, y, d, e, lf, lg, rfl, _⟩ <;> rfl
  · skip
    refine ⟨_, (pss_one (ps_ret (pe_and (pe_callB call_isi (by rfl) T.b_isinstance (by decide +kernel) (pa_cons (pv 1) (pa_cons (pe_glob (v := .ref T.a_Step) rfl T.m_Step rfl) pa_nil))) (pe_one (pe_cmpR op_eq (pe_callTy (call_strOwn T.t_Step___str__.at_ T.t_Step___str__.fn (ok_Step___str__ T) T.n_Step___str__ (hr.mono (by decide)) pass0) (by rfl) T.b_str (by decide +kernel) (pa_cons (pv 0) pa_nil)) (pe_callTy (call_strOwn T.t_Step___str__.at_ T.t_Step___str__.fn (ok_Step___str__ T) T.n_Step___str__ (hr.mono (by decide)) pass0) (by rfl) T.b_str (by decide +kernel) (pa_cons (pv 1) pa_nil)) (nomark _)))))), ?_⟩
    rcases h with ⟨x, v, k, rfl, hv, hk, q⟩ | ⟨x, y, d, e, lf, lg, rfl, sd, se, fd, fe, q⟩
    · walk_at "op"
      refine ⟨_, rfl, _, _, _, _, _, rfl, .own _, hv.ty, Kd.kitOwn T.o_Step hk, _, rfl, iteF (q _ (Same.refl H))⟩
    · walk_at "op"
      obtain ⟨dx, pa, aa, la, ll, ts, us, h1, _⟩ := sd.ex
      obtain ⟨dy, pa', aa', la', ll', ts', us', k1, _⟩ := se.ex
      refine ⟨_, rfl, _, _, _, _, _, rfl, .own _, (Any.own k1 T.o_Step).ty, kit_self, _, rfl, iteT ?_⟩
      refine ⟨_, rfl, x, dx, _, rfl, h1, x, d, lf, rfl, sd, fd, fun H1 s1 => ⟨_, rfl, ?_⟩⟩
      refine ⟨_, rfl, y, dy, _, rfl, s1 _ _ k1, y, e, lg, rfl, se.same s1, fe, fun H2 s2 => ⟨_, rfl, rfl, ?_⟩⟩
      have e1 : decide (V.str (stepT d) = V.str (stepT e)) = decide (stepT d = stepT e) := by simp
      rw [e1]
      exact q H2 (s1.trans s2)
/-! ### the law's stages -/
def six : List Str := ["pan", "board", "bowl", "dish", "a", "zzzzzz"]
theorem perm_strs {ys : List V} {xs : List Str} (h : ys.Perm (xs.map V.str)) : ∃ zs : List Str, ys = zs.map V.str ∧ zs.Perm xs := by
  have g : ∀ y ∈ ys, ∃ s, y = V.str s := fun y hy => by
    obtain ⟨s, _, e⟩ := List.mem_map.mp (h.mem_iff.mp hy)
    exact ⟨s, e.symm⟩
  let f : V → Str := fun v => match v with
    | .str s => s
    | _ => Str.empty
  have e1 : ys = (ys.map f).map V.str := by
    rw [List.map_map]
    refine (List.map_id ys).symm.trans (List.map_congr_left fun y hy => ?_)
    obtain ⟨s, rfl⟩ := g y hy
    rfl
  refine ⟨ys.map f, e1, ?_⟩
  have h2 := h.map f
  rw [List.map_map] at h2
  have e2 : xs.map (f ∘ V.str) = xs := by
    refine (List.map_congr_left fun x _ => ?_).trans (List.map_id xs)
    rfl
  rw [e2] at h2
  exact h2
theorem cut_to {xs : List V} {k : Nat} : cutV xs none (some (k : Int)) = xs.take k := by
  unfold cutV
  rw [HT.sIx_none, HT.sIx_nat, List.drop_zero, Nat.sub_zero]
  by_cases h : k ≤ xs.length
  · rw [Nat.min_eq_left h]
  · rw [Nat.min_eq_right (by omega), List.take_length, List.take_of_length_le (by omega)]
def spSpots : Sp := fun vs H Q _ => ∃ (d l : Addr) (m : Nat), vs = [.ref d, .int m] ∧ DealAt H d l ∧
  ∀ (q : Addr) (ys : List Str) (H' : Hp), ys.length = min m 6 → ys.Nodup → (∀ y ∈ ys, y ∈ six) → H q = none → H' q = some (.lst (ys.map V.str)) → DealAt H' d l → Kp d l H H' → Q (.ref q) H'
theorem DealAt.new {H : Hp} {d l p : Addr} {o : HO} (D : DealAt H d l) (hp : H p = none) : DealAt (upd H p o) d l := by
  obtain ⟨xs, s, h1, h2, h3, h4⟩ := D
  exact ⟨xs, s, by rw [upd_ne (ne_of_none h1 hp)]; exact h1, by rw [upd_ne (ne_of_none h2 hp)]; exact h2, h3, h4⟩
theorem DealAt.put {H : Hp} {d l p : Addr} {o : HO} (D : DealAt H d l) (hd : p ≠ d) (hl : p ≠ l) : DealAt (upd H p o) d l := by
  obtain ⟨xs, s, h1, h2, h3, h4⟩ := D
  exact ⟨xs, s, by rw [upd_ne hd.symm]; exact h1, by rw [upd_ne hl.symm]; exact h2, h3, h4⟩
theorem DealAt.ne {H : Hp} {d l p : Addr} (D : DealAt H d l) (h : H p = none) : p ≠ d ∧ p ≠ l := by
  obtain ⟨xs, s, h1, h2, _⟩ := D
  exact ⟨(ne_of_none h1 h).symm, (ne_of_none h2 h).symm⟩
theorem ok__law_spots (T : Txt K mg) : FnOk P w K mg base CX0 3 T.a__law_spots T.d__law_spots ["_law_deal_here", "_law_many"] spSpots := by
  refine T.F__law_spots.ok sc__law_spots (fun vs H Q E h => ?_) (fun cdv A outer s H vs Q E hr h => ?_)
  · obtain ⟨d, l, m, rfl, _⟩ := h
    rfl
  · obtain ⟨d, l, m, rfl, D, k⟩ := h
    refine ⟨_, (pss_one (ps_ret (pe_slice sl_list (pe_call (ok__law_mixed T) (hr.mono (by decide)) rfl T.m__law_mixed T.F__law_mixed.kp T.n__law_mixed .nil pass0 (pa_cons (pv 0) (pa_cons (pe_lst (pa_cons pe_str (pa_cons pe_str (pa_cons pe_str (pa_cons pe_str (pa_cons pe_str (pa_cons pe_str pa_nil))))))) pa_nil))) po_none (po_some (pv 1))))), ?_⟩
    refine ⟨_, rfl, (by show 6 ≤ sizeLine; decide), fun p hp => ?_⟩
    refine ⟨d, l, p, six.map V.str, rfl, D.new hp, .inl (SqL.of upd_same), by decide, fun q ys H' pm hq hq' D' kp => ?_⟩
    obtain ⟨zs, rfl, pz⟩ := perm_strs pm
    refine ⟨_, rfl, _, rfl, q, _, rfl, SqL.of hq', fun t ht => ?_⟩
    rw [cut_to, ← List.map_take]
    have nd : zs.Nodup := pz.nodup_iff.mpr (by decide +kernel)
    refine k t (zs.take m) _ ?_ (nd.sublist (List.take_sublist ..)) (fun y hy => pz.mem_iff.mp (List.mem_of_mem_take hy)) ?_ upd_same (D'.new ht) ?_
    · rw [List.length_take, pz.length_eq]
      rfl
    · have := kp.free t ht
      by_cases e : t = p
      · rw [e, upd_same] at this; cases this
      · rw [upd_ne e] at this; exact this
    · exact Kp.new (Kp.trans (Kp.new (Kp.refl d l H) hp) kp) ht
/-! sorting -/
theorem sort_perm {β : Type} {enc : β → PyData} (inj : ∀ a b, PySem.W.keyToks (enc a) = PySem.W.keyToks (enc b) → a = b) {l m : List β} (hp : l.Perm m) : l.mergeSort (PySem.W.dataLe false enc) = m.mergeSort (PySem.W.dataLe false enc) := by
  have tot : PySem.W.TotalLe (PySem.W.dataLe false enc) := PySem.W.sortLe_total _ false _
  have pw : ∀ x : List β, (x.mergeSort (PySem.W.dataLe false enc)).Pairwise (fun a b => PySem.W.dataLe false enc a b = true) := fun x => List.pairwise_mergeSort tot.trans (fun a b => by rw [Bool.or_eq_true]; exact tot.total a b) x
  refine List.Perm.eq_of_pairwise (le := fun a b => PySem.W.dataLe false enc a b = true) (fun a b _ _ h1 h2 => inj a b ?_) (pw l) (pw m) (((List.mergeSort_perm ..).trans hp).trans (List.mergeSort_perm ..).symm)
  unfold PySem.W.dataLe PySem.W.sortLe at h1 h2
  have h1' := h1
  have h2' := h2
  simp only [cond_false, Bool.not_eq_true'] at h1' h2'
  exact (PyProof.Rows.listOrd PyProof.Rows.itemOrd).total _ _ h2' h1'
theorem keyS_inj (a b : Str) (h : PySem.W.keyToks (.str a) = PySem.W.keyToks (.str b)) : a = b := by
  simp only [PySem.W.keyToks] at h
  have := Sum.inr.inj (List.cons.inj h).1
  exact TL.ext_tl this
theorem keyR_inj (a b : Row) (h : PySem.W.keyToks (rowD a) = PySem.W.keyToks (rowD b)) : a = b := by
  obtain ⟨a1, a2, a3⟩ := a
  obtain ⟨b1, b2, b3⟩ := b
  simp only [rowD, PySem.W.keyToks, PySem.W.keyToksAll, List.cons_append, List.nil_append, List.cons.injEq, Sum.inr.injEq, Sum.inl.injEq, true_and, and_true] at h
  obtain ⟨h1, h2, h3⟩ := h
  rw [TL.ext_tl h1, TL.ext_tl h2, h3]
theorem srtS_perm {l m : List Str} (h : l.Perm m) : srtS l = srtS m := sort_perm keyS_inj h
theorem srtR_perm {l m : List Row} (h : l.Perm m) : srtR l = srtR m := sort_perm keyR_inj h
theorem srtS_idem (l : List Str) : srtS (srtS l) = srtS l := srtS_perm (List.mergeSort_perm ..)
theorem srtR_idem (l : List Row) : srtR (srtR l) = srtR l := srtR_perm (List.mergeSort_perm ..)
/-! dicts of rows -/
def rowK (r : Row) : List Key × V := ([.inr r.1, .inr r.2.1], .int r.2.2)
def pr (r : Row) : Str × Str := (r.1, r.2.1)
theorem rowK_eq {a b : Row} : (rowK a).1 = (rowK b).1 ↔ pr a = pr b := by
  unfold rowK pr
  constructor
  · intro h
    simp only [List.cons.injEq, Sum.inr.injEq, and_true] at h
    rw [h.1, h.2]
  · intro h
    rw [(Prod.mk.inj h).1, (Prod.mk.inj h).2]
theorem put_row (rows : List Row) (r : Row) (nd : (rows.map pr).Nodup) : ∃ rows' : List Row, putK (rows.map rowK) (rowK r).1 (.int r.2.2) = rows'.map rowK ∧ (rows'.map pr).Nodup ∧ (∀ x ∈ rows', x ∈ rows ∨ x = r) ∧ rows'.length ≤ rows.length + 1 := by
  unfold putK
  by_cases h : ((rows.map rowK).any fun kv => decide (kv.1 = (rowK r).1)) = true
  · rw [if_pos h]
    refine ⟨rows.map fun x => if pr x = pr r then r else x, ?_, ?_, ?_, by simp⟩
    · rw [List.map_map, List.map_map]
      refine List.map_congr_left fun x _ => ?_
      show (if (rowK x).1 = (rowK r).1 then ((rowK x).1, V.int r.2.2) else rowK x) = rowK (if pr x = pr r then r else x)
      by_cases e : pr x = pr r
      · rw [if_pos e, if_pos (rowK_eq.mpr e), rowK_eq.mpr e]
        rfl
      · rw [if_neg e, if_neg fun z => e (rowK_eq.mp z)]
    · rw [List.map_map]
      have : rows.map (pr ∘ fun x => if pr x = pr r then r else x) = rows.map pr := List.map_congr_left fun x _ => by
        show pr (if pr x = pr r then r else x) = pr x
        by_cases e : pr x = pr r
        · rw [if_pos e, e]
        · rw [if_neg e]
      rw [this]
      exact nd
    · intro x hx
      obtain ⟨y, hy, rfl⟩ := List.mem_map.mp hx
      by_cases e : pr y = pr r
      · rw [if_pos e]; exact .inr rfl
      · rw [if_neg e]; exact .inl hy
  · rw [if_neg h]
    refine ⟨rows ++ [r], by rw [List.map_append]; rfl, ?_, fun x hx => ?_, by simp⟩
    · rw [List.map_append, List.nodup_append]
      refine ⟨nd, by simp, fun a ha b hb e => h ?_⟩
      have hb : b = pr r := by simpa using hb
      obtain ⟨y, hy, rfl⟩ := List.mem_map.mp ha
      rw [List.any_eq_true]
      exact ⟨rowK y, List.mem_map_of_mem hy, by simpa using rowK_eq.mpr (e.trans hb)⟩
    · rcases List.mem_append.mp hx with h | h
      · exact .inl h
      · exact .inr (by simpa using h)
theorem val_row {rows : List Row} (nd : (rows.map pr).Nodup) : ∀ {r : Row}, r ∈ rows → valV (rows.map rowK) (rowK r).1 = some (.int r.2.2) := by
  induction rows with
  | nil => intro r h; cases h
  | cons x t ih =>
    intro r h
    rw [List.map_cons, List.nodup_cons] at nd
    unfold valV at ih ⊢
    rw [List.map_cons]
    rcases List.mem_cons.mp h with rfl | h
    · rw [List.find?_cons_of_pos (by simp)]
      rfl
    · have e : ¬ (rowK x).1 = (rowK r).1 := fun z => nd.1 (by rw [rowK_eq.mp z]; exact List.mem_map_of_mem h)
      rw [List.find?_cons_of_neg (by simpa using e)]
      exact ih nd.2 h
def spStage (K : PySem.W.Frag) : Sp := fun vs H Q _ => ∃ (d l sp : Addr) (n : Str) (ss : List Str), vs = [.ref d, .str n, .ref sp] ∧ DealAt H d l ∧ H sp = some (.lst (ss.map V.str)) ∧ sp ≠ d ∧ sp ≠ l ∧ ss ≠ [] ∧ ss.Nodup ∧ ss.length ≤ 1000 ∧
  ∀ (t tq rq : Addr) (ts : List Str) (rs : List (Addr × Row)) (H' : Hp), H t = none → H tq = none → H rq = none → ts ≠ [] → ts.Nodup → ts.length ≤ 1000 → (∀ x ∈ ts, x ∈ ss) → (rs.map fun r => (r.2.1, r.2.2.1)).Nodup → (∀ r ∈ rs, r.2.1 ∈ ts ∧ r.2.2.1 ∈ ts ∧ 0 ≤ r.2.2.2 ∧ r.2.2.2 ≤ 3) → rs.length ≤ 6 → (∀ r ∈ rs, H' r.1 = some (.tup (rowV r.2))) →
    H' t = some (.tup [.str n, .ref tq, .ref rq]) → H' tq = some (.lst ((srtS ts).map V.str)) → H' rq = some (.lst (rs.map fun r => V.ref r.1)) → srtR (rs.map (·.2)) = rs.map (·.2) → DealAt H' d l → Kp d l H H' → Q (.ref t) H'
theorem ok__law_stage (T : Txt K mg) : FnOk P w K mg base CX0 4 T.a__law_stage T.d__law_stage ["_law_deal_here", "_law_title", "_law_spots_here"] (spStage K) := by
  refine T.F__law_stage.ok sc__law_stage (fun vs H Q E h => ?_) (fun cdv A outer s H vs Q E hr h => ?_)
  · obtain ⟨d, l, sp, n, ss, rfl, _⟩ := h
    rfl
  · obtain ⟨d, l, sp, n, ss, rfl, D, hsp, nd, nl, ne, nu, lz, k⟩ := h
    have hu := hu_of hr
    refine ⟨_, (pss_cons (ps_set (i := 3) sc__law_stage.nd rfl (Or.inl rfl) (pe_slice sl_list (pe_call (ok__law_mixed T) (hr.mono (by decide)) rfl T.m__law_mixed T.F__law_mixed.kp T.n__law_mixed .nil pass0 (pa_cons (pv 0) (pa_cons (pv 2) pa_nil))) po_none (po_some (pe_op op_add pe_int (pe_call (ok__law_draw T) (hr.mono (by decide)) rfl T.m__law_draw T.F__law_draw.kp T.n__law_draw .nil pass0 (pa_cons (pv 0) (pa_cons (pe_callB (call_min2 rfl) (by rfl) T.b_min (by decide +kernel) (pa_cons pe_int (pa_cons (pe_callB call_len_seq (by rfl) T.b_len (by decide +kernel) (pa_cons (pv 2) pa_nil)) pa_nil))) pa_nil)))))))
        (pss_cons (ps_set (i := 4) sc__law_stage.nd rfl (Or.inr rfl) (pe_dnewT))
        (Evl.pss_cut (ps_for PassesOwn.never rfl (pi_range1 rfl T.b_range (pa_cons (pe_call (ok__law_draw T) (hr.mono (by decide)) rfl T.m__law_draw T.F__law_draw.kp T.n__law_draw .nil pass0 (pa_cons (pv 0) (pa_cons pe_int pa_nil))) pa_nil)) (pg_name (i := 5) sc__law_stage.nd rfl (Or.inl rfl))
          (pss_one (ps_dput hu (pv 4) (pe_tup (pa_cons (pe_call (ok__law_pick T) (hr.mono (by decide)) rfl T.m__law_pick T.F__law_pick.kp T.n__law_pick .nil pass0 (pa_cons (pv 0) (pa_cons (pv 3) pa_nil))) (pa_cons (pe_call (ok__law_pick T) (hr.mono (by decide)) rfl T.m__law_pick T.F__law_pick.kp T.n__law_pick .nil pass0 (pa_cons (pv 0) (pa_cons (pv 3) pa_nil))) pa_nil))) (pe_call (ok__law_pick T) (hr.mono (by decide)) rfl T.m__law_pick T.F__law_pick.kp T.n__law_pick .nil pass0 (pa_cons (pv 0) (pa_cons (pe_lst (pa_cons pe_int (pa_cons pe_int (pa_cons pe_int (pa_cons pe_int (pa_cons pe_int (pa_cons pe_int (pa_cons pe_int pa_nil)))))))) pa_nil))) rfl)))
        (Evl.pss_cut (ps_set (i := 6) sc__law_stage.nd rfl (Or.inl rfl) (pe_callB (cr_sortedD hr.units) (by rfl) T.b_sorted (by decide +kernel) (pa_cons (pe_lock (pe_lc (own := [("_law_first", 7), ("_law_second", 8)]) (g := (gTup K 2 (gCons (gName 7) (gCons (gName 8) gNil)))) (by rfl) sc__law_stage.nd (pi_keys (pv 4)) (blkOk_by (own := [("_law_first", 7), ("_law_second", 8)]) (N := n__law_stage) (sc := defScope s__law_stage) (by decide +kernel)) (fun _ _ _ _ _ => (pg_tup rfl (pgs_cons (pg_name (i := 7) sc__law_stage.nd rfl (Or.inl rfl) (Or.inr rfl)) (pgs_cons (pg_name (i := 8) sc__law_stage.nd rfl (Or.inl rfl) (Or.inr rfl)) pgs_nil)))) (fun _ _ _ _ _ => pts_nil) (fun _ _ _ _ _ => (pe_tup (pa_cons (pv 7) (pa_cons (pv 8) (pa_cons (pe_dget hu (pv 4) (pe_tup (pa_cons (pv 7) (pa_cons (pv 8) pa_nil))) (fun _ _ => rfl)) pa_nil))))))) pa_nil)))
        (pss_one (ps_ret (pe_tup (pa_cons (pv 1) (pa_cons (pe_callB (cr_sortedD hr.units) (by rfl) T.b_sorted (by decide +kernel) (pa_cons (pv 3) pa_nil)) (pa_cons (pv 6) pa_nil)))))))))), ?_⟩
    have hm : (0 : Int) < if ((ss.map V.str).length : Int) < 4 then ((ss.map V.str).length : Int) else 4 := by
      have := List.length_pos_iff.mpr ne
      rw [List.length_map]
      split <;> omega
    have hm2 : (if ((ss.map V.str).length : Int) < 4 then ((ss.map V.str).length : Int) else 4) ≤ 4 := by split <;> omega
    refine ⟨_, rfl, _, rfl, d, l, sp, ss.map V.str, rfl, D, .inl (SqL.of hsp), by simpa using lz, fun q ys H1 pm hq hq' D1 kp1 => ?_⟩
    obtain ⟨zs, rfl, pz⟩ := perm_strs pm
    refine ⟨_, rfl, _, rfl, sp, _, rfl, .inl (SqL.of (kp1.stay _ _ hsp nd nl)), _, _, rfl, d, l, _, rfl, D1, hm, by omega, fun r H2 h0 h1 D2 kp2 => ?_⟩
    refine ⟨_, _, rfl, rfl, _, rfl, q, _, rfl, SqL.of (kp2.stay _ _ hq' (D.ne hq).1 (D.ne hq).2), fun t ht => ?_⟩
    rw [show (1 + r : Int) = ((1 + r.toNat : Nat) : Int) by omega, cut_to, ← List.map_take]
    have hzt : zs.take (1 + r.toNat) ≠ [] := by
      intro e
      have e2 := congrArg List.length e
      rw [List.length_take, pz.length_eq, List.length_nil] at e2
      have := List.length_pos_iff.mpr ne
      omega
    have hzn : (zs.take (1 + r.toNat)).Nodup := (pz.nodup_iff.mpr nu).sublist (List.take_sublist ..)
    have hzm : ∀ x ∈ zs.take (1 + r.toNat), x ∈ ss := fun x hx => pz.mem_iff.mp (List.mem_of_mem_take hx)
    have hzl : (zs.take (1 + r.toNat)).length ≤ 1000 := by rw [List.length_take, pz.length_eq]; omega
    revert hzt hzn hzm hzl
    generalize zs.take (1 + r.toNat) = ts
    intro hzt hzn hzm hzl
    have kp3 : Kp d l H H2 := kp1.trans kp2
    have nt := D2.ne ht
    have ht0 := kp3.free t ht
    intro m hm'
    have hmt : t ≠ m := fun e => by rw [← e, upd_same] at hm'; cases hm'
    have hm2' : H2 m = none := by rw [upd_ne hmt.symm] at hm'; exact hm'
    have hm0 := kp3.free m hm2'
    have nm := D2.ne hm2'
    refine ⟨fun σ H5 => ∃ (rows : List Row) (m5 : Option V), σ = [some (.ref d), some (.str n), some (.ref sp), some (.ref t), some (.ref m), m5, none, none, none] ∧ H5 m = some (.dT (rows.map rowK)) ∧ H5 t = some (.lst (ts.map V.str)) ∧ DealAt H5 d l ∧ Kp d l H H5 ∧ (rows.map pr).Nodup ∧ (∀ r ∈ rows, r.1 ∈ ts ∧ r.2.1 ∈ ts ∧ 0 ≤ r.2.2 ∧ r.2.2 ≤ 3) ∧ rows.length ≤ 6, ?_, ?_⟩
    · refine ⟨_, rfl, d, l, 6, rfl, (D2.new ht).new hm', by omega, by omega, fun r' H5 h0' h1' D5 kp5 => ?_⟩
      refine ⟨r', rfl, by omega, by omega, ?_⟩
      refine for_range (fun i σ H5 => ∃ (rows : List Row) (m5 : Option V), σ = [some (.ref d), some (.str n), some (.ref sp), some (.ref t), some (.ref m), m5, none, none, none] ∧ H5 m = some (.dT (rows.map rowK)) ∧ H5 t = some (.lst (ts.map V.str)) ∧ DealAt H5 d l ∧ Kp d l H H5 ∧ (rows.map pr).Nodup ∧ (∀ r ∈ rows, r.1 ∈ ts ∧ r.2.1 ∈ ts ∧ 0 ≤ r.2.2 ∧ r.2.2 ≤ 3) ∧ rows.length ≤ i) ?_ ?_ ?_
      · refine ⟨[], none, rfl, kp5.stay _ _ upd_same nm.1 nm.2, kp5.stay _ _ (by rw [upd_ne hmt]; exact upd_same) nt.1 nt.2, D5, ((kp3.new ht).new hm').trans kp5, by simp, (fun _ h => by cases h), Nat.le_refl _⟩
      · rintro i σ H6 hi ⟨rows, m5, rfl, h6m, h6t, D6, kp6, ndr, rok, rl⟩
        refine ⟨_, rfl, (by show 7 ≤ sizeLine; decide), fun p hp => ?_⟩
        have np := D6.ne hp
        have hp0 := kp6.free p hp
        refine ⟨d, l, p, ([0, 0, 0, 1, 1, 2, 3] : List Int).map V.int, rfl, D6.new hp, SqL.of upd_same, np.1, np.2, by decide, by decide, fun x H7 hx D7 kp7 => ?_⟩
        obtain ⟨c, hc, rfl⟩ := List.mem_map.mp hx
        have hc3 : 0 ≤ c ∧ c ≤ 3 := by
          have : ∀ c ∈ ([0, 0, 0, 1, 1, 2, 3] : List Int), 0 ≤ c ∧ c ≤ 3 := by decide
          exact this c hc
        have h7t : H7 t = some (.lst (ts.map V.str)) := kp7.stay _ _ (by rw [upd_ne (ne_of_none h6t hp)]; exact h6t) nt.1 nt.2
        have h7m : H7 m = some (.dT (rows.map rowK)) := kp7.stay _ _ (by rw [upd_ne (ne_of_none h6m hp)]; exact h6m) nm.1 nm.2
        have k7 : Kp d l H H7 := (kp6.new hp).trans kp7
        have tne : ts.map V.str ≠ [] := fun e => hzt (List.map_eq_nil_iff.mp e)
        refine ⟨_, rfl, _, rfl, _, rfl, d, l, t, _, rfl, D7, SqL.of h7t, nt.1, nt.2, tne, by simpa using hzl, fun y1 H8 hy1 D8 kp8 => ?_⟩
        have h8t := kp8.stay _ _ h7t nt.1 nt.2
        have h8m := kp8.stay _ _ h7m nm.1 nm.2
        refine ⟨_, rfl, _, rfl, d, l, t, _, rfl, D8, SqL.of h8t, nt.1, nt.2, tne, by simpa using hzl, fun y2 H9 hy2 D9 kp9 => ?_⟩
        have h9t := kp9.stay _ _ h8t nt.1 nt.2
        have h9m := kp9.stay _ _ h8m nm.1 nm.2
        have k9 : Kp d l H H9 := (k7.trans kp8).trans kp9
        obtain ⟨a, ha, rfl⟩ := List.mem_map.mp hy1
        obtain ⟨b, hb, rfl⟩ := List.mem_map.mp hy2
        refine ⟨(by show 2 ≤ sizeLine; decide), fun u hu' => ?_⟩
        obtain ⟨rows', e1, e2, e3, e4⟩ := put_row rows (a, b, c) ndr
        have mu : m ≠ u := ne_of_none h9m hu'
        refine ⟨m, _, rfl, DPut.t (k := [.inr a, .inr b]) (by rw [upd_ne mu]; exact h9m) upd_same (small1000 (by rw [List.length_map]; omega)), rows', _, rfl, ?_, ?_, ?_, ?_, e2, fun r hr' => ?_, by omega⟩
        · rw [upd_same]
          exact congrArg (fun l => some (HO.dT l)) e1
        · rw [upd_ne hmt, upd_ne (ne_of_none h9t hu')]
          exact h9t
        · exact (D9.new hu').put nm.1 nm.2
        · exact (k9.new hu').mut hm0
        · rcases e3 r hr' with h | rfl
          · exact rok r h
          · exact ⟨ha, hb, hc3⟩
      · rintro σ H6 ⟨rows, m5, rfl, h6m, h6t, D6, kp6, ndr, rok, rl⟩
        exact ⟨rows, m5, rfl, h6m, h6t, D6, kp6, ndr, rok, by omega⟩
    · rintro σ H5 ⟨rows, m5, rfl, h5m, h5t, D5, kp5, ndr, rok, rl⟩
      refine ⟨fun σ H6 => ∃ (rq : Addr) (rs : List (Addr × Row)) (m5 : Option V), σ = [some (.ref d), some (.str n), some (.ref sp), some (.ref t), some (.ref m), m5, some (.ref rq), none, none] ∧ H6 t = some (.lst (ts.map V.str)) ∧ DealAt H6 d l ∧ Kp d l H H6 ∧ H rq = none ∧ rs.map (·.2) = srtR rows ∧ H6 rq = some (.lst (rs.map fun r => V.ref r.1)) ∧ ∀ r ∈ rs, H6 r.1 = some (.tup (rowV r.2)), ?_, ?_⟩
      · refine ⟨m, _, h5m, trivial, fun od => ?_⟩
        have hm5 : (upd H5 m (.frz od (.dT (rows.map rowK)))) m = some (.frz od (.dT (rows.map rowK))) := upd_same
        have x5 : ∀ b o, b ≠ m → H5 b = some o → (upd H5 m (.frz od (.dT (rows.map rowK)))) b = some o := fun b o hb h => by rw [upd_ne hb]; exact h
        have fr5 : ∀ b, (upd H5 m (.frz od (.dT (rows.map rowK)))) b = none → H5 b = none := fun b h => by
          by_cases e : b = m
          · rw [e, upd_same] at h; cases h
          · rw [upd_ne e] at h; exact h
        revert hm5 x5 fr5
        generalize upd H5 m (.frz od (.dT (rows.map rowK))) = L
        intro hm5 x5 fr5
        refine ⟨_, rfl, m, od, rfl, .inr ⟨_, hm5, fun D hD => ?_⟩⟩
        refine lc_it walk_keysT (fun i H2 => ∃ es : List (Addr × Row), H2 D = some (.lst (es.map fun e => V.ref e.1)) ∧ es.map (·.2) = rows.take i ∧ (∀ e ∈ es, H2 e.1 = some (.tup (rowV e.2)) ∧ e.1 ≠ D) ∧ Same L H2) ⟨[], upd_same, rfl, (fun _ h => by cases h), same_new hD⟩ (fun i H2 _ ⟨es, _, _, _, sm⟩ => sm _ _ hm5) ?_ ?_
        · rintro i x H1' H1'' hi ⟨es, h1', h2', h3', sm⟩ ⟨rfl, ky, v, qa, hk, rfl, hqa⟩
          rw [List.getElem?_map] at hk
          cases e : rows[i]? with
          | none => rw [e] at hk; cases hk
          | some r0 =>
            rw [e] at hk
            have hk : rowK r0 = (ky, v) := Option.some.inj hk
            have ek : ky = [.inr r0.1, .inr r0.2.1] := (congrArg Prod.fst hk).symm
            have ev : v = .int r0.2.2 := (congrArg Prod.snd hk).symm
            subst ek
            subst ev
            have hrm := List.mem_of_getElem? e
            refine ⟨qa, _, rfl, SqT.of hqa, rfl, _, _, rfl, _, _, rfl, rfl, rfl, ?_⟩
            refine ⟨_, rfl, _, rfl, _, rfl, _, rfl, _, rfl, (by show 2 ≤ sizeLine; decide), fun u hu' => ?_⟩
            have hDu : D ≠ u := ne_of_none h1' hu'
            have hm1 := sm _ _ hm5
            have hmu : m ≠ u := ne_of_none hm1 hu'
            refine ⟨m, .int r0.2.2, rfl, .inr ⟨rows.map rowK, [.inr r0.1, .inr r0.2.1], u, .inr ⟨od, by rw [upd_ne hmu]; exact hm1⟩, rfl, upd_same, (val_row ndr hrm).symm⟩, ?_⟩
            refine ⟨(by show 3 ≤ sizeLine; decide), fun u2 hu2 => ?_⟩
            have hDu2 : D ≠ u2 := fun z => by rw [← z, upd_ne hDu, h1'] at hu2; cases hu2
            have lel : es.length ≤ 1000 := by
              have := congrArg List.length h2'
              rw [List.length_map, List.length_take] at this
              omega
            refine ⟨es.map fun e => V.ref e.1, by rw [upd_ne hDu2, upd_ne hDu]; exact h1', small1000 (by rw [List.length_map]; exact lel), es ++ [(u2, r0)], ?_, ?_, fun e he => ?_, Same.mut (Same.new (Same.new sm hu') hu2) hD⟩
            · rw [upd_same, List.map_append]
              rfl
            · rw [List.map_append, h2', List.take_succ, e]
              rfl
            · rcases List.mem_append.mp he with he | he
              · obtain ⟨a1, a2⟩ := h3' e he
                rw [upd_ne a2]
                exact ⟨(Same.new (same_new hu') hu2) _ _ a1, a2⟩
              · have he : e = (u2, r0) := by simpa using he
                subst he
                rw [upd_ne hDu2.symm, upd_same]
                exact ⟨rfl, hDu2.symm⟩
        · rintro H6 ⟨es, h1', h2', h3', sm⟩
          have hl : (rows.map rowK).length = rows.length := List.length_map ..
          rw [hl, List.take_length] at h2'
          refine ⟨sm _ _ hm5, ?_⟩
          have mD : m ≠ D := ne_of_none hm5 hD
          have em : ∀ e ∈ es, e.1 ≠ m := fun e he z => by
            have := (h3' e he).1
            rw [z, sm _ _ hm5] at this
            cases this
          have k6 : Kp d l H (upd H6 m (.dT (rows.map rowK))) := by
            refine ⟨fun b o hb n1 n2 => ?_, fun b hb => ?_⟩
            · rw [upd_ne (ne_of_none hb hm0)]
              exact sm _ _ (x5 b o (ne_of_none hb hm0) (kp5.stay b o hb n1 n2))
            · by_cases e : b = m
              · rw [e, upd_same] at hb; cases hb
              · rw [upd_ne e] at hb
                exact kp5.free b (fr5 b (sm.free hb))
          have tD : t ≠ m := hmt
          have h6t : (upd H6 m (.dT (rows.map rowK))) t = some (.lst (ts.map V.str)) := by
            rw [upd_ne hmt]
            exact sm _ _ (x5 _ _ hmt h5t)
          have D6 : DealAt (upd H6 m (.dT (rows.map rowK))) d l := by
            obtain ⟨xs, s, w1, w2, w3, w4⟩ := D5
            refine ⟨xs, s, ?_, ?_, w3, w4⟩
            · rw [upd_ne nm.1.symm]
              exact sm _ _ (x5 _ _ nm.1.symm w1)
            · rw [upd_ne nm.2.symm]
              exact sm _ _ (x5 _ _ nm.2.symm w2)
          have h6e : ∀ e ∈ es, (upd H6 m (.dT (rows.map rowK))) e.1 = some (.tup (rowV e.2)) := fun e he => by
            rw [upd_ne (em e he)]
            exact (h3' e he).1
          have h6D : (upd H6 m (.dT (rows.map rowK))) D = some (.lst (es.map fun e => V.ref e.1)) := by
            rw [upd_ne mD.symm]
            exact h1'
          revert k6 h6t D6 h6e h6D
          generalize upd H6 m (.dT (rows.map rowK)) = M
          intro k6 h6t D6 h6e h6D
          refine ⟨Addr × Row, D, es, fun r => V.ref r.1, fun r => rowD r.2, rfl, .inl (SqL.of h6D), fun r hr' => .tup (SqT.of (h6e r hr')) (.cons (.str _) (.cons (.str _) (.cons (.int _) .nil))), PySem.W.AllAlike.of (fun _ _ => rfl), PySem.W.Sortable.tuples (fun b => ⟨_, _, rfl⟩), fun b _ => by simp [PyData.depth, PyData.depthAll, rowD], fun rq hrq => ?_⟩
          refine ⟨rq, es.mergeSort (PySem.W.dataLe false fun r => rowD r.2), m5, rfl, ?_, D6.new hrq, k6.new hrq, k6.free rq hrq, ?_, upd_same, fun r hr' => ?_⟩
          · rw [upd_ne (ne_of_none h6t hrq)]
            exact h6t
          · rw [← h2']
            unfold srtR
            rw [List.map_mergeSort (r := PySem.W.dataLe false fun r : Addr × Row => rowD r.2) (s := PySem.W.dataLe false rowD) (fun _ _ _ _ => rfl)]
          · have := h6e r ((List.mergeSort_perm ..).mem_iff.mp hr')
            rw [upd_ne (ne_of_none this hrq)]
            exact this
      · rintro σ H6 ⟨rq, rs, m5, rfl, h6t, D6, kp6, hrq, ers, h6r, h6e⟩
        refine ⟨_, rfl, _, rfl, Str, t, ts, V.str, PyData.str, rfl, .inl (SqL.of h6t), fun b _ => .str b, PySem.W.AllAlike.of (fun _ _ => rfl), PySem.W.Sortable.others (fun b => ⟨by simp, fun xs => by simp⟩), fun b _ => by simp [PyData.depth], fun tq htq => ?_⟩
        refine ⟨_, rfl, (by show 3 ≤ sizeLine; decide), fun z hz => ?_⟩
        have hz6 : H6 z = none ∧ z ≠ tq := by
          have : z ≠ tq := fun e => by rw [e, upd_same] at hz; cases hz
          rw [upd_ne this] at hz
          exact ⟨hz, this⟩
        have mrs : ∀ r ∈ rs, r.2 ∈ rows := fun r hr' => (List.mergeSort_perm ..).mem_iff.mp (show r.2 ∈ srtR rows by rw [← ers]; exact List.mem_map_of_mem hr')
        have prs : (rs.map (·.2)).Perm rows := by rw [ers]; exact List.mergeSort_perm ..
        have keep : ∀ {b o}, H6 b = some o → upd (upd H6 tq (.lst ((srtS ts).map V.str))) z (.tup [.str n, .ref tq, .ref rq]) b = some o := fun {b o} h => by
          rw [upd_ne (ne_of_none h hz6.1), upd_ne (ne_of_none h htq)]
          exact h
        refine k z tq rq ts rs _ (kp6.free _ hz6.1) (kp6.free _ htq) hrq hzt hzn hzl hzm ?_ (fun r hr' => rok _ (mrs r hr')) ?_ (fun r hr' => keep (h6e r hr')) upd_same ?_ (keep h6r) ?_ ((D6.new htq).new hz) ((kp6.new htq).new hz)
        · have : (rs.map fun r => (r.2.1, r.2.2.1)) = (rs.map (·.2)).map pr := by rw [List.map_map]; rfl
          rw [this]
          exact (prs.map pr).nodup_iff.mpr ndr
        · have := prs.length_eq
          rw [List.length_map] at this
          omega
        · rw [upd_ne hz6.2.symm]
          exact upd_same
        · rw [ers]
          exact srtR_idem rows
theorem rowT_join (r : Row) : Txt.join " " [r.1, r.2.1, (toString r.2.2 : String)] = rowT r := by
  refine TL.ext_tl ?_
  rw [TL.join_eq, TL.tl_join]
  unfold rowT
  rw [TL.tl_append, TL.tl_append, TL.tl_append, TL.tl_append, TL.tl_append]
  show TL.tl r.1 ++ (TL.tl " " ++ (TL.tl r.2.1 ++ (TL.tl " " ++ TL.tl _))) = [] ++ TL.tl r.1 ++ TL.tl " " ++ TL.tl r.2.1 ++ TL.tl " " ++ TL.tl _
  simp only [List.append_assoc, List.nil_append]
theorem head_join (n : Str) {ps : List Str} (h : ps ≠ []) : Txt.join " " (n :: "at" :: ps) = n ++ " at " ++ Txt.join " " ps := by
  refine TL.ext_tl ?_
  rw [TL.join_eq, TL.tl_join, TL.tl_append, TL.tl_append, TL.join_eq, TL.tl_join]
  cases ps with
  | nil => exact absurd rfl h
  | cons p r =>
    show TL.tl n ++ (TL.tl " " ++ (TL.tl "at" ++ (TL.tl " " ++ TL.joinL _ ((p :: r).map TL.tl)))) = TL.tl n ++ TL.tl " at " ++ TL.joinL _ ((p :: r).map TL.tl)
    have e : TL.tl " at " = TL.tl " " ++ (TL.tl "at" ++ TL.tl " ") := by decide +kernel
    rw [e]
    simp only [List.append_assoc]
theorem join_ne {rows : List Row} (h : rows ≠ []) : ¬ Txt.join ", " (rows.map rowT) = "" := by
  intro e
  have e2 := congrArg TL.tl e
  rw [TL.join_eq, TL.tl_join] at e2
  cases rows with
  | nil => exact h rfl
  | cons r t =>
    have hr : TL.tl (rowT r) ≠ [] := by
      unfold rowT
      rw [TL.tl_append, TL.tl_append]
      have : TL.tl " " = [32] := by decide +kernel
      rw [this]
      simp
    have e3 : TL.tl (Str.ofString "") = [] := by decide +kernel
    rw [e3] at e2
    cases t with
    | nil => exact hr e2
    | cons q u => exact hr (List.append_eq_nil_iff.mp e2).1
theorem stageT_eq (n : Str) {ps : List Str} (h : ps ≠ []) (rows : List Row) (x : Str) (hx : x = Txt.join ", " (rows.map rowT)) : n ++ " at " ++ Txt.join " " ps ++ (if (!decide (V.str x = V.str "")) = true then (" go " : Str) ++ x else "") = stepT ⟨n, ps, rows⟩ := by
  unfold stepT
  have e0 : Str.empty ++ Txt.join " " (n :: "at" :: ps) = Txt.join " " (n :: "at" :: ps) := TL.ext_tl (by rw [TL.tl_append]; rfl)
  rw [e0, head_join n h]
  congr 1
  cases rows with
  | nil =>
    have : x = "" := by rw [hx]; decide +kernel
    rw [this]
    rfl
  | cons r t =>
    rw [hx, if_pos (by have := join_ne (rows := r :: t) (by simp); simpa using this), if_pos (by simp)]
def spText : Sp := fun vs H Q _ => ∃ (t tq rq : Addr) (n : Str) (ps : List Str) (rs : List (Addr × Row)), vs = [.ref t] ∧ H t = some (.tup [.str n, .ref tq, .ref rq]) ∧ H tq = some (.lst (ps.map V.str)) ∧ H rq = some (.lst (rs.map fun r => V.ref r.1)) ∧ (∀ r ∈ rs, H r.1 = some (.tup (rowV r.2))) ∧
  isName n = true ∧ ps ≠ [] ∧ (∀ p ∈ ps, isName p = true) ∧ Fit ⟨n, ps, rs.map (·.2)⟩ ∧ ∀ H', Same H H' → Q (.str (stepT ⟨n, ps, rs.map (·.2)⟩)) H'
theorem ok__law_stage_text (T : Txt K mg) : FnOk P w K mg base CX0 1 T.a__law_stage_text T.d__law_stage_text ["_law_stage_here"] spText := by
  refine T.F__law_stage_text.ok sc__law_stage_text (fun vs H Q E h => ?_) (fun cdv A outer s H vs Q E hr h => ?_)
  · obtain ⟨t, tq, rq, n, ps, rs, rfl, _⟩ := h
    rfl
  · obtain ⟨t, tq, rq, n, ps, rs, rfl, ht, htq, hrq, hrs, nn, pne, pn, fit, q⟩ := h
    refine ⟨_, (Evl.pss_cut (ps_set (i := 1) sc__law_stage_text.nd rfl (Or.inl rfl) (pe_join pe_str (pe_lc (own := [("_law_first", 2), ("_law_second", 3), ("_law_cost", 4)]) (g := (gTup K 3 (gCons (gName 2) (gCons (gName 3) (gCons (gName 4) gNil))))) (by rfl) sc__law_stage_text.nd (pi_list (pe_ix ix_tup (pv 0) pe_int (fun _ _ => rfl))) (blkOk_by (own := [("_law_first", 2), ("_law_second", 3), ("_law_cost", 4)]) (N := n__law_stage_text) (sc := defScope s__law_stage_text) (by decide +kernel)) (fun _ _ _ _ _ => (pg_tup rfl (pgs_cons (pg_name (i := 2) sc__law_stage_text.nd rfl (Or.inl rfl) (Or.inr rfl)) (pgs_cons (pg_name (i := 3) sc__law_stage_text.nd rfl (Or.inl rfl) (Or.inr rfl)) (pgs_cons (pg_name (i := 4) sc__law_stage_text.nd rfl (Or.inl rfl) (Or.inr rfl)) pgs_nil))))) (fun _ _ _ _ _ => pts_nil) (fun _ _ _ _ _ => (kx_pe_join K rfl pe_str (pe_lst (pa_cons (pv 2) (pa_cons (pv 3) (pa_cons (pe_callTy call_str_int (by rfl) T.b_str (by decide +kernel) (pa_cons (pv 4) pa_nil)) pa_nil)))) rfl rfl rfl)))))
        (pss_one (ps_ret (pe_op op_add_str (pe_op op_add_str (pe_op op_add_str (pe_ix ix_tup (pv 0) pe_int (fun _ _ => rfl)) pe_str) (pe_join pe_str (pe_ix ix_tup (pv 0) pe_int (fun _ _ => rfl)))) (pe_ifExp (pt_cmpR op_ne (pv 1) pe_str (nomark _)) (pe_op op_add_str pe_str (pv 1)) pe_str))))), ?_⟩
    have e1 : (Str.ofString " ").length = 1 := by decide +kernel
    have e3 : (Str.ofString ", ").length = 2 := by decide +kernel
    have e4 : (Str.ofString " go ").length = 4 := by decide +kernel
    have e5 : (Str.ofString " at ").length = 4 := by decide +kernel
    have e6 : (Str.ofString "").length = 0 := rfl
    have l1 : ∀ y ∈ ps, y.length ≤ 6 := fun y hy => isName_len (pn y hy)
    have l2 := sum_le l1
    have l3 : ps.length ≤ 1000 := fit.lp
    have l4 := join_len " " ps
    have l5 : ∀ y ∈ (rs.map (·.2)).map rowT, y.length ≤ 1014 := fun y hy => by
      obtain ⟨r, hr', rfl⟩ := List.mem_map.mp hy
      exact rowT_len (fit.rows r hr')
    have l6 := sum_le l5
    have l7 : ((rs.map (·.2)).map rowT).length ≤ 1000 := by rw [List.length_map]; exact fit.lr
    have l8 := join_len ", " ((rs.map (·.2)).map rowT)
    have b1 : (ps.map (·.length)).sum + ps.length * (Str.ofString " ").length ≤ 10000 := by rw [e1]; omega
    have b2 : (((rs.map (·.2)).map rowT).map (·.length)).sum + ((rs.map (·.2)).map rowT).length * (Str.ofString ", ").length ≤ 1100000 := by rw [e3]; omega
    have sz : sizeLine = 16777216 := rfl
    have nl := isName_len nn
    refine ⟨fun σ H2 => σ = [some (.ref t), some (.str (Txt.join ", " ((rs.map (·.2)).map rowT))), none, none, none] ∧ Same H H2, ?_, ?_⟩
    · walk_at "op"
      refine ⟨⟨_, rfl⟩, ?_⟩
      refine tLc_el (es := rs) (f := fun r => V.ref r.1) (sw_list (a := rq) (fun R h => ⟨_, rfl, t, _, 2, _, rfl, rfl, SqT.of ht, rfl, h⟩) (SqL.of hrq)) (by have := fit.lr; rw [List.length_map] at this; exact this) (fun y e _ _ => y = .str (rowT e.2)) (fun _ _ _ _ _ _ h => h) (fun e D l H2 R _ _ s2 hm kR => ?_) (fun D ys H2 hD s2 h2 pr => ?_)
      · have hf := fit.rows e.2 (List.mem_map_of_mem hm)
        have hl := rowT_len hf
        unfold rowT at hl
        rw [len_app, len_app, len_app, len_app, len_app] at hl
        refine ⟨e.1, _, rfl, SqT.of (s2 _ _ (hrs e hm)), rfl, _, _, rfl, _, _, rfl, _, _, rfl, rfl, rfl, ?_⟩
        refine ⟨⟨_, rfl⟩, _, rfl, _, rfl, _, rfl, _, rfl, hf.2.2.1, (by show 3 ≤ sizeLine; decide), fun p hp => ?_⟩
        refine ⟨_, p, [e.2.1, e.2.2.1, (toString e.2.2.2 : String)], rfl, rfl, .inl (SqL.of upd_same), ?_, ?_⟩
        · simp only [List.map_cons, List.map_nil, List.sum_cons, List.sum_nil, List.length_cons, List.length_nil]
          omega
        · rw [rowT_join]
          exact kR _ _ (same_new hp) rfl
      · have ey := paired_map2 pr
        refine ⟨_, D, (rs.map (·.2)).map rowT, rfl, rfl, .inl (SqL.of ?_), by omega, rfl, s2⟩
        rw [h2, ey, List.map_map, List.map_map]
        rfl
    · rintro σ H2 ⟨rfl, s2⟩
      have q2 := q H2 s2
      rw [← stageT_eq n pne (rs.map (·.2)) _ rfl] at q2
      walk_at "op"
      refine ⟨_, rfl, t, _, 0, _, rfl, rfl, SqT.of (s2 _ _ ht), rfl, _, _, rfl, rfl, by omega, ?_⟩
      walk_at "op"
      refine ⟨⟨_, rfl⟩, _, rfl, t, _, 1, _, rfl, rfl, SqT.of (s2 _ _ ht), rfl, _, tq, ps, rfl, rfl, .inl (SqL.of (s2 _ _ htq)), by omega, ?_⟩
      refine ⟨_, _, rfl, rfl, by rw [len_app]; omega, ?_⟩
      walk_at "op"
      refine ⟨_, rfl, rfl, _, rfl, ?_⟩
      by_cases hc : (!decide (V.str (Txt.join ", " ((rs.map (·.2)).map rowT)) = V.str "")) = true
      · rw [if_pos hc] at q2 ⊢
        refine ⟨_, rfl, _, _, rfl, rfl, by omega, _, _, rfl, rfl, ?_, q2⟩
        rw [len_app, len_app, len_app]
        omega
      · rw [if_neg hc] at q2 ⊢
        refine ⟨_, _, rfl, rfl, ?_, q2⟩
        rw [len_app, len_app]
        omega
/-! ### a good stage -/
structure Good (n : Str) (ts : List Str) (rows : List Row) : Prop where
  nm : isName n = true
  so : PyData.strOk n = true
  ne : ts ≠ []
  nd : ts.Nodup
  six : ∀ x ∈ ts, x ∈ six
  np : (rows.map pr).Nodup
  lp : ts.length ≤ 1000
  mem : ∀ r ∈ rows, r.1 ∈ ts ∧ r.2.1 ∈ ts ∧ 0 ≤ r.2.2 ∧ r.2.2 ≤ 3
  lr : rows.length ≤ 6
  srt : srtR rows = rows
theorem six_ok : ∀ x ∈ six, isName x = true ∧ PyData.strOk x = true := by decide +kernel
theorem arrowE_ok {ps : List Str} {r : Addr × Row} (h : r.2.1 ∈ ps ∧ r.2.2.1 ∈ ps ∧ 0 ≤ r.2.2.2) (n1 : isName r.2.1 = true) (n2 : isName r.2.2.1 = true) : arrowE ps (rowE r) = true := by
  show arrowL ps (rowV r.2) = true
  have mem : ∀ {s : Str}, s ∈ ps → inV (.str s) (ps.map V.str) = true := fun {s} h => by
    unfold inV
    rw [List.any_eq_true]
    exact ⟨.str s, List.mem_map_of_mem h, by simp [eqV]⟩
  unfold arrowL rowV
  simp only [nameV, numV, n1, n2, mem h.1, mem h.2.1, Bool.true_and, decide_eq_true_eq]
  exact h.2.2
theorem Good.args {n : Str} {ts : List Str} {rows : List Row} (g : Good n ts rows) {H : Hp} {p q : Addr} {ps : List Str} {rs : List (Addr × Row)} (hp : SqL K H p (ps.map V.str) ∨ SqT K H p (ps.map V.str)) (hq : SqL K H q (rs.map fun r => V.ref r.1) ∨ SqT K H q (rs.map fun r => V.ref r.1))
    (pp : ps.Perm ts) (pq : (rs.map (·.2)).Perm rows) (hr : ∀ r ∈ rs, SqT K H r.1 (rowV r.2)) : StepOk K H n p q ps rs := by
  have mr : ∀ r ∈ rs, r.2 ∈ rows := fun r h => pq.mem_iff.mp (List.mem_map_of_mem h)
  refine ⟨g.nm, hp, hq, fun e => g.ne (List.perm_nil.mp (by rw [← e]; exact pp.symm)), pp.nodup_iff.mpr g.nd, fun x hx => (six_ok x (g.six x (pp.mem_iff.mp hx))).1, hr, ?_, by rw [pp.length_eq]; exact g.lp, ?_⟩
  · unfold arrowsOk
    rw [Bool.and_eq_true_iff]
    constructor
    · rw [List.all_eq_true]
      intro e he
      obtain ⟨r, hr', rfl⟩ := List.mem_map.mp he
      obtain ⟨m1, m2, m3, _⟩ := g.mem _ (mr r hr')
      exact arrowE_ok ⟨pp.mem_iff.mpr m1, pp.mem_iff.mpr m2, m3⟩ (six_ok _ (g.six _ m1)).1 (six_ok _ (g.six _ m2)).1
    · rw [decide_eq_true_eq, List.map_map]
      have e1 : rs.map (pairE ∘ rowE) = ((rs.map (·.2)).map pr).map fun q : Str × Str => [(Sum.inr q.1 : Key), Sum.inr q.2] := by
        rw [List.map_map, List.map_map]
        rfl
      rw [e1, List.nodup_iff_pairwise_ne, List.pairwise_map]
      have h2 := (pq.map pr).nodup_iff.mpr g.np
      rw [List.nodup_iff_pairwise_ne] at h2
      refine h2.imp fun {a b} hab e => hab ?_
      simp only [List.cons.injEq, Sum.inr.injEq, and_true] at e
      exact Prod.ext e.1 e.2
  · have := pq.length_eq
    rw [List.length_map] at this
    have := g.lr
    omega
theorem small_int {c : Int} (h0 : 0 ≤ c) (h1 : c ≤ 3) : c.natAbs.log2 < 1920 ∧ (Str.ofString (toString c)).length ≤ 1000 := by
  have : c = 0 ∨ c = 1 ∨ c = 2 ∨ c = 3 := by omega
  rcases this with rfl | rfl | rfl | rfl <;> decide +kernel
theorem Good.fit {n : Str} {ts : List Str} {rows : List Row} (g : Good n ts rows) : Fit ⟨n, srtS ts, rows⟩ := by
  refine ⟨?_, Nat.le_trans g.lr (by decide), fun r hr => ?_⟩
  · show (srtS ts).length ≤ 1000
    rw [show (srtS ts).length = ts.length from List.length_mergeSort ..]
    exact g.lp
  · obtain ⟨m1, m2, m3, m4⟩ := g.mem r hr
    exact ⟨isName_len (six_ok _ (g.six _ m1)).1, isName_len (six_ok _ (g.six _ m2)).1, small_int m3 m4⟩
theorem Good.bare {n : Str} {ts : List Str} {rows : List Row} (g : Good n ts rows) : Good n ts [] := ⟨g.nm, g.so, g.ne, g.nd, g.six, by simp, g.lp, (fun _ h => by cases h), by simp, by decide +kernel⟩
theorem bare_text (n : Str) (ps : List Str) (rows : List Row) : stepT ⟨n, ps, []⟩ = stepT ⟨n, ps, rows⟩ ↔ rows = [] := by
  constructor
  · intro e
    cases rows with
    | nil => rfl
    | cons r t =>
      have e2 := congrArg Str.length e
      unfold stepT at e2
      simp only [List.length_nil, List.length_cons] at e2
      rw [if_neg (by decide), if_pos (by omega), len_app _ (Str.ofString ""), len_app _ ((" go " : Str) ++ _), len_app (" go " : Str)] at e2
      have e4 : (Str.ofString " go ").length = 4 := by decide +kernel
      have e6 : (Str.ofString "").length = 0 := rfl
      omega
  · rintro rfl
    rfl
theorem Good.data {n : Str} {ts : List Str} {rows : List Row} (g : Good n ts rows) : SeqAt.shaped (.tuple [.str n, .tuple ((srtS ts).map PyData.str), .tuple (rows.map rowD)]) = true := by
  have h1 : ∀ l : List Str, (∀ x ∈ l, PyData.strOk x = true) → PyData.canLayAll0 (l.map PyData.str) = true ∧ PyData.depthAll (l.map PyData.str) ≤ 5 := by
    intro l
    induction l with
    | nil => intro _; exact ⟨rfl, by simp [PyData.depthAll]⟩
    | cons a t ih =>
      intro h
      obtain ⟨i1, i2⟩ := ih fun x hx => h x (List.mem_cons_of_mem _ hx)
      refine ⟨?_, ?_⟩
      · rw [List.map_cons, PyData.canLayAll0, i1, PyData.canLay0, h a (List.mem_cons_self ..)]
        rfl
      · rw [List.map_cons]
        simp only [PyData.depthAll, PyData.depth]
        omega
  have h2 : ∀ l : List Row, (∀ r ∈ l, PyData.strOk r.1 = true ∧ PyData.strOk r.2.1 = true) → PyData.canLayAll0 (l.map rowD) = true ∧ PyData.depthAll (l.map rowD) ≤ 10 := by
    intro l
    induction l with
    | nil => intro _; exact ⟨rfl, by simp [PyData.depthAll]⟩
    | cons a t ih =>
      intro h
      obtain ⟨i1, i2⟩ := ih fun x hx => h x (List.mem_cons_of_mem _ hx)
      obtain ⟨j1, j2⟩ := h a (List.mem_cons_self ..)
      refine ⟨?_, ?_⟩
      · rw [List.map_cons, PyData.canLayAll0, i1]
        simp only [rowD, PyData.canLay0, PyData.canLayAll0, j1, j2, Bool.and_self]
      · rw [List.map_cons]
        simp only [rowD, PyData.depthAll, PyData.depth]
        omega
  have sS : ∀ x ∈ srtS ts, PyData.strOk x = true := fun x hx => (six_ok x (g.six x ((List.mergeSort_perm ..).mem_iff.mp hx))).2
  obtain ⟨a1, a2⟩ := h1 (srtS ts) sS
  obtain ⟨b1, b2⟩ := h2 rows fun r hr => ⟨(six_ok _ (g.six _ (g.mem r hr).1)).2, (six_ok _ (g.six _ (g.mem r hr).2.1)).2⟩
  unfold SeqAt.shaped
  rw [Bool.and_eq_true_iff, decide_eq_true_eq]
  refine ⟨?_, ?_⟩
  · simp only [PyData.canLay0, PyData.canLayAll0, g.so, a1, b1, Bool.and_self]
  · simp only [PyData.depthAll, PyData.depth]
    omega
theorem perm_map_inv {α β : Type} {f : α → β} {l r : List β} (h : l.Perm r) : ∀ {m : List α}, r = m.map f → ∃ k : List α, l = k.map f ∧ k.Perm m := by
  induction h with
  | nil =>
    intro m e
    rw [List.map_eq_nil_iff.mp e.symm]
    exact ⟨[], rfl, .nil⟩
  | cons x _ ih =>
    intro m e
    obtain ⟨a, m', rfl, e1, e2⟩ := List.map_eq_cons_iff.mp e.symm
    obtain ⟨k, k1, k2⟩ := ih e2.symm
    exact ⟨a :: k, by rw [List.map_cons, e1, k1], k2.cons a⟩
  | swap x y l =>
    intro m e
    obtain ⟨a, m', rfl, e1, e2⟩ := List.map_eq_cons_iff.mp e.symm
    obtain ⟨b, m'', rfl, e3, e4⟩ := List.map_eq_cons_iff.mp e2
    exact ⟨b :: a :: m'', by rw [List.map_cons, List.map_cons, e1, e3, e4], .swap a b m''⟩
  | trans _ _ ih1 ih2 =>
    intro m e
    obtain ⟨k, k1, k2⟩ := ih2 e
    obtain ⟨j, j1, j2⟩ := ih1 k1
    exact ⟨j, j1, j2.trans k2⟩
theorem StepOk.same {H H' : Hp} {n : Str} {p q : Addr} {ps : List Str} {rs : List (Addr × Row)} (h : StepOk K H n p q ps rs) (s : Same H H') : StepOk K H' n p q ps rs :=
  ⟨h.nm, Same.sq s h.hp, Same.sq s h.hq, h.ne, h.nd, h.nms, fun r hr => Same.tup s (h.rows r hr), h.ok, h.lp, h.lr⟩
theorem mk_step {C : Addr} {H1 : Hp} {n : Str} {p q : Addr} {ps : List Str} {rs : List (Addr × Row)} {R : Addr → Hp → Prop} {E : XK} (ok : StepOk K H1 n p q ps rs)
    (k : ∀ x lf H', H1 x = none → Same H1 H' → StepAt K C H' x ⟨n, srtS ps, srtR (rs.map (·.2))⟩ lf → (∀ y ∈ srtS ps, H1 (lf y) = none) → R x H') :
    ∀ x dx, H1 x = none → H1 dx = none → dx ≠ x → spInit K C [.ref x, .str n, .ref p, .ref q] (upd (upd H1 dx (.own x)) x (.ins C dx [])) (fun v H2 => v = .non ∧ R x H2) E := by
  intro x dx hx hdx hne
  have hx2 : (upd H1 dx (.own x)) x = none := by rw [upd_ne hne.symm]; exact hx
  have s : Same H1 (upd (upd H1 dx (.own x)) x (.ins C dx [])) := Same.new (same_new hdx) hx2
  exact ⟨x, dx, n, p, q, ps, rs, rfl, upd_same, by rw [upd_ne hne, upd_same], ok.same s, fun H' lf st hf sb => ⟨rfl, k x lf H' hx (fun b o hb => sb b o (s b o hb) (ne_of_none hb hx)) st fun y hy => s.free (hf y hy)⟩⟩
/-- the step before: none yet, or a step apart from the deal -/
def Bf (K : PySem.W.Frag) (C : Addr) (H : Hp) (d l : Addr) (v : V) : Prop := v = .non ∨ ∃ y e lf, v = .ref y ∧ StepAt K C H y e lf ∧ Fit e ∧ ∀ p ∈ e.places, lf p ≠ d ∧ lf p ≠ l
theorem Bf.kp {C : Addr} {H H' : Hp} {d l : Addr} {v : V} (h : Bf K C H d l v) (D : DealAt H d l) (k : Kp d l H H') : Bf K C H' d l v := by
  rcases h with h | ⟨y, e, lf, h1, h2, h3, h4⟩
  · exact .inl h
  · exact .inr ⟨y, e, lf, h1, h2.kp D k h4, h3, h4⟩
theorem Bf.same {C : Addr} {H H' : Hp} {d l : Addr} {v : V} (h : Bf K C H d l v) (s : Same H H') : Bf K C H' d l v := by
  rcases h with h | ⟨y, e, lf, h1, h2, h3, h4⟩
  · exact .inl h
  · exact .inr ⟨y, e, lf, h1, h2.same s, h3, h4⟩
theorem DealAt.same {H H' : Hp} {d l : Addr} (D : DealAt H d l) (s : Same H H') : DealAt H' d l := by
  obtain ⟨xs, n, h1, h2, h3, h4⟩ := D
  exact ⟨xs, n, s _ _ h1, s _ _ h2, h3, h4⟩
theorem same_kp {H H1 H2 : Hp} {d l : Addr} (s : Same H H1) (k : Kp d l H1 H2) (hd : H d = none) (hl : H l = none) : Same H H2 := fun b o h => k.stay b o (s b o h) (ne_of_none h hd) (ne_of_none h hl)
/-- a stage in the heap -/
structure StAt (H : Hp) (d l t tq rq : Addr) (n : Str) (ts : List Str) (rs : List (Addr × Row)) : Prop where
  at_ : H t = some (.tup [.str n, .ref tq, .ref rq])
  atq : H tq = some (.lst ((srtS ts).map V.str))
  arq : H rq = some (.lst (rs.map fun r => V.ref r.1))
  ars : ∀ r ∈ rs, H r.1 = some (.tup (rowV r.2))
  n1 : tq ≠ d ∧ tq ≠ l
  n2 : rq ≠ d ∧ rq ≠ l
theorem StAt.same {H H' : Hp} {d l t tq rq : Addr} {n : Str} {ts : List Str} {rs : List (Addr × Row)} (h : StAt H d l t tq rq n ts rs) (s : Same H H') : StAt H' d l t tq rq n ts rs := ⟨s _ _ h.at_, s _ _ h.atq, s _ _ h.arq, fun r hr => s _ _ (h.ars r hr), h.n1, h.n2⟩
theorem StAt.kp {H H' : Hp} {d l t tq rq : Addr} {n : Str} {ts : List Str} {rs : List (Addr × Row)} (h : StAt H d l t tq rq n ts rs) (D : DealAt H d l) (k : Kp d l H H') : StAt H' d l t tq rq n ts rs := by
  obtain ⟨xs, s, h1, h2, _⟩ := D
  have kt : ∀ {a vs}, H a = some (.tup vs) → H' a = some (.tup vs) := fun {a vs} e => k.stay _ _ e (ne_of e h1 (by intro z; cases z)) (ne_of e h2 (by intro z; cases z))
  exact ⟨kt h.at_, k.stay _ _ h.atq h.n1.1 h.n1.2, k.stay _ _ h.arq h.n2.1 h.n2.2, fun r hr => kt (h.ars r hr), h.n1, h.n2⟩
structure Rest (K : PySem.W.Frag) (C : Addr) (H : Hp) (d l t tq rq x : Addr) (n : Str) (ts : List Str) (rs : List (Addr × Row)) (lf : Str → Addr) (v : V) (H' : Hp) : Prop where
  sm : Same H H'
  D : DealAt H' d l
  bf : Bf K C H' d l v
  sa : StAt H' d l t tq rq n ts rs
  st : StepAt K C H' x ⟨n, srtS ts, rs.map (·.2)⟩ lf
  hl : ∀ p ∈ srtS ts, lf p ≠ d ∧ lf p ≠ l
theorem Rest.same {C : Addr} {H H' H2 : Hp} {d l t tq rq x : Addr} {n : Str} {ts : List Str} {rs : List (Addr × Row)} {lf : Str → Addr} {v : V} (h : Rest K C H d l t tq rq x n ts rs lf v H') (s : Same H' H2) : Rest K C H d l t tq rq x n ts rs lf v H2 :=
  ⟨h.sm.trans s, h.D.same s, h.bf.same s, h.sa.same s, h.st.same s, h.hl⟩
theorem title_ok : ∀ x ∈ (["chop", "cut", "b", "zzzzzz", "goes"] : List Str), isName x = true ∧ PyData.strOk x = true := by decide +kernel
theorem dp_rows {H : Hp} : ∀ {ts : List Addr} {rows : List Row}, Paired (fun t r => SqT K H t (rowV r)) ts rows → DpAll K H (ts.map V.ref) (rows.map rowD)
  | _, _, .nil => .nil
  | _, _, .cons h t => .cons (.tup h (.cons (.str _) (.cons (.str _) (.cons (.int _) .nil)))) (dp_rows t)
theorem dp_rows2 {H : Hp} : ∀ {rs : List (Addr × Row)}, (∀ r ∈ rs, H r.1 = some (.tup (rowV r.2))) → DpAll K H (rs.map fun r => V.ref r.1) ((rs.map (·.2)).map rowD)
  | [], _ => .nil
  | r :: _, h => .cons (.tup (SqT.of (h r (List.mem_cons_self ..))) (.cons (.str _) (.cons (.str _) (.cons (.int _) .nil)))) (dp_rows2 fun q hq => h q (List.mem_cons_of_mem _ hq))
def spLaw (K : PySem.W.Frag) : Sp := fun vs H Q _ => ∃ (a : Addr) (ns : List Int), vs = [.ref a] ∧ SqL K H a (ns.map V.int) ∧ ns.length ≤ 63 ∧ ∀ H', Q (.bl true) H'
theorem ok_law (T : Txt K mg) : FnOk P w K mg base CX0 8 T.a_law T.d_law ["_law_script"] (spLaw K) := by
  refine T.F_law.ok sc_law (fun vs H Q E h => ?_) (fun cdv A outer s H vs Q E hr h => ?_)
  · obtain ⟨a, ns, rfl, _⟩ := h
    rfl
  · obtain ⟨a, ns, rfl, ha, hn, q⟩ := h
    obtain ⟨ds, vds, bds⟩ := T.nd_Step___init__
    have hu := hu_of hr
    refine ⟨_, (Evl.pss_cut (ps_for PassesOwn.never rfl (pi_range1 rfl T.b_range (pa_cons (pe_callB (call_max2 rfl) (by rfl) T.b_max (by decide +kernel) (pa_cons pe_int (pa_cons (pe_callB (call_min2 rfl) (by rfl) T.b_min (by decide +kernel) (pa_cons pe_int (pa_cons (pe_callB call_len_seq (by rfl) T.b_len (by decide +kernel) (pa_cons (pv 0) pa_nil)) pa_nil))) pa_nil))) pa_nil)) (pg_name (i := 1) sc_law.nd rfl (Or.inl rfl))
          (pss_cons (ps_set (i := 2) sc_law.nd rfl (Or.inl rfl) (pe_call (ok__law_deal T) (hr.mono (by decide)) rfl T.m__law_deal T.F__law_deal.kp T.n__law_deal .nil pass0 (pa_cons (pv 0) (pa_cons (pv 1) pa_nil))))
          (pss_cons (ps_set (i := 3) sc_law.nd rfl (Or.inl rfl) pe_non)
          (pss_one (ps_for PassesOwn.never rfl (pi_range1 rfl T.b_range (pa_cons pe_int pa_nil)) (pg_name (i := 4) sc_law.nd rfl (Or.inl rfl))
            (pss_cons (ps_set (i := 5) sc_law.nd rfl (Or.inl rfl) (pe_call (ok__law_pick T) (hr.mono (by decide)) rfl T.m__law_pick T.F__law_pick.kp T.n__law_pick .nil pass0 (pa_cons (pv 2) (pa_cons (pe_lst (pa_cons pe_str (pa_cons pe_str (pa_cons pe_str (pa_cons pe_str (pa_cons pe_str pa_nil)))))) pa_nil))))
            (Evl.pss_cut (ps_set (i := 6) sc_law.nd rfl (Or.inl rfl) (pe_call (ok__law_stage T) (hr.mono (by decide)) rfl T.m__law_stage T.F__law_stage.kp T.n__law_stage .nil pass0 (pa_cons (pv 2) (pa_cons (pv 5) (pa_cons (pe_call (ok__law_spots T) (hr.mono (by decide)) rfl T.m__law_spots T.F__law_spots.kp T.n__law_spots .nil pass0 (pa_cons (pv 2) (pa_cons pe_int pa_nil))) pa_nil)))))
            (pss_cons (ps_par (i := 7) (j := 8) (by rfl) sc_law.nd rfl rfl (by decide) rfl rfl (pa_cons (pe_call (ok__law_mixed T) (hr.mono (by decide)) rfl T.m__law_mixed T.F__law_mixed.kp T.n__law_mixed .nil pass0 (pa_cons (pv 2) (pa_cons (pe_ix ix_tup (pv 6) pe_int (fun _ _ => rfl)) pa_nil))) (pa_cons (pe_call (ok__law_mixed T) (hr.mono (by decide)) rfl T.m__law_mixed T.F__law_mixed.kp T.n__law_mixed .nil pass0 (pa_cons (pv 2) (pa_cons (pe_ix ix_tup (pv 6) pe_int (fun _ _ => rfl)) pa_nil))) pa_nil)) (by rfl))
            (Evl.pss_cut (ps_set (i := 9) sc_law.nd rfl (Or.inl rfl) (pe_ifExp (pt_cmpR op_gt (pv 4) pe_int (nomark _)) (pe_tup (pa_cons (pv 7) (pa_cons (pv 8) pa_nil))) (pe_tup (pa_cons (pe_callTy call_tuple_of (by rfl) T.b_tuple (by decide +kernel) (pa_cons (pv 7) pa_nil)) (pa_cons (pe_callTy call_tuple_of (by rfl) T.b_tuple (by decide +kernel) (pa_cons (pv 8) pa_nil)) pa_nil)))))
            (pss_cons (ps_set (i := 10) sc_law.nd rfl (Or.inl rfl) (pe_make T.k_Step (ok_Step___init__ T) (hr.mono (by decide)) rfl T.m_Step T.n_Step___init__ .nil pass0 (pa_cons (pv 5) (pa_cons (pe_ix ix_tup (pv 9) pe_int (fun _ _ => rfl)) (pa_cons (pe_ix ix_tup (pv 9) pe_int (fun _ _ => rfl)) pa_nil)))))
            (pss_cons (ps_expr (pe_bm PySem.F.plainAttrs_list PySem.F.slot_list_append PySem.F.type_list_append mt_append (pv 7) (pa_cons pe_str pa_nil)))
            (Evl.pss_cut (ps_expr (pe_bm PySem.F.plainAttrs_list PySem.F.slot_list_append PySem.F.type_list_append mt_append (pv 8) (pa_cons (pe_tup (pa_cons pe_str (pa_cons pe_str (pa_cons pe_int pa_nil)))) pa_nil)))
            (pss_cons (ps_if (pt_cmpR (op_neD hr.units) (pe_tup (pa_cons (pe_fld (pv 10) rfl) (pa_cons (pe_fld (pv 10) rfl) (pa_cons (pe_fld (pv 10) rfl) pa_nil)))) (pe_tup (pa_cons (pv 5) (pa_cons (pe_callTy call_tuple_of (by rfl) T.b_tuple (by decide +kernel) (pa_cons (pe_ix ix_tup (pv 6) pe_int (fun _ _ => rfl)) pa_nil)) (pa_cons (pe_callTy call_tuple_of (by rfl) T.b_tuple (by decide +kernel) (pa_cons (pe_ix ix_tup (pv 6) pe_int (fun _ _ => rfl)) pa_nil)) pa_nil)))) (nomark _))
              (pss_one (ps_ret pe_bl))
              pss_nil)
            (pss_cons (ps_if (PW.pt (pw_or (pt_cmpR op_ne (pe_callTy (call_strOwn T.t_Step___str__.at_ T.t_Step___str__.fn (ok_Step___str__ T) T.n_Step___str__ (hr.mono (by decide)) pass0) (by rfl) T.b_str (by decide +kernel) (pa_cons (pv 10) pa_nil)) (pe_call (ok__law_stage_text T) (hr.mono (by decide)) rfl T.m__law_stage_text T.F__law_stage_text.kp T.n__law_stage_text .nil pass0 (pa_cons (pv 6) pa_nil)) (nomark _)) (pw_or (pt_cmpR (op_eqOwn T.t_Step___eq__.at_ T.t_Step___eq__.fn (ok_Step___eq__ T) T.n_Step___eq__ (hr.mono (by decide)) pass0) (pv 10) (pe_callTy (call_strOwn T.t_Step___str__.at_ T.t_Step___str__.fn (ok_Step___str__ T) T.n_Step___str__ (hr.mono (by decide)) pass0) (by rfl) T.b_str (by decide +kernel) (pa_cons (pv 10) pa_nil)) (nomark _)) (pw_or1 (pt_cmpR (op_eqOwn T.t_Step___eq__.at_ T.t_Step___eq__.fn (ok_Step___eq__ T) T.n_Step___eq__ (hr.mono (by decide)) pass0) (pv 10) (pe_fld (pv 10) rfl) (nomark _))))))
              (pss_one (ps_ret pe_bl))
              pss_nil)
            (pss_cons (ps_if (pt_cmpR (op_neOwn T.o_Step.hm T.ne_Step T.t_Step___eq__.at_ T.t_Step___eq__.fn (ok_Step___eq__ T) T.n_Step___eq__ (hr.mono (by decide)) pass0) (pv 10) (pe_make T.k_Step (ok_Step___init__ T) (hr.mono (by decide)) rfl T.m_Step T.n_Step___init__ .nil pass0 (pa_cons (pv 5) (pa_cons (pe_ix ix_tup (pv 6) pe_int (fun _ _ => rfl)) (pa_cons (pe_ix ix_tup (pv 6) pe_int (fun _ _ => rfl)) pa_nil)))) (nomark _))
              (pss_one (ps_ret pe_bl))
              pss_nil)
            (Evl.pss_cut (ps_if (PW.pt (pw_and (pt_cmp (pc_notN (pv 3))) (pw_and1 (pt_cmpR op_ne (pe_cmpR (op_eqOwn T.t_Step___eq__.at_ T.t_Step___eq__.fn (ok_Step___eq__ T) T.n_Step___eq__ (hr.mono (by decide)) pass0) (pv 10) (pv 3) (nomark _)) (pe_cmpR op_eq (pe_callTy (call_strOwn T.t_Step___str__.at_ T.t_Step___str__.fn (ok_Step___str__ T) T.n_Step___str__ (hr.mono (by decide)) pass0) (by rfl) T.b_str (by decide +kernel) (pa_cons (pv 10) pa_nil)) (pe_callTy (call_strOwn T.t_Step___str__.at_ T.t_Step___str__.fn (ok_Step___str__ T) T.n_Step___str__ (hr.mono (by decide)) pass0) (by rfl) T.b_str (by decide +kernel) (pa_cons (pv 3) pa_nil)) (nomark _)) (nomark _)))))
              (pss_one (ps_ret pe_bl))
              pss_nil)
            (pss_cons (ps_set (i := 11) sc_law.nd rfl (Or.inl rfl) (pe_make T.k_Step (ok_Step___init__ T) (hr.mono (by decide)) rfl T.m_Step bds vds pass0 (pa_cons (pv 5) (pa_cons (pe_ix ix_tup (pv 6) pe_int (fun _ _ => rfl)) pa_nil))))
            (pss_cons (ps_if (PW.pt (pw_or (pt_cmpR (op_neOwn T.o_Step.hm T.ne_Step T.t_Step___eq__.at_ T.t_Step___eq__.fn (ok_Step___eq__ T) T.n_Step___eq__ (hr.mono (by decide)) pass0) (pv 11) (pe_make T.k_Step (ok_Step___init__ T) (hr.mono (by decide)) rfl T.m_Step T.n_Step___init__ .nil pass0 (pa_cons (pv 5) (pa_cons (pe_callTy call_tuple_of (by rfl) T.b_tuple (by decide +kernel) (pa_cons (pe_ix ix_tup (pv 6) pe_int (fun _ _ => rfl)) pa_nil)) (pa_cons (pe_lst pa_nil) pa_nil)))) (nomark _)) (pw_or1 (pt_cmpR op_ne (pe_cmpR (op_eqOwn T.t_Step___eq__.at_ T.t_Step___eq__.fn (ok_Step___eq__ T) T.n_Step___eq__ (hr.mono (by decide)) pass0) (pv 11) (pv 10) (nomark _)) (pe_cmpR (op_eqNil hr.units) (pe_ix ix_tup (pv 6) pe_int (fun _ _ => rfl)) (pe_lst pa_nil) (nomark _)) (nomark _)))))
              (pss_one (ps_ret pe_bl))
              pss_nil)
            (pss_one (ps_set (i := 3) sc_law.nd rfl (Or.inl rfl) (pv 10)))))))))))))))))))))
        (pss_cons (ps_set (i := 12) sc_law.nd rfl (Or.inl rfl) (pe_callTy (call_strOwn T.t_Step___str__.at_ T.t_Step___str__.fn (ok_Step___str__ T) T.n_Step___str__ (hr.mono (by decide)) pass0) (by rfl) T.b_str (by decide +kernel) (pa_cons (pe_make T.k_Step (ok_Step___init__ T) (hr.mono (by decide)) rfl T.m_Step T.n_Step___init__ .nil pass0 (pa_cons pe_str (pa_cons (pe_lst (pa_cons pe_str (pa_cons pe_str pa_nil))) (pa_cons (pe_lst (pa_cons (pe_tup (pa_cons pe_str (pa_cons pe_str (pa_cons pe_int pa_nil)))) (pa_cons (pe_tup (pa_cons pe_str (pa_cons pe_str (pa_cons pe_int pa_nil)))) pa_nil))) pa_nil)))) pa_nil)))
        (pss_one (ps_ret (pe_cmpR op_eq (pv 12) pe_str (nomark _)))))), ?_⟩
    refine ⟨fun σ H' => ∃ m1 m2 m3 m4 m5 m6 m7 m8 m9 m10 m11 m12 : Option V, σ = [some (.ref a), m1, m2, m3, m4, m5, m6, m7, m8, m9, m10, m11, m12], ?_, ?_⟩
    · refine ⟨_, rfl, a, _, rfl, .inl ha, _, _, rfl, _, _, rfl, _, rfl, ?_, ?_, ?_⟩
      · split <;> split <;> omega
      · have hl : ((ns.map V.int).length : Int) ≤ 63 := by rw [List.length_map]; omega
        split <;> split <;> omega
      refine for_range (fun _ σ H' => (∃ m1 m2 m3 m4 m5 m6 m7 m8 m9 m10 m11 m12 : Option V, σ = [some (.ref a), m1, m2, m3, m4, m5, m6, m7, m8, m9, m10, m11, m12]) ∧ Same H H') ⟨⟨_, _, _, _, _, _, _, _, _, _, _, _, rfl⟩, Same.refl H⟩ ?_ (fun _ _ h => h.1)
      rintro i σ H1 hi ⟨⟨m1, m2, m3, m4, m5, m6, m7, m8, m9, m10, m11, m12, rfl⟩, s1⟩
      refine ⟨_, rfl, _, rfl, a, ns, _, rfl, s1.seq ha, hn, fun d l H2 hd hl D2 s2 => ?_⟩
      have s12 := s1.trans s2
      have hd0 := s1.free hd
      have hl0 := s1.free hl
      refine ⟨6, rfl, by decide, by decide, ?_⟩
      refine for_range (fun _ σ H' => (∃ (v : V) (m4 m5 m6 m7 m8 m9 m10 m11 m12 : Option V), σ = [some (.ref a), some (.int (0 + (i : Nat))), some (.ref d), some v, m4, m5, m6, m7, m8, m9, m10, m11, m12] ∧ Bf K T.a_Step H' d l v) ∧ Same H H' ∧ DealAt H' d l) ⟨⟨.non, _, _, _, _, _, _, _, _, _, rfl, .inl rfl⟩, s12, D2⟩ ?_ ?_
      · rintro j σ H3 hj ⟨⟨v, m4, m5, m6, m7, m8, m9, m10, m11, m12, rfl, bf⟩, s3, D3⟩
        refine ⟨_, rfl, (by show 5 ≤ sizeLine; decide), fun p hp => ?_⟩
        refine ⟨d, l, p, (["chop", "cut", "b", "zzzzzz", "goes"] : List Str).map V.str, rfl, D3.new hp, SqL.of upd_same, (D3.ne hp).1, (D3.ne hp).2, by simp, by decide, fun x H4 hx D4 kp4 => ?_⟩
        obtain ⟨n, hn', rfl⟩ := List.mem_map.mp hx
        obtain ⟨nn, no⟩ := title_ok n hn'
        have k4 : Kp d l H3 H4 := ((Kp.refl d l H3).new hp).trans kp4
        refine ⟨fun σ H5 => ∃ (t tq rq : Addr) (ts : List Str) (rs : List (Addr × Row)), σ = [some (.ref a), some (.int (0 + (i : Nat))), some (.ref d), some v, some (.int (0 + (j : Nat))), some (.str n), some (.ref t), m7, m8, m9, m10, m11, m12] ∧ Good n ts (rs.map (·.2)) ∧ StAt H5 d l t tq rq n ts rs ∧ Same H H5 ∧ DealAt H5 d l ∧ Bf K T.a_Step H5 d l v, ?_, ?_⟩
        · refine ⟨_, rfl, _, rfl, _, rfl, d, l, 6, rfl, D4, fun q6 ys H5 l6 nd6 m6 hq6 hq6' D5 kp5 => ?_⟩
          have nq := D4.ne hq6
          refine ⟨d, l, q6, n, ys, rfl, D5, hq6', nq.1, nq.2, (fun e => by rw [e] at l6; cases l6), nd6, by omega, fun t tq rq ts rs H6 ht htq hrq tne tnd tl tm rnd rok rl hrs ht' htq' hrq' srt D6 kp6 => ?_⟩
          have k6 : Kp d l H3 H6 := (k4.trans kp5).trans kp6
          refine ⟨t, tq, rq, ts, rs, rfl, ⟨nn, no, tne, tnd, fun x hx => m6 x (tm x hx), ?_, tl, ?_, by rw [List.length_map]; exact rl, srt⟩, ⟨ht', htq', hrq', hrs, D5.ne htq, D5.ne hrq⟩, same_kp s3 k6 hd0 hl0, D6, bf.kp D3 k6⟩
          · rw [List.map_map]
            exact rnd
          · intro r hr'
            obtain ⟨r', h1, rfl⟩ := List.mem_map.mp hr'
            exact rok r' h1
        · rintro σ H5 ⟨t, tq, rq, ts, rs, rfl, g, sa, s5, D5, bf5⟩
          refine ⟨_, rfl, _, rfl, t, _, 1, _, rfl, rfl, SqT.of sa.at_, rfl, d, l, tq, _, rfl, D5, .inl (SqL.of sa.atq), by rw [List.length_map]; exact g.fit.lp, fun tm ysv H6 pm htm htm' D6 kp6 => ?_⟩
          obtain ⟨ys, rfl, py⟩ := perm_strs pm
          have sa6 := sa.kp D5 kp6
          refine ⟨_, rfl, _, rfl, t, _, 2, _, rfl, rfl, SqT.of sa6.at_, rfl, d, l, rq, _, rfl, D6, .inl (SqL.of sa6.arq), by have := g.fit.lr; rw [List.length_map] at this ⊢; exact this, fun mm zsv H7 pm2 hmm hmm' D7 kp7 => ?_⟩
          obtain ⟨zs, rfl, pz⟩ := perm_map_inv pm2 rfl
          have ntm := D5.ne htm
          have h7tm := kp7.stay _ _ htm' ntm.1 ntm.2
          have hne : tm ≠ mm := ne_of_none htm' hmm
          have k7 := kp6.trans kp7
          have h5mm := kp6.free _ hmm
          refine ⟨_, _, rfl, ?_⟩
          refine ⟨fun σ H8 => ∃ (lo p q : Addr), σ = [some (.ref a), some (.int (0 + (i : Nat))), some (.ref d), some v, some (.int (0 + (j : Nat))), some (.str n), some (.ref t), some (.ref tm), some (.ref mm), some (.ref lo), m10, m11, m12] ∧ Same H7 H8 ∧
            H8 lo = some (.tup [.ref p, .ref q]) ∧ (SqL K H8 p (ys.map V.str) ∨ SqT K H8 p (ys.map V.str)) ∧ (SqL K H8 q (zs.map fun r => V.ref r.1) ∨ SqT K H8 q (zs.map fun r => V.ref r.1)), ?_, ?_⟩
          · walk_at "op"
            refine ⟨_, rfl, _, _, rfl, rfl, _, rfl, ?_⟩
            by_cases hj2 : (2 : Int) < 0 + (j : Nat)
            · rw [decide_eq_true hj2]
              refine iteT ⟨_, rfl, _, rfl, (by show 2 ≤ sizeLine; decide), fun lo hlo => ?_⟩
              exact ⟨lo, tm, mm, rfl, same_new hlo, upd_same, .inl (SqL.of (same_new hlo _ _ h7tm)), .inl (SqL.of (same_new hlo _ _ hmm'))⟩
            · rw [decide_eq_false hj2]
              refine iteF ⟨_, rfl, tm, _, rfl, .inl ⟨SqL.of h7tm, fun p hp => ?_⟩⟩
              refine ⟨_, rfl, mm, _, rfl, .inl ⟨SqL.of (same_new hp _ _ hmm'), fun q hq => ?_⟩⟩
              refine ⟨(by show 2 ≤ sizeLine; decide), fun lo hlo => ?_⟩
              exact ⟨lo, p, q, rfl, Same.new (Same.new (same_new hp) hq) hlo, upd_same, .inr (SqT.of (same_new hlo _ _ (same_new hq _ _ upd_same))), .inr (SqT.of (same_new hlo _ _ upd_same))⟩
          · rintro σ H8 ⟨lo, p, q, rfl, s8, h8lo, hp, hq⟩
            have k8 : Kp d l H5 H8 := k7.trans (Kp.ofSame s8)
            have sa8 := sa.kp D5 k8
            have D8 := D7.same s8
            have prs : (zs.map (·.2)).Perm (rs.map (·.2)) := pz.map _
            have okS : StepOk K H8 n p q ys zs := g.args hp hq (py.trans (List.mergeSort_perm ..)) prs fun r hr' => SqT.of (sa8.ars r (pz.mem_iff.mp hr'))
            refine ⟨_, rfl, _, rfl, lo, _, 0, _, rfl, rfl, SqT.of h8lo, rfl, _, rfl, lo, _, 1, _, rfl, rfl, SqT.of h8lo, rfl, mk_step okS fun x lf H9 hx s9 st hlf => ?_⟩
            rw [srtS_perm (py.trans (List.mergeSort_perm ..)), srtR_perm prs, g.srt] at st
            rw [srtS_perm (py.trans (List.mergeSort_perm ..))] at hlf
            have h9tm := s9 _ _ (s8 _ _ h7tm)
            have h9mm := s9 _ _ (s8 _ _ hmm')
            refine ⟨_, rfl, .inl ⟨rfl, _, SqL.of h9tm⟩, tm, _, _, rfl, rfl, h9tm, ?_, ?_⟩
            · rw [List.length_map, py.length_eq]
              have := g.fit.lp
              exact Nat.lt_of_le_of_lt this (by decide)
            refine ⟨fun σ H12 => σ = [some (.ref a), some (.int (0 + (i : Nat))), some (.ref d), some v, some (.int (0 + (j : Nat))), some (.str n), some (.ref t), some (.ref tm), some (.ref mm), some (.ref lo), some (.ref x), m11, m12] ∧ Rest K T.a_Step H d l t tq rq x n ts rs lf v H12, ?_, ?_⟩
            · have h10mm : (upd H9 tm (.lst (ys.map V.str ++ [.str "late"]))) mm = some (.lst (zs.map fun r => V.ref r.1)) := by rw [upd_ne hne.symm]; exact h9mm
              refine ⟨_, rfl, .inl ⟨rfl, _, SqL.of h10mm⟩, (by show 3 ≤ sizeLine; decide), fun u hu' => ?_⟩
              have nmm := D5.ne h5mm
              have hmu : mm ≠ u := ne_of_none h10mm hu'
              refine ⟨mm, _, _, rfl, rfl, by rw [upd_ne hmu]; exact h10mm, ?_, rfl, ?_⟩
              · rw [List.length_map, pz.length_eq]
                have := g.lr
                rw [List.length_map] at this
                exact Nat.lt_of_le_of_lt this (by decide)
              · have k12 := ((((k8.trans (Kp.ofSame s9)).mut (o := .lst (ys.map V.str ++ [.str "late"])) htm).new (o := .tup [.str "late", .str "late", .int 0]) hu').mut (o := .lst ((zs.map fun r => V.ref r.1) ++ [.ref u])) h5mm)
                refine ⟨same_kp s5 k12 hd0 hl0, (((D8.same s9).put ntm.1 ntm.2).new hu').put nmm.1 nmm.2, bf5.kp D5 k12, sa.kp D5 k12, st.but (fun b o hb hn => ?_) (fun y hy zs' hz => ?_), fun y hy => D8.ne (hlf y hy)⟩
                · have n1 : b ≠ tm := fun z => by rw [z, h9tm] at hb; exact hn _ (Option.some.inj hb).symm
                  have n2 : b ≠ mm := fun z => by rw [z, h9mm] at hb; exact hn _ (Option.some.inj hb).symm
                  have e1 : (upd H9 tm (.lst (ys.map V.str ++ [.str "late"]))) b = some o := by rw [upd_ne n1]; exact hb
                  rw [upd_ne n2, upd_ne (ne_of_none e1 hu')]
                  exact e1
                · have n1 : lf y ≠ tm := (ne_of_none (s8 _ _ h7tm) (hlf y hy)).symm
                  have n2 : lf y ≠ mm := (ne_of_none (s8 _ _ hmm') (hlf y hy)).symm
                  have e1 : (upd H9 tm (.lst (ys.map V.str ++ [.str "late"]))) (lf y) = some (.lst zs') := by rw [upd_ne n1]; exact hz
                  rw [upd_ne n2, upd_ne (ne_of_none e1 hu')]
                  exact e1
            · rintro σ H12 ⟨rfl, R⟩
              clear okS prs k8 sa8 D8 h9tm h9mm st hlf hp hq h8lo s8 s9 hx h5mm k7 hne h7tm ntm pz py hmm' hmm D7 kp7 sa6 htm' htm D6 kp6 bf5 D5 s5 sa k4 kp4 D4 pm pm2
              obtain ⟨dx, pa, aa, la, ll, tsA, us, h1, h2, h3, h4, _⟩ := R.st.ex
              have h1 : H12 x = some (.ins T.a_Step dx (stepF n pa aa la ll)) := h1
              walk_at "op"
              refine ⟨_, rfl, x, _, dx, _, _, rfl, h1, T.c_Step, T.x_Step_name, stepF_name .., _, rfl, x, _, dx, _, _, rfl, h1, T.c_Step, T.x_Step_places, stepF_places .., _, rfl, x, _, dx, _, _, rfl, h1, T.c_Step, T.x_Step_arrows, stepF_arrows .., (by show 3 ≤ sizeLine; decide), fun u1 hu1 => ?_⟩
              have t1 := same_new (o := .tup [.str n, .ref pa, .ref aa]) hu1
              refine ⟨_, rfl, _, rfl, t, _, 1, _, rfl, rfl, SqT.of (t1 _ _ R.sa.at_), rfl, tq, _, rfl, .inl ⟨SqL.of (t1 _ _ R.sa.atq), fun u2 hu2 => ?_⟩⟩
              have t2 := t1.trans (same_new (o := .tup ((srtS ts).map V.str)) hu2)
              refine ⟨_, rfl, t, _, 2, _, rfl, rfl, SqT.of (t2 _ _ R.sa.at_), rfl, rq, _, rfl, .inl ⟨SqL.of (t2 _ _ R.sa.arq), fun u3 hu3 => ?_⟩⟩
              have t3 := t2.trans (same_new (o := .tup (rs.map fun r => V.ref r.1)) hu3)
              refine ⟨(by show 3 ≤ sizeLine; decide), fun u4 hu4 => ?_⟩
              have t4 := t3.trans (same_new (o := .tup [.str n, .ref u2, .ref u3]) hu4)
              have v1 : (upd (upd (upd (upd H12 u1 (.tup [.str n, .ref pa, .ref aa])) u2 (.tup ((srtS ts).map V.str))) u3 (.tup (rs.map fun r => V.ref r.1))) u4 (.tup [.str n, .ref u2, .ref u3])) u1 = some (.tup [.str n, .ref pa, .ref aa]) := same_new hu4 _ _ (same_new hu3 _ _ (same_new hu2 _ _ upd_same))
              have v2 : (upd (upd (upd (upd H12 u1 (.tup [.str n, .ref pa, .ref aa])) u2 (.tup ((srtS ts).map V.str))) u3 (.tup (rs.map fun r => V.ref r.1))) u4 (.tup [.str n, .ref u2, .ref u3])) u2 = some (.tup ((srtS ts).map V.str)) := same_new hu4 _ _ (same_new hu3 _ _ upd_same)
              have v3 : (upd (upd (upd (upd H12 u1 (.tup [.str n, .ref pa, .ref aa])) u2 (.tup ((srtS ts).map V.str))) u3 (.tup (rs.map fun r => V.ref r.1))) u4 (.tup [.str n, .ref u2, .ref u3])) u3 = some (.tup (rs.map fun r => V.ref r.1)) := same_new hu4 _ _ upd_same
              have v4 : (upd (upd (upd (upd H12 u1 (.tup [.str n, .ref pa, .ref aa])) u2 (.tup ((srtS ts).map V.str))) u3 (.tup (rs.map fun r => V.ref r.1))) u4 (.tup [.str n, .ref u2, .ref u3])) u4 = some (.tup [.str n, .ref u2, .ref u3]) := upd_same
              clear t3 t2 t1
              revert t4 v1 v2 v3 v4
              generalize (upd (upd (upd (upd H12 u1 (.tup [.str n, .ref pa, .ref aa])) u2 (.tup ((srtS ts).map V.str))) u3 (.tup (rs.map fun r => V.ref r.1))) u4 (.tup [.str n, .ref u2, .ref u3])) = H13
              intro t4 v1 v2 v3 v4
              have R := R.same t4
              have h1 := t4 _ _ h1
              have h2 := Same.tup t4 h2
              have h3 := Same.tup t4 h3
              have h4 : RowsAt K H13 tsA (rs.map (·.2)) := RowsAt.same h4 t4
              have dA : DpAll K H13 (tsA.map V.ref) ((rs.map (·.2)).map rowD) := dp_rows h4
              have dB : DpAll K H13 (rs.map fun r => V.ref r.1) ((rs.map (·.2)).map rowD) := dp_rows2 R.sa.ars
              have sS : DpAll K H13 ((srtS ts).map V.str) ((srtS ts).map PyData.str) := dp_strs
              refine ⟨.tuple [.str n, .tuple ((srtS ts).map PyData.str), .tuple ((rs.map (Prod.snd : Addr × Row → Row)).map rowD)], .tuple [.str n, .tuple ((srtS ts).map PyData.str), .tuple ((rs.map (Prod.snd : Addr × Row → Row)).map rowD)], .tup (SqT.of v1) (.cons (.str n) (.cons (.tup h2 sS) (.cons (.tup h3 dA) .nil))), .tup (SqT.of v4) (.cons (.str n) (.cons (.tup (SqT.of v2) sS) (.cons (.tup (SqT.of v3) dB) .nil))), g.data, g.data, _, rfl, ?_⟩
              rw [SeqAt.eqv_refl _ (SeqAt.canLay_of_shaped g.data)]
              refine iteF ?_
              have psne : srtS ts ≠ [] := fun e => g.ne (List.perm_nil.mp (by rw [← e]; exact (List.mergeSort_perm ..).symm))
              have psn : ∀ y ∈ srtS ts, isName y = true := R.st.nms
              walk_at "op"
              refine ⟨_, rfl, x, dx, _, rfl, h1, x, _, lf, rfl, R.st, g.fit, fun H14 s14 => ⟨_, rfl, ?_⟩⟩
              have R := R.same s14
              have h1 := s14 _ _ h1
              refine ⟨_, rfl, t, tq, rq, n, srtS ts, rs, rfl, R.sa.at_, R.sa.atq, R.sa.arq, R.sa.ars, g.nm, psne, psn, g.fit, fun H15 s15 => ⟨rfl, _, rfl, ?_⟩⟩
              rw [decide_eq_true rfl]
              refine iteF ?_
              have R := R.same s15
              have h1 := s15 _ _ h1
              walk_at "op"
              refine ⟨_, rfl, _, rfl, x, dx, _, rfl, h1, x, _, lf, rfl, R.st, g.fit, fun H16 s16 => ⟨_, rfl, ?_⟩⟩
              have R := R.same s16
              have h1 := s16 _ _ h1
              refine ⟨x, dx, _, .str, rfl, h1, .str _, Kd.notFirst rfl, .inl ⟨x, _, .str, rfl, .str _, rfl, fun H17 s17 => ⟨_, rfl, _, rfl, iteF ?_⟩⟩⟩
              have R := R.same s17
              have h1 := s17 _ _ h1
              have h3 := Same.tup (((s14.trans s15).trans s16).trans s17) h3
              walk_at "op"
              refine ⟨_, rfl, _, rfl, x, _, dx, _, _, rfl, h1, T.c_Step, T.x_Step_arrows, stepF_arrows .., x, dx, _, .tup, rfl, h1, .tup h3, Kd.notFirst rfl, .inl ⟨x, _, .tup, rfl, .tup h3, rfl, fun H18 s18 => ⟨_, rfl, _, rfl, iteF ?_⟩⟩⟩
              have R := R.same s18
              have h1 := s18 _ _ h1
              clear dA dB sS h3 h4 h2 v1 v2 v3 v4 t4
              walk_at "op"
              have pS : (srtS ts).Perm ts := List.mergeSort_perm ..
              have rwA : ∀ {H' : Hp} {x2 : Addr} {lf2 : Str → Addr}, StepAt K T.a_Step H' x2 ⟨n, srtS (srtS ts), srtR (rs.map (·.2))⟩ lf2 → StepAt K T.a_Step H' x2 ⟨n, srtS ts, rs.map (·.2)⟩ lf2 := fun {H' x2 lf2} h => by rw [srtS_idem, g.srt] at h; exact h
              have rwB : ∀ {H' : Hp} {x2 : Addr} {lf2 : Str → Addr}, StepAt K T.a_Step H' x2 ⟨n, srtS (srtS ts), srtR (([] : List (Addr × Row)).map (·.2))⟩ lf2 → StepAt K T.a_Step H' x2 ⟨n, srtS ts, []⟩ lf2 := fun {H' x2 lf2} h => by rw [srtS_idem, show srtR (([] : List (Addr × Row)).map (·.2)) = [] from g.bare.srt] at h; exact h
              refine ⟨_, rfl, _, rfl, _, rfl, t, _, 1, _, rfl, rfl, SqT.of R.sa.at_, rfl, _, rfl, t, _, 2, _, rfl, rfl, SqT.of R.sa.at_, rfl, mk_step (g.args (.inl (SqL.of R.sa.atq)) (.inl (SqL.of R.sa.arq)) pS (List.Perm.refl _) fun r hr' => SqT.of (R.sa.ars r hr')) fun x2 lf2 H19 hx2 s19 st2 _ => ?_⟩
              have st2 := rwA st2
              obtain ⟨dx2, pa2, aa2, la2, ll2, tsA2, us2, k1, _⟩ := st2.ex
              have R := R.same s19
              have h1 := s19 _ _ h1
              refine ⟨x, dx, _, .own T.a_Step, rfl, h1, .own k1 T.o_Step, notFirst_self, .inr ⟨x, x2, _, _, lf, lf2, rfl, R.st, st2, g.fit, g.fit, fun H20 s20 => ⟨_, rfl, _, rfl, ?_⟩⟩⟩
              rw [decide_eq_true rfl]
              refine iteF ?_
              have R := R.same s20
              have h1 := s20 _ _ h1
              clear k1 st2
              refine ⟨fun σ H12 => σ = [some (.ref a), some (.int (0 + (i : Nat))), some (.ref d), some v, some (.int (0 + (j : Nat))), some (.str n), some (.ref t), some (.ref tm), some (.ref mm), some (.ref lo), some (.ref x), m11, m12] ∧ Rest K T.a_Step H d l t tq rq x n ts rs lf v H12, ?_, ?_⟩
              · walk_at "op"
                refine ⟨_, rfl, _, rfl, ?_⟩
                rcases R.bf with rfl | ⟨y, e, lg, rfl, sty, fe, hlg⟩
                · exact iteF (iteF ⟨rfl, R⟩)
                · refine iteT ?_
                  obtain ⟨dy, pa2, aa2, la2, ll2, tsA2, us2, k1, _⟩ := sty.ex
                  walk_at "op"
                  refine ⟨_, rfl, _, rfl, x, dx, _, .own T.a_Step, rfl, h1, .own k1 T.o_Step, notFirst_self, .inr ⟨x, y, _, e, lf, lg, rfl, R.st, sty, g.fit, fe, fun H21 s21 => ⟨_, rfl, ?_⟩⟩⟩
                  have R := R.same s21
                  have sty := sty.same s21
                  refine ⟨_, rfl, x, dx, _, rfl, s21 _ _ h1, x, _, lf, rfl, R.st, g.fit, fun H22 s22 => ⟨_, rfl, ?_⟩⟩
                  refine ⟨_, rfl, y, dy, _, rfl, s22 _ _ (s21 _ _ k1), y, _, lg, rfl, sty.same s22, fe, fun H23 s23 => ⟨_, rfl, rfl, rfl, _, rfl, ?_⟩⟩
                  have ee : decide (stepT ⟨n, srtS ts, rs.map (·.2)⟩ = stepT e) = decide (V.str (stepT ⟨n, srtS ts, rs.map (·.2)⟩) = V.str (stepT e)) := by simp
                  rw [ee, decide_eq_true rfl]
                  exact iteF ⟨rfl, R.same (s22.trans s23)⟩
              · clear h1 R
                rintro σ H21 ⟨rfl, R⟩
                walk_at "op"
                refine ⟨_, rfl, _, rfl, t, _, 1, _, rfl, rfl, SqT.of R.sa.at_, rfl, mk_step (q := T.e0_Step___init__) (rs := []) (g.bare.args (rs := []) (.inl (SqL.of R.sa.atq)) (.inr (T.v0_Step___init__ _)) pS (List.Perm.refl _) (fun _ h => by cases h)) fun x3 lf3 H22 hx3 s22 st3 _ => ?_⟩
                have st3 := rwB st3
                have R := R.same s22
                walk_at "op"
                refine ⟨_, rfl, _, rfl, _, rfl, t, _, 1, _, rfl, rfl, SqT.of R.sa.at_, rfl, tq, _, rfl, .inl ⟨SqL.of R.sa.atq, fun u5 hu5 => ?_⟩⟩
                refine ⟨(by show 0 ≤ sizeLine; exact Nat.zero_le _), fun u6 hu6 => ?_⟩
                have t6 : Same H22 _ := Same.new (same_new (o := .tup ((srtS ts).map V.str)) hu5) (o := .lst []) hu6
                refine mk_step (g.bare.args (rs := []) (.inr (SqT.of (same_new hu6 _ _ upd_same))) (.inl (SqL.of upd_same)) pS (List.Perm.refl _) (fun _ h => by cases h)) fun x4 lf4 H23 hx4 s23 st4 _ => ?_
                have st4 := rwB st4
                have st3 := st3.same (t6.trans s23)
                have R := R.same (t6.trans s23)
                obtain ⟨dx3, pa3, aa3, la3, ll3, tsA3, us3, k3, _⟩ := st3.ex
                obtain ⟨dx4, pa4, aa4, la4, ll4, tsA4, us4, k4, _⟩ := st4.ex
                refine ⟨x3, dx3, _, .own T.a_Step, rfl, k3, .own k4 T.o_Step, notFirst_self, .inr ⟨x3, x4, _, _, lf3, lf4, rfl, st3, st4, g.bare.fit, g.bare.fit, fun H24 s24 => ⟨_, rfl, _, rfl, ?_⟩⟩⟩
                rw [decide_eq_true rfl]
                refine iteF ?_
                have R := R.same s24
                have st3 := st3.same s24
                obtain ⟨dx, pa, aa, la, ll, tsA, us, h1, _⟩ := R.st.ex
                walk_at "op"
                refine ⟨_, rfl, _, rfl, x3, dx3, _, .own T.a_Step, rfl, s24 _ _ k3, .own h1 T.o_Step, notFirst_self, .inr ⟨x3, x, _, _, lf3, lf, rfl, st3, R.st, g.bare.fit, g.fit, fun H25 s25 => ⟨_, rfl, ?_⟩⟩⟩
                have R := R.same s25
                walk_at "op"
                refine ⟨_, rfl, t, _, 2, _, rfl, rfl, SqT.of R.sa.at_, rfl, (by show 0 ≤ sizeLine; exact Nat.zero_le _), fun u7 hu7 => ?_⟩
                have R := R.same (same_new (o := .lst []) hu7)
                refine ⟨rq, u7, _, rfl, rfl, SqL.of R.sa.arq, SqL.of upd_same, rfl, _, rfl, ?_⟩
                have ee : decide (stepT ⟨n, srtS ts, []⟩ = stepT ⟨n, srtS ts, rs.map (·.2)⟩) = (rs.map fun r => V.ref r.1).isEmpty := by
                  cases rs with
                  | nil => exact decide_eq_true rfl
                  | cons r0 rt => exact decide_eq_false fun z => by have := (bare_text _ _ _).mp z; cases this
                rw [ee, decide_eq_true rfl]
                refine iteF ?_
                exact ⟨_, rfl, ⟨.ref x, _, _, _, _, _, _, _, _, _, rfl, .inr ⟨x, _, lf, rfl, R.st, g.fit, R.hl⟩⟩, R.sm, R.D⟩
      · rintro σ H3 ⟨⟨v, m4, m5, m6, m7, m8, m9, m10, m11, m12, rfl, bf⟩, s3, D3⟩
        exact ⟨⟨_, _, _, _, _, _, _, _, _, _, _, _, rfl⟩, s3⟩
    · rintro σ H' ⟨m1, m2, m3, m4, m5, m6, m7, m8, m9, m10, m11, m12, rfl⟩
      refine ⟨(by show 2 ≤ sizeLine; decide), fun u1 hu1 => ⟨(by show 3 ≤ sizeLine; decide), fun a1 ha1 => ⟨(by show 3 ≤ sizeLine; decide), fun a2 ha2 => ⟨(by show 2 ≤ sizeLine; decide), fun u2 hu2 => ?_⟩⟩⟩⟩
      refine mk_step (ps := ["plate", "board"]) (rs := [(a1, ("board", "plate", 1)), (a2, ("board", "board", 0))]) ⟨by decide +kernel, .inl (SqL.of (same_new hu2 _ _ (same_new ha2 _ _ (same_new ha1 _ _ upd_same)))), .inl (SqL.of upd_same), by simp, by decide +kernel, by decide +kernel, ?_, by rfl, by decide, by show 2 ≤ 1000; decide⟩ fun x lf H2 hx s2 st hlf => ?_
      · intro r hr'
        rcases List.mem_cons.mp hr' with rfl | hr'
        · exact SqT.of (same_new hu2 _ _ (same_new ha2 _ _ upd_same))
        · obtain rfl := List.mem_singleton.mp hr'
          exact SqT.of (same_new hu2 _ _ upd_same)
      · have e1 : srtS ["plate", "board"] = ([("board" : Str), ("plate" : Str)]) := (srtS_perm (l := [("plate" : Str), ("board" : Str)]) (m := [("board" : Str), ("plate" : Str)]) (List.Perm.swap ..)).trans (List.mergeSort_of_pairwise (by decide +kernel))
        have e2 : srtR ([(a1, (("board", "plate", 1) : Row)), (a2, ("board", "board", 0))].map (·.2)) = ([(("board" : Str), ("board" : Str), (0 : Int)), (("board" : Str), ("plate" : Str), (1 : Int))] : List Row) := (srtR_perm (l := ([(("board" : Str), ("plate" : Str), (1 : Int)), (("board" : Str), ("board" : Str), (0 : Int))] : List Row)) (m := ([(("board" : Str), ("board" : Str), (0 : Int)), (("board" : Str), ("plate" : Str), (1 : Int))] : List Row)) (List.Perm.swap ..)).trans (List.mergeSort_of_pairwise (by decide +kernel))
        rw [e1, e2] at st
        obtain ⟨dx, pa, aa, la, ll, tsA, us, h1, _⟩ := st.ex
        refine ⟨x, dx, _, rfl, h1, x, _, lf, rfl, st, ⟨by decide, by decide, by decide +kernel⟩, fun H3 s3 => ⟨_, rfl, ?_⟩⟩
        refine ⟨_, rfl, rfl, ?_⟩
        rw [decide_eq_true (by decide +kernel)]
        exact q H3
end
theorem all_mk {l : PySem.W.OpenLaw} {w : World} {K : PySem.W.Frag} {h : Heap} {mg : Str → Option Value} {fa : Addr} (X : K.In h) (G : h.Ns mainGlobals mg) (hfa : mg "law" = some (.ref fa))
    {sv_LETTERS : Str} {tk_LETTERS : Tok}
    {ca_RESERVED : Addr} {cd_RESERVED : Option Addr} {ci_RESERVED : Array Value} {cn_RESERVED : Nat} {cl_RESERVED : Array (Option Value)}
    {C_InvalidStep : Addr}
    {C_Step : Addr}
    {f_is_integer : Addr} {od_is_integer an_is_integer : Option Addr} {sl_is_integer : Array (Option Value)} {oc_is_integer kV_is_integer dc_is_integer pm_is_integer cd_is_integer ct_is_integer : Value}
    {f_is_number : Addr} {od_is_number an_is_number : Option Addr} {sl_is_number : Array (Option Value)} {oc_is_number kV_is_number dc_is_number pm_is_number cd_is_number ct_is_number : Value}
    {f_is_sequence : Addr} {od_is_sequence an_is_sequence : Option Addr} {sl_is_sequence : Array (Option Value)} {oc_is_sequence kV_is_sequence dc_is_sequence pm_is_sequence cd_is_sequence ct_is_sequence : Value}
    {f_is_name : Addr} {od_is_name an_is_name : Option Addr} {sl_is_name : Array (Option Value)} {oc_is_name kV_is_name dc_is_name pm_is_name cd_is_name ct_is_name : Value}
    {f_is_row_of_names : Addr} {od_is_row_of_names an_is_row_of_names : Option Addr} {sl_is_row_of_names : Array (Option Value)} {oc_is_row_of_names kV_is_row_of_names dc_is_row_of_names pm_is_row_of_names cd_is_row_of_names ct_is_row_of_names : Value}
    {f_are_unlike : Addr} {od_are_unlike an_are_unlike : Option Addr} {sl_are_unlike : Array (Option Value)} {oc_are_unlike kV_are_unlike dc_are_unlike pm_are_unlike cd_are_unlike ct_are_unlike : Value}
    {f_is_arrow : Addr} {od_is_arrow an_is_arrow : Option Addr} {sl_is_arrow : Array (Option Value)} {oc_is_arrow kV_is_arrow dc_is_arrow pm_is_arrow cd_is_arrow ct_is_arrow : Value}
    {f_are_arrows : Addr} {od_are_arrows an_are_arrows : Option Addr} {sl_are_arrows : Array (Option Value)} {oc_are_arrows kV_are_arrows dc_are_arrows pm_are_arrows cd_are_arrows ct_are_arrows : Value}
    {f_Step___init__ : Addr} {od_Step___init__ an_Step___init__ : Option Addr} {sl_Step___init__ : Array (Option Value)} {oc_Step___init__ kV_Step___init__ dc_Step___init__ pm_Step___init__ cd_Step___init__ ct_Step___init__ : Value}
    {dt_Step___init__ : Addr}
    {e0_Step___init__ : Addr} {ed0_Step___init__ : Option Addr} {en0_Step___init__ : Nat} {el0_Step___init__ : Array (Option Value)}
    {tc_Step___init__ : Value} {td_Step___init__ : Option Addr} {tn_Step___init__ : Nat} {tl_Step___init__ : Array (Option Value)}
    {f_Step___eq__ : Addr} {od_Step___eq__ an_Step___eq__ : Option Addr} {sl_Step___eq__ : Array (Option Value)} {oc_Step___eq__ kV_Step___eq__ dc_Step___eq__ pm_Step___eq__ cd_Step___eq__ ct_Step___eq__ : Value}
    {f_Step___str__ : Addr} {od_Step___str__ an_Step___str__ : Option Addr} {sl_Step___str__ : Array (Option Value)} {oc_Step___str__ kV_Step___str__ dc_Step___str__ pm_Step___str__ cd_Step___str__ ct_Step___str__ : Value}
    {f__law_deal : Addr} {od__law_deal an__law_deal : Option Addr} {sl__law_deal : Array (Option Value)} {oc__law_deal kV__law_deal dc__law_deal pm__law_deal cd__law_deal ct__law_deal : Value}
    {f__law_draw : Addr} {od__law_draw an__law_draw : Option Addr} {sl__law_draw : Array (Option Value)} {oc__law_draw kV__law_draw dc__law_draw pm__law_draw cd__law_draw ct__law_draw : Value}
    {f__law_pick : Addr} {od__law_pick an__law_pick : Option Addr} {sl__law_pick : Array (Option Value)} {oc__law_pick kV__law_pick dc__law_pick pm__law_pick cd__law_pick ct__law_pick : Value}
    {f__law_mixed : Addr} {od__law_mixed an__law_mixed : Option Addr} {sl__law_mixed : Array (Option Value)} {oc__law_mixed kV__law_mixed dc__law_mixed pm__law_mixed cd__law_mixed ct__law_mixed : Value}
    {f__law_spots : Addr} {od__law_spots an__law_spots : Option Addr} {sl__law_spots : Array (Option Value)} {oc__law_spots kV__law_spots dc__law_spots pm__law_spots cd__law_spots ct__law_spots : Value}
    {f__law_stage : Addr} {od__law_stage an__law_stage : Option Addr} {sl__law_stage : Array (Option Value)} {oc__law_stage kV__law_stage dc__law_stage pm__law_stage cd__law_stage ct__law_stage : Value}
    {f__law_stage_text : Addr} {od__law_stage_text an__law_stage_text : Option Addr} {sl__law_stage_text : Array (Option Value)} {oc__law_stage_text kV__law_stage_text dc__law_stage_text pm__law_stage_text cd__law_stage_text ct__law_stage_text : Value}
    {f_law : Addr} {od_law an_law : Option Addr} {sl_law : Array (Option Value)} {oc_law kV_law dc_law pm_law cd_law ct_law : Value}
    (z_abs : PySem.W.nsIn K mainGlobals "abs" = some none)
    (z_all : PySem.W.nsIn K mainGlobals "all" = some none)
    (z_bool : PySem.W.nsIn K mainGlobals "bool" = some none)
    (z_int : PySem.W.nsIn K mainGlobals "int" = some none)
    (z_isinstance : PySem.W.nsIn K mainGlobals "isinstance" = some none)
    (z_len : PySem.W.nsIn K mainGlobals "len" = some none)
    (z_list : PySem.W.nsIn K mainGlobals "list" = some none)
    (z_max : PySem.W.nsIn K mainGlobals "max" = some none)
    (z_min : PySem.W.nsIn K mainGlobals "min" = some none)
    (z_range : PySem.W.nsIn K mainGlobals "range" = some none)
    (z_sorted : PySem.W.nsIn K mainGlobals "sorted" = some none)
    (z_str : PySem.W.nsIn K mainGlobals "str" = some none)
    (z_tuple : PySem.W.nsIn K mainGlobals "tuple" = some none)
    (g_LETTERS : PySem.W.nsIn K mainGlobals "LETTERS" = some (some (.str sv_LETTERS tk_LETTERS)))
    (e_LETTERS : sv_LETTERS = "abcdefghijklmnopqrstuvwxyz")
    (g_RESERVED : PySem.W.nsIn K mainGlobals "RESERVED" = some (some (.ref ca_RESERVED)))
    (e_RESERVED : K.lookup ca_RESERVED = some ⟨.type "tuple", cd_RESERVED, .seq ci_RESERVED cn_RESERVED, cl_RESERVED⟩)
    (v_RESERVED : Vals [.str "at", .str "go", .str "ahead", .str "trace", .str "limit", .str "work"] ci_RESERVED.toList)
    (w_RESERVED : ci_RESERVED.size ≤ sizeLine)
    (aC_InvalidStep : PySem.W.nsIn K mainGlobals "InvalidStep" = some (some (.ref C_InvalidStep)))
    (aC_Step : PySem.W.nsIn K mainGlobals "Step" = some (some (.ref C_Step)))
    (a_is_integer : PySem.W.nsIn K mainGlobals "is_integer" = some (some (.ref f_is_integer)))
    (l_is_integer : K.lookup f_is_integer = some ⟨oc_is_integer, od_is_integer, .func (PySem.W.fnOf "is_integer" "is_integer" (defArgs s_is_integer) (defBody s_is_integer) (defScope s_is_integer) .none kV_is_integer dc_is_integer pm_is_integer an_is_integer cd_is_integer ct_is_integer), sl_is_integer⟩)
    (c_is_integer : PySem.W.codeIn K cd_is_integer "is_integer" = true)
    (k_is_integer : PySem.W.keepIn K (.ref f_is_integer) = true)
    (a_is_number : PySem.W.nsIn K mainGlobals "is_number" = some (some (.ref f_is_number)))
    (l_is_number : K.lookup f_is_number = some ⟨oc_is_number, od_is_number, .func (PySem.W.fnOf "is_number" "is_number" (defArgs s_is_number) (defBody s_is_number) (defScope s_is_number) .none kV_is_number dc_is_number pm_is_number an_is_number cd_is_number ct_is_number), sl_is_number⟩)
    (c_is_number : PySem.W.codeIn K cd_is_number "is_number" = true)
    (k_is_number : PySem.W.keepIn K (.ref f_is_number) = true)
    (a_is_sequence : PySem.W.nsIn K mainGlobals "is_sequence" = some (some (.ref f_is_sequence)))
    (l_is_sequence : K.lookup f_is_sequence = some ⟨oc_is_sequence, od_is_sequence, .func (PySem.W.fnOf "is_sequence" "is_sequence" (defArgs s_is_sequence) (defBody s_is_sequence) (defScope s_is_sequence) .none kV_is_sequence dc_is_sequence pm_is_sequence an_is_sequence cd_is_sequence ct_is_sequence), sl_is_sequence⟩)
    (c_is_sequence : PySem.W.codeIn K cd_is_sequence "is_sequence" = true)
    (k_is_sequence : PySem.W.keepIn K (.ref f_is_sequence) = true)
    (a_is_name : PySem.W.nsIn K mainGlobals "is_name" = some (some (.ref f_is_name)))
    (l_is_name : K.lookup f_is_name = some ⟨oc_is_name, od_is_name, .func (PySem.W.fnOf "is_name" "is_name" (defArgs s_is_name) (defBody s_is_name) (defScope s_is_name) .none kV_is_name dc_is_name pm_is_name an_is_name cd_is_name ct_is_name), sl_is_name⟩)
    (c_is_name : PySem.W.codeIn K cd_is_name "is_name" = true)
    (k_is_name : PySem.W.keepIn K (.ref f_is_name) = true)
    (a_is_row_of_names : PySem.W.nsIn K mainGlobals "is_row_of_names" = some (some (.ref f_is_row_of_names)))
    (l_is_row_of_names : K.lookup f_is_row_of_names = some ⟨oc_is_row_of_names, od_is_row_of_names, .func (PySem.W.fnOf "is_row_of_names" "is_row_of_names" (defArgs s_is_row_of_names) (defBody s_is_row_of_names) (defScope s_is_row_of_names) .none kV_is_row_of_names dc_is_row_of_names pm_is_row_of_names an_is_row_of_names cd_is_row_of_names ct_is_row_of_names), sl_is_row_of_names⟩)
    (c_is_row_of_names : PySem.W.codeIn K cd_is_row_of_names "is_row_of_names" = true)
    (k_is_row_of_names : PySem.W.keepIn K (.ref f_is_row_of_names) = true)
    (a_are_unlike : PySem.W.nsIn K mainGlobals "are_unlike" = some (some (.ref f_are_unlike)))
    (l_are_unlike : K.lookup f_are_unlike = some ⟨oc_are_unlike, od_are_unlike, .func (PySem.W.fnOf "are_unlike" "are_unlike" (defArgs s_are_unlike) (defBody s_are_unlike) (defScope s_are_unlike) .none kV_are_unlike dc_are_unlike pm_are_unlike an_are_unlike cd_are_unlike ct_are_unlike), sl_are_unlike⟩)
    (c_are_unlike : PySem.W.codeIn K cd_are_unlike "are_unlike" = true)
    (k_are_unlike : PySem.W.keepIn K (.ref f_are_unlike) = true)
    (a_is_arrow : PySem.W.nsIn K mainGlobals "is_arrow" = some (some (.ref f_is_arrow)))
    (l_is_arrow : K.lookup f_is_arrow = some ⟨oc_is_arrow, od_is_arrow, .func (PySem.W.fnOf "is_arrow" "is_arrow" (defArgs s_is_arrow) (defBody s_is_arrow) (defScope s_is_arrow) .none kV_is_arrow dc_is_arrow pm_is_arrow an_is_arrow cd_is_arrow ct_is_arrow), sl_is_arrow⟩)
    (c_is_arrow : PySem.W.codeIn K cd_is_arrow "is_arrow" = true)
    (k_is_arrow : PySem.W.keepIn K (.ref f_is_arrow) = true)
    (a_are_arrows : PySem.W.nsIn K mainGlobals "are_arrows" = some (some (.ref f_are_arrows)))
    (l_are_arrows : K.lookup f_are_arrows = some ⟨oc_are_arrows, od_are_arrows, .func (PySem.W.fnOf "are_arrows" "are_arrows" (defArgs s_are_arrows) (defBody s_are_arrows) (defScope s_are_arrows) .none kV_are_arrows dc_are_arrows pm_are_arrows an_are_arrows cd_are_arrows ct_are_arrows), sl_are_arrows⟩)
    (c_are_arrows : PySem.W.codeIn K cd_are_arrows "are_arrows" = true)
    (k_are_arrows : PySem.W.keepIn K (.ref f_are_arrows) = true)
    (a_Step___init__ : PySem.W.findIn K (.ref C_Step) "__init__" = some (some (.ref f_Step___init__)))
    (i_Step___init__ : PySem.W.isFn K (.ref f_Step___init__) = true)
    (l_Step___init__ : K.lookup f_Step___init__ = some ⟨oc_Step___init__, od_Step___init__, .func (PySem.W.fnOf "__init__" "Step.__init__" (defArgs s_Step___init__) (defBody s_Step___init__) (defScope s_Step___init__) (.ref dt_Step___init__) kV_Step___init__ dc_Step___init__ pm_Step___init__ an_Step___init__ cd_Step___init__ ct_Step___init__), sl_Step___init__⟩)
    (c_Step___init__ : PySem.W.codeIn K cd_Step___init__ "Step.__init__" = true)
    (k_Step___init__ : PySem.W.keepIn K (.ref f_Step___init__) = true)
    (q_Step___init__ : K.lookup dt_Step___init__ = some ⟨tc_Step___init__, td_Step___init__, .seq #[.ref e0_Step___init__] tn_Step___init__, tl_Step___init__⟩)
    (r0_Step___init__ : K.lookup e0_Step___init__ = some ⟨.type "tuple", ed0_Step___init__, .seq #[] en0_Step___init__, el0_Step___init__⟩)
    (a_Step___eq__ : PySem.W.findIn K (.ref C_Step) "__eq__" = some (some (.ref f_Step___eq__)))
    (i_Step___eq__ : PySem.W.isFn K (.ref f_Step___eq__) = true)
    (l_Step___eq__ : K.lookup f_Step___eq__ = some ⟨oc_Step___eq__, od_Step___eq__, .func (PySem.W.fnOf "__eq__" "Step.__eq__" (defArgs s_Step___eq__) (defBody s_Step___eq__) (defScope s_Step___eq__) .none kV_Step___eq__ dc_Step___eq__ pm_Step___eq__ an_Step___eq__ cd_Step___eq__ ct_Step___eq__), sl_Step___eq__⟩)
    (c_Step___eq__ : PySem.W.codeIn K cd_Step___eq__ "Step.__eq__" = true)
    (k_Step___eq__ : PySem.W.keepIn K (.ref f_Step___eq__) = true)
    (a_Step___str__ : PySem.W.findIn K (.ref C_Step) "__str__" = some (some (.ref f_Step___str__)))
    (i_Step___str__ : PySem.W.isFn K (.ref f_Step___str__) = true)
    (l_Step___str__ : K.lookup f_Step___str__ = some ⟨oc_Step___str__, od_Step___str__, .func (PySem.W.fnOf "__str__" "Step.__str__" (defArgs s_Step___str__) (defBody s_Step___str__) (defScope s_Step___str__) .none kV_Step___str__ dc_Step___str__ pm_Step___str__ an_Step___str__ cd_Step___str__ ct_Step___str__), sl_Step___str__⟩)
    (c_Step___str__ : PySem.W.codeIn K cd_Step___str__ "Step.__str__" = true)
    (k_Step___str__ : PySem.W.keepIn K (.ref f_Step___str__) = true)
    (a__law_deal : PySem.W.nsIn K mainGlobals "_law_deal" = some (some (.ref f__law_deal)))
    (l__law_deal : K.lookup f__law_deal = some ⟨oc__law_deal, od__law_deal, .func (PySem.W.fnOf "_law_deal" "_law_deal" (defArgs s__law_deal) (defBody s__law_deal) (defScope s__law_deal) .none kV__law_deal dc__law_deal pm__law_deal an__law_deal cd__law_deal ct__law_deal), sl__law_deal⟩)
    (c__law_deal : PySem.W.codeIn K cd__law_deal "_law_deal" = true)
    (k__law_deal : PySem.W.keepIn K (.ref f__law_deal) = true)
    (a__law_draw : PySem.W.nsIn K mainGlobals "_law_draw" = some (some (.ref f__law_draw)))
    (l__law_draw : K.lookup f__law_draw = some ⟨oc__law_draw, od__law_draw, .func (PySem.W.fnOf "_law_draw" "_law_draw" (defArgs s__law_draw) (defBody s__law_draw) (defScope s__law_draw) .none kV__law_draw dc__law_draw pm__law_draw an__law_draw cd__law_draw ct__law_draw), sl__law_draw⟩)
    (c__law_draw : PySem.W.codeIn K cd__law_draw "_law_draw" = true)
    (k__law_draw : PySem.W.keepIn K (.ref f__law_draw) = true)
    (a__law_pick : PySem.W.nsIn K mainGlobals "_law_pick" = some (some (.ref f__law_pick)))
    (l__law_pick : K.lookup f__law_pick = some ⟨oc__law_pick, od__law_pick, .func (PySem.W.fnOf "_law_pick" "_law_pick" (defArgs s__law_pick) (defBody s__law_pick) (defScope s__law_pick) .none kV__law_pick dc__law_pick pm__law_pick an__law_pick cd__law_pick ct__law_pick), sl__law_pick⟩)
    (c__law_pick : PySem.W.codeIn K cd__law_pick "_law_pick" = true)
    (k__law_pick : PySem.W.keepIn K (.ref f__law_pick) = true)
    (a__law_mixed : PySem.W.nsIn K mainGlobals "_law_mixed" = some (some (.ref f__law_mixed)))
    (l__law_mixed : K.lookup f__law_mixed = some ⟨oc__law_mixed, od__law_mixed, .func (PySem.W.fnOf "_law_mixed" "_law_mixed" (defArgs s__law_mixed) (defBody s__law_mixed) (defScope s__law_mixed) .none kV__law_mixed dc__law_mixed pm__law_mixed an__law_mixed cd__law_mixed ct__law_mixed), sl__law_mixed⟩)
    (c__law_mixed : PySem.W.codeIn K cd__law_mixed "_law_mixed" = true)
    (k__law_mixed : PySem.W.keepIn K (.ref f__law_mixed) = true)
    (a__law_spots : PySem.W.nsIn K mainGlobals "_law_spots" = some (some (.ref f__law_spots)))
    (l__law_spots : K.lookup f__law_spots = some ⟨oc__law_spots, od__law_spots, .func (PySem.W.fnOf "_law_spots" "_law_spots" (defArgs s__law_spots) (defBody s__law_spots) (defScope s__law_spots) .none kV__law_spots dc__law_spots pm__law_spots an__law_spots cd__law_spots ct__law_spots), sl__law_spots⟩)
    (c__law_spots : PySem.W.codeIn K cd__law_spots "_law_spots" = true)
    (k__law_spots : PySem.W.keepIn K (.ref f__law_spots) = true)
    (a__law_stage : PySem.W.nsIn K mainGlobals "_law_stage" = some (some (.ref f__law_stage)))
    (l__law_stage : K.lookup f__law_stage = some ⟨oc__law_stage, od__law_stage, .func (PySem.W.fnOf "_law_stage" "_law_stage" (defArgs s__law_stage) (defBody s__law_stage) (defScope s__law_stage) .none kV__law_stage dc__law_stage pm__law_stage an__law_stage cd__law_stage ct__law_stage), sl__law_stage⟩)
    (c__law_stage : PySem.W.codeIn K cd__law_stage "_law_stage" = true)
    (k__law_stage : PySem.W.keepIn K (.ref f__law_stage) = true)
    (a__law_stage_text : PySem.W.nsIn K mainGlobals "_law_stage_text" = some (some (.ref f__law_stage_text)))
    (l__law_stage_text : K.lookup f__law_stage_text = some ⟨oc__law_stage_text, od__law_stage_text, .func (PySem.W.fnOf "_law_stage_text" "_law_stage_text" (defArgs s__law_stage_text) (defBody s__law_stage_text) (defScope s__law_stage_text) .none kV__law_stage_text dc__law_stage_text pm__law_stage_text an__law_stage_text cd__law_stage_text ct__law_stage_text), sl__law_stage_text⟩)
    (c__law_stage_text : PySem.W.codeIn K cd__law_stage_text "_law_stage_text" = true)
    (k__law_stage_text : PySem.W.keepIn K (.ref f__law_stage_text) = true)
    (a_law : PySem.W.nsIn K mainGlobals "law" = some (some (.ref f_law)))
    (l_law : K.lookup f_law = some ⟨oc_law, od_law, .func (PySem.W.fnOf "law" "law" (defArgs s_law) (defBody s_law) (defScope s_law) .none kV_law dc_law pm_law an_law cd_law ct_law), sl_law⟩)
    (c_law : PySem.W.codeIn K cd_law "law" = true)
    (k_law : PySem.W.keepIn K (.ref f_law) = true)
    (pg_Step : PySem.W.plainGet K C_Step Str.empty = true)
    (hd_Step : PySem.W.hasDictIn K C_Step = true)
    (po_Step : PySem.W.plainOver K C_Step = true)
    (sa_Step : PySem.W.findIn K (.ref C_Step) "__setattr__" = some (some (.builtin "object.__setattr__")))
    (mk_Step : PySem.W.makesIn K C_Step = true)
    (kc_Step : PySem.W.keepIn K (.ref C_Step) = true)
    (ha_Step : PySem.W.findIn K (.ref C_Step) "__class__" = some (some (.builtin "object.__class__")))
    (hn_Step : PySem.W.specialIn K (.builtin "object.__class__") "__get__" = some (some (.builtin "getset_descriptor.__get__")))
    (ht_Step : PySem.W.takesIn K (.builtin "object.__class__") = some true)
    (hm_Step : PySem.W.mroIn K C_Step (.type "object") = some true)
    (mi_Step : PySem.W.mroIn K C_Step (.type "int") = some false)
    (mb_Step : PySem.W.mroIn K C_Step (.type "bool") = some false)
    (ms_Step : PySem.W.mroIn K C_Step (.type "str") = some false)
    (ml_Step : PySem.W.mroIn K C_Step (.type "list") = some false)
    (mt_Step : PySem.W.mroIn K C_Step (.type "tuple") = some false)
    (ic_Step : PySem.W.isClsIn K C_Step = true)
    (ty_Step : PySem.W.typeIn K (.ref C_Step) = some (.type "type"))
    (ne_Step : PySem.W.findIn K (.ref C_Step) "__ne__" = some (some (.builtin "object.__ne__")))
    (x_Step_name : PySem.W.findIn K (.ref C_Step) "name" = some none)
    (x_Step_places : PySem.W.findIn K (.ref C_Step) "places" = some none)
    (x_Step_arrows : PySem.W.findIn K (.ref C_Step) "arrows" = some none)
    (x_Step_losses : PySem.W.findIn K (.ref C_Step) "losses" = some none)
    (x_Step_leads : PySem.W.findIn K (.ref C_Step) "leads" = some none) :
    ∃ fd : FuncData, (∀ (s : Shared) (v : Value), BindsTo s fd ⟨[v], []⟩ [("_law_script", v)]) ∧ ∀ base : Heap, K.In base → base.Ns mainGlobals mg → FnOk l.prog w K mg base CX0 8 fa fd ["_law_script"] (spLaw K) := by
  cases hfa.symm.trans (PySem.W.mg_of X G a_law)
  subst e_LETTERS
  have F_is_integer := fun_mk (st := s_is_integer) l_is_integer c_is_integer k_is_integer
  have B_is_integer := F_is_integer.binds (ps := ["value"]) fun _ _ _ _ _ _ us hl => match us, hl with | [_], _ => rfl
  have F_is_number := fun_mk (st := s_is_number) l_is_number c_is_number k_is_number
  have B_is_number := F_is_number.binds (ps := ["value"]) fun _ _ _ _ _ _ us hl => match us, hl with | [_], _ => rfl
  have F_is_sequence := fun_mk (st := s_is_sequence) l_is_sequence c_is_sequence k_is_sequence
  have B_is_sequence := F_is_sequence.binds (ps := ["value"]) fun _ _ _ _ _ _ us hl => match us, hl with | [_], _ => rfl
  have F_is_name := fun_mk (st := s_is_name) l_is_name c_is_name k_is_name
  have B_is_name := F_is_name.binds (ps := ["value"]) fun _ _ _ _ _ _ us hl => match us, hl with | [_], _ => rfl
  have F_is_row_of_names := fun_mk (st := s_is_row_of_names) l_is_row_of_names c_is_row_of_names k_is_row_of_names
  have B_is_row_of_names := F_is_row_of_names.binds (ps := ["value"]) fun _ _ _ _ _ _ us hl => match us, hl with | [_], _ => rfl
  have F_are_unlike := fun_mk (st := s_are_unlike) l_are_unlike c_are_unlike k_are_unlike
  have B_are_unlike := F_are_unlike.binds (ps := ["values"]) fun _ _ _ _ _ _ us hl => match us, hl with | [_], _ => rfl
  have F_is_arrow := fun_mk (st := s_is_arrow) l_is_arrow c_is_arrow k_is_arrow
  have B_is_arrow := F_is_arrow.binds (ps := ["places", "value"]) fun _ _ _ _ _ _ us hl => match us, hl with | [_, _], _ => rfl
  have F_are_arrows := fun_mk (st := s_are_arrows) l_are_arrows c_are_arrows k_are_arrows
  have B_are_arrows := F_are_arrows.binds (ps := ["places", "value"]) fun _ _ _ _ _ _ us hl => match us, hl with | [_, _], _ => rfl
  have F_Step___init__ : FunD K "__init__" "Step.__init__" (defArgs s_Step___init__) (defBody s_Step___init__) (defScope s_Step___init__) [.ref e0_Step___init__] [] f_Step___init__ _ := ⟨⟨_, _, _, _, _, _, _, _, _, _, rfl, l_Step___init__, c_Step___init__, .inr ⟨by simp, dt_Step___init__, _, [.ref e0_Step___init__], _, rfl, q_Step___init__, rfl, (.cons rfl .nil)⟩, .inl rfl⟩, k_Step___init__⟩
  have B_Step___init__ : Binds K (PySem.W.fnOf "__init__" "Step.__init__" (defArgs s_Step___init__) (defBody s_Step___init__) (defScope s_Step___init__) (.ref dt_Step___init__) kV_Step___init__ dc_Step___init__ pm_Step___init__ an_Step___init__ cd_Step___init__ ct_Step___init__) ["self", "name", "places", "arrows"] [] := by
    obtain ⟨ds, hv, hb⟩ := FunD.binds1 (ps := ["self", "name", "places", "arrows"]) F_Step___init__ 4 1 (by simp) rfl fun _ _ _ _ _ _ _ us its h1 h2 => match us, its, h1, h2 with | [_, _, _, _], [_], _, _ => ⟨_, rfl, rfl⟩
    cases hv
    exact hb
  have N_Step___init__ := FunD.binds1 (ps := ["self", "name", "places", "arrows"]) F_Step___init__ 3 0 (by simp) rfl fun _ _ _ _ _ _ _ us its h1 h2 => match us, its, h1, h2 with | [_, _, _], [_], _, _ => ⟨_, rfl, rfl⟩
  have F_Step___eq__ := fun_mk (st := s_Step___eq__) l_Step___eq__ c_Step___eq__ k_Step___eq__
  have B_Step___eq__ := F_Step___eq__.binds (ps := ["self", "other"]) fun _ _ _ _ _ _ us hl => match us, hl with | [_, _], _ => rfl
  have F_Step___str__ := fun_mk (st := s_Step___str__) l_Step___str__ c_Step___str__ k_Step___str__
  have B_Step___str__ := F_Step___str__.binds (ps := ["self"]) fun _ _ _ _ _ _ us hl => match us, hl with | [_], _ => rfl
  have F__law_deal := fun_mk (st := s__law_deal) l__law_deal c__law_deal k__law_deal
  have B__law_deal := F__law_deal.binds (ps := ["_law_script", "_law_base"]) fun _ _ _ _ _ _ us hl => match us, hl with | [_, _], _ => rfl
  have F__law_draw := fun_mk (st := s__law_draw) l__law_draw c__law_draw k__law_draw
  have B__law_draw := F__law_draw.binds (ps := ["_law_deal_here", "_law_many"]) fun _ _ _ _ _ _ us hl => match us, hl with | [_, _], _ => rfl
  have F__law_pick := fun_mk (st := s__law_pick) l__law_pick c__law_pick k__law_pick
  have B__law_pick := F__law_pick.binds (ps := ["_law_deal_here", "_law_some"]) fun _ _ _ _ _ _ us hl => match us, hl with | [_, _], _ => rfl
  have F__law_mixed := fun_mk (st := s__law_mixed) l__law_mixed c__law_mixed k__law_mixed
  have B__law_mixed := F__law_mixed.binds (ps := ["_law_deal_here", "_law_some"]) fun _ _ _ _ _ _ us hl => match us, hl with | [_, _], _ => rfl
  have F__law_spots := fun_mk (st := s__law_spots) l__law_spots c__law_spots k__law_spots
  have B__law_spots := F__law_spots.binds (ps := ["_law_deal_here", "_law_many"]) fun _ _ _ _ _ _ us hl => match us, hl with | [_, _], _ => rfl
  have F__law_stage := fun_mk (st := s__law_stage) l__law_stage c__law_stage k__law_stage
  have B__law_stage := F__law_stage.binds (ps := ["_law_deal_here", "_law_title", "_law_spots_here"]) fun _ _ _ _ _ _ us hl => match us, hl with | [_, _, _], _ => rfl
  have F__law_stage_text := fun_mk (st := s__law_stage_text) l__law_stage_text c__law_stage_text k__law_stage_text
  have B__law_stage_text := F__law_stage_text.binds (ps := ["_law_stage_here"]) fun _ _ _ _ _ _ us hl => match us, hl with | [_], _ => rfl
  have F_law := fun_mk (st := s_law) l_law c_law k_law
  have B_law := F_law.binds (ps := ["_law_script"]) fun _ _ _ _ _ _ us hl => match us, hl with | [_], _ => rfl
  exact ⟨_, fun s v => .of_eq rfl, fun base _ _ => ok_law ({
    b_abs := PySem.W.mg_none_of X G z_abs
    b_all := PySem.W.mg_none_of X G z_all
    b_bool := PySem.W.mg_none_of X G z_bool
    b_int := PySem.W.mg_none_of X G z_int
    b_isinstance := PySem.W.mg_none_of X G z_isinstance
    b_len := PySem.W.mg_none_of X G z_len
    b_list := PySem.W.mg_none_of X G z_list
    b_max := PySem.W.mg_none_of X G z_max
    b_min := PySem.W.mg_none_of X G z_min
    b_range := PySem.W.mg_none_of X G z_range
    b_sorted := PySem.W.mg_none_of X G z_sorted
    b_str := PySem.W.mg_none_of X G z_str
    b_tuple := PySem.W.mg_none_of X G z_tuple
    tk_LETTERS := tk_LETTERS
    m_LETTERS := PySem.W.mg_of X G g_LETTERS
    a_RESERVED := ca_RESERVED
    m_RESERVED := PySem.W.mg_of X G g_RESERVED
    v_RESERVED := fun H => .inr ⟨_, _, _, e_RESERVED, rfl, rfl, w_RESERVED, v_RESERVED⟩
    a_is_integer := f_is_integer
    d_is_integer := _
    F_is_integer := F_is_integer
    n_is_integer := B_is_integer
    m_is_integer := PySem.W.mg_of X G a_is_integer
    a_is_number := f_is_number
    d_is_number := _
    F_is_number := F_is_number
    n_is_number := B_is_number
    m_is_number := PySem.W.mg_of X G a_is_number
    a_is_sequence := f_is_sequence
    d_is_sequence := _
    F_is_sequence := F_is_sequence
    n_is_sequence := B_is_sequence
    m_is_sequence := PySem.W.mg_of X G a_is_sequence
    a_is_name := f_is_name
    d_is_name := _
    F_is_name := F_is_name
    n_is_name := B_is_name
    m_is_name := PySem.W.mg_of X G a_is_name
    a_is_row_of_names := f_is_row_of_names
    d_is_row_of_names := _
    F_is_row_of_names := F_is_row_of_names
    n_is_row_of_names := B_is_row_of_names
    m_is_row_of_names := PySem.W.mg_of X G a_is_row_of_names
    a_are_unlike := f_are_unlike
    d_are_unlike := _
    F_are_unlike := F_are_unlike
    n_are_unlike := B_are_unlike
    m_are_unlike := PySem.W.mg_of X G a_are_unlike
    a_is_arrow := f_is_arrow
    d_is_arrow := _
    F_is_arrow := F_is_arrow
    n_is_arrow := B_is_arrow
    m_is_arrow := PySem.W.mg_of X G a_is_arrow
    a_are_arrows := f_are_arrows
    d_are_arrows := _
    F_are_arrows := F_are_arrows
    n_are_arrows := B_are_arrows
    m_are_arrows := PySem.W.mg_of X G a_are_arrows
    a_Step___init__ := f_Step___init__
    d_Step___init__ := _
    F_Step___init__ := F_Step___init__
    n_Step___init__ := B_Step___init__
    nd_Step___init__ := N_Step___init__
    e0_Step___init__ := e0_Step___init__
    v0_Step___init__ := fun H => .inr ⟨_, _, _, r0_Step___init__, rfl, rfl, Nat.zero_le _, .nil⟩
    a_Step___eq__ := f_Step___eq__
    d_Step___eq__ := _
    F_Step___eq__ := F_Step___eq__
    n_Step___eq__ := B_Step___eq__
    a_Step___str__ := f_Step___str__
    d_Step___str__ := _
    F_Step___str__ := F_Step___str__
    n_Step___str__ := B_Step___str__
    a__law_deal := f__law_deal
    d__law_deal := _
    F__law_deal := F__law_deal
    n__law_deal := B__law_deal
    m__law_deal := PySem.W.mg_of X G a__law_deal
    a__law_draw := f__law_draw
    d__law_draw := _
    F__law_draw := F__law_draw
    n__law_draw := B__law_draw
    m__law_draw := PySem.W.mg_of X G a__law_draw
    a__law_pick := f__law_pick
    d__law_pick := _
    F__law_pick := F__law_pick
    n__law_pick := B__law_pick
    m__law_pick := PySem.W.mg_of X G a__law_pick
    a__law_mixed := f__law_mixed
    d__law_mixed := _
    F__law_mixed := F__law_mixed
    n__law_mixed := B__law_mixed
    m__law_mixed := PySem.W.mg_of X G a__law_mixed
    a__law_spots := f__law_spots
    d__law_spots := _
    F__law_spots := F__law_spots
    n__law_spots := B__law_spots
    m__law_spots := PySem.W.mg_of X G a__law_spots
    a__law_stage := f__law_stage
    d__law_stage := _
    F__law_stage := F__law_stage
    n__law_stage := B__law_stage
    m__law_stage := PySem.W.mg_of X G a__law_stage
    a__law_stage_text := f__law_stage_text
    d__law_stage_text := _
    F__law_stage_text := F__law_stage_text
    n__law_stage_text := B__law_stage_text
    m__law_stage_text := PySem.W.mg_of X G a__law_stage_text
    a_law := _
    d_law := _
    F_law := F_law
    n_law := B_law
    m_law := PySem.W.mg_of X G a_law
    a_InvalidStep := C_InvalidStep
    m_InvalidStep := PySem.W.mg_of X G aC_InvalidStep
    a_Step := C_Step
    m_Step := PySem.W.mg_of X G aC_Step
    c_Step := ⟨pg_Step, hd_Step, po_Step, sa_Step⟩
    o_Step := own_mk ⟨pg_Step, hd_Step, po_Step, sa_Step⟩ ha_Step hn_Step ht_Step hm_Step mi_Step mb_Step ms_Step ml_Step mt_Step ic_Step ty_Step
    k_Step := ⟨mk_Step, a_Step___init__, i_Step___init__, kc_Step⟩
    ne_Step := ne_Step
    t_Step___eq__ := ⟨a_Step___eq__, i_Step___eq__, k_Step___eq__⟩
    t_Step___str__ := ⟨a_Step___str__, i_Step___str__, k_Step___str__⟩
    x_Step_name := x_Step_name
    x_Step_places := x_Step_places
    x_Step_arrows := x_Step_arrows
    x_Step_losses := x_Step_losses
    x_Step_leads := x_Step_leads
    : Txt K mg})⟩
end Pw
open PySem PySem.W PyProof.Rows
set_option maxRecDepth 100000 in
set_option maxHeartbeats 0 in
theorem PySem.Challenge.cw_plateways_k02_steps_made_holds : PySem.Challenge.rw_plateways_k02_steps_made.Holds := by
  w_on; o_law; k_head; (case hw => w_witness2)
  k_fill
  refine L2.walk_of (l := PySem.Challenge.rw_plateways_k02_steps_made) (n := 63) (k := 8) (x := "_law_script") (CX := fun _ => L2.CX0) (sp := fun w => Pw.spLaw _) rfl (by decide) rfl ⟨rfl, by decide, by decide⟩ (fun w h Y => PySem.W.kIn_of Y) ?F (fun _ _ a ns hl _ hS => ⟨a, ns, rfl, hS, hl, fun _ => rfl⟩) fun _ _ _ _ _ z => z
  case F =>
    intro w mg fa h KX G hmg
    refine' Pw.all_mk KX G hmg ?z_abs ?z_all ?z_bool ?z_int ?z_isinstance ?z_len ?z_list ?z_max ?z_min ?z_range ?z_sorted ?z_str ?z_tuple ?g_LETTERS ?e_LETTERS ?g_RESERVED ?e_RESERVED ?v_RESERVED ?w_RESERVED ?aC_InvalidStep ?aC_Step ?a_is_integer ?l_is_integer ?c_is_integer ?k_is_integer ?a_is_number ?l_is_number ?c_is_number ?k_is_number ?a_is_sequence ?l_is_sequence ?c_is_sequence ?k_is_sequence ?a_is_name ?l_is_name ?c_is_name ?k_is_name ?a_is_row_of_names ?l_is_row_of_names ?c_is_row_of_names ?k_is_row_of_names ?a_are_unlike ?l_are_unlike ?c_are_unlike ?k_are_unlike ?a_is_arrow ?l_is_arrow ?c_is_arrow ?k_is_arrow ?a_are_arrows ?l_are_arrows ?c_are_arrows ?k_are_arrows ?a_Step___init__ ?i_Step___init__ ?l_Step___init__ ?c_Step___init__ ?k_Step___init__ ?q_Step___init__ ?r0_Step___init__ ?a_Step___eq__ ?i_Step___eq__ ?l_Step___eq__ ?c_Step___eq__ ?k_Step___eq__ ?a_Step___str__ ?i_Step___str__ ?l_Step___str__ ?c_Step___str__ ?k_Step___str__ ?a__law_deal ?l__law_deal ?c__law_deal ?k__law_deal ?a__law_draw ?l__law_draw ?c__law_draw ?k__law_draw ?a__law_pick ?l__law_pick ?c__law_pick ?k__law_pick ?a__law_mixed ?l__law_mixed ?c__law_mixed ?k__law_mixed ?a__law_spots ?l__law_spots ?c__law_spots ?k__law_spots ?a__law_stage ?l__law_stage ?c__law_stage ?k__law_stage ?a__law_stage_text ?l__law_stage_text ?c__law_stage_text ?k__law_stage_text ?a_law ?l_law ?c_law ?k_law ?pg_Step ?hd_Step ?po_Step ?sa_Step ?mk_Step ?kc_Step ?ha_Step ?hn_Step ?ht_Step ?hm_Step ?mi_Step ?mb_Step ?ms_Step ?ml_Step ?mt_Step ?ic_Step ?ty_Step ?ne_Step ?x_Step_name ?x_Step_places ?x_Step_arrows ?x_Step_losses ?x_Step_leads
    (case z_abs => k_is)
    (case z_all => k_is)
    (case z_bool => k_is)
    (case z_int => k_is)
    (case z_isinstance => k_is)
    (case z_len => k_is)
    (case z_list => k_is)
    (case z_max => k_is)
    (case z_min => k_is)
    (case z_range => k_is)
    (case z_sorted => k_is)
    (case z_str => k_is)
    (case z_tuple => k_is)
    (case g_LETTERS => k_is)
    (case e_LETTERS => first | rfl | decide +kernel)
    (case g_RESERVED => k_is)
    (case e_RESERVED => k_is)
    (case v_RESERVED => exact (.cons ⟨_, rfl⟩ (.cons ⟨_, rfl⟩ (.cons ⟨_, rfl⟩ (.cons ⟨_, rfl⟩ (.cons ⟨_, rfl⟩ (.cons ⟨_, rfl⟩ .nil)))))))
    (case w_RESERVED => decide)
    (case aC_InvalidStep => k_is)
    (case aC_Step => k_is)
    (case a_is_integer => k_is)
    (case l_is_integer => k_is)
    (case c_is_integer => k_is)
    (case k_is_integer => k_is)
    (case a_is_number => k_is)
    (case l_is_number => k_is)
    (case c_is_number => k_is)
    (case k_is_number => k_is)
    (case a_is_sequence => k_is)
    (case l_is_sequence => k_is)
    (case c_is_sequence => k_is)
    (case k_is_sequence => k_is)
    (case a_is_name => k_is)
    (case l_is_name => k_is)
    (case c_is_name => k_is)
    (case k_is_name => k_is)
    (case a_is_row_of_names => k_is)
    (case l_is_row_of_names => k_is)
    (case c_is_row_of_names => k_is)
    (case k_is_row_of_names => k_is)
    (case a_are_unlike => k_is)
    (case l_are_unlike => k_is)
    (case c_are_unlike => k_is)
    (case k_are_unlike => k_is)
    (case a_is_arrow => k_is)
    (case l_is_arrow => k_is)
    (case c_is_arrow => k_is)
    (case k_is_arrow => k_is)
    (case a_are_arrows => k_is)
    (case l_are_arrows => k_is)
    (case c_are_arrows => k_is)
    (case k_are_arrows => k_is)
    (case a_Step___init__ => k_is)
    (case i_Step___init__ => k_is)
    (case l_Step___init__ => k_is)
    (case c_Step___init__ => k_is)
    (case k_Step___init__ => k_is)
    (case q_Step___init__ => k_is)
    (case r0_Step___init__ => k_is)
    (case a_Step___eq__ => k_is)
    (case i_Step___eq__ => k_is)
    (case l_Step___eq__ => k_is)
    (case c_Step___eq__ => k_is)
    (case k_Step___eq__ => k_is)
    (case a_Step___str__ => k_is)
    (case i_Step___str__ => k_is)
    (case l_Step___str__ => k_is)
    (case c_Step___str__ => k_is)
    (case k_Step___str__ => k_is)
    (case a__law_deal => k_is)
    (case l__law_deal => k_is)
    (case c__law_deal => k_is)
    (case k__law_deal => k_is)
    (case a__law_draw => k_is)
    (case l__law_draw => k_is)
    (case c__law_draw => k_is)
    (case k__law_draw => k_is)
    (case a__law_pick => k_is)
    (case l__law_pick => k_is)
    (case c__law_pick => k_is)
    (case k__law_pick => k_is)
    (case a__law_mixed => k_is)
    (case l__law_mixed => k_is)
    (case c__law_mixed => k_is)
    (case k__law_mixed => k_is)
    (case a__law_spots => k_is)
    (case l__law_spots => k_is)
    (case c__law_spots => k_is)
    (case k__law_spots => k_is)
    (case a__law_stage => k_is)
    (case l__law_stage => k_is)
    (case c__law_stage => k_is)
    (case k__law_stage => k_is)
    (case a__law_stage_text => k_is)
    (case l__law_stage_text => k_is)
    (case c__law_stage_text => k_is)
    (case k__law_stage_text => k_is)
    (case a_law => k_is)
    (case l_law => k_is)
    (case c_law => k_is)
    (case k_law => k_is)
    (case pg_Step => k_is)
    (case hd_Step => k_is)
    (case po_Step => k_is)
    (case sa_Step => k_is)
    (case mk_Step => k_is)
    (case kc_Step => k_is)
    (case ha_Step => k_is)
    (case hn_Step => k_is)
    (case ht_Step => k_is)
    (case hm_Step => k_is)
    (case mi_Step => k_is)
    (case mb_Step => k_is)
    (case ms_Step => k_is)
    (case ml_Step => k_is)
    (case mt_Step => k_is)
    (case ic_Step => k_is)
    (case ty_Step => k_is)
    (case ne_Step => k_is)
    (case x_Step_name => k_is)
    (case x_Step_places => k_is)
    (case x_Step_arrows => k_is)
    (case x_Step_losses => k_is)
    (case x_Step_leads => k_is)

