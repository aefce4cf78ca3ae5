import PyProof.Rows.All
import Wide.All
import OpenK.AllK
import Wide.FinOn
import HandS.ForMost
import HandS.ForExc
import HandS.EndBits
import HandS.IsInst
import HandS.Defaults
import HandS.DictComp
import HandS.FStr
import HandS.Star
import HandS.Flow
import HandS.Style
import HandS.Wide
import HandS.SortRule
import HandS.TupLe
import HandS.Walk
import HandS.Conv
import HandS.Evl
import KE.KCallOwn
import KE.SortData
import HandS.TupLen
import HandS.CallSlots
import HandS.Lambda
import HandS.Deep
import HandS.TupAny
import HandS.RaiseMore
import HandS.WordsExc
import HandS.TryOnly
import KE.GoesEnum
import KE.GoesMore
import KE.KExcSuper
import HandS.ExcInit
import HandS.ExcField
import HandS.ClsMeth
import KE.GoesZip
import KE.KDictZip
import KE.KItemsList
import PyProof.ListRange
import PyProof.CollectWalk
import HandS.ListItems
import HandS.Zip
import KE.GoesEnumKw
import KE.KDictPairs
import HandS.ReplaceLit
import HandS.DictSubView
import HandS.DictTup
import HandS.MakeKw
import KE.KExcLine
import HandS.Exc
import HandS.ExcIs
import HandS.ListEq
import PyProof.NeKinds
import KE.SortKeyHeap
import KE.KSortKey
import HandS.SortKw
import HandS.SetBool
import HandS.Strs
import KE.GoesSet
import HandS.ReCall
import PySem.Challenge.RW_plateways_k05_arrows_asked_and_washed
import HandS.EndTab
import HandS.EndOwn
import HandS.Head2
import HandS.HeadHook2
import HandS.HeadNt
import KE.KSuper
set_option Elab.async false
set_option linter.all false
set_option maxHeartbeats 4000000
set_option maxRecDepth 100000
namespace Pw
open PySem L2 PySem.Spec PyProof.Rows
structure RoomG (k : Nat) (A : Around) : Prop extends Room k A where
  gd : A.guards = some []
theorem RoomG.mono {j k : Nat} {A : Around} (r : RoomG k A) (h : j ≤ k) : RoomG j A := ⟨r.toRoom.mono h, r.gd⟩
theorem RoomG.deeper {k : Nat} {A : Around} (r : RoomG (k + 1) A) (env : PySem.Env) : RoomG k (A.deeper env) := ⟨r.toRoom.deeper env, r.gd⟩
theorem RoomG.in1 {k : Nat} {A : Around} (r : RoomG (k + 1) A) : RoomG k A.in1 := ⟨r.toRoom.in1, r.gd⟩
theorem RoomG.make {k : Nat} {A : Around} (r : RoomG (k + 1) A) (C : Addr) (us : List Value) (kw : List (Str × Value)) : RoomG k (A.under (.builtin "type.__call__" ⟨.ref C :: us, kw⟩)) := by
  refine ⟨r.toRoom.make C us kw, ?_⟩
  have := r.gd
  first | (simp [Around.under, Code.guards, Code.isGuard, guardIds, this, pushGuards]; done) | (unfold Around.under; rw [this]; rfl)
structure FnOkG (P : Program) (w : World) (K : PySem.W.Frag) (mg : Str → Option Value) (base : Heap) (CX : CXT) (k : Nat) (f : Addr) (fd : FuncData) (ps : List Str) (sp : Sp) : Prop where
  len : ∀ vs H Q E, sp vs H Q E → vs.length = ps.length
  run : ∀ (A : Around) (outer : List PySem.Env) (s : Shared) (H : Hp) (args : Args) (us : List Value) (vs : List V) (Q : VK) (E : XK), RoomG k A → Env0 P w K mg base A outer s H → BindsTo s fd args (ps.zip us) → Vals vs us → sp vs H Q E →
    codeAny (model P w) A (.call (.ref f) args) (CR CX outer P w H s Q E) s
section
variable {P : Program} {w : World} {K : PySem.W.Frag} {mg : Str → Option Value} {base : Heap} {CX : CXT} {j k : Nat} {f : Addr} {fd : FuncData} {ps : List Str} {sp sp' : Sp}
theorem FnOkG.of (F : FnOk P w K mg base CX k f fd ps sp) : FnOkG P w K mg base CX k f fd ps sp := ⟨F.len, fun A o s H args us vs Q E hr => F.run A o s H args us vs Q E hr.toRoom⟩
theorem FnOkG.imp (F : FnOkG P w K mg base CX k f fd ps sp) (h : ∀ vs H Q E, sp' vs H Q E → sp vs H Q E) : FnOkG P w K mg base CX k f fd ps sp' :=
  ⟨fun vs H Q E q => F.len vs H Q E (h _ _ _ _ q), fun A o s H args us vs Q E hr e0 hb hv q => F.run A o s H args us vs Q E hr e0 hb hv (h _ _ _ _ q)⟩
end
section
variable {X : Cx} {CX : CXT} {k : Nat} {f : Addr} {fd : FuncData} {ps : List Str} {sp : Sp} {dvs : List V} {ds : List Value} {E : L2.St → XK} {x : Str} {p pos : Pos} {e : Expr} {es : List Expr} {t : TA}
theorem run_fnG {pins : List (Addr × Obj)} {σ : L2.St} {H : Hp} {s : Shared} {Q : VK} {us : List Value} {vs : List V} (F : FnOkG X.prog X.w X.K X.mg X.base CX k f fd ps sp)
    (hr : RoomG k X.A) (hb : Binds X.K fd ps ds) (hd : Vals dvs ds) (hx : PassesAt CX X σ (E σ)) (I : Inv X pins σ H s) (r : Vals vs us)
    (h : sp (vs ++ dvs) H Q (E σ)) : wpAny (model X.prog X.w) X.A (call (.ref f) us) (EP X pins σ Q) X.xe s := by
  have all : Vals (vs ++ dvs) (us ++ ds) := r.append hd
  have len : (us ++ ds).length = ps.length := by
    rw [← F.len _ _ _ _ h]
    exact all.length.symm
  refine wpAny_call (codeAny_mono (F.run X.A X.stack s H ⟨us, []⟩ _ _ Q (E σ) hr I.env0 (hb s us I.kIn len) all h) fun out s' hq => ?_)
  rcases out with er | fl
  · exact hx pins H s er s' I hq
  · cases fl with
    | ret u => exact I.after hq
    | next => exact hq.elim
    | brk => exact hq.elim
    | cont => exact hq.elim
theorem pe_callG (F : FnOkG X.prog X.w X.K X.mg X.base CX k f fd ps sp) (hr : RoomG k X.A) (hg : Gl X x) (hm : X.mg x = some (.ref f)) (hk : PySem.W.keepIn X.K (.ref f) = true)
    (hb : Binds X.K fd ps ds) (hd : Vals dvs ds) (hx : ∀ σ, PassesAt CX X σ (E σ)) (ha : PA X (e :: es) t) (hdb : (x == ("__debug__" : Str)) = false := by decide)
    (he : starEach (e :: es) X.env = (false, eval e X.env) :: starEach es X.env := by rfl) (hpl : (backTo pos (starEach es X.env)).any (·.1) = false := by rfl) :
    PE X (.Call (.Name x p) (e :: es) [] pos) (tCallSD sp dvs E t) :=
  ⟨fun pins s σ H Q I h => wpAny_Call_Name_kw (ld_glob I hg hm (PySem.W.callWith_K (h₀ := X.base) I.ok.mod.kin hk
    (thn (ha.run pos pins s σ H _ I h) fun us s1 ⟨vs, H1, I1, r, q⟩ => ⟨I1.kIn, run_fnG F hr hb hd (hx σ) I1 r q⟩) he hpl) hdb)⟩
end
section
variable {P : Program} {w : World} {K : PySem.W.Frag} {mg : Str → Option Value} {base : Heap} {CX : CXT} {k : Nat} {f : Addr} {N ps : List Str} {sp : Sp}
theorem fn_ofG {name qual : Str} {params : Arguments} {body : List Stmt} {scope : Scope} {dV kV doc pm cdv ct oc : Value} {an od : Option Addr} {osl : Array (Option Value)}
    (lk : K.lookup f = some ⟨oc, od, .func (PySem.W.fnOf name qual params body scope dV kV doc pm an cdv ct), osl⟩) (hcd : PySem.W.codeIn K cdv qual = true)
    (S : FnScope N ps scope) (len : ∀ vs H Q E, sp vs H Q E → vs.length = ps.length)
    (hbody : ∀ (A : Around) (outer : List PySem.Env) (s : Shared) (H : Hp) (vs : List V) (Q : VK) (E : XK), RoomG k (A.deeper (envOfC qual scope s.heap.objs.size f cdv)) → sp vs H Q E →
      ∃ t, PSs (cxOf CX P w K mg base N qual scope f cdv A outer s H E) body t ∧ t { nx := fun _ H' => Q .non H', rt := Q } (start N vs) H) :
    FnOkG P w K mg base CX (k + 1) f (PySem.W.fnOf name qual params body scope dV kV doc pm an cdv ct) ps sp := by
  constructor
  · exact len
  intro A outer s H args us vs Q E hr e0 hb rv want
  have up : ∀ b o, base.get? b = some o → s.heap.get? b = some o := fun b o e => (e0.bs b o e).1
  have KX := e0.mod.kin.keeps up
  have kinds : ∀ y ∈ ps.zip us, scope.names.lookup y.1 = some .local ∨ (scope.names.lookup y.1 = some .cell ∧ ((cellsFrom (s.heap.objs.size + 1) scope.names []).lookup y.1).isSome = true) := by
    rintro ⟨n, v⟩ hy
    rcases S.par n (List.of_mem_zip hy).1 with h | h
    · exact .inl h
    · exact .inr ⟨h, PySem.W.cellsFrom_some _ _ _ (.inl h)⟩
  refine codeAny_call_function hr.depth (KX _ _ lk) rfl S.co S.gen rfl (PySem.W.codeRec_of KX hcd) (hb _ _ _ _ (wpAny_newFunctionEnv_cells S.kind kinds ?_))
  intro env he s1 ic
  subst he
  obtain ⟨t, ht, hq⟩ := hbody A outer s H vs Q E (hr.deeper _) want
  refine ⟨(e0.mod.nolimit.keeps up).keeps ic.toInCall.keep, codeAny_func (wpAny_mono (ht.run [] s1 (start N vs) H _ (inv_start S hr.hd e0 (len _ _ _ _ want) rv ic) hq) ?_ fun _ _ z => z)⟩
  intro fl s' hs
  cases fl with
  | ret u =>
    obtain ⟨v, σ', H', J, r1, q⟩ := hs
    exact ⟨v, H', J.os, J.bare, J.base, J.hok, r1, q⟩
  | next =>
    obtain ⟨σ', H', J, q⟩ := hs
    exact ⟨.non, H', J.os, J.bare, J.base, J.hok, rfl, q⟩
  | brk =>
    obtain ⟨_, _, _, q⟩ := hs
    exact q.elim
  | cont =>
    obtain ⟨_, _, _, q⟩ := hs
    exact q.elim
theorem okG {x qual : Str} {st : Stmt} {fd : FuncData} (F : L2.Fun K x qual st f fd) (S : FnScope N ps (defScope st)) (len : ∀ vs H Q E, sp vs H Q E → vs.length = ps.length)
    (hbody : ∀ (cdv : Value) (A : Around) (outer : List PySem.Env) (s : Shared) (H : Hp) (vs : List V) (Q : VK) (E : XK), RoomG k (A.deeper (envOfC qual (defScope st) s.heap.objs.size f cdv)) → sp vs H Q E →
      ∃ t, PSs (cxOf CX P w K mg base N qual (defScope st) f cdv A outer s H E) (defBody st) t ∧ t { nx := fun _ H' => Q .non H', rt := Q } (start N vs) H) : FnOkG P w K mg base CX (k + 1) f fd ps sp := by
  obtain ⟨_, _, _, _, _, _, cdv, _, _, rfl, lk, hcd⟩ := F.ex
  exact fn_ofG lk hcd S len (hbody cdv)
theorem okDG {x qual : Str} {params : Arguments} {body : List Stmt} {scope : Scope} {dvs : List V} {kws : List (Str × V)} {fd : FuncData} (F : FunD K x qual params body scope dvs kws f fd) (S : FnScope N ps scope) (len : ∀ vs H Q E, sp vs H Q E → vs.length = ps.length)
    (hbody : ∀ (cdv : Value) (A : Around) (outer : List PySem.Env) (s : Shared) (H : Hp) (vs : List V) (Q : VK) (E : XK), RoomG k (A.deeper (envOfC qual scope s.heap.objs.size f cdv)) → sp vs H Q E →
      ∃ t, PSs (cxOf CX P w K mg base N qual scope f cdv A outer s H E) body t ∧ t { nx := fun _ H' => Q .non H', rt := Q } (start N vs) H) : FnOkG P w K mg base CX (k + 1) f fd ps sp := by
  obtain ⟨_, _, _, _, _, _, _, cdv, _, _, rfl, lk, hcd, _, _⟩ := F.ex
  exact fn_ofG lk hcd S len (hbody cdv)
end
end Pw
namespace Pw
open PySem L2 PySem.Spec PyProof.Rows
structure Kp (d l : Addr) (H H' : Hp) : Prop where
  stay : ∀ b o, H b = some o → b ≠ d → b ≠ l → H' b = some o
  free : ∀ b, H' b = none → H b = none
theorem Kp.refl (d l : Addr) (H : Hp) : Kp d l H H := ⟨fun _ _ h _ _ => h, fun _ h => h⟩
theorem Kp.new {d l : Addr} {H H1 : Hp} {p : Addr} {o : HO} (a : Kp d l H H1) (hp : H1 p = none) : Kp d l H (upd H1 p o) := by
  refine ⟨fun c u h n m => ?_, fun c h => ?_⟩
  · have e := a.stay c u h n m
    rw [upd_ne (ne_of_none e hp)]
    exact e
  · refine a.free c ?_
    unfold upd at h
    split at h
    · cases h
    · exact h
theorem Kp.put {d l : Addr} {H H1 : Hp} {p : Addr} {o : HO} (a : Kp d l H H1) (hp : p = d ∨ p = l) : Kp d l H (upd H1 p o) := by
  refine ⟨fun c u h n m => ?_, fun c h => ?_⟩
  · rw [upd_ne (by rcases hp with e | e <;> (rw [e]; assumption))]
    exact a.stay c u h n m
  · refine a.free c ?_
    unfold upd at h
    split at h
    · cases h
    · exact h
theorem same_new {H : Hp} {p : Addr} {o : HO} (h : H p = none) : Same H (upd H p o) := fun b u e => by
  rw [upd_ne (ne_of_none e h)]
  exact e
theorem Same.mut {H H1 : Hp} {p : Addr} {o : HO} (s : Same H H1) (h : H p = none) : Same H (upd H1 p o) := fun b u e => by
  rw [upd_ne (ne_of_none e h)]
  exact s b u e
theorem Same.tup {K : PySem.W.Frag} {H H' : Hp} {a : Addr} {xs : List V} (e : Same H H') (h : SqT K H a xs) : SqT K H' a xs := by
  rcases h with (h | ⟨o, h⟩) | h
  · exact .inl (.inl (e _ _ h))
  · exact .inl (.inr ⟨o, e _ _ h⟩)
  · exact .inr h
section
variable {X : Cx}
def rNeNil (K : PySem.W.Frag) : R2 := fun x y H Q => ∃ a b xs, x = .ref a ∧ y = .ref b ∧ SqL K H a xs ∧ SqL K H b [] ∧ Q (.bl (!xs.isEmpty)) H
theorem op_neNil (hu : X.A.units + 64 < cLine) : OpR X (compareOp .NotEq) (rNeNil X.K) := by
  intro pins s σ H x y v u Q I rx ry h
  obtain ⟨a, b, xs, rfl, rfl, ha, hb, q⟩ := h
  cases (show v = Value.ref a from rx)
  cases (show u = Value.ref b from ry)
  obtain ⟨i1, r1, l1, _⟩ := I.list ha
  obtain ⟨i2, r2, l2, _⟩ := I.list hb
  cases r2
  have hu' : X.A.units < cLine := by omega
  cases xs with
  | nil =>
    cases r1
    refine SeqAt.RcNeAt.lists (e := fun _ => true) l1.isList l2.isList rfl hu' (fun j h1 _ => absurd h1 (by simp)) _ _ _ _ ?_
    exact ⟨.bl _, H, I, rfl, q⟩
  | cons z zs =>
    cases r1 with
    | cons r t =>
      refine SeqAt.RcNeAt.lists_lengths l1.isList l2.isList (by simp) hu' _ _ _ _ ?_
      exact ⟨.bl _, H, I, rfl, q⟩
end
section
variable {X : Cx}
def tRevG (K : PySem.W.Frag) (te ts : TE) : TE := fun σ H Q => te σ H fun x H1 => ts σ H1 fun y H2 => ∃ i : Int, y = .int i ∧ (some i = some (-1) ∧ ∃ a xs, x = .ref a ∧ SqL K H2 a xs ∧ ∀ p, H2 p = none → Q (.ref p) (upd H2 p (.lst xs.reverse)))
theorem pe_revG {e a b : Expr} {te ts : TE} {op : Operator} {p2 p3 pos : Pos} (he : PE X e te) (hs : PE X (.BinOp a op b p2) ts) : PE X (.Subscript e (.Slice none none (some (.BinOp a op b p2)) p3) pos) (tRevG X.K te ts) := by
  refine ⟨fun pins s σ H Q I h => Subscript_ (thn (he.run pins s σ H _ I h) fun v s1 z => ?_)⟩
  obtain ⟨x, H1, I1, r1, q1⟩ := z
  have hst : PO X (some (.BinOp a op b p2)) (tPart ts) := po_some hs
  refine wpAny_Slice (thn (po_none.run pins s1 σ H1 (fun o H2 => o = none ∧ H2 = H1) I1 ⟨rfl, rfl⟩) fun vl s2 z2 => ?_)
  obtain ⟨l, H2, I2, pl, rfl, rfl⟩ := z2
  refine thn (po_none.run pins s2 σ H2 (fun o H3 => o = none ∧ H3 = H2) I2 ⟨rfl, rfl⟩) fun vu s3 z3 => ?_
  obtain ⟨u, H3, I3, pu, rfl, rfl⟩ := z3
  refine thn (hst.run pins s3 σ H3 (fun o H4 => o = some (-1) ∧ ∃ a xs, x = .ref a ∧ SqL X.K H4 a xs ∧ ∀ p, H4 p = none → Q (.ref p) (upd H4 p (.lst xs.reverse))) I3 q1) fun vs s4 z4 => ?_
  obtain ⟨o, H4, I4, ps, rfl, c, xs, rfl, hx, q⟩ := z4
  cases r1
  have I5 : Inv X pins σ H4 { s4 with heap := s4.heap.push { cls := .type "slice", data := .fields #[vl, vu, vs] } } := I4.kept (t' := s4.toks) fun b ob q => Heap.get?_push_of_some _ q
  obtain ⟨its, r, ht, hz⟩ := I5.list hx
  have hlen := r.length
  refine tail_any (ops := [.ref c, .ref s4.heap.objs.size]) ht.isList.typeIs (PySem.slot_list_getitem.lookup) ?_ (by with_unfolding_all rfl)
  refine wpAny_getItem_list_slice ht.isList (Heap.IsSliceOf.new _ vl vu vs) pl pu ps (by decide) ?_ (by rw [List.size_toArray]; omega)
  rw [PySem.W.krv_pick]
  exact ⟨.ref _, _, I5.laid (t' := s4.toks) (o := .lst xs.reverse) (fun b ob q => Heap.get?_push_of_some _ q) (Nat.le_refl _) ⟨by rw [List.length_reverse]; exact hz, _, 0, r.reverse, Heap.get?_push_size _ rfl⟩, rfl, q _ (I5.hok.fresh (Nat.le_refl _))⟩
end
structure OwnC (K : PySem.W.Frag) (C : Addr) : Prop where
  cl : Cls K C
  ha : PySem.W.findIn K (.ref C) "__class__" = some (some (.builtin "object.__class__"))
  hn : PySem.W.specialIn K (.builtin "object.__class__") "__get__" = some (some (.builtin "getset_descriptor.__get__"))
  htk : PySem.W.takesIn K (.builtin "object.__class__") = some true
  hm : PySem.W.mroIn K C (.type "object") = some true
  ki : PySem.W.kitOne K (.ref C) (.type "int") = some false
  kb : PySem.W.kitOne K (.ref C) (.type "bool") = some false
  ks : PySem.W.kitOne K (.ref C) (.type "str") = some false
  kl : PySem.W.kitOne K (.ref C) (.type "list") = some false
  kt : PySem.W.kitOne K (.ref C) (.type "tuple") = some false
  kc : ((PySem.W.clsIn K C).isSome && PySem.W.typeIn K (.ref C) == some (.type "type")) = true
inductive Kd where
  | non | bl | int | str | lst | tup | own (C : Addr)
def Kd.ty : Kd → Value
  | .non => .type "NoneType"
  | .bl => .type "bool"
  | .int => .type "int"
  | .str => .type "str"
  | .lst => .type "list"
  | .tup => .type "tuple"
  | .own C => .ref C
inductive Any (K : PySem.W.Frag) (H : Hp) : V → Kd → Prop where
  | non : Any K H .non .non
  | bl (b : Bool) : Any K H (.bl b) .bl
  | int (i : Int) : Any K H (.int i) .int
  | str (x : Str) : Any K H (.str x) .str
  | lst {a : Addr} {xs : List V} (h : SqL K H a xs) : Any K H (.ref a) .lst
  | tup {a : Addr} {xs : List V} (h : SqT K H a xs) : Any K H (.ref a) .tup
  | own {a C dx : Addr} {fs : List (Str × V)} (h : H a = some (.ins C dx fs)) (c : OwnC K C) : Any K H (.ref a) (.own C)
section
variable {K : PySem.W.Frag} {H H' : Hp} {v : V} {k : Kd}
theorem ty_list {a : Addr} {xs : List V} (h : SqL K H a xs) : TyX K H (.ref a) (.type "list") := by
  rcases h with (h | ⟨o, h⟩) | ⟨o, _, _, e, c, _⟩
  · exact .base (.lst h)
  · exact .base (.frz h)
  · exact .kList e c
theorem ty_tup {a : Addr} {xs : List V} (h : SqT K H a xs) : TyX K H (.ref a) (.type "tuple") := by
  rcases h with (h | ⟨o, h⟩) | ⟨o, _, _, e, c, _⟩
  · exact .base (.tup h)
  · exact .fTuple h
  · exact .kTuple e c
theorem Any.ty (h : Any K H v k) : TyX K H v k.ty := by
  cases h with
  | non => exact .base .non
  | bl b => exact .base (.bl b)
  | int i => exact .base (.int i)
  | str x => exact .base (.str x)
  | lst h => exact ty_list h
  | tup h => exact ty_tup h
  | own h c => exact .base (.ins h c.cl c.ha c.hn c.htk c.hm)
theorem Any.same (h : Any K H v k) (s : Same H H') : Any K H' v k := by
  cases h with
  | non => exact .non
  | bl b => exact .bl b
  | int i => exact .int i
  | str x => exact .str x
  | lst h => exact .lst (s.seq h)
  | tup h => exact .tup (Same.tup s h)
  | own h c => exact .own (s _ _ h) c
def Kd.isInt : Kd → Bool
  | .int => true
  | .bl => true
  | _ => false
def Kd.isBool : Kd → Bool
  | .bl => true
  | _ => false
def Kd.isStr : Kd → Bool
  | .str => true
  | _ => false
def Kd.isLst : Kd → Bool
  | .lst => true
  | _ => false
def Kd.isTup : Kd → Bool
  | .tup => true
  | _ => false
theorem Any.kInt (h : Any K H v k) : PySem.W.kitOne K k.ty (.type "int") = some k.isInt := by
  cases h with
  | own h c => exact c.ki
  | _ => exact kit_ty (by decide +kernel)
theorem Any.kBool (h : Any K H v k) : PySem.W.kitOne K k.ty (.type "bool") = some k.isBool := by
  cases h with
  | own h c => exact c.kb
  | _ => exact kit_ty (by decide +kernel)
theorem Any.kStr (h : Any K H v k) : PySem.W.kitOne K k.ty (.type "str") = some k.isStr := by
  cases h with
  | own h c => exact c.ks
  | _ => exact kit_ty (by decide +kernel)
theorem Any.kTup (h : Any K H v k) : PySem.W.kitOne K k.ty (.type "tuple") = some k.isTup := by
  cases h with
  | own h c => exact c.kt
  | _ => exact kit_ty (by decide +kernel)
theorem Any.kLst (h : Any K H v k) : PySem.W.kitOne K k.ty (.type "list") = some k.isLst := by
  cases h with
  | own h c => exact c.kl
  | _ => exact kit_ty (by decide +kernel)
theorem Any.kSeq (h : Any K H v k) : PySem.W.kitAny K k.ty [.type "list", .type "tuple"] = some (k.isLst || k.isTup) := by
  refine kitAny_cons h.kLst (fun e => kitAny_cons h.kTup (fun e2 => ?_) fun e2 => ?_) fun e => ?_
  · rw [kitAny_nil, e, e2]; rfl
  · rw [e2, Bool.or_true]
  · rw [e]; rfl
end
section
variable {X : Cx}
theorem d_setBy {pins : List (Addr × Obj)} {σ : L2.St} {H H' : Hp} {s : Shared} {E : Value → Shared → Prop} {D : Addr} {y v : V} {u r : Value} {Q : Unit → Shared → Prop} (hu : X.A.units + 1 < cLine) (I : Inv X pins σ H s) (g : DPut H D y v H')
    (ry : RelV y u) (rv : RelV v r) (h : ∀ s', Inv X pins σ H' s' → Q () s') : wpAny (model X.prog X.w) X.A (dictSet D u r) Q E s := by
  rcases g with ⟨kvs, k, e, rfl, l, rfl⟩ | ⟨kvs, k, b, e, rfl, eb, l, rfl⟩
  · exact d_dictSet I e l ry rv h
  · cases (show u = Value.ref b from ry)
    obtain ⟨z, hd, xs, rel, dd⟩ := dt_of I.hok e
    have hz : xs.length ≤ sizeLine := by rw [← Paired.length rel]; exact z
    have hl : (putK kvs k v).length ≤ sizeLine := by have := length_putK kvs k v; omega
    refine wpAny_dictSet_heap (hsz := hz) (show X.A.units < cLine by omega) (key_of I.hok eb) dd fun h' dd' hs => h _ ?_
    obtain ⟨q, es, ep, hq, h2, h3, h4, _, h5⟩ := dd'
    refine d_write I (by rw [e]; exact True.intro) hs ⟨q, hq⟩ ⟨hl, hd, _, (rel.put k eb rv).keeps fun c ys ec => ?_, q, es, ep, hq, h2, h3, h4, h5⟩
    rw [upd_ne (ne_of ec e (fun z => nomatch z))]
    exact ec
def tDcP (wi : TI) (g : TG) (tt : TT) (tk tv : TE) (vs : List Nat) : TE := fun σ H Q => wi σ H fun J H1 => ∀ D, H1 D = none → ∃ o0 : HO, (o0 = .dK [] ∨ o0 = .dT []) ∧ ∃ W : Nat → Nat → Hp → Prop, (∃ m, W 0 m (upd H1 D o0)) ∧ ∀ i m H, W i m H →
  (J.stop i H ∧ Q (.ref D) H) ∨ (J.go i H ∧ ∃ Nx : Hp → Prop, (∀ H', Nx H' → ∃ m', m' < m ∧ W (i + 1) m' H') ∧ ∀ x H', J.yld i H x H' → g x (wipe σ vs) H' fun σ2 H2 => wipe σ2 vs = wipe σ vs ∧ tt σ2 H2 fun b H3 =>
    if b = true then tk σ2 H3 fun y H4 => tv σ2 H4 fun z H5 => ∃ H6, DPut H5 D y z H6 ∧ Nx H6 else Nx H3)
theorem pe_dcP {kx vx tg iter : Expr} {ifs : List Expr} {scope : Scope} {own : List (Str × Nat)} {pos : Pos} {wi : TI} {g : TG} {tt : TT} {tk tv : TE} (hu : X.A.units + 1 < cLine) (hc : X.calm = true) (hN : X.N.Nodup) (hi : PI X tg iter wi) (ok : BlkOk X.N X.env.scope scope own)
    (hg : ∀ (s : Shared) (H : Hp) (C : Addr) (cl : List (Str × Addr)) (fp : List Addr), PG (X.blk s H scope (compEnvC scope cl C X.env) fp) tg g)
    (ht : ∀ (s : Shared) (H : Hp) (C : Addr) (cl : List (Str × Addr)) (fp : List Addr), PTs (X.blk s H scope (compEnvC scope cl C X.env) fp) ifs tt)
    (hk : ∀ (s : Shared) (H : Hp) (C : Addr) (cl : List (Str × Addr)) (fp : List Addr), PE (X.blk s H scope (compEnvC scope cl C X.env) fp) kx tk)
    (he : ∀ (s : Shared) (H : Hp) (C : Addr) (cl : List (Str × Addr)) (fp : List Addr), PE (X.blk s H scope (compEnvC scope cl C X.env) fp) vx tv) (hs : ∀ x, foldedSetIterable iter X.env x = pure x := by intro _; rfl) :
    PE X (.DictComp kx vx [⟨tg, iter, ifs, 0⟩] scope pos) (tDcP wi g tt tk tv (own.map (·.2))) := by
  refine ⟨fun pins s σ H Q I h => ?_⟩
  rw [arm_eval_DictComp]
  have hfree : ∀ y ∈ scope.names, y.2 = .free → ∃ c, X.env.cells.lookup y.1 = some c := fun y hy e => (ok.free y hy e).elim (fun k => I.ok.has _ (.inl k)) fun k => I.ok.has _ (.inr k)
  refine wpAny_comprehension_free rfl hs (closure_ok hfree) ok.kind (fun y hy e => by rw [ok.uniq y hy, e])
    (thn (hi.run pins s σ H _ I h) fun xv s1 hx => thn hx fun itv s2 h2 => ?_)
  obtain ⟨it, fp, tn, J, H2, rfl, I2, T, st2, f2, q⟩ := h2
  refine wpAny_newObj_type (newEnv_comp ?_)
  generalize hD : s2.heap.objs.size = D
  have hDn : H2 D = none := I2.hok.fresh (Nat.le_of_eq hD)
  obtain ⟨o0, ho0, W, ⟨m0, w0⟩, turn⟩ := q D hDn
  generalize hs3 : ({ s2 with heap := s2.heap.push { cls := .type "dict", data := .dict #[] } } : Shared) = s3
  have I3 : Inv X pins σ (upd H2 D o0) s3 := by
    rw [← hs3]
    refine I2.laid (t' := s2.toks) (fun b o e => Heap.get?_push_of_some _ e) (Nat.le_of_eq hD) ?_
    rw [← hD]
    rcases ho0 with rfl | rfl
    · exact dk_empty s2.heap I2.big
    · exact dt_empty s2.heap I2.big
  have h3 : s3.heap = s2.heap.push { cls := .type "dict", data := .dict #[] } := by rw [← hs3]
  have f3 : ∀ b ∈ fp, FpOk X pins (upd H2 D o0) b ∧ b < s3.heap.objs.size := fun b hb => by
    obtain ⟨o, e, _⟩ := T.obj _ _ st2 b hb
    have hlt := Heap.lt_size e
    refine ⟨⟨?_, (f2 b hb).2⟩, by rw [h3, Heap.size_push]; exact Nat.lt_succ_of_lt hlt⟩
    rw [upd_ne (by rw [← hD]; exact Nat.ne_of_lt hlt)]
    exact (f2 b hb).1
  have st3 : tn 0 s3.heap := T.keep _ _ _ st2 fun b _ o e => by rw [h3]; exact Heap.get?_push_of_some _ e
  have I4 := block_start I3 ok hN f3
  generalize hcc : (cellsFrom (s3.heap.objs.size + 1) scope.names (cloFrom X.env.cells scope.names [])) = cc at I4
  have pg := hg s3 (upd H2 D o0) s3.heap.objs.size cc fp
  have pt := ht s3 (upd H2 D o0) s3.heap.objs.size cc fp
  have pk := hk s3 (upd H2 D o0) s3.heap.objs.size cc fp
  have pe := he s3 (upd H2 D o0) s3.heap.objs.size cc fp
  have nfp : ∀ b ∈ fp, (upd H2 D o0) b = none := fun b hb => (f3 b hb).1.1
  generalize hce : compEnvC scope cc s3.heap.objs.size X.env = ce at I4 pg pt pk pe ⊢
  have cL : ce.locals = s3.heap.objs.size := by subst hce; rfl
  generalize hH3 : upd H2 D o0 = H3 at I3 I4 pg pt pk pe w0 nfp f3
  generalize hs4 : ({ s3 with heap := pushCells (s3.heap.push { cls := .type "dict", data := .dict #[] }) scope.names } : Shared) = s4 at I4
  have st4 : tn 0 s4.heap := T.keep _ _ _ st3 fun b _ o e => by rw [← hs4]; exact pushCells_keeps _ _ _ _ (Heap.get?_push_of_some _ e)
  have stat : ∀ {σ' : L2.St} {H' : Hp} {s' : Shared}, Inv (X.blk s3 H3 scope ce fp) [] σ' H' s' → (∀ b ∈ fp, H' b = none) → ∀ b ∈ fp, FpOk (X.blk s3 H3 scope ce fp) [] H' b := fun {σ' H' s'} I' hn b hb =>
    ⟨hn b hb, (I'.ok.exf b hb).1, I'.ok.exfs b hb, .inl hb, fun x c e => (I'.ok.exf b hb).2 x c e, fun p hp => absurd (show p ∈ ([] : List (Addr × Obj)) ++ [] from hp) (by simp)⟩
  have RR : ∀ s' m H', Inv X pins σ H' s' → Q (.ref D) H' → s'.heap.Ns s3.heap.objs.size m → FpOk X pins H' s3.heap.objs.size → compPost (model X.prog X.w) X.A X.xe none (EP X pins σ Q) (.ref D) s3.heap.objs.size (.ok .next) s' :=
    fun s' m H' I' q hn ⟨f0, f1, f2, f3, f4, f5⟩ => ⟨m, hn, fun h'' sb => ⟨.ref D, H', I'.turned (t' := s'.toks) (fun b o hb e => (sb.2 b hb).trans e) f0 f1 f3 f4 f5, rfl, q⟩⟩
  have loop : codeAny (model X.prog X.w) X.A (.compLoop (.DictComp kx vx [⟨tg, iter, ifs, 0⟩] scope pos) 0 (.ref it) (.ref D) ce) (compPost (model X.prog X.w) X.A X.xe none (EP X pins σ Q) (.ref D) s3.heap.objs.size) s4 := by
    refine compLoop_anyD (fun n s' => ∃ i H', Inv (X.blk s3 H3 scope ce fp) [] (wipe σ (own.map (·.2))) H' s' ∧ tn i s'.heap ∧ (∀ b ∈ fp, H' b = none) ∧ W i n H') ?_ m0 ⟨0, H3, I4, st4, nfp, w0⟩
    rintro n s5 ⟨i, H5, I5, st5, n5, w5⟩
    rcases turn i n H5 w5 with ⟨stop, qq⟩ | ⟨go, Nx, hNx, step⟩
    · refine thnF (T.done (X.blk s3 H3 scope ce fp) rfl rfl rfl hc i [] s5 _ H5 (fun _ _ => False) I5 (stat I5 n5) st5 stop) fun r s6 ⟨hr, I6⟩ => ?_
      subst hr
      have I7 : Inv X pins σ H5 s6 := I3.call' (ch := fp) I6.os I6.base I6.hok I6.bare fun b hb => ⟨(f3 b hb).1.2.2.2.1, (f3 b hb).1.2.1, (f3 b hb).1.2.2.2.2.1, (f3 b hb).1.2.2.2.2.2⟩
      have nC : H5 s3.heap.objs.size = none := by
        rw [← cL]
        exact I6.free
      obtain ⟨m, hn, _⟩ := I6.loc
      have hn : s6.heap.Ns ce.locals m := hn
      rw [cL] at hn
      exact RR s6 m H5 I7 qq hn (I3.fpOk (Nat.le_refl _) nC)
    · refine thnF (T.item (X.blk s3 H3 scope ce fp) rfl rfl rfl hc i [] s5 _ H5 (fun _ _ => False) I5 (stat I5 n5) st5 go) fun r s6 ⟨u, hr, h6⟩ => ?_
      subst hr
      refine thnF h6 fun _ s7 ⟨x, H7, I7, r7, y7, st7, n7⟩ => ?_
      refine thnF (pg.run _ s7 _ H7 x u _ (I7.pinned (stat I7 n7) (T.obj _ _ st7)) r7 (step x H7 y7)) fun _ s8 ⟨σ8, H8, I8, hw8, q8⟩ => ?_
      refine thnF (pt.run _ s8 σ8 H8 _ I8 q8) fun b s9 ⟨H9, I9, q9⟩ => ?_
      have fin : ∀ {s' : Shared} {H' : Hp}, Inv (X.blk s3 H3 scope ce fp) ([] ++ pinsAt fp s7.heap) σ8 H' s' → Nx H' → ∃ m, m < n ∧ ∃ i H', Inv (X.blk s3 H3 scope ce fp) [] (wipe σ (own.map (·.2))) H' s' ∧ tn i s'.heap ∧ (∀ b ∈ fp, H' b = none) ∧ W i m H' := fun {s' H'} I' nx => by
        obtain ⟨m', hm, w'⟩ := hNx H' nx
        have pin' : ∀ b ∈ fp, ∀ o, s7.heap.get? b = some o → s'.heap.get? b = some o ∧ H' b = none := fun b hb o e =>
          let z := I'.pin (b, o) (List.mem_append_right _ (List.mem_append_right _ (mem_pinsAt hb e)))
          ⟨z.1, z.2.1⟩
        refine ⟨m', hm, i + 1, H', (I'.unpinned (pins := [])).weak (by rw [← hw8, wipe_length]) (fun j v e => ?_), T.keep _ _ _ st7 fun b hb o e => (pin' b hb o e).1, fun b hb => ?_, w'⟩
        · rw [← hw8] at e
          exact (wipe_some e).1
        · obtain ⟨o, e, _⟩ := T.obj _ _ st7 b hb
          exact (pin' b hb o e).2
      cases b with
      | false => exact fin I9 q9
      | true =>
        refine thnF (pk.run _ s9 σ8 H9 _ I9 q9) fun z s10 ⟨yk, H10, I10, r10, q10⟩ => ?_
        refine thnF (pe.run _ s10 σ8 H10 _ I10 q10) fun z2 s11 ⟨yv, H11, I11, r11, H12, put, nx⟩ => ?_
        exact d_setBy (X := X.blk s3 H3 scope ce fp) hu I11 put r10 r11 fun s12 I12 => fin I12 nx
  have res := codeAny_compStart_dict loop (T.self X.A 0 _ _ _ st4 loop)
  rw [← hce] at res
  exact res
end
section
variable {X : Cx} {C g : Addr} {CX : CXT} {n : Nat} {fd : FuncData} {ps : List Str} {sp : Sp} {E : XK} {pins : List (Addr × Obj)} {σ : L2.St} {H : Hp} {s : Shared} {Q : VK}
theorem run_fnA {A : Around} {us : List Value} {vs : List V} (F : FnOkG X.prog X.w X.K X.mg X.base CX n g fd ps sp) (hr : RoomG n A) (e0 : Env0 X.prog X.w X.K X.mg X.base A X.stack s H) (hb : Binds X.K fd ps []) (hx : Passes CX X E)
    (I : Inv X pins σ H s) (r : Vals vs us) (h : sp vs H Q E) : wpAny (model X.prog X.w) A (call (.ref g) us) (EP X pins σ Q) X.xe s := by
  have hl : (us ++ []).length = ps.length := by rw [List.append_nil, ← r.length]; exact F.len _ _ _ _ h
  refine wpAny_call (codeAny_mono (F.run A X.stack s H ⟨us, []⟩ (us ++ []) vs Q E hr e0 (hb s us I.kIn hl) (by rw [List.append_nil]; exact r) h) fun r s' hq => ?_)
  cases r with
  | error e => exact hx pins σ H s e s' I hq
  | ok fl =>
    cases fl with
    | ret u => exact I.after hq
    | next => exact False.elim hq
    | brk => exact False.elim hq
    | cont => exact False.elim hq
def rStrOwn (C : Addr) (sp : Sp) (E : XK) : List V → Hp → VK → Prop := fun xs H Q => ∃ a dx fs, xs = [V.ref a] ∧ H a = some (.ins C dx fs) ∧ sp [.ref a] H (fun z H' => ∃ t, z = .str t ∧ Q z H') E
theorem call_strOwn (hs : PySem.W.findIn X.K (.ref C) "__str__" = some (some (.ref g))) (hf : PySem.W.isFn X.K (.ref g) = true) (F : FnOkG X.prog X.w X.K X.mg X.base CX n g fd ps sp) (hb : Binds X.K fd ps []) (hr : RoomG (n + 2) X.A) (hx : Passes CX X E) :
    CallR X (.type "str") (rStrOwn C sp E) := by
  intro pins s σ H xs us Q I r h
  obtain ⟨a, dx, fs, rfl, ha, q⟩ := h
  obtain ⟨u, rfl, ru⟩ := vals1 r
  cases (show u = Value.ref a from ru)
  obtain ⟨mA, O, _⟩ := ins_get I.hok ha
  obtain ⟨od, J, _⟩ := O.look
  have hr2 : RoomG n X.A.in1.in1 := (show RoomG (n + 1) X.A.in1 from RoomG.in1 hr).in1
  refine PySem.W.kso_call hr2.units0 I.kIn J hs hf (wpAny_mono (run_fnA (us := [.ref a]) (vs := [.ref a]) F hr2 I.env0.in1.in1 hb hx I (.cons rfl .nil) q) (fun w s' z => ?_) fun _ _ x => x)
  obtain ⟨z', H', I', rz, t, rfl, qz⟩ := z
  obtain ⟨tk, e⟩ := (show ∃ tk, w = Value.str t tk from rz)
  cases e
  exact ⟨.str t, H', I', ⟨tk, rfl⟩, qz⟩
theorem any_type {k : Kd} {v : V} {u : Value} (I : Inv X pins σ H s) (h : Any X.K H v k) (r : RelV v u) : PySem.W.Looks (model X.prog X.w) s.heap (typeOf u) k.ty := by
  obtain ⟨P, Z, p, _⟩ := kit_of I r h.ty
  exact Z.ty _ _ I.kIn p
end
section
variable {prog : Program} {w : World} {M : Model} {A : Around} {E : Value → Shared → Prop} {s : Shared} {K : PySem.W.Frag} {x C f L : Addr} {h₀ : Heap} {m : Str → Option Value} {ox : Obj} {od : Option Obj} {b tb : Value}
theorem ifBound_B {name : Str} {id : String} {args : List Value} {Q : Option Value → Shared → Prop} (X : K.In s.heap) (I : PySem.W.InstAt s.heap x ox C od) (hs : PySem.W.findIn K (.ref C) name = some (some (.builtin id)))
    (hb : ∀ self, bindSpecial (.builtin id) self = pure (.builtin id, [self])) (h : wpAny M A (call (.builtin id) (.ref x :: args)) (fun v => Q (some v)) E s) : wpAny M A (callSpecialIfBound? (.ref x) name args) Q E s := by
  simp only [callSpecialIfBound?, bindSpecialIfBound?]
  refine wpAny_holding (wpAny_bind (wpAny_bind (wpAny_bind (I.type.here ((PySem.W.looks_findIn X hs).here ?_)))))
  refine wpAny_bind (wpAny_askSetting (wpAny_ite ?_))
  have fin : wpAny M A (call (.builtin id) ([.ref x] ++ args) >>= fun v => pure (some v)) Q E s := wpAny_bind (wpAny_mono h (fun v s' h' => wpAny_pure h') fun _ _ h' => h')
  split
  · exact wpAny_bind ((PySem.W.Looks.of_pure (hb _)).here (wpAny_pure (by exact fin)))
  · exact wpAny_tryCatch (wpAny_bind ((PySem.W.Looks.of_pure (hb _)).here (wpAny_pure (by exact fin))))
open Builtin in
theorem objNe_call {Q : Value → Shared → Prop} (hu : A.in1.units < cLine) (X : K.In s.heap) (I : PySem.W.InstAt s.heap x ox C od) (hm : PySem.W.mroIn K C (.type "object") = some true) (hs : PySem.W.findIn K (.ref C) "__eq__" = some (some (.ref f))) (hf : PySem.W.isFn K (.ref f) = true)
    (h : wpAny (model prog w) A.in1 (call (.ref f) [.ref x, b]) (fun v s' => ∃ k, v = .bool k ∧ Q (.bool (!k)) s') E s) : wpAny (model prog w) A (call (.builtin "object.__ne__") [.ref x, b]) Q E s := by
  refine wpAny_call (codeAny_call_builtin (by decide +kernel) F.cmpEntry_ne (PySem.W.check_slot (i := "object.__ne__") (owner := "object") (n := "__ne__") (by decide +kernel) (by decide +kernel) (I.type.andThen (PySem.W.looks_mroIn X hm)) (F.cmpArgs_ne _ _) ?_))
  unfold Builtin.«object.__ne__»
  refine wpAny_bind (m := slotArgs "__ne__" 1 _) (wpAny_pure ?_)
  refine wpAny_bind (m := cRoomFor _ _) (wpAny_cRoomFor hu ?_)
  refine wpAny_bind (m := callSpecialIfBound? (.ref x) (Str.ofString "__eq__") _) (PySem.W.ifBound_K X I hs hf (wpAny_mono h (fun r s' hq => ?_) fun _ _ y => y))
  obtain ⟨k, rfl, q⟩ := hq
  exact wpAny_bind (wpAny_truthy_bool (wpAny_pure q))
theorem ne_K {Q : Value → Shared → Prop} (hu : A.units + 1 < cLine) (X : K.In s.heap) (I : PySem.W.InstAt s.heap x ox C od) (hm : PySem.W.mroIn K C (.type "object") = some true) (hb : PySem.W.Looks (model prog w) s.heap (typeOf b) tb) (hn : PySem.W.notFirst K C tb = true)
    (hne : PySem.W.findIn K (.ref C) "__ne__" = some (some (.builtin "object.__ne__"))) (hs : PySem.W.findIn K (.ref C) "__eq__" = some (some (.ref f))) (hf : PySem.W.isFn K (.ref f) = true)
    (h : wpAny (model prog w) A.in1 (call (.ref f) [.ref x, b]) (fun v s' => ∃ k, v = .bool k ∧ Q (.bool (!k)) s') E s) : wpAny (model prog w) A (richCompare .NotEq (.ref x) b) Q E s := by
  have hu1 : A.in1.units < cLine := hu
  have one : wpAny (model prog w) A (tryCompare (.ref x) (cmpInfo .NotEq).2.1 b) (fun r s' => ∃ v, r = some v ∧ Q v s') E s := by
    unfold tryCompare
    refine wpAny_bind (ifBound_B X I hne (fun self => by kernel_rfl) (objNe_call hu1 X I hm hs hf (wpAny_mono h (fun v s' hv => ?_) fun _ _ e => e)))
    obtain ⟨k, rfl, q⟩ := hv
    exact ⟨k, rfl, wpAny_pure ⟨_, rfl, q⟩⟩
  unfold richCompare
  simp only [oneThing_ref]
  refine wpAny_holding (wpAny_bind (wpAny_cRoomFor (by omega) ?_))
  refine wpAny_bind (I.type.here (wpAny_bind (hb.here ?_)))
  split
  · rename_i q
    have e : PySem.W.subIn K tb (.ref C) = some false := by
      rcases Bool.or_eq_true_iff.mp hn with e | e
      · rw [beq_iff_eq.mp e] at q; simp at q
      · exact beq_iff_eq.mp e
    refine wpAny_bind ((PySem.W.looks_subIn X e).here ?_)
    simp only [Bool.false_eq_true, if_false]
    refine wpAny_bind (wpAny_mono one (fun r s' z => ?_) fun _ _ e => e)
    obtain ⟨v, rfl, hq⟩ := z
    exact wpAny_pure hq
  · refine wpAny_bind (wpAny_pure ?_)
    simp only [Bool.false_eq_true, if_false]
    refine wpAny_bind (wpAny_mono one (fun r s' z => ?_) fun _ _ e => e)
    obtain ⟨v, rfl, hq⟩ := z
    exact wpAny_pure hq
end
section
variable {X : Cx} {C g : Addr} {CX : CXT} {n : Nat} {fd : FuncData} {ps : List Str} {sp : Sp} {E : XK}
def rNeOwn (K : PySem.W.Frag) (C : Addr) (sp : Sp) (E : XK) : R2 := fun x y H Q => ∃ a dx fs k, x = .ref a ∧ H a = some (.ins C dx fs) ∧ Any K H y k ∧ PySem.W.notFirst K C k.ty = true ∧ sp [x, y] H (fun z H' => ∃ b, z = .bl b ∧ Q (.bl (!b)) H') E
theorem op_neOwn (hm : PySem.W.mroIn X.K C (.type "object") = some true) (hne : PySem.W.findIn X.K (.ref C) "__ne__" = some (some (.builtin "object.__ne__"))) (hs : PySem.W.findIn X.K (.ref C) "__eq__" = some (some (.ref g))) (hf : PySem.W.isFn X.K (.ref g) = true)
    (F : FnOkG X.prog X.w X.K X.mg X.base CX n g fd ps sp) (hb : Binds X.K fd ps []) (hr : RoomG (n + 1) X.A) (hx : Passes CX X E) : OpR X (compareOp .NotEq) (rNeOwn X.K C sp E) := by
  intro pins s σ H x y v u Q I rx ry h
  obtain ⟨a, dx, fs, k, rfl, ha, hy, hn, q⟩ := h
  cases (show v = Value.ref a from rx)
  obtain ⟨mA, O, _⟩ := ins_get I.hok ha
  obtain ⟨od, J, _⟩ := O.look
  have hu : X.A.units + 1 < cLine := hu_of hr.toRoom
  refine ne_K hu I.kIn J hm (any_type I hy ry) hn hne hs hf ?_
  refine wpAny_mono (run_fnA (us := [.ref a, u]) (vs := [.ref a, y]) F hr.in1 I.env0.in1 hb hx I (.cons rfl (.cons ry .nil)) q) (fun w s' z => ?_) fun _ _ x => x
  obtain ⟨z', H', I', rz, b, rfl, qz⟩ := z
  cases (show w = Value.bool b from rz)
  exact ⟨b, rfl, .bl (!b), H', I', rfl, qz⟩
end
section
open PySem.W
variable {prog : Program} {w : World} {A : Around} {E : Value → Shared → Prop} {s : Shared}
theorem collect_tup {l : Addr} {vs : List Value} {Q : List Value → Shared → Prop} (hl : s.heap.IsTuple l vs.toArray)
    (h : Q vs { s with heap := (s.heap.push (seqObj "list" #[] 0)).update s.heap.objs.size (Obj.mapSeq (· ++ vs.toArray)) }) (hsz : vs.length ≤ sizeLine) :
    wpAny (model prog w) A (collect (.ref l)) Q E s := by
  obtain ⟨o, ho, hc, n, hd⟩ := id hl
  unfold collect
  refine wpAny_bind (wpAny_runValue (codeAny_builtin entry_proto_collect' ?_))
  show wpAny _ _ (do again (.builtin "list.__iadd__" ⟨[← newList [], .ref l], []⟩)) _ _ s
  refine wpAny_bind (wpAny_newList (wpAny_pure ⟨Code.quiet_builtin _ (by decide +kernel), codeAny_builtin entry_list_iadd' ?_⟩))
  show wpAny _ _ (Builtin.List.listExtendWith (.ref s.heap.objs.size) (.ref l) (.ref s.heap.objs.size)) _ _ { s with heap := s.heap.push (seqObj "list" #[] 0) }
  unfold Builtin.List.listExtendWith
  have ho' : (s.heap.push (seqObj "list" #[] 0)).get? l = some o := Heap.get?_push_of_some _ ho
  refine wpAny_bind (wpAny_typeOf (T := "tuple") ⟨o, ho', hc⟩ ?_)
  have ht : (Value.type "tuple" == Value.type "tuple") = true := by rfl
  rw [if_pos (by rw [ht]; simp)]
  refine wpAny_bind (listItems_at ho' hd ?_)
  refine wpAny_bind (listItems_at (xs := #[]) (n := 0) (Heap.get?_push_size _ rfl) rfl ?_)
  rw [if_neg (by simp)]
  refine wpAny_bind (listUpdate_at (xs := #[]) (n := 0) (Heap.get?_push_size _ rfl) rfl ?_ (Nat.zero_le _) (by show (#[] ++ vs.toArray).size ≤ sizeLine + 1; simp only [Array.size_append, List.size_toArray, List.length_nil]; omega))
  refine wpAny_pure ?_
  show wpAny (model prog w) A (do
      let o ← load s.heap.objs.size
      match o.data with
      | .seq xs _ => pure xs.toList
      | _ => unsupported "internal:collect") Q E { s with heap := (s.heap.push (seqObj "list" #[] 0)).update s.heap.objs.size (Obj.mapSeq (· ++ vs.toArray)) }
  refine wpAny_bind (wpAny_load (get?_update_seq (Heap.get?_push_size _ rfl) _) ?_)
  show wpAny _ _ (pure ((#[] : Array Value) ++ vs.toArray).toList) Q E _
  rw [show ((#[] : Array Value) ++ vs.toArray).toList = vs by simp]
  exact wpAny_pure h
theorem sorted_of_sortT {l : Addr} {vs : List Value} {Q : Value → Shared → Prop} (hl : s.heap.IsTuple l vs.toArray) (hL : vs.length ≤ sizeLine)
    (body : ∀ E' : Value → Shared → Prop, wpAny (model prog w) A.in1.in1 (Builtin.«list.sort» ⟨[.ref (s.heap.objs.size + 1)], []⟩) (fun f s' => f = .done (.ret .none) ∧ Q (.ref (s.heap.objs.size + 1)) s') E' { s with heap := copyHeap s.heap vs }) :
    wpAny (model prog w) A (call (.builtin "sorted") [.ref l] []) Q E s := by
  refine call_function_entry_kw kind_sorted plain_sorted entry_sorted (args_sorted1 _) ?_
  unfold Builtin.«sorted»
  refine wpAny_bind (m := checkCount "sorted" 1 1 _) (wpAny_pure ?_)
  refine wpAny_bind (collect_tup hl ?_ hL)
  refine wpAny_bind (wpAny_newList ?_ hL)
  have hsz : ((s.heap.push (seqObj "list" #[] 0)).update s.heap.objs.size (Obj.mapSeq (· ++ vs.toArray))).objs.size = s.heap.objs.size + 1 := by
    rw [Heap.size_update, size_push']
  show wpAny _ _ _ _ _ { s with heap := copyHeap s.heap vs }
  rw [hsz]
  refine wpAny_bind (wpAny_holding (wpAny_call_entry_kw slot_list_sort ⟨_, copyHeap_at s.heap vs, rfl⟩ entry_list_sort ?body (args_list_sort _)))
  case body =>
    refine wpAny_mono (body _) (fun f s' hf => ?_) fun _ _ e => e
    obtain ⟨rfl, hq⟩ := hf
    exact ⟨_, rfl, wpAny_pure ⟨_, rfl, hq⟩⟩
theorem sorted_dataT {β : Type} {R : Value → β → Prop} {enc : β → PyData} {bs : List β} {l : Addr} {vs : List Value} {Q : Value → Shared → Prop} (hl : s.heap.IsTuple l vs.toArray) (e : EachIs R vs bs) (er : EachIs (fun v b => ∃ as, Reads s.heap v (enc b) as) vs bs) (hal : AllAlike (bs.map enc)) (hk : Sortable (bs.map enc)) (hL : bs.length ≤ sizeLine)
    (hu : ∀ b, b ∈ bs → A.units + 2 + (enc b).depth < cLine) (h : ∀ out, out.length = bs.length → EachIs R out (bs.mergeSort (dataLe false enc)) → Q (.ref (s.heap.objs.size + 1)) { s with heap := sortedAll s.heap vs (List.toArray out) }) :
    wpAny (model prog w) A (call (.builtin "sorted") [.ref l]) Q E s := by
  have er' : EachIs (fun v b => ∃ as, Reads (sortingHeap (copyHeap s.heap vs) (s.heap.objs.size + 1) vs) v (enc b) as) vs bs := er.mono fun _ _ ⟨as, r⟩ => ⟨as, PyProof.Rows.Reads.keeps (fun _ _ => sorting_copy_old) r⟩
  refine sorted_of_sortT hl (by rw [e.length]; exact hL) fun _ => list_sort_vals (s := { s with heap := copyHeap s.heap vs }) (copyHeap_at s.heap vs)
    (SortsAt.data (s := { s with heap := sortingHeap (copyHeap s.heap vs) (s.heap.objs.size + 1) vs }) (each_map (R := fun v d => ∃ as, Reads (sortingHeap (copyHeap s.heap vs) (s.heap.objs.size + 1) vs) v d as) enc er') hal hk (bound_map hu)) (by rw [e.length]; exact hL) ⟨rfl, ?_⟩
  exact h _ (by rw [sortVals_length false rfl]; exact e.length) (sortVals_data false e er' hal)
end
section
open PySem.W
variable {X : Cx}
theorem each_of_vals {β : Type} {val : β → V} : ∀ {bs : List β} {us : List Value}, Vals (bs.map val) us → EachIs (fun v b => RelV (val b) v) us bs
  | [], _, .nil => .nil
  | b :: bs, _, .cons r t => .cons r (each_of_vals t)
theorem vals_of_each {β : Type} {val : β → V} : ∀ {bs : List β} {us : List Value}, EachIs (fun v b => RelV (val b) v) us bs → Vals (bs.map val) us
  | [], _, .nil => .nil
  | b :: bs, _, .cons r t => .cons r (vals_of_each t)
def rSortedD (K : PySem.W.Frag) : List V → Hp → VK → Prop := fun vs H Q => ∃ (β : Type) (a : Addr) (bs : List β) (val : β → V) (enc : β → PyData), vs = [V.ref a] ∧ (SqL K H a (bs.map val) ∨ SqT K H a (bs.map val)) ∧ (∀ b ∈ bs, Dp K H (val b) (enc b)) ∧
  AllAlike (bs.map enc) ∧ Sortable (bs.map enc) ∧ (∀ b ∈ bs, (enc b).depth ≤ 40) ∧ ∀ p, H p = none → Q (.ref p) (upd H p (.lst ((bs.mergeSort (dataLe false enc)).map val)))
theorem each_reads {β : Type} {val : β → V} {enc : β → PyData} {pins : List (Addr × Obj)} {σ : L2.St} {H : Hp} {s : Shared} (I : Inv X pins σ H s) : ∀ {bs : List β} {us : List Value}, (∀ b ∈ bs, Dp X.K H (val b) (enc b)) → Vals (bs.map val) us → EachIs (fun v b => ∃ as, Reads s.heap v (enc b) as) us bs
  | [], _, _, .nil => .nil
  | b :: bs, _, h, .cons r t => .cons (Dp.reads I _ _ _ (h b (List.mem_cons_self ..)) r) (each_reads I (fun c hc => h c (List.mem_cons_of_mem _ hc)) t)
theorem cr_sortedD (hu : X.A.units + 64 < cLine) : CallR X (.builtin "sorted") (rSortedD X.K) := by
  intro pins s σ H vs us Q I r h
  obtain ⟨β, a, bs, val, enc, rfl, hs, hd, hal, hk, hdp, q⟩ := h
  obtain ⟨u, rfl, ru⟩ := vals1 r
  cases (show u = Value.ref a from ru)
  have hu2 : ∀ b, b ∈ bs → X.A.units + 2 + (enc b).depth < cLine := fun b hb => by have := hdp b hb; omega
  have fin : ∀ {its : List Value}, (bs.map val).length ≤ sizeLine → ∀ out : List Value, out.length = bs.length → EachIs (fun v b => RelV (val b) v) out (bs.mergeSort (dataLe false enc)) → EP X pins σ Q (.ref (s.heap.objs.size + 1)) { s with heap := sortedAll s.heap its (List.toArray out) } := fun {its} hz out ho e => by
    obtain ⟨ep, he'⟩ := PyProof.Rows.sortedAll_at s.heap its (List.toArray out)
    refine ⟨.ref _, upd H (s.heap.objs.size + 1) (.lst ((bs.mergeSort (dataLe false enc)).map val)), I.laid (t' := s.toks) (fun _ _ => PyProof.Rows.sortedAll_old) (Nat.le_succ _) ⟨?_, out, ep, vals_of_each e, he'⟩, rfl, q _ (I.hok.fresh (Nat.le_succ _))⟩
    rw [List.length_map, List.length_mergeSort]
    rwa [List.length_map] at hz
  rcases hs with hs | hs
  · obtain ⟨its, rv, hl, hz⟩ := I.list hs
    exact sorted_data hl.isList (each_of_vals rv) (each_reads I hd rv) hal hk (by rwa [List.length_map] at hz) hu2 (fin hz)
  · obtain ⟨its, rv, hl, hz⟩ := I.tuple hs
    exact sorted_dataT hl (each_of_vals rv) (each_reads I hd rv) hal hk (by rwa [List.length_map] at hz) hu2 (fin hz)
end
theorem sub_bltn {K : PySem.W.Frag} {C : Addr} : ∀ T ∈ (["NoneType", "bool", "int", "str", "list", "tuple"] : List String), PySem.W.subIn K (.type T) (.ref C) = some false := by
  intro T hT
  simp only [List.mem_cons, List.not_mem_nil, or_false] at hT
  rcases hT with rfl | rfl | rfl | rfl | rfl | rfl <;> rfl
def Kd.plain : Kd → Bool
  | .own _ => false
  | _ => true
theorem Kd.sub {K : PySem.W.Frag} {C : Addr} {k : Kd} (h : k.plain = true) : PySem.W.subIn K k.ty (.ref C) = some false := by
  cases k with
  | own c => cases h
  | _ => exact sub_bltn _ (by decide)
theorem Kd.notFirst {K : PySem.W.Frag} {C : Addr} {k : Kd} (h : k.plain = true) : PySem.W.notFirst K C k.ty = true := by
  unfold PySem.W.notFirst
  rw [Kd.sub h]
  simp
theorem notFirst_self {K : PySem.W.Frag} {C : Addr} : PySem.W.notFirst K C (.ref C) = true := by
  unfold PySem.W.notFirst
  simp
theorem kit_self {K : PySem.W.Frag} {C : Addr} : PySem.W.kitOne K (.ref C) (.ref C) = some true := by
  unfold PySem.W.kitOne
  simp
theorem Kd.kitOwn {K : PySem.W.Frag} {C : Addr} {k : Kd} (o : OwnC K C) (h : k.plain = true) : PySem.W.kitOne K k.ty (.ref C) = some false := by
  have e : (k.ty == Value.ref C) = false := by
    cases k with
    | own c => cases h
    | _ => rfl
  unfold PySem.W.kitOne PySem.W.kitCls
  rw [e]
  dsimp only
  rw [if_neg (by decide), if_pos o.kc, Kd.sub h]
theorem kit_mro {K : PySem.W.Frag} {C : Addr} {T : String} (m : PySem.W.kitMeta T = true) (h : PySem.W.mroIn K C (.type T) = some false) : PySem.W.kitOne K (.ref C) (.type T) = some false := by
  unfold PySem.W.kitOne PySem.W.kitCls PySem.W.subIn
  dsimp only
  rw [if_neg (by intro z; cases z), if_pos m, h]
theorem own_mk {K : PySem.W.Frag} {C : Addr} (cl : Cls K C) (ha : PySem.W.findIn K (.ref C) "__class__" = some (some (.builtin "object.__class__"))) (hn : PySem.W.specialIn K (.builtin "object.__class__") "__get__" = some (some (.builtin "getset_descriptor.__get__")))
    (ht : PySem.W.takesIn K (.builtin "object.__class__") = some true) (hm : PySem.W.mroIn K C (.type "object") = some true) (mi : PySem.W.mroIn K C (.type "int") = some false) (mb : PySem.W.mroIn K C (.type "bool") = some false) (ms : PySem.W.mroIn K C (.type "str") = some false)
    (ml : PySem.W.mroIn K C (.type "list") = some false) (mt : PySem.W.mroIn K C (.type "tuple") = some false) (ic : PySem.W.isClsIn K C = true) (ty : PySem.W.typeIn K (.ref C) = some (.type "type")) : OwnC K C :=
  ⟨cl, ha, hn, ht, hm, kit_mro (by decide +kernel) mi, kit_mro (by decide +kernel) mb, kit_mro (by decide +kernel) ms, kit_mro (by decide +kernel) ml, kit_mro (by decide +kernel) mt, by
    rw [Bool.and_eq_true_iff]
    refine ⟨ic, ?_⟩
    rw [ty]
    rfl⟩
end Pw
namespace Pu
open PySem L2 PySem.Spec PyProof.Rows Pw
inductive D where
  | non
  | bl (b : Bool)
  | int (i : Int)
  | str (x : Str)
  | lst (xs : List D)
  | tup (xs : List D)
  | ktp (xs : List D)
  | dct (kvs : List (D × D))
  | dtt (kvs : List (D × D))
  | obj (c : String) (fs : List (Str × D))
  | cls (c : String)
  | klt (ns : List Int)
abbrev Env := List (Option D)
structure Exn where
  c : String
  fs : List (Str × D)
inductive R (α : Type) where
  | ok (a : α) (ρ : Env)
  | ex (x : Exn) (ρ : Env)
  | bad
inductive RS where
  | nx (ρ : Env)
  | rt (d : D) (ρ : Env)
  | bk (ρ : Env)
  | ct (ρ : Env)
  | ex (x : Exn) (ρ : Env)
  | bad
def R.bind {α β : Type} (r : R α) (f : α → Env → R β) : R β := match r with
  | .ok a ρ => f a ρ
  | .ex x ρ => .ex x ρ
  | .bad => .bad
def R.bindS {α : Type} (r : R α) (f : α → Env → RS) : RS := match r with
  | .ok a ρ => f a ρ
  | .ex x ρ => .ex x ρ
  | .bad => .bad
def RS.bind (r : RS) (f : Env → RS) : RS := match r with
  | .nx ρ => f ρ
  | r => r
def R.of {α : Type} (o : Option α) (ρ : Env) : R α := match o with
  | some a => .ok a ρ
  | none => .bad
structure Gx (K : PySem.W.Frag) where
  ca : String → Option Addr
  oc : ∀ {c : String} {a : Addr}, ca c = some a → OwnC K a
  tb : List (Addr × Str) := []
  di : ∀ {c c' : String} {a b : Addr}, ca c = some a → ca c' = some b → c ≠ c' → PySem.W.kitOne K (.ref a) (.ref b) = some false
def D.key : D → Option Key
  | .int i => some (.inl i)
  | .str x => some (.inr x)
  | _ => none
def D.keys : List D → Option (List Key)
  | [] => some []
  | d :: ds => match d.key, D.keys ds with
    | some k, some ks => some (k :: ks)
    | _, _ => none
def D.tkey : D → Option (List Key)
  | .tup ds => D.keys ds
  | _ => none
def KTup (K : PySem.W.Frag) (a : Addr) (xs : List V) : Prop := ∃ (o : Obj) (its : Array Value) (n : Nat), K.lookup a = some o ∧ o.cls = .type "tuple" ∧ o.data = .seq its n ∧ its.size ≤ sizeLine ∧ Vals xs its.toList ∧ o.dict = none
theorem KTup.sq {K : PySem.W.Frag} {H : Hp} {a : Addr} {xs : List V} (h : KTup K a xs) : SqT K H a xs := by
  obtain ⟨o, its, n, h1, h2, h3, h4, h5, _⟩ := h
  exact .inr ⟨o, its, n, h1, h2, h3, h4, h5⟩
def FTup (H : Hp) (a : Addr) (xs : List V) : Prop := ∃ o : Obj, H a = some (.frz o (.tup xs)) ∧ o.cls = .type "tuple" ∧ o.dict = none
theorem FTup.sq {K : PySem.W.Frag} {H : Hp} {a : Addr} {xs : List V} (h : FTup H a xs) : SqT K H a xs := by
  obtain ⟨o, h, _⟩ := h
  exact .inl (.inr ⟨o, h⟩)
def KLst (K : PySem.W.Frag) (a : Addr) (xs : List V) : Prop := ∃ (o : Obj) (its : Array Value) (n : Nat), K.lookup a = some o ∧ o.cls = .type "list" ∧ o.dict = none ∧ o.data = .seq its n ∧ its.size ≤ sizeLine ∧ Vals xs its.toList
section
variable {K : PySem.W.Frag} (G : Gx K) (O : Addr → Prop) (H : Hp)
mutual
inductive Rep : V → D → Prop
  | non : Rep .non .non
  | bl (b : Bool) : Rep (.bl b) (.bl b)
  | int (i : Int) : Rep (.int i) (.int i)
  | str (x : Str) : Rep (.str x) (.str x)
  | lst {a : Addr} {vs : List V} {ds : List D} : Rd H a (.lst vs) → ¬ O a → Reps vs ds → Rep (.ref a) (.lst ds)
  | tup {a : Addr} {vs : List V} {ds : List D} : H a = some (.tup vs) → ¬ O a → Reps vs ds → Rep (.ref a) (.tup ds)
  | ktp {a : Addr} {vs : List V} {ds : List D} : KTup K a vs → Reps vs ds → Rep (.ref a) (.ktp ds)
  | ftp {a : Addr} {vs : List V} {ds : List D} : FTup H a vs → ¬ O a → Reps vs ds → Rep (.ref a) (.ktp ds)
  | dk {a : Addr} {ks : List (Key × V)} {kvs : List (D × D)} : Rd H a (.dK ks) → ¬ O a → RepK ks kvs → Rep (.ref a) (.dct kvs)
  | dt {a : Addr} {ks : List (List Key × V)} {kvs : List (D × D)} : Rd H a (.dT ks) → ¬ O a → RepT ks kvs → Rep (.ref a) (.dtt kvs)
  | obj {a C dx : Addr} {fvs : List (Str × V)} {c : String} {fs : List (Str × D)} : G.ca c = some C → H a = some (.ins C dx fvs) → ¬ O a → (∀ f, f ∈ fs.map (·.1) → NoAttr K C f) → RepF fvs fs → Rep (.ref a) (.obj c fs)
  | cls {C : Addr} {c : String} : G.ca c = some C → Rep (.ref C) (.cls c)
  | klt {a : Addr} {ns : List Int} : KLst K a (ns.map V.int) → Rep (.ref a) (.klt ns)
inductive Reps : List V → List D → Prop
  | nil : Reps [] []
  | cons {v : V} {d : D} {vs : List V} {ds : List D} : Rep v d → Reps vs ds → Reps (v :: vs) (d :: ds)
inductive RepK : List (Key × V) → List (D × D) → Prop
  | nil : RepK [] []
  | cons {k : Key} {v : V} {kd d : D} {ks : List (Key × V)} {kvs : List (D × D)} : kd.key = some k → Rep v d → RepK ks kvs → RepK ((k, v) :: ks) ((kd, d) :: kvs)
inductive RepT : List (List Key × V) → List (D × D) → Prop
  | nil : RepT [] []
  | cons {k : List Key} {v : V} {kd d : D} {ks : List (List Key × V)} {kvs : List (D × D)} : kd.tkey = some k → Rep v d → RepT ks kvs → RepT ((k, v) :: ks) ((kd, d) :: kvs)
inductive RepF : List (Str × V) → List (Str × D) → Prop
  | nil : RepF [] []
  | cons {f : Str} {v : V} {d : D} {ks : List (Str × V)} {kvs : List (Str × D)} : Rep v d → RepF ks kvs → RepF ((f, v) :: ks) ((f, d) :: kvs)
end
end
def NF (u : HO) : Prop := ∀ o x, u ≠ .frz o x
structure Kept (O : Addr → Prop) (H : Hp) (O' : Addr → Prop) (H' : Hp) : Prop where
  rd : ∀ b u, ¬ O b → NF u → Rd H b u → Rd H' b u
  ext : ∀ b P, ¬ O b → H b = some (.ext P) → H' b = some (.ext P)
  tup : ∀ b vs, ¬ O b → H b = some (.tup vs) → H' b = some (.tup vs)
  ftp : ∀ b o vs, ¬ O b → H b = some (.frz o (.tup vs)) → H' b = some (.frz o (.tup vs))
  ins : ∀ b C dx fs, ¬ O b → H b = some (.ins C dx fs) → H' b = some (.ins C dx fs)
  grow : ∀ b, O' b → O b ∨ H b = none
theorem Kept.no {O O' : Addr → Prop} {H H' : Hp} (k : Kept O H O' H') {b : Addr} {o : HO} (h : H b = some o) (n : ¬ O b) : ¬ O' b := fun z => by
  rcases k.grow b z with z | z
  · exact n z
  · rw [h] at z; cases z
theorem Kept.no2 {O O' : Addr → Prop} {H H' : Hp} (k : Kept O H O' H') {b : Addr} {u : HO} (h : Rd H b u) (n : ¬ O b) : ¬ O' b := by
  rcases h with h | ⟨o, h⟩
  · exact k.no h n
  · exact k.no h n
section
variable {K : PySem.W.Frag} {G : Gx K} {O O' : Addr → Prop} {H H' : Hp}
mutual
theorem Rep.keep (k : Kept O H O' H') : ∀ {d : D} {v : V}, Rep G O H v d → Rep G O' H' v d
  | .non, _, h => by cases h; exact .non
  | .bl b, _, h => by cases h; exact .bl b
  | .int i, _, h => by cases h; exact .int i
  | .str x, _, h => by cases h; exact .str x
  | .lst ds, _, h => by
    cases h with
    | lst r n t => exact .lst (k.rd _ _ n (fun _ _ z => nomatch z) r) (k.no2 r n) (Reps.keep k t)
  | .tup ds, _, h => by
    cases h with
    | tup r n t => exact .tup (k.tup _ _ n r) (k.no r n) (Reps.keep k t)
  | .ktp ds, _, h => by
    cases h with
    | ktp r t => exact .ktp r (Reps.keep k t)
    | ftp r n t =>
      obtain ⟨o, h, c, d⟩ := r
      exact .ftp ⟨o, k.ftp _ _ _ n h, c, d⟩ (k.no h n) (Reps.keep k t)
  | .dct kvs, _, h => by
    cases h with
    | dk r n t => exact .dk (k.rd _ _ n (fun _ _ z => nomatch z) r) (k.no2 r n) (RepK.keep k t)
  | .dtt kvs, _, h => by
    cases h with
    | dt r n t => exact .dt (k.rd _ _ n (fun _ _ z => nomatch z) r) (k.no2 r n) (RepT.keep k t)
  | .obj c fs, _, h => by
    cases h with
    | obj e r n q t => exact .obj e (k.ins _ _ _ _ n r) (k.no r n) q (RepF.keep k t)
  | .cls c, _, h => by
    cases h with
    | cls e => exact .cls e
  | .klt ns, _, h => by
    cases h with
    | klt e => exact .klt e
theorem Reps.keep (k : Kept O H O' H') : ∀ {ds : List D} {vs : List V}, Reps G O H vs ds → Reps G O' H' vs ds
  | [], _, h => by cases h; exact .nil
  | d :: ds, _, h => by
    cases h with
    | cons a t => exact .cons (Rep.keep k a) (Reps.keep k t)
theorem RepK.keep (k : Kept O H O' H') : ∀ {kvs : List (D × D)} {ks : List (Key × V)}, RepK G O H ks kvs → RepK G O' H' ks kvs
  | [], _, h => by cases h; exact .nil
  | (_, _) :: _, _, h => by
    cases h with
    | cons e a t => exact .cons e (Rep.keep k a) (RepK.keep k t)
theorem RepT.keep (k : Kept O H O' H') : ∀ {kvs : List (D × D)} {ks : List (List Key × V)}, RepT G O H ks kvs → RepT G O' H' ks kvs
  | [], _, h => by cases h; exact .nil
  | (_, _) :: _, _, h => by
    cases h with
    | cons e a t => exact .cons e (Rep.keep k a) (RepT.keep k t)
theorem RepF.keep (k : Kept O H O' H') : ∀ {kvs : List (Str × D)} {ks : List (Str × V)}, RepF G O H ks kvs → RepF G O' H' ks kvs
  | [], _, h => by cases h; exact .nil
  | (_, _) :: _, _, h => by
    cases h with
    | cons a t => exact .cons (Rep.keep k a) (RepF.keep k t)
end
end
end Pu
namespace Pu
open PySem L2 PySem.Spec PyProof.Rows Pw
inductive Shp where
  | sh
  | deal
  | tab
  | lst (t : Shp)
  | dct (t : Shp)
  | obj (f : Str → Shp)
inductive All3 {α β γ : Type} (P : α → β → γ → Prop) : List α → List β → List γ → Prop
  | nil : All3 P [] [] []
  | cons {a : α} {b : β} {c : γ} {as : List α} {bs : List β} {cs : List γ} : P a b c → All3 P as bs cs → All3 P (a :: as) (b :: bs) (c :: cs)
theorem All3.imp {α β γ : Type} {P Q : α → β → γ → Prop} : ∀ {as : List α} {bs : List β} {cs : List γ}, All3 P as bs cs → (∀ a b c, c ∈ cs → P a b c → Q a b c) → All3 Q as bs cs
  | _, _, _, .nil, _ => .nil
  | _, _, _, .cons h t, f => .cons (f _ _ _ (List.mem_cons_self ..) h) (All3.imp t fun a b c hc => f a b c (List.mem_cons_of_mem _ hc))
def TabsO (T : List (Addr × Str)) (O : Addr → Prop) (H : Hp) : Prop := ∀ p ∈ T, ∃ ps : Array Value, H p.1 = some (.tbl ps) ∧ TriplesOk ps.toList ∧ ∀ (pos : Pos) (cv : Value), codeAmong pos ps.toList = some cv → ∃ c, cv = .ref c ∧ ¬ O c ∧ H c = some (LamX.CodeO c p.2)
section
variable {K : PySem.W.Frag} (G : Gx K) (O : Addr → Prop) (H : Hp)
def Own : Shp → V → D → List Addr → Prop
  | .sh => fun v d F => F = [] ∧ Rep G O H v d
  | .deal => fun v d F => ∃ (p l : Addr) (xs : List Int) (s : Int), v = .ref p ∧ d = .lst [.lst (xs.map .int), .int s] ∧ H p = some (.lst [.ref l, .int s]) ∧ H l = some (.lst (xs.map V.int)) ∧ F = [p, l]
  | .tab => fun v d F => F = G.tb.map (·.1) ∧ Rep G O H v d ∧ TabsO G.tb O H
  | .lst t => fun v d F => ∃ (p : Addr) (vs : List V) (ds : List D) (Fs : List (List Addr)), v = .ref p ∧ d = .lst ds ∧ H p = some (.lst vs) ∧ F = p :: Fs.flatten ∧ All3 (Own t) vs ds Fs
  | .dct t => fun v d F => ∃ (p : Addr) (kvs : List (D × D)) (Fs : List (List Addr)), v = .ref p ∧ F = p :: Fs.flatten ∧
      ((∃ ks : List (Key × V), d = .dct kvs ∧ H p = some (.dK ks) ∧ All3 (fun (a : Key × V) (e : D × D) F => e.1.key = some a.1 ∧ Own t a.2 e.2 F) ks kvs Fs) ∨
       (∃ ks : List (List Key × V), d = .dtt kvs ∧ H p = some (.dT ks) ∧ All3 (fun (a : List Key × V) (e : D × D) F => e.1.tkey = some a.1 ∧ Own t a.2 e.2 F) ks kvs Fs))
  | .obj f => fun v d F => ∃ (p C dx : Addr) (fvs : List (Str × V)) (c : String) (fs : List (Str × D)) (Fs : List (List Addr)), v = .ref p ∧ d = .obj c fs ∧ G.ca c = some C ∧ H p = some (.ins C dx fvs) ∧ F = p :: Fs.flatten ∧ (∀ f, f ∈ fs.map (·.1) → NoAttr K C f) ∧
      All3 (fun (a : Str × V) (b : Str × D) F => a.1 = b.1 ∧ Own (f a.1) a.2 b.2 F) fvs fs Fs
end
section
variable {K : PySem.W.Frag} {G : Gx K} {O O' : Addr → Prop} {H H' : Hp}
theorem mem_flat {F : List Addr} {Fs : List (List Addr)} (h : F ∈ Fs) {b : Addr} (hb : b ∈ F) : b ∈ Fs.flatten := List.mem_flatten.mpr ⟨F, h, hb⟩
theorem Own.keep (k : Kept O H O' H') : ∀ (t : Shp) {v : V} {d : D} {F : List Addr}, (∀ b ∈ F, H' b = H b) → Own G O H t v d F → Own G O' H' t v d F
  | .sh, _, _, _, _, ⟨e, h⟩ => ⟨e, h.keep k⟩
  | .deal, _, _, _, kf, ⟨p, l, xs, s, h1, h2, h3, h4, h5⟩ => by
    subst h5
    exact ⟨p, l, xs, s, h1, h2, (kf p (by simp)).trans h3, (kf l (by simp)).trans h4, rfl⟩
  | .tab, _, _, _, kf, ⟨h1, h2, h3⟩ => by
    refine ⟨h1, h2.keep k, fun p hp => ?_⟩
    obtain ⟨ps, e1, e2, e3⟩ := h3 p hp
    refine ⟨ps, (kf p.1 (by rw [h1]; exact List.mem_map.mpr ⟨p, hp, rfl⟩)).trans e1, e2, fun pos cv hc => ?_⟩
    obtain ⟨c, q1, q2, q3⟩ := e3 pos cv hc
    exact ⟨c, q1, k.no q3 q2, k.ext _ _ q2 q3⟩
  | .lst t, _, _, _, kf, ⟨p, vs, ds, Fs, h1, h2, h3, h4, h5⟩ => by
    subst h4
    refine ⟨p, vs, ds, Fs, h1, h2, (kf p (List.mem_cons_self ..)).trans h3, rfl, h5.imp fun a b c hc h => Own.keep k t (fun x hx => kf x (List.mem_cons_of_mem _ (mem_flat hc hx))) h⟩
  | .dct t, _, _, _, kf, ⟨p, kvs, Fs, h1, h3, h4⟩ => by
    subst h3
    refine ⟨p, kvs, Fs, h1, rfl, ?_⟩
    rcases h4 with ⟨ks, h2, h5, h6⟩ | ⟨ks, h2, h5, h6⟩
    · exact .inl ⟨ks, h2, (kf p (List.mem_cons_self ..)).trans h5, h6.imp fun a b c hc h => ⟨h.1, Own.keep k t (fun x hx => kf x (List.mem_cons_of_mem _ (mem_flat hc hx))) h.2⟩⟩
    · exact .inr ⟨ks, h2, (kf p (List.mem_cons_self ..)).trans h5, h6.imp fun a b c hc h => ⟨h.1, Own.keep k t (fun x hx => kf x (List.mem_cons_of_mem _ (mem_flat hc hx))) h.2⟩⟩
  | .obj f, _, _, _, kf, ⟨p, C, dx, fvs, c, fs, Fs, h1, h2, h3, h4, h5, h7, h6⟩ => by
    subst h5
    exact ⟨p, C, dx, fvs, c, fs, Fs, h1, h2, h3, (kf p (List.mem_cons_self ..)).trans h4, rfl, h7, h6.imp fun a b c hc h => ⟨h.1, Own.keep k (f a.1) (fun x hx => kf x (List.mem_cons_of_mem _ (mem_flat hc hx))) h.2⟩⟩
end
def flatO : Str → Shp := fun _ => .sh
section
variable {K : PySem.W.Frag} (G : Gx K) (O : Addr → Prop) (F : List Addr) (H : Hp)
def BRep (v : V) (d : D) : Prop := Rep G O H v d ∨ ∃ p, p ∉ F ∧ (∃ o, H p = some o) ∧ (Own G O H (.lst .sh) v d [p] ∨ Own G O H (.dct .sh) v d [p] ∨ Own G O H (.obj flatO) v d [p])
end
inductive Md where
  | na
  | hd
  | sh
  | mb
  | br
  | th (f c : Addr) (q : Str) (l : List (V × D))
  | ow (t : Shp)
  | op (t : Shp)
def Md.isOw : Md → Bool
  | .na => true
  | .ow _ => true
  | .op _ => true
  | _ => false
section
variable {K : PySem.W.Frag} (G : Gx K) (B O : Addr → Prop) (F : List Addr) (H : Hp)
def SlOk : Md → Option V → Option D → List Addr → Prop
  | .na => fun _ _ f => f = []
  | .hd => fun _ _ f => f = []
  | .sh => fun v d f => f = [] ∧ ∃ v' d', v = some v' ∧ d = some d' ∧ Rep G O H v' d'
  | .mb => fun v d f => f = [] ∧ ∀ d', d = some d' → ∃ v', v = some v' ∧ Rep G O H v' d'
  | .br => fun v d f => f = [] ∧ ∃ v' d', v = some v' ∧ d = some d' ∧ BRep G O F H v' d'
  | .th a c q l => fun v _ f => f = [] ∧ v = some (.ref a) ∧ (¬ O c ∧ H c = some (LamX.CodeO c q)) ∧ ∀ p ∈ l, Rep G O H p.1 p.2
  | .ow t => fun v d f => (∀ a ∈ f, ¬ B a) ∧ ∃ v' d', v = some v' ∧ d = some d' ∧ Own G O H t v' d' f
  | .op t => fun v d f => ∃ v' d', v = some v' ∧ d = some d' ∧ Own G O H t v' d' f
end
def NTO : Type := {o : HO // ∀ vs, o ≠ .tup vs}
instance : CoeOut NTO HO := ⟨fun o => o.1⟩
structure Wd {K : PySem.W.Frag} (G : Gx K) (B O : Addr → Prop) (Fs : List (List Addr)) (H : Hp) (σ : L2.St) (ρ : Env) (M : List Md) : Prop where
  nd : Fs.flatten.Nodup
  sub : ∀ a ∈ Fs.flatten, O a
  bo : ∀ a, B a → O a
  al : ∀ a, O a → ∃ o : NTO, H a = some o.1
  ls : σ.length = M.length
  lr : ρ.length = M.length
  lf : Fs.length = M.length
  sl : ∀ (i : Nat) (m : Md) (v : Option V) (d : Option D) (f : List Addr), M[i]? = some m → σ[i]? = some v → ρ[i]? = some d → Fs[i]? = some f → SlOk G B O Fs.flatten H m v d f
structure Ev (M : List Md) (O : Addr → Prop) (Fs : List (List Addr)) (H : Hp) (ρ : Env) (O' : Addr → Prop) (Fs' : List (List Addr)) (H' : Hp) (ρ' : Env) : Prop where
  chg : ∀ b o, H b = some o → b ∉ Fs.flatten → H' b = some o
  dom : ∀ b o, H b = some o → ∃ o', H' b = some o'
  mono : ∀ b, O b → O' b
  grow : ∀ b, O' b → O b ∨ H b = none
  fgrow : ∀ b, b ∈ Fs'.flatten → b ∈ Fs.flatten ∨ H b = none
  keep : ∀ (j : Nat) (m : Md), M[j]? = some m → m.isOw = false → ρ'[j]? = ρ[j]?
section
variable {K : PySem.W.Frag} {G : Gx K} {B O O' O'' : Addr → Prop} {Fs Fs' Fs'' : List (List Addr)} {H H' H'' : Hp} {σ : L2.St} {ρ ρ' ρ'' : Env} {M : List Md}
theorem Ev.refl : Ev M O Fs H ρ O Fs H ρ := ⟨fun _ _ h _ => h, fun _ o h => ⟨o, h⟩, fun _ h => h, fun _ h => .inl h, fun _ h => .inl h, fun _ _ _ _ => rfl⟩
theorem Ev.trans (a : Ev M O Fs H ρ O' Fs' H' ρ') (b : Ev M O' Fs' H' ρ' O'' Fs'' H'' ρ'') : Ev M O Fs H ρ O'' Fs'' H'' ρ'' := by
  refine ⟨fun c o h n => b.chg c o (a.chg c o h n) fun z => ?_, fun c o h => ?_, fun c h => b.mono c (a.mono c h), fun c h => ?_, fun c h => ?_, fun j m h1 h2 => (b.keep j m h1 h2).trans (a.keep j m h1 h2)⟩
  · rcases a.fgrow c z with z | z
    · exact n z
    · rw [h] at z; cases z
  · obtain ⟨o', h'⟩ := a.dom c o h
    exact b.dom c o' h'
  · rcases b.grow c h with h | h
    · exact a.grow c h
    · refine .inr ?_
      cases e : H c with
      | none => rfl
      | some o => obtain ⟨o', h'⟩ := a.dom c o e; rw [h] at h'; cases h'
  · rcases b.fgrow c h with h | h
    · exact a.fgrow c h
    · refine .inr ?_
      cases e : H c with
      | none => rfl
      | some o => obtain ⟨o', h'⟩ := a.dom c o e; rw [h] at h'; cases h'
theorem Ev.kept (e : Ev M O Fs H ρ O' Fs' H' ρ') (s : ∀ a ∈ Fs.flatten, O a) : Kept O H O' H' where
  rd := fun b u n _ h => by
    rcases h with h | ⟨o, h⟩
    · exact .inl (e.chg b _ h fun z => n (s b z))
    · exact .inr ⟨o, e.chg b _ h fun z => n (s b z)⟩
  ext := fun b P n h => e.chg b _ h fun z => n (s b z)
  tup := fun b vs n h => e.chg b _ h fun z => n (s b z)
  ftp := fun b o vs n h => e.chg b _ h fun z => n (s b z)
  ins := fun b C dx fs n h => e.chg b _ h fun z => n (s b z)
  grow := e.grow
theorem Rep.ev {v : V} {d : D} (h : Rep G O H v d) (w : Wd G B O Fs H σ ρ M) (e : Ev M O Fs H ρ O' Fs' H' ρ') : Rep G O' H' v d := h.keep (e.kept w.sub)
theorem BRep.ev {v : V} {d : D} (h : BRep G O Fs.flatten H v d) (w : Wd G B O Fs H σ ρ M) (e : Ev M O Fs H ρ O' Fs' H' ρ') : BRep G O' Fs'.flatten H' v d := by
  rcases h with h | ⟨p, n, ⟨o, ho⟩, h⟩
  · exact .inl (h.ev w e)
  · have k := e.kept w.sub
    have kf : ∀ b ∈ [p], H' b = H b := fun b hb => by
      rw [List.mem_singleton.mp hb, ho]
      exact e.chg p o ho n
    refine .inr ⟨p, fun z => ?_, ⟨o, e.chg p o ho n⟩, ?_⟩
    · rcases e.fgrow p z with z | z
      · exact n z
      · rw [ho] at z; cases z
    · rcases h with h | h | h
      · exact .inl (Own.keep k _ kf h)
      · exact .inr (.inl (Own.keep k _ kf h))
      · exact .inr (.inr (Own.keep k _ kf h))
theorem Wd.get (w : Wd G B O Fs H σ ρ M) {i : Nat} {m : Md} (h : M[i]? = some m) : ∃ v d f, σ[i]? = some v ∧ ρ[i]? = some d ∧ Fs[i]? = some f ∧ SlOk G B O Fs.flatten H m v d f := by
  have hi : i < M.length := (List.getElem?_eq_some_iff.mp h).1
  have h1 : i < σ.length := by rw [w.ls]; exact hi
  have h2 : i < ρ.length := by rw [w.lr]; exact hi
  have h3 : i < Fs.length := by rw [w.lf]; exact hi
  exact ⟨_, _, _, List.getElem?_eq_getElem h1, List.getElem?_eq_getElem h2, List.getElem?_eq_getElem h3, w.sl i m _ _ _ h (List.getElem?_eq_getElem h1) (List.getElem?_eq_getElem h2) (List.getElem?_eq_getElem h3)⟩
end
section
variable {K : PySem.W.Frag} {G : Gx K} {B O O' : Addr → Prop} {Fs Fs' : List (List Addr)} {H H' : Hp} {σ : L2.St} {ρ ρ' : Env} {M : List Md} {p : Addr} {o : HO}
theorem SlOk.keep {m : Md} {v : Option V} {d : Option D} {f F F' : List Addr} (h : SlOk G B O F H m v d f) (k : Kept O H O' H') (kc : ∀ b o, H b = some o → b ∉ F → H' b = some o) (kf : ∀ b ∈ f, H' b = H b) (nf : ∀ b o, H b = some o → b ∉ F → b ∉ F') : SlOk G B O' F' H' m v d f := by
  cases m with
  | na => exact h
  | hd => exact h
  | sh =>
    obtain ⟨e, v', d', e1, e2, r⟩ := h
    exact ⟨e, v', d', e1, e2, r.keep k⟩
  | br =>
    obtain ⟨e, v', d', e1, e2, r⟩ := h
    refine ⟨e, v', d', e1, e2, ?_⟩
    rcases r with r | ⟨p, n, ⟨o, ho⟩, r⟩
    · exact .inl (r.keep k)
    · have kp : ∀ b ∈ [p], H' b = H b := fun b hb => by
        rw [List.mem_singleton.mp hb, ho]
        exact kc p o ho n
      refine .inr ⟨p, nf p o ho n, ⟨o, kc p o ho n⟩, ?_⟩
      rcases r with r | r | r
      · exact .inl (Own.keep k _ kp r)
      · exact .inr (.inl (Own.keep k _ kp r))
      · exact .inr (.inr (Own.keep k _ kp r))
  | mb =>
    obtain ⟨e, h⟩ := h
    exact ⟨e, fun d' hd => by obtain ⟨v', e1, r⟩ := h d' hd; exact ⟨v', e1, r.keep k⟩⟩
  | th a c q l =>
    obtain ⟨e, e1, ⟨h1, h2⟩, h3⟩ := h
    exact ⟨e, e1, ⟨k.no h2 h1, k.ext _ _ h1 h2⟩, fun p hp => (h3 p hp).keep k⟩
  | ow t =>
    obtain ⟨e, v', d', e1, e2, r⟩ := h
    exact ⟨e, v', d', e1, e2, Own.keep k t kf r⟩
  | op t =>
    obtain ⟨v', d', e1, e2, r⟩ := h
    exact ⟨v', d', e1, e2, Own.keep k t kf r⟩
end
end Pu
namespace Pu
open PySem L2 PySem.Spec PyProof.Rows Pw
def XRep {K : PySem.W.Frag} (G : Gx K) (xa : String → Option Addr) (O : Addr → Prop) (H : Hp) (cls : Value) (dd : Option Addr) (x : Exn) : Prop :=
  ∃ C, xa x.c = some C ∧ cls = .ref C ∧ ∃ dx fvs, dd = some dx ∧ ¬ O dx ∧ H dx = some (.xd fvs) ∧ RepF G O H fvs x.fs
structure Sx (K : PySem.W.Frag) where
  G : Gx K
  xa : String → Option Addr
  W : WX
  M : List Md
section
variable {K : PySem.W.Frag} {α β : Type}
abbrev VRel (α β : Type) := (Addr → Prop) → List (List Addr) → Hp → β → α → Prop
def Run (S : Sx K) (VR : VRel α β) (r : R α) (B O : Addr → Prop) (Fs : List (List Addr)) (H : Hp) (σ : L2.St) (ρ : Env) (Q : β → Hp → Prop) : Prop := match r with
  | .ok d ρ' => ∀ v O' Fs' H', Ev S.M O Fs H ρ O' Fs' H' ρ' → Wd S.G B O' Fs' H' σ ρ' S.M → VR O' Fs' H' v d → Q v H'
  | .ex x ρ' => ∀ cls dd O' Fs' H', Ev S.M O Fs H ρ O' Fs' H' ρ' → Wd S.G B O' Fs' H' σ ρ' S.M → XRep S.G S.xa O' H' cls dd x → S.W cls dd σ H'
  | .bad => False
def lX (S : Sx K) (VR : VRel α β) (f : Env → R α) : L2.St → Hp → (β → Hp → Prop) → Prop := fun σ H Q => ∃ B O Fs ρ, Wd S.G B O Fs H σ ρ S.M ∧ Run S VR (f ρ) B O Fs H σ ρ Q
variable {S : Sx K} {B O O1 : Addr → Prop} {Fs Fs1 : List (List Addr)} {H H1 : Hp} {σ : L2.St} {ρ ρ1 : Env}
theorem Run.shift {VR : VRel α β} {r : R α} {Q : β → Hp → Prop} (h : Run S VR r B O Fs H σ ρ Q) (e : Ev S.M O Fs H ρ O1 Fs1 H1 ρ1) : Run S VR r B O1 Fs1 H1 σ ρ1 Q := by
  cases r with
  | ok d ρ' => exact fun v O' Fs' H' e2 w x => h v O' Fs' H' (e.trans e2) w x
  | ex x ρ' => exact fun c dd O' Fs' H' e2 w x => h c dd O' Fs' H' (e.trans e2) w x
  | bad => exact h
theorem Run.bind {γ δ : Type} {VR : VRel α β} {VA : VRel γ δ} {r : R γ} {k : γ → Env → R α} {Q : β → Hp → Prop} {Q1 : δ → Hp → Prop} (h : Run S VR (r.bind k) B O Fs H σ ρ Q)
    (hk : ∀ a ρ1 v O1 Fs1 H1, r = .ok a ρ1 → Ev S.M O Fs H ρ O1 Fs1 H1 ρ1 → Wd S.G B O1 Fs1 H1 σ ρ1 S.M → VA O1 Fs1 H1 v a → Run S VR (k a ρ1) B O1 Fs1 H1 σ ρ1 Q → Q1 v H1) : Run S VA r B O Fs H σ ρ Q1 := by
  cases r with
  | ok a ρ1 => exact fun v O' Fs' H' e w x => hk a ρ1 v O' Fs' H' rfl e w x (Run.shift h e)
  | ex x ρ' => exact h
  | bad => exact h
theorem Run.use {VR : VRel α β} {a : α} {Q : β → Hp → Prop} (h : Run S VR (.ok a ρ) B O Fs H σ ρ Q) (w : Wd S.G B O Fs H σ ρ S.M) {v : β} (x : VR O Fs H v a) : Q v H := h v O Fs H Ev.refl w x
end
theorem PE.of {X : Cx} {e : Expr} {t t' : TE} (h : PE X e t) (i : ∀ σ H Q, t' σ H Q → t σ H Q) : PE X e t' := ⟨fun pins s σ H Q I x => h.run pins s σ H Q I (i σ H Q x)⟩
theorem PT.of {X : Cx} {e : Expr} {t t' : TT} (h : PT X e t) (i : ∀ σ H Q, t' σ H Q → t σ H Q) : PT X e t' := ⟨fun pins s σ H Q I x => h.run pins s σ H Q I (i σ H Q x)⟩
theorem PW.of {X : Cx} {e : Expr} {t t' : TT} (h : PW X e t) (i : ∀ σ H Q, t' σ H Q → t σ H Q) : PW X e t' := ⟨fun wh pins s σ H Q I x => h.run wh pins s σ H Q I (i σ H Q x)⟩
theorem PA.of {X : Cx} {e : List Expr} {t t' : TA} (h : PA X e t) (i : ∀ σ H Q, t' σ H Q → t σ H Q) : PA X e t' := ⟨fun p pins s σ H Q I x => h.run p pins s σ H Q I (i σ H Q x)⟩
theorem PS.of {X : Cx} {e : Stmt} {t t' : TS} (h : PS X e t) (i : ∀ D σ H, t' D σ H → t D σ H) : PS X e t' := ⟨fun pins s σ H D I x => h.run pins s σ H D I (i D σ H x)⟩
theorem PSs.of {X : Cx} {e : List Stmt} {t t' : TS} (h : PSs X e t) (i : ∀ D σ H, t' D σ H → t D σ H) : PSs X e t' := ⟨fun pins s σ H D I x => h.run pins s σ H D I (i D σ H x)⟩
section
variable {K : PySem.W.Frag}
abbrev vE (S : Sx K) : VRel D V := fun O _ H v d => Rep S.G O H v d
abbrev vB (S : Sx K) : VRel D V := fun O Fs H v d => BRep S.G O Fs.flatten H v d
abbrev vT : VRel Bool Bool := fun _ _ _ v d => v = d
abbrev lE (S : Sx K) (f : Env → R D) : TE := lX S (vE S) f
abbrev lB (S : Sx K) (f : Env → R D) : TE := lX S (vB S) f
abbrev lT (S : Sx K) (f : Env → R Bool) : TT := lX S vT f
variable {S : Sx K} {X : Cx} {e a b : Expr} {f fa fb : Env → R D} {pos : Pos}
theorem p_b (h : PE X e (lE S f)) : PE X e (lB S f) := by
  refine PE.of h fun σ H Q ⟨B, O, Fs, ρ, w, r⟩ => ⟨B, O, Fs, ρ, w, ?_⟩
  cases e : f ρ with
  | ok d ρ' => rw [e] at r; exact fun v O' Fs' H' ev wd x => r v O' Fs' H' ev wd (.inl x)
  | ex x ρ' => rw [e] at r; exact r
  | bad => rw [e] at r; exact r
def sC (d : D) : Env → R D := fun ρ => .ok d ρ
def sV (i : Nat) : Env → R D := fun ρ => match ρ[i]? with
  | some (some d) => .ok d ρ
  | _ => .bad
theorem p_non {j} : PE X (.Constant .none j pos) (lE S (sC .non)) := PE.of pe_non fun _ _ _ ⟨_, _, _, _, w, r⟩ => r.use w .non
theorem p_bl {c j} : PE X (.Constant (.bool c) j pos) (lE S (sC (.bl c))) := PE.of pe_bl fun _ _ _ ⟨_, _, _, _, w, r⟩ => r.use w (.bl c)
theorem p_int {i j} : PE X (.Constant (.int i) j pos) (lE S (sC (.int i))) := PE.of pe_int fun _ _ _ ⟨_, _, _, _, w, r⟩ => r.use w (.int i)
theorem p_str {x j} : PE X (.Constant (.str x) j pos) (lE S (sC (.str x))) := PE.of pe_str fun _ _ _ ⟨_, _, _, _, w, r⟩ => r.use w (.str x)
theorem p_vs {i : Nat} (h : PE X e (tVar i)) (hm : S.M[i]? = some .sh) : PE X e (lE S (sV i)) := by
  refine PE.of h fun σ H Q ⟨B, O, Fs, ρ, w, r⟩ => ?_
  obtain ⟨v, d, f, h1, h2, h3, e0, v', d', e1, e2, rp⟩ := w.get hm
  subst e1 e2
  refine ⟨v', h1, ?_⟩
  unfold sV at r
  rw [h2] at r
  exact r.use w rp
theorem p_vb {i : Nat} (h : PE X e (tVar i)) (hm : S.M[i]? = some .br) : PE X e (lB S (sV i)) := by
  refine PE.of h fun σ H Q ⟨B, O, Fs, ρ, w, r⟩ => ?_
  obtain ⟨v, d, f, h1, h2, h3, e0, v', d', e1, e2, rp⟩ := w.get hm
  subst e1 e2
  refine ⟨v', h1, ?_⟩
  unfold sV at r
  rw [h2] at r
  exact r.use w rp
theorem p_glT {c : Addr} {vs : List V} {ds : List D} (h : PE X e (tC (.ref c))) (hk : KTup K c vs) (hr : ∀ O H, Reps S.G O H vs ds) : PE X e (lE S (sC (.ktp ds))) :=
  PE.of h fun _ _ _ ⟨_, _, _, _, w, r⟩ => r.use w (.ktp hk (hr _ _))
end
section
variable {K : PySem.W.Frag} {G : Gx K} {B O O' : Addr → Prop} {Fs Fs' : List (List Addr)} {H H' : Hp} {σ : L2.St} {ρ ρ' : Env} {M : List Md}
theorem Ev.same (s : Same H H') : Ev M O Fs H ρ O Fs H' ρ :=
  ⟨fun b u h _ => s b u h, fun b u h => ⟨u, s b u h⟩, fun _ h => h, fun _ h => .inl h, fun _ h => .inl h, fun _ _ _ _ => rfl⟩
theorem Wd.same (w : Wd G B O Fs H σ ρ M) (s : Same H H') : Wd G B O Fs H' σ ρ M := by
  have e : Ev M O Fs H ρ O Fs H' ρ := Ev.same s
  refine ⟨w.nd, w.sub, w.bo, fun a h => ?_, w.ls, w.lr, w.lf, fun i m v d f h1 h2 h3 h4 => ?_⟩
  · obtain ⟨u, hu⟩ := w.al a h
    exact ⟨u, s a u hu⟩
  · refine (w.sl i m v d f h1 h2 h3 h4).keep (e.kept w.sub) e.chg (fun b hb => ?_) (fun _ _ _ n => n)
    obtain ⟨u, hu⟩ := w.al b (w.sub b (mem_flat (List.mem_of_getElem? h4) hb))
    rw [hu, s b u hu]
theorem Kept.same (s : Same H H') : Kept O H O H' where
  rd := fun b u n _ h => by
    rcases h with h | ⟨o, h⟩
    · exact .inl (s b _ h)
    · exact .inr ⟨o, s b _ h⟩
  ext := fun b P n h => s b _ h
  tup := fun b vs n h => s b _ h
  ftp := fun b o vs n h => s b _ h
  ins := fun b C dx fs n h => s b _ h
  grow := fun _ h => .inl h
end
section
variable {K : PySem.W.Frag}
abbrev Al (O : Addr → Prop) (H : Hp) : Prop := ∀ a, O a → ∃ o : NTO, H a = some o.1
theorem Al.no {O : Addr → Prop} {H : Hp} (h : Al O H) {p : Addr} (n : H p = none) : ¬ O p := fun z => by
  obtain ⟨o, e⟩ := h p z
  rw [n] at e
  cases e
def OpP (G : Gx K) (r : R2) (g : D → D → Option D) : Prop := ∀ (O : Addr → Prop) (F : List Addr) (H : Hp) (x y : V) (a b d : D), Al O H → g a b = some d → BRep G O F H x a → BRep G O F H y b → ∀ Q : VK, (∀ v H', Same H H' → Rep G O H' v d → Q v H') → r x y H Q
def UnP (G : Gx K) (r : V → Hp → VK → Prop) (g : D → Option D) : Prop := ∀ (O : Addr → Prop) (F : List Addr) (H : Hp) (x : V) (a d : D), Al O H → g a = some d → BRep G O F H x a → ∀ Q : VK, (∀ v H', Same H H' → Rep G O H' v d → Q v H') → r x H Q
inductive BReps (G : Gx K) (O : Addr → Prop) (F : List Addr) (H : Hp) : List V → List D → Prop
  | nil : BReps G O F H [] []
  | cons {v : V} {d : D} {vs : List V} {ds : List D} : BRep G O F H v d → BReps G O F H vs ds → BReps G O F H (v :: vs) (d :: ds)
def CallP (G : Gx K) (r : List V → Hp → VK → Prop) (g : List D → Option D) : Prop := ∀ (O : Addr → Prop) (F : List Addr) (H : Hp) (xs : List V) (as : List D) (d : D), Al O H → g as = some d → BReps G O F H xs as → ∀ Q : VK, (∀ v H', Same H H' → Rep G O H' v d → Q v H') → r xs H Q
abbrev vBs (S : Sx K) : VRel (List D) (List V) := fun O Fs H v d => BReps S.G O Fs.flatten H v d
abbrev vEs (S : Sx K) : VRel (List D) (List V) := fun O Fs H v d => Reps S.G O H v d
abbrev lBs (S : Sx K) (f : Env → R (List D)) : TA := lX S (vBs S) f
abbrev lEs (S : Sx K) (f : Env → R (List D)) : TA := lX S (vEs S) f
variable {S : Sx K} {X : Cx} {e a b : Expr} {es : List Expr} {f fa fb : Env → R D} {fs : Env → R (List D)} {pos : Pos}
theorem Run.of {B O : Addr → Prop} {Fs : List (List Addr)} {H : Hp} {σ : L2.St} {ρ : Env} {o : Option D} {Q : VK} {r : (VK) → Prop} (h : Run S (vE S) (R.of o ρ) B O Fs H σ ρ Q) (w : Wd S.G B O Fs H σ ρ S.M)
    (k : ∀ d, o = some d → (∀ v H', Same H H' → Rep S.G O H' v d → Q v H') → r Q) : r Q := by
  cases o with
  | none => exact h.elim
  | some d => exact k d rfl fun v H' s x => h v O Fs H' (Ev.same s) (w.same s) x
def sOp (g : D → D → Option D) (fa fb : Env → R D) : Env → R D := fun ρ => (fa ρ).bind fun x ρ1 => (fb ρ1).bind fun y ρ2 => R.of (g x y) ρ2
theorem lOp {r : R2} {g : D → D → Option D} (hg : OpP S.G r g) {σ : L2.St} {H : Hp} {Q : VK} (h : lE S (sOp g fa fb) σ H Q) : tOp r (lB S fa) (lB S fb) σ H Q := by
  obtain ⟨B, O, Fs, ρ, w, run⟩ := h
  refine ⟨B, O, Fs, ρ, w, run.bind fun x ρ1 v O1 Fs1 H1 _ ev1 w1 r1 run1 => ⟨B, O1, Fs1, ρ1, w1, run1.bind fun y ρ2 u O2 Fs2 H2 _ ev2 w2 r2 run2 => ?_⟩⟩
  exact run2.of (r := fun Q => r v u H2 Q) w2 fun d e k => hg O2 Fs2.flatten H2 v u x y d w2.al e (r1.ev w1 ev2) r2 Q k
theorem p_op {op : Operator} {r : R2} {g : D → D → Option D} (ho : OpR X (binaryOp op) r) (hg : OpP S.G r g) (ha : PE X a (lB S fa)) (hb : PE X b (lB S fb)) : PE X (.BinOp a op b pos) (lE S (sOp g fa fb)) :=
  PE.of (pe_op ho ha hb) fun _ _ _ h => lOp hg h
theorem p_cmp {op : CmpOp} {r : R2} {g : D → D → Option D} (ho : OpR X (compareOp op) r) (hg : OpP S.G r g) (ha : PE X a (lB S fa)) (hb : PE X b (lB S fb)) (hm : behindInMarks op b = false) : PE X (.Compare a [op] [b] pos) (lE S (sOp g fa fb)) :=
  PE.of (pe_cmpR ho ha hb hm) fun _ _ _ h => lOp hg h
def sUn (g : D → Option D) (fa : Env → R D) : Env → R D := fun ρ => (fa ρ).bind fun x ρ1 => R.of (g x) ρ1
theorem lUn {r : V → Hp → VK → Prop} {g : D → Option D} (hg : UnP S.G r g) {σ : L2.St} {H : Hp} {Q : VK} (h : lE S (sUn g fa) σ H Q) : lB S fa σ H fun x H1 => r x H1 Q := by
  obtain ⟨B, O, Fs, ρ, w, run⟩ := h
  refine ⟨B, O, Fs, ρ, w, run.bind fun x ρ1 v O1 Fs1 H1 _ ev1 w1 r1 run1 => ?_⟩
  exact run1.of (r := fun Q => r v H1 Q) w1 fun d e k => hg O1 Fs1.flatten H1 v x d w1.al e r1 Q k
def sNil : Env → R (List D) := fun ρ => .ok [] ρ
def sCons (fa : Env → R D) (fs : Env → R (List D)) : Env → R (List D) := fun ρ => (fa ρ).bind fun x ρ1 => (fs ρ1).bind fun xs ρ2 => .ok (x :: xs) ρ2
theorem pb_nil : PA X [] (lBs S sNil) := PA.of pa_nil fun _ _ _ ⟨_, _, _, _, w, r⟩ => r.use w .nil
theorem ps_nil : PA X [] (lEs S sNil) := PA.of pa_nil fun _ _ _ ⟨_, _, _, _, w, r⟩ => r.use w .nil
theorem pb_cons (ha : PE X e (lB S fa)) (hr : PA X es (lBs S fs)) (hs : starEach (e :: es) X.env = (false, eval e X.env) :: starEach es X.env := by rfl) : PA X (e :: es) (lBs S (sCons fa fs)) := by
  refine PA.of (pa_cons ha hr hs) fun σ H Q ⟨B, O, Fs, ρ, w, run⟩ => ?_
  refine ⟨B, O, Fs, ρ, w, run.bind fun x ρ1 v O1 Fs1 H1 _ ev1 w1 r1 run1 => ⟨B, O1, Fs1, ρ1, w1, run1.bind fun y ρ2 u O2 Fs2 H2 _ ev2 w2 r2 run2 => ?_⟩⟩
  exact run2.use w2 (.cons (r1.ev w1 ev2) r2)
theorem ps_cons (ha : PE X e (lE S fa)) (hr : PA X es (lEs S fs)) (hs : starEach (e :: es) X.env = (false, eval e X.env) :: starEach es X.env := by rfl) : PA X (e :: es) (lEs S (sCons fa fs)) := by
  refine PA.of (pa_cons ha hr hs) fun σ H Q ⟨B, O, Fs, ρ, w, run⟩ => ?_
  refine ⟨B, O, Fs, ρ, w, run.bind fun x ρ1 v O1 Fs1 H1 _ ev1 w1 r1 run1 => ⟨B, O1, Fs1, ρ1, w1, run1.bind fun y ρ2 u O2 Fs2 H2 _ ev2 w2 r2 run2 => ?_⟩⟩
  exact run2.use w2 (.cons (r1.ev w1 ev2) r2)
def line : Nat := 1000000
theorem line_lt : line ≤ sizeLine := by decide
def gTupl (xs : List D) : Option D := if xs.length ≤ line then some (.tup xs) else none
def gList (xs : List D) : Option D := if xs.length ≤ line then some (.lst xs) else none
def sAs (g : List D → Option D) (fs : Env → R (List D)) : Env → R D := fun ρ => (fs ρ).bind fun xs ρ1 => R.of (g xs) ρ1
theorem Reps.length {G : Gx K} {O : Addr → Prop} {H : Hp} : ∀ {vs : List V} {ds : List D}, Reps G O H vs ds → vs.length = ds.length
  | _, _, .nil => rfl
  | _, _, .cons _ t => by rw [List.length_cons, List.length_cons, Reps.length t]
theorem p_tup {x1} (h : PA X es (lEs S fs)) : PE X (.Tuple es x1 pos) (lE S (sAs gTupl fs)) := by
  refine PE.of (pe_tup h) fun σ H Q ⟨B, O, Fs, ρ, w, run⟩ => ?_
  refine ⟨B, O, Fs, ρ, w, run.bind fun xs ρ1 vs O1 Fs1 H1 _ ev1 w1 r1 run1 => ?_⟩
  refine run1.of (r := fun Q => vs.length ≤ sizeLine ∧ ∀ p, H1 p = none → Q (.ref p) (upd H1 p (.tup vs))) w1 fun d e k => ?_
  unfold gTupl at e
  split at e
  · rename_i hl
    cases e
    refine ⟨by rw [Reps.length r1]; exact Nat.le_trans hl line_lt, fun p hp => k _ _ (same_new hp) (.tup upd_same (Al.no w1.al hp) (r1.keep (Kept.same (same_new hp))))⟩
  · cases e
theorem p_lst (h : PA X es (lEs S fs)) : PE X (.List es pos) (lE S (sAs gList fs)) := by
  refine PE.of (pe_lst h) fun σ H Q ⟨B, O, Fs, ρ, w, run⟩ => ?_
  refine ⟨B, O, Fs, ρ, w, run.bind fun xs ρ1 vs O1 Fs1 H1 _ ev1 w1 r1 run1 => ?_⟩
  refine run1.of (r := fun Q => vs.length ≤ sizeLine ∧ ∀ p, H1 p = none → Q (.ref p) (upd H1 p (.lst vs))) w1 fun d e k => ?_
  unfold gList at e
  split at e
  · rename_i hl
    cases e
    refine ⟨by rw [Reps.length r1]; exact Nat.le_trans hl line_lt, fun p hp => k _ _ (same_new hp) (.lst (.inl upd_same) (Al.no w1.al hp) (r1.keep (Kept.same (same_new hp))))⟩
  · cases e
theorem lCall {r : List V → Hp → VK → Prop} {g : List D → Option D} (hg : CallP S.G r g) {σ : L2.St} {H : Hp} {Q : VK} (h : lE S (sAs g fs) σ H Q) : lBs S fs σ H fun x H1 => r x H1 Q := by
  obtain ⟨B, O, Fs, ρ, w, run⟩ := h
  refine ⟨B, O, Fs, ρ, w, run.bind fun x ρ1 v O1 Fs1 H1 _ ev1 w1 r1 run1 => ?_⟩
  exact run1.of (r := fun Q => r v H1 Q) w1 fun d e k => hg O1 Fs1.flatten H1 v x d w1.al e r1 Q k
end
end Pu
namespace Pu
open PySem L2 PySem.Spec PyProof.Rows Pw
section
variable {K : PySem.W.Frag} {G : Gx K} {O : Addr → Prop} {F : List Addr} {H : Hp}
theorem all3_reps : ∀ {vs : List V} {ds : List D} {Fs : List (List Addr)}, All3 (Own G O H .sh) vs ds Fs → Reps G O H vs ds
  | _, _, _, .nil => .nil
  | _, _, _, .cons h t => .cons h.2 (all3_reps t)
theorem all3_repK : ∀ {ks : List (Key × V)} {kvs : List (D × D)} {Fs : List (List Addr)}, All3 (fun (a : Key × V) (e : D × D) F => e.1.key = some a.1 ∧ Own G O H .sh a.2 e.2 F) ks kvs Fs → RepK G O H ks kvs
  | _, _, _, .nil => .nil
  | _, _, _, .cons h t => .cons h.1 h.2.2 (all3_repK t)
theorem all3_repT : ∀ {ks : List (List Key × V)} {kvs : List (D × D)} {Fs : List (List Addr)}, All3 (fun (a : List Key × V) (e : D × D) F => e.1.tkey = some a.1 ∧ Own G O H .sh a.2 e.2 F) ks kvs Fs → RepT G O H ks kvs
  | _, _, _, .nil => .nil
  | _, _, _, .cons h t => .cons h.1 h.2.2 (all3_repT t)
theorem all3_repF : ∀ {ks : List (Str × V)} {kvs : List (Str × D)} {Fs : List (List Addr)}, All3 (fun (a : Str × V) (b : Str × D) F => a.1 = b.1 ∧ Own G O H (flatO a.1) a.2 b.2 F) ks kvs Fs → RepF G O H ks kvs
  | _, _, _, .nil => .nil
  | (f, v) :: _, (g, d) :: _, _, .cons h t => by
    obtain ⟨e, h⟩ := h
    cases (show f = g from e)
    exact .cons h.2 (all3_repF t)
theorem BRep.lst {v : V} {ds : List D} (h : BRep G O F H v (.lst ds)) : ∃ a vs, v = .ref a ∧ Rd H a (.lst vs) ∧ Reps G O H vs ds := by
  rcases h with h | ⟨p, _, _, h | h | h⟩
  · cases h with
    | lst r n t => exact ⟨_, _, rfl, r, t⟩
  · obtain ⟨a, vs, ds', Fs, e1, e2, e3, _, e4⟩ := h
    cases e2
    exact ⟨a, vs, e1, .inl e3, all3_reps e4⟩
  · obtain ⟨a, kvs, Fs, e1, e2, ⟨_, e3, _⟩ | ⟨_, e3, _⟩⟩ := h <;> cases e3
  · obtain ⟨a, C, dx, fvs, c, fs, Fs, e1, e2, _⟩ := h
    cases e2
theorem BRep.tup {v : V} {ds : List D} (h : BRep G O F H v (.tup ds)) : ∃ a vs, v = .ref a ∧ H a = some (.tup vs) ∧ ¬ O a ∧ Reps G O H vs ds := by
  rcases h with h | ⟨p, _, _, h | h | h⟩
  · cases h with
    | tup r n t => exact ⟨_, _, rfl, r, n, t⟩
  · obtain ⟨a, vs, ds', Fs, e1, e2, _⟩ := h
    cases e2
  · obtain ⟨a, kvs, Fs, e1, e2, ⟨_, e3, _⟩ | ⟨_, e3, _⟩⟩ := h <;> cases e3
  · obtain ⟨a, C, dx, fvs, c, fs, Fs, e1, e2, _⟩ := h
    cases e2
theorem BRep.shared {v : V} {d : D} (h : BRep G O F H v d) (n1 : ∀ xs, d ≠ .lst xs) (n2 : ∀ xs, d ≠ .dct xs ∧ d ≠ .dtt xs) (n3 : ∀ c xs, d ≠ .obj c xs) : Rep G O H v d := by
  rcases h with h | ⟨p, _, _, h | h | h⟩
  · exact h
  · obtain ⟨a, vs, ds', Fs, e1, e2, _⟩ := h
    exact absurd e2 (n1 _)
  · obtain ⟨a, kvs, Fs, e1, e2, ⟨_, e3, _⟩ | ⟨_, e3, _⟩⟩ := h
    · exact absurd e3 (n2 _).1
    · exact absurd e3 (n2 _).2
  · obtain ⟨a, C, dx, fvs, c, fs, Fs, e1, e2, _⟩ := h
    exact absurd e2 (n3 _ _)
def D.seq : D → Option (List D)
  | .lst xs => some xs
  | .tup xs => some xs
  | .ktp xs => some xs
  | _ => none
def D.tpl : D → Option (List D)
  | .tup xs => some xs
  | .ktp xs => some xs
  | _ => none
theorem BRep.tpl {v : V} {d : D} {ds : List D} (h : BRep G O F H v d) (e : d.tpl = some ds) : ∃ a vs, v = .ref a ∧ SqT K H a vs ∧ Reps G O H vs ds ∧ Rep G O H v d := by
  cases d with
  | tup xs =>
    cases e
    have h' := h.shared (by intro _ z; cases z) (by intro _; exact ⟨(by intro z; cases z), (by intro z; cases z)⟩) (by intro _ _ z; cases z)
    obtain ⟨a, vs, e1, e2, _, e3⟩ := h.tup
    exact ⟨a, vs, e1, SqT.of e2, e3, h'⟩
  | ktp xs =>
    cases e
    have h' := h.shared (by intro _ z; cases z) (by intro _; exact ⟨(by intro z; cases z), (by intro z; cases z)⟩) (by intro _ _ z; cases z)
    cases h' with
    | ktp r t => exact ⟨_, _, rfl, r.sq, t, .ktp r t⟩
    | ftp r n t => exact ⟨_, _, rfl, r.sq, t, .ftp r n t⟩
  | _ => cases e
theorem BRep.seq {v : V} {d : D} {ds : List D} (h : BRep G O F H v d) (e : d.seq = some ds) : ∃ a vs, v = .ref a ∧ (SqL K H a vs ∨ SqT K H a vs) ∧ Reps G O H vs ds := by
  cases d with
  | lst xs =>
    cases e
    obtain ⟨a, vs, e1, e2, e3⟩ := h.lst
    exact ⟨a, vs, e1, .inl (.inl e2), e3⟩
  | tup xs =>
    cases e
    obtain ⟨a, vs, e1, e2, e3, _⟩ := h.tpl rfl
    exact ⟨a, vs, e1, .inr e2, e3⟩
  | ktp xs =>
    cases e
    obtain ⟨a, vs, e1, e2, e3, _⟩ := h.tpl rfl
    exact ⟨a, vs, e1, .inr e2, e3⟩
  | _ => cases e
theorem BRep.int {v : V} {i : Int} (h : BRep G O F H v (.int i)) : v = .int i := by
  have h' := h.shared (by intro _ z; cases z) (by intro _; exact ⟨(by intro z; cases z), (by intro z; cases z)⟩) (by intro _ _ z; cases z)
  cases h'; rfl
theorem BRep.bl {v : V} {i : Bool} (h : BRep G O F H v (.bl i)) : v = .bl i := by
  have h' := h.shared (by intro _ z; cases z) (by intro _; exact ⟨(by intro z; cases z), (by intro z; cases z)⟩) (by intro _ _ z; cases z)
  cases h'; rfl
theorem BRep.str {v : V} {i : Str} (h : BRep G O F H v (.str i)) : v = .str i := by
  have h' := h.shared (by intro _ z; cases z) (by intro _; exact ⟨(by intro z; cases z), (by intro z; cases z)⟩) (by intro _ _ z; cases z)
  cases h'; rfl
theorem BRep.non {v : V} (h : BRep G O F H v .non) : v = .non := by
  have h' := h.shared (by intro _ z; cases z) (by intro _; exact ⟨(by intro z; cases z), (by intro z; cases z)⟩) (by intro _ _ z; cases z)
  cases h'; rfl
theorem BRep.dct {v : V} {kvs : List (D × D)} (h : BRep G O F H v (.dct kvs)) : ∃ a ks, v = .ref a ∧ Rd H a (.dK ks) ∧ RepK G O H ks kvs := by
  rcases h with h | ⟨p, _, _, h | h | h⟩
  · cases h with
    | dk r n t => exact ⟨_, _, rfl, r, t⟩
  · obtain ⟨a, vs, ds', Fs, e1, e2, _⟩ := h
    cases e2
  · obtain ⟨a, kvs', Fs, e1, e2, ⟨ks, e3, e4, e5⟩ | ⟨ks, e3, e4, e5⟩⟩ := h
    · cases e3
      exact ⟨a, ks, e1, .inl e4, all3_repK e5⟩
    · cases e3
  · obtain ⟨a, C, dx, fvs, c, fs, Fs, e1, e2, _⟩ := h
    cases e2
theorem BRep.dtt {v : V} {kvs : List (D × D)} (h : BRep G O F H v (.dtt kvs)) : ∃ a ks, v = .ref a ∧ Rd H a (.dT ks) ∧ RepT G O H ks kvs := by
  rcases h with h | ⟨p, _, _, h | h | h⟩
  · cases h with
    | dt r n t => exact ⟨_, _, rfl, r, t⟩
  · obtain ⟨a, vs, ds', Fs, e1, e2, _⟩ := h
    cases e2
  · obtain ⟨a, kvs', Fs, e1, e2, ⟨ks, e3, e4, e5⟩ | ⟨ks, e3, e4, e5⟩⟩ := h
    · cases e3
    · cases e3
      exact ⟨a, ks, e1, .inl e4, all3_repT e5⟩
  · obtain ⟨a, C, dx, fvs, c, fs, Fs, e1, e2, _⟩ := h
    cases e2
theorem BRep.obj {v : V} {c : String} {fs : List (Str × D)} (h : BRep G O F H v (.obj c fs)) : ∃ a C dx fvs, v = .ref a ∧ G.ca c = some C ∧ H a = some (.ins C dx fvs) ∧ (∀ f, f ∈ fs.map (·.1) → NoAttr K C f) ∧ RepF G O H fvs fs := by
  rcases h with h | ⟨p, _, _, h | h | h⟩
  · cases h with
    | obj e r n q t => exact ⟨_, _, _, _, rfl, e, r, q, t⟩
  · obtain ⟨a, vs, ds', Fs, e1, e2, _⟩ := h
    cases e2
  · obtain ⟨a, kvs, Fs, e1, e2, ⟨_, e3, _⟩ | ⟨_, e3, _⟩⟩ := h <;> cases e3
  · obtain ⟨a, C, dx, fvs, c', fs', Fs, e1, e2, e3, e4, _, e6, e5⟩ := h
    cases e2
    exact ⟨a, C, dx, fvs, e1, e3, e4, e6, all3_repF e5⟩
end
mutual
def D.py : D → Option PyData
  | .non => some .none
  | .bl b => some (.bool b)
  | .int i => some (.int i)
  | .str x => some (.str x)
  | .lst xs => (D.pys xs).map .list
  | .tup xs => (D.pys xs).map .tuple
  | .ktp xs => (D.pys xs).map .tuple
  | .dct _ => none
  | .dtt _ => none
  | .obj _ _ => none
  | .cls _ => none
  | .klt _ => none
def D.pys : List D → Option (List PyData)
  | [] => some []
  | d :: ds => match D.py d, D.pys ds with
    | some p, some ps => some (p :: ps)
    | _, _ => none
end
section
variable {K : PySem.W.Frag} {G : Gx K} {O : Addr → Prop} {F : List Addr} {H : Hp}
mutual
theorem Rep.dp : ∀ {d : D} {v : V} {p : PyData}, Rep G O H v d → d.py = some p → Dp K H v p
  | .non, _, _, h, e => by cases h; cases e; exact .non
  | .bl b, _, _, h, e => by cases h; cases e; exact .bl b
  | .int i, _, _, h, e => by cases h; cases e; exact .int i
  | .str x, _, _, h, e => by cases h; cases e; exact .str x
  | .lst ds, _, _, h, e => by
    cases h with
    | lst r n t =>
      obtain ⟨ps, e1, e2⟩ := Option.map_eq_some_iff.mp (show (D.pys ds).map PyData.list = _ from e)
      cases e2
      exact .lst (.inl r) (Reps.dp t e1)
  | .tup ds, _, _, h, e => by
    cases h with
    | tup r n t =>
      obtain ⟨ps, e1, e2⟩ := Option.map_eq_some_iff.mp (show (D.pys ds).map PyData.tuple = _ from e)
      cases e2
      exact .tup (SqT.of r) (Reps.dp t e1)
  | .ktp ds, _, _, h, e => by
    cases h with
    | ktp r t =>
      obtain ⟨ps, e1, e2⟩ := Option.map_eq_some_iff.mp (show (D.pys ds).map PyData.tuple = _ from e)
      cases e2
      exact .tup r.sq (Reps.dp t e1)
    | ftp r n t =>
      obtain ⟨ps, e1, e2⟩ := Option.map_eq_some_iff.mp (show (D.pys ds).map PyData.tuple = _ from e)
      cases e2
      exact .tup r.sq (Reps.dp t e1)
  | .dct _, _, _, _, e => by cases e
  | .dtt _, _, _, _, e => by cases e
  | .obj _ _, _, _, _, e => by cases e
  | .cls _, _, _, _, e => by cases e
  | .klt _, _, _, _, e => by cases e
theorem Reps.dp : ∀ {ds : List D} {vs : List V} {ps : List PyData}, Reps G O H vs ds → D.pys ds = some ps → DpAll K H vs ps
  | [], _, _, h, e => by cases h; cases e; exact .nil
  | d :: ds, _, _, h, e => by
    cases h with
    | cons a t =>
      unfold D.pys at e
      split at e
      · rename_i p ps e1 e2
        cases e
        exact .cons (Rep.dp a e1) (Reps.dp t e2)
      · cases e
end
theorem BRep.dp {d : D} {v : V} {p : PyData} (h : BRep G O F H v d) (e : d.py = some p) : Dp K H v p := by
  cases d with
  | lst ds =>
    obtain ⟨ps, e1, e2⟩ := Option.map_eq_some_iff.mp (show (D.pys ds).map PyData.list = _ from e)
    cases e2
    obtain ⟨a, vs, e3, e4, e5⟩ := h.lst
    subst e3
    exact .lst (.inl e4) (e5.dp e1)
  | dct _ => cases e
  | dtt _ => cases e
  | obj _ _ => cases e
  | cls _ => cases e
  | klt _ => cases e
  | _ => exact (h.shared (by intro _ z; cases z) (by intro _; exact ⟨(by intro z; cases z), (by intro z; cases z)⟩) (by intro _ _ z; cases z)).dp e
end
def shp (p : PyData) : Bool := SeqAt.shaped p
def gEq (a b : D) : Option D := match a.py, b.py with
  | some p, some q => if shp p && shp q then some (.bl (PyData.eqv p q)) else none
  | _, _ => none
def gNe (a b : D) : Option D := match a.py, b.py with
  | some p, some q => if shp p && shp q then some (.bl (!PyData.eqv p q)) else none
  | _, _ => none
section
variable {K : PySem.W.Frag} {G : Gx K}
theorem oEq : OpP G (rEqD K) gEq := by
  intro O F H x y a b d al e ha hb Q k
  unfold gEq at e
  split at e
  · rename_i p q e1 e2
    split at e
    · rename_i hs
      cases e
      rw [Bool.and_eq_true] at hs
      exact ⟨p, q, ha.dp e1, hb.dp e2, hs.1, hs.2, k _ _ (Same.refl H) (.bl _)⟩
    · cases e
  · cases e
theorem oNe : OpP G (rNeD K) gNe := by
  intro O F H x y a b d al e ha hb Q k
  unfold gNe at e
  split at e
  · rename_i p q e1 e2
    split at e
    · rename_i hs
      cases e
      rw [Bool.and_eq_true] at hs
      exact ⟨p, q, ha.dp e1, hb.dp e2, hs.1, hs.2, k _ _ (Same.refl H) (.bl _)⟩
    · cases e
  · cases e
def gI (c : Int → Int → Bool) (g : Int → Int → D) (a b : D) : Option D := match a, b with
  | .int i, .int j => if c i j then some (g i j) else none
  | _, _ => none
def gI0 (g : Int → Int → D) (a b : D) : Option D := match a, b with
  | .int i, .int j => some (g i j)
  | _, _ => none
theorem oI0 {g : Int → Int → D} {gv : Int → Int → V} (hg : ∀ O H i j, Rep G O H (gv i j) (g i j)) : OpP G (rI0 gv) (gI0 g) := by
  intro O F H x y a b d al e ha hb Q k
  unfold gI0 at e
  split at e
  · rename_i i j
    cases e
    exact ⟨i, j, ha.int, hb.int, k _ _ (Same.refl H) (hg O H i j)⟩
  · cases e
def gSub : D → D → Option D := gI0 fun i j => .int (i - j)
def gGt : D → D → Option D := gI0 fun i j => .bl (decide (j < i))
def gGe : D → D → Option D := gI0 fun i j => .bl (decide (j ≤ i))
theorem oSub : OpP G (rI0 fun i j => .int (i - j)) gSub := oI0 fun _ _ _ _ => .int _
theorem oGt : OpP G (rI0 fun i j => .bl (decide (j < i))) gGt := oI0 fun _ _ _ _ => .bl _
theorem oGe : OpP G (rI0 fun i j => .bl (decide (j ≤ i))) gGe := oI0 fun _ _ _ _ => .bl _
def gLt (a b : D) : Option D := match a, b with
  | .int i, .int j => some (.bl (decide (i < j)))
  | .str i, .str j => some (.bl (decide (i.cps.toList < j.cps.toList)))
  | _, _ => none
def gLe (a b : D) : Option D := match a, b with
  | .int i, .int j => some (.bl (decide (i ≤ j)))
  | .str i, .str j => some (.bl (!decide (j.cps.toList < i.cps.toList)))
  | _, _ => none
theorem oLe : OpP G (fun x y H Q => (rI0 fun i j => .bl (decide (i ≤ j))) x y H Q ∨ (∃ i j, x = .str i ∧ y = .str j ∧ Q (.bl (!decide (j.cps.toList < i.cps.toList))) H)) gLe := by
  intro O F H x y a b d al e ha hb Q k
  unfold gLe at e
  split at e
  · cases e
    exact .inl ⟨_, _, ha.int, hb.int, k _ _ (Same.refl H) (.bl _)⟩
  · cases e
    exact .inr ⟨_, _, ha.str, hb.str, k _ _ (Same.refl H) (.bl _)⟩
  · cases e
def rCatR : R2 := fun x y H Q => ∃ l b xs zs, x = .ref l ∧ y = .ref b ∧ Rd H l (.lst xs) ∧ Rd H b (.lst zs) ∧ xs.length + zs.length ≤ sizeLine ∧ ∀ p, H p = none → Q (.ref p) (upd H p (.lst (xs ++ zs)))
theorem op_catR {X : Cx} : OpR X (binaryOp .Add) rCatR := by
  intro pins s σ H x y v u Q I rx ry h
  obtain ⟨l, b, xs, zs, rfl, rfl, hH, hB, hz, q⟩ := h
  cases rx
  cases ry
  obtain ⟨z, its, n, r, e⟩ := (show ObjOk X.prog X.w H s.heap l (.lst xs) from hH.ok I.hok)
  obtain ⟨z2, its2, n2, r2, e2⟩ := (show ObjOk X.prog X.w H s.heap b (.lst zs) from hB.ok I.hok)
  have l1 := r.length
  have l2 := r2.length
  refine PySem.P.add_list e e2 ?_ (by rw [List.size_toArray, List.size_toArray]; omega)
  have ea : its.toArray ++ its2.toArray = (its ++ its2).toArray := by simp
  rw [ea]
  exact ⟨.ref _, _, I.lnew (t' := s.toks) (r.append r2) (by rw [List.length_append]; omega), rfl, q _ I.fresh⟩
def rAdd4 (K : PySem.W.Frag) : R2 := fun x y H Q => (rI0 fun i j => .int (i + j)) x y H Q ∨ (∃ i j, x = .str i ∧ y = .str j ∧ i.length + j.length ≤ sizeLine ∧ Q (.str (i ++ j)) H) ∨ rCatA K x y H Q ∨ rCatR x y H Q
theorem op_add4 {X : Cx} : OpR X (binaryOp .Add) (rAdd4 X.K) := op_add.or (op_add_str.or (op_catA.or op_catR))
def gAdd (a b : D) : Option D := match a, b with
  | .int i, .int j => some (.int (i + j))
  | .str i, .str j => if i.length + j.length ≤ line then some (.str (i ++ j)) else none
  | .lst xs, .lst ys => if xs.length + ys.length ≤ line then some (.lst (xs ++ ys)) else none
  | a, b => match a.tpl, b.tpl with
    | some xs, some ys => if xs.length + ys.length ≤ line then (if xs.isEmpty then some b else if ys.isEmpty then some a else some (.tup (xs ++ ys))) else none
    | _, _ => none
theorem Reps.append {O : Addr → Prop} {H : Hp} : ∀ {vs us : List V} {ds es : List D}, Reps G O H vs ds → Reps G O H us es → Reps G O H (vs ++ us) (ds ++ es)
  | _, _, _, _, .nil, h => h
  | _, _, _, _, .cons a t, h => .cons a (Reps.append t h)
theorem isEmpty_reps {O : Addr → Prop} {H : Hp} {vs : List V} {ds : List D} (h : Reps G O H vs ds) : vs = [] ↔ ds = [] := by
  cases h with
  | nil => simp
  | cons _ _ => simp
theorem oAdd : OpP G (rAdd4 K) gAdd := by
  intro O F H x y a b d al e ha hb Q k
  unfold gAdd at e
  split at e
  · cases e
    exact .inl ⟨_, _, ha.int, hb.int, k _ _ (Same.refl H) (.int _)⟩
  · split at e
    · rename_i hl
      cases e
      exact .inr (.inl ⟨_, _, ha.str, hb.str, Nat.le_trans hl line_lt, k _ _ (Same.refl H) (.str _)⟩)
    · cases e
  · split at e
    · rename_i hl
      cases e
      obtain ⟨l, vs, e1, e2, e3⟩ := ha.lst
      obtain ⟨m, us, e4, e5, e6⟩ := hb.lst
      refine .inr (.inr (.inr ⟨l, m, vs, us, e1, e4, e2, e5, ?_, fun p hp => k _ _ (same_new hp) (.lst (.inl upd_same) (Al.no al hp) ((e3.append e6).keep (Kept.same (same_new hp))))⟩))
      rw [e3.length, e6.length]
      exact Nat.le_trans hl line_lt
    · cases e
  · split at e
    · rename_i xs ys t1 t2
      split at e
      · rename_i hl
        obtain ⟨l, vs, e1, e2, e3, r1⟩ := ha.tpl t1
        obtain ⟨m, us, e4, e5, e6, r2⟩ := hb.tpl t2
        have n1 := isEmpty_reps e3
        have n2 := isEmpty_reps e6
        refine .inr (.inr (.inl ⟨l, m, vs, us, e1, e4, e2, e5, by rw [e3.length, e6.length]; exact Nat.le_trans hl line_lt, fun z => ?_, fun z1 z2 => ?_, fun z1 z2 p hp => ?_⟩))
        · rw [show xs.isEmpty = true by rw [List.isEmpty_iff]; exact n1.mp z, if_pos rfl] at e
          cases e
          rw [← e4]
          exact k _ _ (Same.refl H) r2
        · rw [show xs.isEmpty = false by rw [← Bool.not_eq_true, List.isEmpty_iff]; exact fun q => z1 (n1.mpr q), if_neg (by decide), show ys.isEmpty = true by rw [List.isEmpty_iff]; exact n2.mp z2, if_pos rfl] at e
          cases e
          rw [← e1]
          exact k _ _ (Same.refl H) r1
        · rw [show xs.isEmpty = false by rw [← Bool.not_eq_true, List.isEmpty_iff]; exact fun q => z1 (n1.mpr q), if_neg (by decide), show ys.isEmpty = false by rw [← Bool.not_eq_true, List.isEmpty_iff]; exact fun q => z2 (n2.mpr q), if_neg (by decide)] at e
          cases e
          exact k _ _ (same_new hp) (.tup upd_same (Al.no al hp) ((e3.append e6).keep (Kept.same (same_new hp))))
      · cases e
    · cases e
def rInD2 (K : PySem.W.Frag) (neg : Bool) : R2 := fun x y H Q => ∃ d ds, Dp K H x d ∧ (Dp K H y (.list ds) ∨ Dp K H y (.tuple ds)) ∧ SeqAt.shaped d = true ∧ SeqAt.shaped (.list ds) = true ∧ Q (.bl (if neg then !(ds.any fun z => PyData.eqv z d) else ds.any fun z => PyData.eqv z d)) H
theorem op_inD2 {X : Cx} (hu : X.A.units + 65 < cLine) : OpR X (compareOp .In) (rInD2 X.K false) := by
  intro pins s σ H x y v u Q I rx ry h
  obtain ⟨d, ds, hd, he, sd, se, q⟩ := h
  obtain ⟨as, r1⟩ := Dp.reads I d x v hd rx
  rcases he with he | he
  · obtain ⟨bs, r2⟩ := Dp.reads I (.list ds) y u he ry
    exact SeqAt.in_list_reads r2 r1 (SeqAt.canLay_of_shaped se) (SeqAt.canLay_of_shaped sd) (room_in_shaped sd hu) ⟨.bl _, H, I, rfl, q⟩
  · obtain ⟨bs, r2⟩ := Dp.reads I (.tuple ds) y u he ry
    exact SeqAt.in_tuple_reads r2 r1 (SeqAt.canLay_of_shaped se) (SeqAt.canLay_of_shaped sd) (room_in_shaped sd hu) ⟨.bl _, H, I, rfl, q⟩
def rIn3 (K : PySem.W.Frag) (neg : Bool) : R2 := fun x y H Q => rInD2 K neg x y H Q ∨ ∃ (c : Nat) (z : Str), x = .str ⟨#[c]⟩ ∧ y = .str z ∧ Q (.bl (if neg then !decide (c ∈ z.cps.toList) else decide (c ∈ z.cps.toList))) H
theorem op_in3 {X : Cx} (hu : X.A.units + 65 < cLine) : OpR X (compareOp .In) (rIn3 X.K false) := (op_inD2 hu).or op_in_sign
def sign1 (x : Str) : Option Nat := match x.cps.toList with
  | [c] => some c
  | _ => none
def gInS (neg : Bool) (x y : D) : Option D := match y with
  | .str z => match x with
    | .str a => match sign1 a with
      | some c => some (.bl (if neg then !decide (c ∈ z.cps.toList) else decide (c ∈ z.cps.toList)))
      | none => none
    | _ => none
  | y => match y.seq with
    | some ds => match x.py, D.pys ds with
      | some p, some ps => if shp p && shp (.list ps) then some (.bl (if neg then !(ps.any fun z => PyData.eqv z p) else ps.any fun z => PyData.eqv z p)) else none
      | _, _ => none
    | none => none
theorem Dp.ofT {H : Hp} {v : V} {a : Addr} {vs : List V} {ps : List PyData} (e : v = .ref a) (h : SqT K H a vs) (t : DpAll K H vs ps) : Dp K H v (.tuple ps) := by
  subst e
  exact .tup h t
theorem sign1_eq {x : Str} {c : Nat} (h : sign1 x = some c) : x = ⟨#[c]⟩ := by
  unfold sign1 at h
  split at h
  · rename_i d e
    cases h
    obtain ⟨l⟩ := x
    have e : l.toList = [c] := e
    have e2 : l = #[c] := by
      rw [← Array.toArray_toList (xs := l), e]
    rw [e2]
  · cases h
theorem oInS {neg : Bool} : OpP G (rIn3 K neg) (gInS neg) := by
  intro O F H x y a b d al e ha hb Q k
  unfold gInS at e
  split at e
  · split at e
    · split at e
      · rename_i c hc
        cases e
        refine .inr ⟨c, _, ?_, hb.str, k _ _ (Same.refl H) (.bl _)⟩
        rw [ha.str, sign1_eq hc]
      · cases e
    · cases e
  · split at e
    · rename_i ds hs
      split at e
      · rename_i p ps e1 e2
        split at e
        · rename_i hh
          cases e
          rw [Bool.and_eq_true] at hh
          obtain ⟨l, vs, e3, e4, e5⟩ := hb.seq hs
          refine .inl ⟨p, ps, ha.dp e1, ?_, hh.1, hh.2, k _ _ (Same.refl H) (.bl _)⟩
          rcases e4 with e4 | e4
          · rw [e3]
            exact .inl (.lst e4 (e5.dp e2))
          · exact .inr (Dp.ofT e3 e4 (e5.dp e2))
        · cases e
      · cases e
    · cases e
end
end Pu
namespace Pu
open PySem L2 PySem.Spec PyProof.Rows Pw
section
variable {K : PySem.W.Frag} {G : Gx K} {O : Addr → Prop} {F : List Addr} {H : Hp}
theorem Reps.get : ∀ {vs : List V} {ds : List D} {i : Nat} {d : D}, Reps G O H vs ds → ds[i]? = some d → ∃ v, vs[i]? = some v ∧ Rep G O H v d
  | _, _, _, _, .nil, e => by simp at e
  | _, _, 0, _, .cons r _, e => by simp at e; subst e; exact ⟨_, rfl, r⟩
  | _, _, i + 1, d, .cons _ t, e => by
    obtain ⟨v, h1, h2⟩ := Reps.get (i := i) (d := d) t (by simpa using e)
    exact ⟨v, by simpa using h1, h2⟩
theorem Reps.atI {vs : List V} {ds : List D} {i : Int} {d : D} (h : Reps G O H vs ds) (e : atI ds i = some d) : ∃ v, L2.atI vs i = some v ∧ Rep G O H v d := by
  unfold L2.atI at e ⊢
  rw [h.length]
  cases j : ixN ds.length i with
  | none => rw [j] at e; cases e
  | some n =>
    rw [j] at e
    exact h.get e
def gIxS (a b : D) : Option D := match b with
  | .int i => match a with
    | .str z => if z.length ≤ line then (atI z.cps.toList i).map fun c => .str ⟨#[c]⟩ else none
    | a => match a.seq with
      | some ds => atI ds i
      | none => none
  | _ => none
theorem oIxS : OpP G (rIx K) gIxS := by
  intro O F H x y a b d al e ha hb Q k
  unfold gIxS at e
  split at e
  · rename_i i
    split at e
    · rename_i z
      split at e
      · rename_i hl
        obtain ⟨c, e1, e2⟩ := Option.map_eq_some_iff.mp e
        cases e2
        exact .inr (.inr ⟨z, i, c, ha.str, hb.int, Nat.le_trans hl line_lt, e1, k _ _ (Same.refl H) (.str _)⟩)
      · cases e
    · split at e
      · rename_i ds hs
        obtain ⟨p, vs, e1, e2, e3⟩ := ha.seq hs
        obtain ⟨v, e4, e5⟩ := e3.atI e
        rcases e2 with e2 | e2
        · exact .inl ⟨p, vs, i, v, e1, hb.int, e2, e4, k _ _ (Same.refl H) e5⟩
        · exact .inr (.inl ⟨p, vs, i, v, e1, hb.int, e2, e4, k _ _ (Same.refl H) e5⟩)
      · cases e
  · cases e
def hkEq (a b : D) : Bool := match a.key, b.key with
  | some x, some y => decide (x = y)
  | none, none => match a.tkey, b.tkey with
    | some x, some y => decide (x = y)
    | _, _ => false
  | _, _ => false
def dLook (kvs : List (D × D)) (k : D) : Option D := (kvs.find? fun e => hkEq e.1 k).map (·.2)
theorem key_kV {v : V} {d : D} {k : Key} (h : Rep G O H v d) (e : d.key = some k) : v = kV k := by
  cases h with
  | int i => cases e; rfl
  | str x => cases e; rfl
  | _ => cases e
theorem keys_kV : ∀ {ds : List D} {vs : List V} {ks : List Key}, Reps G O H vs ds → D.keys ds = some ks → vs = ks.map kV
  | [], _, _, h, e => by cases h; cases e; rfl
  | d :: ds, _, _, h, e => by
    cases h with
    | cons r t =>
      unfold D.keys at e
      split at e
      · rename_i k ks e1 e2
        cases e
        rw [List.map_cons, key_kV r e1, keys_kV t e2]
      · cases e
theorem tkey_kV {v : V} {d : D} {k : List Key} (h : Rep G O H v d) (e : d.tkey = some k) : ∃ b, v = .ref b ∧ H b = some (.tup (k.map kV)) := by
  cases h with
  | tup r n t =>
    have := keys_kV t e
    subst this
    exact ⟨_, rfl, r⟩
  | _ => cases e
theorem tkey_key {d : D} {k : List Key} (e : d.tkey = some k) : d.key = none := by
  cases d <;> first | rfl | cases e
theorem look_K {k : Key} {kd : D} (e : kd.key = some k) : ∀ {ks : List (Key × V)} {kvs : List (D × D)}, RepK G O H ks kvs → (∀ d, dLook kvs kd = some d → ∃ v, valV ks k = some v ∧ Rep G O H v d) ∧ (dLook kvs kd = none → valV ks k = none)
  | _, _, .nil => ⟨fun d h => (by cases h), fun _ => rfl⟩
  | _, _, .cons (k := k1) (kd := kd1) e1 r t => by
    have ih := look_K e t
    have hb : hkEq kd1 kd = decide (k1 = k) := by unfold hkEq; rw [e1, e]
    unfold dLook valV at ih ⊢
    by_cases hk : k1 = k
    · rw [List.find?_cons_of_pos (by rw [hb]; exact decide_eq_true hk), List.find?_cons_of_pos (by exact decide_eq_true hk)]
      exact ⟨fun d h => ⟨_, rfl, (by cases h; exact r)⟩, fun h => (by cases h)⟩
    · rw [List.find?_cons_of_neg (by rw [hb]; simpa using hk), List.find?_cons_of_neg (by simpa using hk)]
      exact ih
theorem look_T {k : List Key} {kd : D} (e : kd.tkey = some k) : ∀ {ks : List (List Key × V)} {kvs : List (D × D)}, RepT G O H ks kvs → (∀ d, dLook kvs kd = some d → ∃ v, valV ks k = some v ∧ Rep G O H v d) ∧ (dLook kvs kd = none → valV ks k = none)
  | _, _, .nil => ⟨fun d h => (by cases h), fun _ => rfl⟩
  | _, _, .cons (k := k1) (kd := kd1) e1 r t => by
    have ih := look_T e t
    have hb : hkEq kd1 kd = decide (k1 = k) := by unfold hkEq; rw [tkey_key e1, tkey_key e]; dsimp only; rw [e1, e]
    unfold dLook valV at ih ⊢
    by_cases hk : k1 = k
    · rw [List.find?_cons_of_pos (by rw [hb]; exact decide_eq_true hk), List.find?_cons_of_pos (by exact decide_eq_true hk)]
      exact ⟨fun d h => ⟨_, rfl, (by cases h; exact r)⟩, fun h => (by cases h)⟩
    · rw [List.find?_cons_of_neg (by rw [hb]; simpa using hk), List.find?_cons_of_neg (by simpa using hk)]
      exact ih
def gDGet (a k : D) : Option D := match a with
  | .dct kvs => if k.key.isSome then dLook kvs k else none
  | .dtt kvs => if k.tkey.isSome then dLook kvs k else none
  | _ => none
def dGet? (a k : D) : Option (Option D) := match a with
  | .dct kvs => if k.key.isSome then some (dLook kvs k) else none
  | .dtt kvs => if k.tkey.isSome then some (dLook kvs k) else none
  | _ => none
def OptRep {K : PySem.W.Frag} (G : Gx K) (O : Addr → Prop) (H : Hp) : Option V → Option D → Prop
  | some v, some d => Rep G O H v d
  | none, none => True
  | _, _ => False
theorem brep_key {v : V} {d : D} (h : BRep G O F H v d) (e : d.key.isSome = true ∨ d.tkey.isSome = true) : Rep G O H v d := by
  cases d with
  | lst _ => rcases e with e | e <;> cases e
  | dct _ => rcases e with e | e <;> cases e
  | dtt _ => rcases e with e | e <;> cases e
  | obj _ _ => rcases e with e | e <;> cases e
  | _ => exact h.shared (by intro _ z; cases z) (by intro _; exact ⟨(by intro z; cases z), (by intro z; cases z)⟩) (by intro _ _ z; cases z)
theorem dget_of {x y : V} {a k : D} {o : Option D} (ha : BRep G O F H x a) (hk : BRep G O F H y k) (e : dGet? a k = some o) : ∃ p r, x = .ref p ∧ DGet H p y r ∧ OptRep G O H r o := by
  unfold dGet? at e
  split at e
  · rename_i kvs
    split at e
    · rename_i hs
      cases e
      obtain ⟨p, ks, e1, e2, e3⟩ := ha.dct
      obtain ⟨q, hq⟩ := Option.isSome_iff_exists.mp hs
      have := key_kV (brep_key hk (.inl hs)) hq
      subst this
      refine ⟨p, valV ks q, e1, .inl ⟨ks, q, e2, rfl, rfl⟩, ?_⟩
      obtain ⟨l1, l2⟩ := look_K hq e3
      cases hl : dLook kvs k with
      | none => rw [l2 hl]; exact True.intro
      | some d =>
        obtain ⟨v, hv, r⟩ := l1 d hl
        rw [hv]
        exact r
    · cases e
  · rename_i kvs
    split at e
    · rename_i hs
      cases e
      obtain ⟨p, ks, e1, e2, e3⟩ := ha.dtt
      obtain ⟨q, hq⟩ := Option.isSome_iff_exists.mp hs
      obtain ⟨b, eb, hb⟩ := tkey_kV (brep_key hk (.inr hs)) hq
      subst eb
      refine ⟨p, valV ks q, e1, .inr ⟨ks, q, b, e2, rfl, hb, rfl⟩, ?_⟩
      obtain ⟨l1, l2⟩ := look_T hq e3
      cases hl : dLook kvs k with
      | none => rw [l2 hl]; exact True.intro
      | some d =>
        obtain ⟨v, hv, r⟩ := l1 d hl
        rw [hv]
        exact r
    · cases e
  · cases e
end
end Pu
namespace Pu
open PySem L2 PySem.Spec PyProof.Rows Pw
section
variable {K : PySem.W.Frag} {S : Sx K} {X : Cx} {e a b c o : Expr} {es : List Expr} {f fa fb fc : Env → R D} {fs : Env → R (List D)} {pos p apos cpos : Pos}
theorem PE.or2 {f1 f2 : Env → R D} (h1 : PE X e (lE S f1)) (h2 : PE X e (lE S f2)) (hf : ∀ ρ, f ρ = f1 ρ ∨ f ρ = f2 ρ) : PE X e (lE S f) := by
  refine ⟨fun pins s σ H Q I ⟨B, O, Fs, ρ, w, r⟩ => ?_⟩
  rcases hf ρ with h | h
  · exact h1.run pins s σ H Q I ⟨B, O, Fs, ρ, w, h ▸ r⟩
  · exact h2.run pins s σ H Q I ⟨B, O, Fs, ρ, w, h ▸ r⟩
theorem PT.or2 {f f1 f2 : Env → R Bool} (h1 : PT X e (lT S f1)) (h2 : PT X e (lT S f2)) (hf : ∀ ρ, f ρ = f1 ρ ∨ f ρ = f2 ρ) : PT X e (lT S f) := by
  refine ⟨fun pins s σ H Q I ⟨B, O, Fs, ρ, w, r⟩ => ?_⟩
  rcases hf ρ with h | h
  · exact h1.run pins s σ H Q I ⟨B, O, Fs, ρ, w, h ▸ r⟩
  · exact h2.run pins s σ H Q I ⟨B, O, Fs, ρ, w, h ▸ r⟩
def sB (f : Env → R D) : Env → R Bool := fun ρ => (f ρ).bind fun d ρ1 => match d with
  | .bl b => .ok b ρ1
  | _ => .bad
theorem lT_lE {σ : L2.St} {H : Hp} {Q : Bool → Hp → Prop} (h : lT S (sB f) σ H Q) : lE S f σ H fun x H' => ∃ k, x = .bl k ∧ Q k H' := by
  obtain ⟨B, O, Fs, ρ, w, run⟩ := h
  refine ⟨B, O, Fs, ρ, w, run.bind fun x ρ1 v O1 Fs1 H1 _ ev1 w1 r1 run1 => ?_⟩
  cases x with
  | bl k =>
    cases r1
    exact ⟨k, rfl, run1.use w1 rfl⟩
  | _ => exact run1.elim
theorem t_val (h : PE X e (lE S f)) (he : ∀ whole, isTrue e X.env whole = (do let v ← whole; standAt e.pos; holding [v] (truthy v)) := by intro _; rfl) : PT X e (lT S (sB f)) :=
  PT.of (pt_val h he) fun _ _ _ h => lT_lE h
theorem t_cmp {op : CmpOp} {r : R2} {g : D → D → Option D} (ho : OpR X (compareOp op) r) (hg : OpP S.G r g) (ha : PE X a (lB S fa)) (hb : PE X b (lB S fb)) (hm : behindInMarks op b = false) : PT X (.Compare a [op] [b] pos) (lT S (sB (sOp g fa fb))) :=
  PT.of (pt_cmpR ho ha hb hm) fun _ _ _ h => lOp hg (lT_lE h)
def sAnd (t u : Env → R Bool) : Env → R Bool := fun ρ => (t ρ).bind fun k ρ1 => if k then u ρ1 else .ok false ρ1
def sOr (t u : Env → R Bool) : Env → R Bool := fun ρ => (t ρ).bind fun k ρ1 => if k then .ok true ρ1 else u ρ1
def sNot (t : Env → R Bool) : Env → R Bool := fun ρ => (t ρ).bind fun k ρ1 => .ok (!k) ρ1
variable {ta tb : Env → R Bool} {rest : List Expr}
theorem w_and1 (ha : PT X a (lT S ta)) : PW X (.BoolOp .And [a] pos) (lT S ta) := pw_and1 ha
theorem w_or1 (ha : PT X a (lT S ta)) : PW X (.BoolOp .Or [a] pos) (lT S ta) := pw_or1 ha
theorem w_and (ha : PT X a (lT S ta)) (hb : PW X (.BoolOp .And (b :: rest) pos) (lT S tb)) : PW X (.BoolOp .And (a :: b :: rest) pos) (lT S (sAnd ta tb)) := by
  refine PW.of (pw_and ha hb) fun σ H Q ⟨B, O, Fs, ρ, w, run⟩ => ⟨B, O, Fs, ρ, w, run.bind fun k ρ1 v O1 Fs1 H1 _ ev1 w1 r1 run1 => ?_⟩
  cases (show v = k from r1)
  cases k with
  | true => rw [if_pos rfl] at run1 ⊢; exact ⟨B, O1, Fs1, ρ1, w1, run1⟩
  | false => rw [if_neg (by decide)] at run1 ⊢; exact run1.use w1 rfl
theorem w_or (ha : PT X a (lT S ta)) (hb : PW X (.BoolOp .Or (b :: rest) pos) (lT S tb)) : PW X (.BoolOp .Or (a :: b :: rest) pos) (lT S (sOr ta tb)) := by
  refine PW.of (pw_or ha hb) fun σ H Q ⟨B, O, Fs, ρ, w, run⟩ => ⟨B, O, Fs, ρ, w, run.bind fun k ρ1 v O1 Fs1 H1 _ ev1 w1 r1 run1 => ?_⟩
  cases (show v = k from r1)
  cases k with
  | true => rw [if_pos rfl] at run1 ⊢; exact run1.use w1 rfl
  | false => rw [if_neg (by decide)] at run1 ⊢; exact ⟨B, O1, Fs1, ρ1, w1, run1⟩
theorem t_not (ha : PT X a (lT S ta)) : PT X (.UnaryOp .Not a pos) (lT S (sNot ta)) := by
  refine PT.of (pt_not ha) fun σ H Q ⟨B, O, Fs, ρ, w, run⟩ => ⟨B, O, Fs, ρ, w, run.bind fun k ρ1 v O1 Fs1 H1 _ ev1 w1 r1 run1 => ?_⟩
  cases (show v = k from r1)
  exact run1.use w1 rfl
def sAndV (fa fb : Env → R D) : Env → R D := fun ρ => (fa ρ).bind fun d ρ1 => match d with
  | .bl true => fb ρ1
  | .bl false => .ok (.bl false) ρ1
  | _ => .bad
def sNotV (fa : Env → R D) : Env → R D := fun ρ => (fa ρ).bind fun d ρ1 => match d with
  | .bl k => .ok (.bl (!k)) ρ1
  | _ => .bad
theorem p_one {op} (h : PE X a (lE S fa)) : PE X (.BoolOp op [a] pos) (lE S fa) := pe_one h
theorem p_and (ha : PE X a (lE S fa)) (hb : PE X (.BoolOp .And (b :: rest) pos) (lE S fb)) : PE X (.BoolOp .And (a :: b :: rest) pos) (lE S (sAndV fa fb)) := by
  refine PE.of (pe_and ha hb) fun σ H Q ⟨B, O, Fs, ρ, w, run⟩ => ⟨B, O, Fs, ρ, w, run.bind fun k ρ1 v O1 Fs1 H1 _ ev1 w1 r1 run1 => ?_⟩
  cases k with
  | bl k =>
    cases r1
    refine ⟨k, rfl, ?_⟩
    cases k with
    | true => rw [if_pos rfl]; exact ⟨B, O1, Fs1, ρ1, w1, run1⟩
    | false => rw [if_neg (by decide)]; exact run1.use w1 (.bl _)
  | _ => exact run1.elim
theorem p_not (ha : PE X a (lE S fa)) : PE X (.UnaryOp .Not a pos) (lE S (sNotV fa)) := by
  refine PE.of (pe_not ha) fun σ H Q ⟨B, O, Fs, ρ, w, run⟩ => ⟨B, O, Fs, ρ, w, run.bind fun k ρ1 v O1 Fs1 H1 _ ev1 w1 r1 run1 => ?_⟩
  cases k with
  | bl k =>
    cases r1
    exact ⟨k, rfl, run1.use w1 (.bl _)⟩
  | _ => exact run1.elim
def sIf (t : Env → R Bool) (fa fb : Env → R D) : Env → R D := fun ρ => (t ρ).bind fun k ρ1 => if k then fa ρ1 else fb ρ1
theorem p_if (hc : PT X c (lT S ta)) (ha : PE X a (lE S fa)) (hb : PE X b (lE S fb)) : PE X (.IfExp c a b pos) (lE S (sIf ta fa fb)) := by
  refine PE.of (pe_ifExp hc ha hb) fun σ H Q ⟨B, O, Fs, ρ, w, run⟩ => ⟨B, O, Fs, ρ, w, run.bind fun k ρ1 v O1 Fs1 H1 _ ev1 w1 r1 run1 => ?_⟩
  cases (show v = k from r1)
  cases k with
  | true => rw [if_pos rfl] at run1 ⊢; exact ⟨B, O1, Fs1, ρ1, w1, run1⟩
  | false => rw [if_neg (by decide)] at run1 ⊢; exact ⟨B, O1, Fs1, ρ1, w1, run1⟩
def chainK (g' : D → D → Option D) (fc : Env → R D) (y z : D) (ρ3 : Env) : R D := match z with
  | .bl true => (fc ρ3).bind fun w ρ4 => R.of (g' y w) ρ4
  | .bl false => .ok (.bl false) ρ3
  | _ => .bad
def sChain (g g' : D → D → Option D) (fa fb fc : Env → R D) : Env → R D := fun ρ => (fa ρ).bind fun x ρ1 => (fb ρ1).bind fun y ρ2 => (R.of (g x y) ρ2).bind fun z ρ3 => chainK g' fc y z ρ3
theorem lChain {r r' : R2} {g g' : D → D → Option D} (hg : OpP S.G r g) (hg' : OpP S.G r' g') {σ : L2.St} {H : Hp} {Q : VK} (h : lE S (sChain g g' fa fb fc) σ H Q) : tChain r r' (lB S fa) (lB S fb) (lB S fc) σ H Q := by
  obtain ⟨B, O, Fs, ρ, w, run⟩ := h
  refine ⟨B, O, Fs, ρ, w, run.bind fun x ρ1 v O1 Fs1 H1 _ ev1 w1 r1 run1 => ⟨B, O1, Fs1, ρ1, w1, run1.bind fun y ρ2 u O2 Fs2 H2 _ ev2 w2 r2 run2 => ?_⟩⟩
  cases eg : g x y with
  | none => rw [eg] at run2; exact run2.elim
  | some z =>
    rw [eg] at run2
    refine hg O2 Fs2.flatten H2 v u x y z w2.al eg (r1.ev w1 ev2) r2 _ fun v3 H3 sm r3 => ?_
    have ev3 : Ev S.M O2 Fs2 H2 ρ2 O2 Fs2 H3 ρ2 := Ev.same sm
    have w3 := w2.same sm
    have run3 : Run S (vE S) (chainK g' fc y z ρ2) B O2 Fs2 H3 σ ρ2 Q := Run.shift run2 ev3
    cases z with
    | bl k =>
      cases r3
      refine ⟨k, rfl, ?_⟩
      cases k with
      | false => rw [if_neg (by decide)]; exact run3.use w3 (.bl _)
      | true =>
        rw [if_pos rfl]
        refine ⟨B, O2, Fs2, ρ2, w3, run3.bind fun x4 ρ4 v4 O4 Fs4 H4 _ ev4 w4 r4 run4 => ?_⟩
        exact run4.of (r := fun Q => r' u v4 H4 Q) w4 fun d e k => hg' O4 Fs4.flatten H4 u v4 y x4 d w4.al e ((r2.ev w2 ev3).ev w3 ev4) r4 Q k
    | _ => exact run3.elim
theorem t_chain {op op' : CmpOp} {r r' : R2} {g g' : D → D → Option D} (ho : OpR X (compareOp op) r) (ho' : OpR X (compareOp op') r') (hg : OpP S.G r g) (hg' : OpP S.G r' g') (ha : PE X a (lB S fa)) (hb : PE X b (lB S fb)) (hc : PE X c (lB S fc))
    (hm : lastMarks [op, op'] [b, c] = false := by with_unfolding_all rfl) : PT X (.Compare a [op, op'] [b, c] pos) (lT S (sB (sChain g g' fa fb fc))) :=
  PT.of (pt_chain ho ho' ha hb hc hm) fun _ _ _ h => lChain hg hg' (lT_lE h)
def D.isNon : D → Bool
  | .non => true
  | _ => false
def gNotN (x : D) : Option D := some (.bl (!x.isNon))
theorem brep_non {G : Gx K} {O : Addr → Prop} {F : List Addr} {H : Hp} {v : V} {d : D} (h : BRep G O F H v d) : decide (v = .non) = d.isNon := by
  have ref : ∀ {p : Addr}, decide (V.ref p = V.non) = false := by intro p; simp
  rcases h with h | ⟨p, _, _, h | h | h⟩
  · cases h <;> simp [D.isNon]
  · obtain ⟨a, vs, ds', Fs, e1, e2, _⟩ := h
    subst e1 e2
    simp [D.isNon]
  · obtain ⟨a, kvs, Fs, e1, e2, ⟨_, e3, _⟩ | ⟨_, e3, _⟩⟩ := h <;> (subst e1 e3; simp [D.isNon])
  · obtain ⟨a, C, dx, fvs, c, fs, Fs, e1, e2, _⟩ := h
    subst e1 e2
    simp [D.isNon]
theorem lNotN {σ : L2.St} {H : Hp} {Q : VK} (h : lE S (sUn gNotN fa) σ H Q) : tNotN (lB S fa) σ H Q :=
  lUn (r := fun x H Q => Q (.bl (!decide (x = .non))) H) (fun O F H x a d al e hb Q k => by
    cases e
    rw [brep_non hb]
    exact k _ _ (Same.refl H) (.bl _)) h
theorem t_notN {j pos'} (ha : PE X a (lB S fa)) : PT X (.Compare a [.IsNot] [.Constant .none j pos'] pos) (lT S (sB (sUn gNotN fa))) := PT.of (pt_cmp (pc_notN ha)) fun _ _ _ h => lNotN (lT_lE h)
def gIx (a b : D) : Option D := match a with
  | .dct _ => gDGet a b
  | .dtt _ => gDGet a b
  | _ => gIxS a b
theorem p_ixS (hK : X.K = K) (ha : PE X a (lB S fa)) (hb : PE X b (lB S fb)) (hs : PlainIx b) : PE X (.Subscript a b pos) (lE S (sOp gIxS fa fb)) := by
  subst hK
  exact PE.of (pe_ix ix_seq ha hb hs) fun _ _ _ h => lOp oIxS h
theorem gDGet_eq {x k d : D} (h : gDGet x k = some d) : dGet? x k = some (some d) := by
  unfold gDGet at h
  unfold dGet?
  split at h
  · split at h
    · rename_i hs
      rw [if_pos hs, h]
    · cases h
  · split at h
    · rename_i hs
      rw [if_pos hs, h]
    · cases h
  · cases h
theorem p_ixD (hu : X.A.units + 1 < cLine) (ha : PE X a (lB S fa)) (hb : PE X b (lB S fb)) (hs : NoSl b) : PE X (.Subscript a b pos) (lE S (sOp gDGet fa fb)) := by
  refine PE.of (pe_dget hu ha hb hs) fun σ H Q h => ?_
  refine lOp (r := fun x y H Q => ∃ a v, x = .ref a ∧ DGet H a y (some v) ∧ Q v H) ?_ h
  intro O F H x y a b d al e ha hb Q k
  obtain ⟨p, r, e1, e2, e3⟩ := dget_of ha hb (gDGet_eq e)
  cases r with
  | none => exact e3.elim
  | some v => exact ⟨p, v, e1, e2, k _ _ (Same.refl H) e3⟩
theorem sOp_or {g g1 g2 : D → D → Option D} (h : ∀ x, (∀ y, g x y = g1 x y) ∨ (∀ y, g x y = g2 x y)) (ρ : Env) : sOp g fa fb ρ = sOp g1 fa fb ρ ∨ sOp g fa fb ρ = sOp g2 fa fb ρ := by
  unfold sOp
  cases e : fa ρ with
  | ok x ρ1 =>
    rcases h x with h | h
    · exact .inl (by simp only [R.bind, h])
    · exact .inr (by simp only [R.bind, h])
  | ex x ρ1 => exact .inl rfl
  | bad => exact .inl rfl
theorem p_ix (hK : X.K = K) (hu : X.A.units + 1 < cLine) (ha : PE X a (lB S fa)) (hb : PE X b (lB S fb)) (hs : PlainIx b) : PE X (.Subscript a b pos) (lE S (sOp gIx fa fb)) :=
  PE.or2 (p_ixS hK ha hb hs) (p_ixD hu ha hb hs) (sOp_or fun x => by cases x <;> first | exact .inl fun _ => rfl | exact .inr fun _ => rfl)
def gInD (neg : Bool) (k a : D) : Option D := (dGet? a k).map fun o => .bl (if neg then !o.isSome else o.isSome)
def gIn (neg : Bool) (x y : D) : Option D := match y with
  | .dct _ => gInD neg x y
  | .dtt _ => gInD neg x y
  | _ => gInS neg x y
theorem sOp_or' {g g1 g2 : D → D → Option D} (h : ∀ y, (∀ x, g x y = g1 x y) ∨ (∀ x, g x y = g2 x y)) (ρ : Env) : sOp g fa fb ρ = sOp g1 fa fb ρ ∨ sOp g fa fb ρ = sOp g2 fa fb ρ := by
  unfold sOp
  cases e : fa ρ with
  | ok x ρ1 =>
    cases e2 : fb ρ1 with
    | ok y ρ2 =>
      rcases h y with h | h
      · exact .inl (by simp only [R.bind, e2, h])
      · exact .inr (by simp only [R.bind, e2, h])
    | ex x ρ1 => exact .inl (by simp only [R.bind, e2])
    | bad => exact .inl (by simp only [R.bind, e2])
  | ex x ρ1 => exact .inl rfl
  | bad => exact .inl rfl
theorem oInD {neg : Bool} {G : Gx K} : OpP G (fun y x H Q => ∃ a o, x = .ref a ∧ DGet H a y o ∧ Q (.bl (if neg then !o.isSome else o.isSome)) H) (gInD neg) := by
  intro O F H x y a b d al e ha hb Q k
  obtain ⟨o, e1, e2⟩ := Option.map_eq_some_iff.mp e
  obtain ⟨p, r, e3, e4, e5⟩ := dget_of hb ha e1
  have hs : r.isSome = o.isSome := by
    cases r with
    | none => cases o with
      | none => rfl
      | some _ => exact e5.elim
    | some _ => cases o with
      | none => exact e5.elim
      | some _ => rfl
  refine ⟨p, r, e3, e4, ?_⟩
  cases e2
  rw [hs]
  exact k _ _ (Same.refl H) (.bl _)
theorem p_inS (hK : X.K = K) (hu : X.A.units + 65 < cLine) (ha : PE X a (lB S fa)) (hb : PE X b (lB S fb)) (hm : behindInMarks .In b = false) : PE X (.Compare a [.In] [b] pos) (lE S (sOp (gInS false) fa fb)) := by
  subst hK
  exact p_cmp (op_in3 hu) oInS ha hb hm
theorem p_in (hK : X.K = K) (hu : X.A.units + 65 < cLine) (ha : PE X a (lB S fa)) (hb : PE X b (lB S fb)) (hm : behindInMarks .In b = false) : PE X (.Compare a [.In] [b] pos) (lE S (sOp (gIn false) fa fb)) :=
  PE.or2 (p_inS hK hu ha hb hm) (PE.of (pe_cmp (pc_din (by omega) ha hb) hm) fun _ _ _ h => lOp (g := gInD false) oInD h) (sOp_or' fun x => by cases x <;> first | exact .inl fun _ => rfl | exact .inr fun _ => rfl)
theorem t_inS (hK : X.K = K) (hu : X.A.units + 65 < cLine) (ha : PE X a (lB S fa)) (hb : PE X b (lB S fb)) (hm : behindInMarks .In b = false) : PT X (.Compare a [.In] [b] pos) (lT S (sB (sOp (gInS false) fa fb))) := by
  subst hK
  exact t_cmp (op_in3 hu) oInS ha hb hm
theorem sB_or {f f1 f2 : Env → R D} (h : ∀ ρ, f ρ = f1 ρ ∨ f ρ = f2 ρ) (ρ : Env) : sB f ρ = sB f1 ρ ∨ sB f ρ = sB f2 ρ := by
  unfold sB
  rcases h ρ with h | h
  · exact .inl (by rw [h])
  · exact .inr (by rw [h])
theorem t_in (hK : X.K = K) (hu : X.A.units + 65 < cLine) (ha : PE X a (lB S fa)) (hb : PE X b (lB S fb)) (hm : behindInMarks .In b = false) : PT X (.Compare a [.In] [b] pos) (lT S (sB (sOp (gIn false) fa fb))) :=
  PT.or2 (t_inS hK hu ha hb hm) (PT.of (pt_cmp (pc_din (by omega) ha hb) hm) fun _ _ _ h => lOp (g := gInD false) oInD (lT_lE h)) (sB_or (sOp_or' fun x => by cases x <;> first | exact .inl fun _ => rfl | exact .inr fun _ => rfl))
end
end Pu
namespace Pu
open PySem L2 PySem.Spec PyProof.Rows Pw
section
variable {K : PySem.W.Frag} {S : Sx K} {X : Cx} {e a b c o : Expr} {es : List Expr} {f fa fb fc : Env → R D} {fs : Env → R (List D)} {pos p apos cpos : Pos}
def gFld (n : Str) : D → Option D
  | .obj _ fs => fs.lookup n
  | _ => none
theorem repF_look {G : Gx K} {O : Addr → Prop} {H : Hp} {n : Str} {d : D} : ∀ {fvs : List (Str × V)} {fs : List (Str × D)}, RepF G O H fvs fs → fs.lookup n = some d → ∃ v, fvs.lookup n = some v ∧ Rep G O H v d ∧ n ∈ fs.map (·.1)
  | _, _, .nil, e => by cases e
  | (m, v) :: _, _, .cons r t, e => by
    by_cases hn : n = m
    · subst hn
      rw [List.lookup_cons_self] at e ⊢
      cases e
      exact ⟨v, rfl, r, by simp⟩
    · have hb : (n == m) = false := beq_eq_false_iff_ne.mpr hn
      rw [List.lookup_cons, hb] at e ⊢
      obtain ⟨u, h1, h2, h3⟩ := repF_look t e
      exact ⟨u, h1, h2, List.mem_cons_of_mem _ h3⟩
theorem p_fld {n : Str} (hK : X.K = K) (ha : PE X e (lB S fa)) (hb : attributeBase e n X.env (eval e X.env) = eval e X.env) : PE X (.Attribute e n pos) (lE S (sUn (gFld n) fa)) := by
  subst hK
  refine PE.of (pe_fld ha hb) fun σ H Q h => ?_
  refine lUn (r := fun x H1 Q => ∃ a C dx fs v, x = .ref a ∧ H1 a = some (.ins C dx fs) ∧ Cls X.K C ∧ NoAttr X.K C n ∧ fs.lookup n = some v ∧ Q v H1) ?_ h
  intro O F H x a d al e hb Q k
  cases a with
  | obj c fs =>
    obtain ⟨a, C, dx, fvs, e1, e2, e3, e4, e5⟩ := hb.obj
    obtain ⟨v, h1, h2, h3⟩ := repF_look e5 e
    exact ⟨a, C, dx, fvs, v, e1, e3, (S.G.oc e2).cl, e4 n h3, h1, k _ _ (Same.refl H) h2⟩
  | _ => cases e
theorem p_callB {id : String} {x : Str} {r : List V → Hp → VK → Prop} {g : List D → Option D} (hc : CallR X (.builtin id) r) (hg : CallP S.G r g) (hgl : Gl X x) (hm : X.mg x = none) (hv : bootBuiltins x = some (.builtin id)) (ha : PA X (e :: es) (lBs S fs)) (hn : x ≠ "__name__" := by decide) (hdb : (x == ("__debug__" : Str)) = false := by decide)
    (he : starEach (e :: es) X.env = (false, eval e X.env) :: starEach es X.env := by rfl) (hpl : (backTo pos (starEach es X.env)).any (·.1) = false := by rfl) : PE X (.Call (.Name x p) (e :: es) [] pos) (lE S (sAs g fs)) :=
  PE.of (pe_callB hc hgl hm hv ha hn hdb he hpl) fun _ _ _ h => lCall hg h
theorem p_callT {T : String} {x : Str} {r : List V → Hp → VK → Prop} {g : List D → Option D} (hc : CallR X (.type T) r) (hg : CallP S.G r g) (hgl : Gl X x) (hm : X.mg x = none) (hv : bootBuiltins x = some (.type T)) (ha : PA X (e :: es) (lBs S fs)) (hn : x ≠ "__name__" := by decide) (hdb : (x == ("__debug__" : Str)) = false := by decide)
    (he : starEach (e :: es) X.env = (false, eval e X.env) :: starEach es X.env := by rfl) (hpl : (backTo pos (starEach es X.env)).any (·.1) = false := by rfl) : PE X (.Call (.Name x p) (e :: es) [] pos) (lE S (sAs g fs)) :=
  PE.of (pe_callTy hc hgl hm hv ha hn hdb he hpl) fun _ _ _ h => lCall hg h
theorem breps1 {G : Gx K} {O : Addr → Prop} {F : List Addr} {H : Hp} {vs : List V} {d : D} (h : BReps G O F H vs [d]) : ∃ v, vs = [v] ∧ BRep G O F H v d := by
  cases h with
  | cons r t => cases t; exact ⟨_, rfl, r⟩
theorem breps2 {G : Gx K} {O : Addr → Prop} {F : List Addr} {H : Hp} {vs : List V} {d e : D} (h : BReps G O F H vs [d, e]) : ∃ v w, vs = [v, w] ∧ BRep G O F H v d ∧ BRep G O F H w e := by
  cases h with
  | cons r t =>
    obtain ⟨w, e, r2⟩ := breps1 t
    subst e
    exact ⟨_, w, rfl, r, r2⟩
def g1 (g : D → Option D) : List D → Option D
  | [d] => g d
  | _ => none
def g2 (g : D → D → Option D) : List D → Option D
  | [d, e] => g d e
  | _ => none
theorem c1 {G : Gx K} {r : List V → Hp → VK → Prop} {g : D → Option D} (h : UnP G (fun x => r [x]) g) : CallP G r (g1 g) := by
  intro O F H xs as d al e hb Q k
  match as, e with
  | [z], e =>
    obtain ⟨v, e1, r1⟩ := breps1 hb
    subst e1
    exact h O F H v z d al e r1 Q k
theorem c2 {G : Gx K} {r : List V → Hp → VK → Prop} {g : D → D → Option D} (h : OpP G (fun x y => r [x, y]) g) : CallP G r (g2 g) := by
  intro O F H xs as d al e hb Q k
  match as, e with
  | [z, y], e =>
    obtain ⟨v, w, e1, r1, r2⟩ := breps2 hb
    subst e1
    exact h O F H v w z y d al e r1 r2 Q k
def gLen : D → Option D
  | .str x => if x.length ≤ line then some (.int x.length) else none
  | .dct kvs => some (.int kvs.length)
  | .dtt kvs => some (.int kvs.length)
  | d => d.seq.map fun ds => .int ds.length
def rLen (K : PySem.W.Frag) : List V → Hp → VK → Prop := fun xs H Q => (∃ p ys, xs = [.ref p] ∧ (SqL K H p ys ∨ SqT K H p ys) ∧ Q (.int ys.length) H) ∨ (∃ z, xs = [.str z] ∧ z.length ≤ sizeLine ∧ Q (.int z.length) H) ∨
  (∃ a kvs, xs = [V.ref a] ∧ Rd H a (.dK kvs) ∧ Q (.int kvs.length) H) ∨ ∃ (p : Addr) (kvs : List (List Key × V)), xs = [.ref p] ∧ Rd H p (.dT kvs) ∧ Q (.int ((kvs.length : Nat) : Int)) H
theorem call_lenA : CallR X (.builtin "len") (rLen X.K) := by
  refine call_len_seq.or (call_len_str.or (CallR.or ?_ ?_))
  · intro pins s σ H xs us Q I r h
    obtain ⟨a, kvs, rfl, ha, q⟩ := h
    obtain ⟨u, rfl, ru⟩ := vals1 r
    cases ru
    exact d_len I ha fun t s' I' => ⟨.int kvs.length, H, I', ⟨t, rfl⟩, q⟩
  · intro pins s σ H xs us Q I r h
    obtain ⟨p, kvs, rfl, hp, q⟩ := h
    obtain ⟨u, rfl, rx⟩ := vals1 r
    obtain rfl : u = .ref p := rx
    obtain ⟨z, hd, ys, rel, dd⟩ := dt_rd I.hok hp
    have hl : kvs.length = ys.length := Paired.length rel
    refine call_len_dictH hd dd (by rw [← hl]; rw [sizeLine_eq] at z; omega) ?_
    rw [← hl]
    exact ⟨.int ((kvs.length : Nat) : Int), H, I.tok _, ⟨_, rfl⟩, q⟩
theorem RepK.length {G : Gx K} {O : Addr → Prop} {H : Hp} : ∀ {ks : List (Key × V)} {kvs : List (D × D)}, RepK G O H ks kvs → ks.length = kvs.length
  | _, _, .nil => rfl
  | _, _, .cons _ _ t => by rw [List.length_cons, List.length_cons, RepK.length t]
theorem RepT.length {G : Gx K} {O : Addr → Prop} {H : Hp} : ∀ {ks : List (List Key × V)} {kvs : List (D × D)}, RepT G O H ks kvs → ks.length = kvs.length
  | _, _, .nil => rfl
  | _, _, .cons _ _ t => by rw [List.length_cons, List.length_cons, RepT.length t]
theorem oLen {G : Gx K} : CallP G (rLen K) (g1 gLen) := by
  refine c1 fun O F H x a d al e hb Q k => ?_
  have seqc : ∀ ds, a.seq = some ds → d = .int ds.length → rLen K [x] H Q := fun ds hs ed => by
    obtain ⟨p, vs, e1, e2, e3⟩ := hb.seq hs
    refine .inl ⟨p, vs, by rw [e1], e2, ?_⟩
    rw [e3.length]
    subst ed
    exact k _ _ (Same.refl H) (.int _)
  cases a with
  | str z =>
    unfold gLen at e
    dsimp only at e
    split at e
    · rename_i hl
      cases e
      exact .inr (.inl ⟨z, by rw [hb.str], Nat.le_trans hl line_lt, k _ _ (Same.refl H) (.int _)⟩)
    · cases e
  | dct kvs =>
    cases e
    obtain ⟨p, ks, e1, e2, e3⟩ := hb.dct
    refine .inr (.inr (.inl ⟨p, ks, by rw [e1], e2, ?_⟩))
    rw [e3.length]
    exact k _ _ (Same.refl H) (.int _)
  | dtt kvs =>
    cases e
    obtain ⟨p, ks, e1, e2, e3⟩ := hb.dtt
    refine .inr (.inr (.inr ⟨p, ks, by rw [e1], e2, ?_⟩))
    rw [e3.length]
    exact k _ _ (Same.refl H) (.int _)
  | lst ds => cases e; exact seqc ds rfl rfl
  | tup ds => cases e; exact seqc ds rfl rfl
  | ktp ds => cases e; exact seqc ds rfl rfl
  | _ => cases e
theorem p_len (hK : X.K = K) (hm : X.mg "len" = none) (ha : PA X [e] (lBs S fs)) (hgl : Gl X "len") (he : starEach (e :: []) X.env = (false, eval e X.env) :: starEach [] X.env := by rfl) : PE X (.Call (.Name "len" p) [e] [] pos) (lE S (sAs (g1 gLen) fs)) := by
  subst hK
  exact p_callB call_lenA oLen hgl hm (by decide +kernel) ha (by decide) (by decide) he (by rfl)
def D.bls : List D → Option (List Bool)
  | [] => some []
  | .bl b :: ds => (D.bls ds).map (b :: ·)
  | _ => none
def D.ints : List D → Option (List Int)
  | [] => some []
  | .int b :: ds => (D.ints ds).map (b :: ·)
  | _ => none
def D.strs : List D → Option (List Str)
  | [] => some []
  | .str b :: ds => (D.strs ds).map (b :: ·)
  | _ => none
theorem reps_bls {G : Gx K} {O : Addr → Prop} {H : Hp} : ∀ {ds : List D} {vs : List V} {bs : List Bool}, Reps G O H vs ds → D.bls ds = some bs → vs = bs.map V.bl
  | [], _, _, h, e => by cases h; cases e; rfl
  | d :: ds, _, _, h, e => by
    cases h with
    | cons r t =>
      cases r <;> try cases e
      obtain ⟨bs, e1, e2⟩ := Option.map_eq_some_iff.mp e
      cases e2
      rw [List.map_cons, reps_bls t e1]
theorem reps_ints {G : Gx K} {O : Addr → Prop} {H : Hp} : ∀ {ds : List D} {vs : List V} {bs : List Int}, Reps G O H vs ds → D.ints ds = some bs → vs = bs.map V.int
  | [], _, _, h, e => by cases h; cases e; rfl
  | d :: ds, _, _, h, e => by
    cases h with
    | cons r t =>
      cases r <;> try cases e
      obtain ⟨bs, e1, e2⟩ := Option.map_eq_some_iff.mp e
      cases e2
      rw [List.map_cons, reps_ints t e1]
theorem reps_strs {G : Gx K} {O : Addr → Prop} {H : Hp} : ∀ {ds : List D} {vs : List V} {bs : List Str}, Reps G O H vs ds → D.strs ds = some bs → vs = bs.map V.str
  | [], _, _, h, e => by cases h; cases e; rfl
  | d :: ds, _, _, h, e => by
    cases h with
    | cons r t =>
      cases r <;> try cases e
      obtain ⟨bs, e1, e2⟩ := Option.map_eq_some_iff.mp e
      cases e2
      rw [List.map_cons, reps_strs t e1]
def gAll : D → Option D
  | .lst ds => (D.bls ds).map fun bs => .bl (bs.all id)
  | _ => none
theorem oAll {G : Gx K} : CallP G (rAll K) (g1 gAll) := by
  refine c1 fun O F H x a d al e hb Q k => ?_
  cases a with
  | lst ds =>
    obtain ⟨bs, e1, e2⟩ := Option.map_eq_some_iff.mp e
    cases e2
    obtain ⟨p, vs, e3, e4, e5⟩ := hb.lst
    exact ⟨p, bs, by rw [e3], by rw [← reps_bls e5 e1]; exact .inl e4, k _ _ (Same.refl H) (.bl _)⟩
  | _ => cases e
theorem p_all (hK : X.K = K) (hcm : X.calm = true) (hm : X.mg "all" = none) (ha : PA X [e] (lBs S fs)) (hgl : Gl X "all") (he : starEach (e :: []) X.env = (false, eval e X.env) :: starEach [] X.env := by rfl) : PE X (.Call (.Name "all" p) [e] [] pos) (lE S (sAs (g1 gAll) fs)) := by
  subst hK
  exact p_callB (cr_all hcm) oAll hgl hm (by decide +kernel) ha (by decide) (by decide) he (by rfl)
def gListOf (d : D) : Option D := d.seq.map .lst
def gTupleOf (d : D) : Option D := match d with
  | .lst ds => some (.tup ds)
  | .tup ds => some (.tup ds)
  | .ktp ds => some (.ktp ds)
  | _ => none
theorem oTupleOf {G : Gx K} : CallP G (fun xs H Q => ∃ p ys, xs = [.ref p] ∧ ((SqL K H p ys ∧ ∀ l, H l = none → Q (.ref l) (upd H l (.tup ys))) ∨ (SqT K H p ys ∧ Q (.ref p) H))) (g1 gTupleOf) := by
  refine c1 fun O F H x a d al e hb Q k => ?_
  cases a with
  | lst ds =>
    cases e
    obtain ⟨p, vs, e3, e4, e5⟩ := hb.lst
    exact ⟨p, vs, by rw [e3], .inl ⟨.inl e4, fun l hl => k _ _ (same_new hl) (.tup upd_same (Al.no al hl) (e5.keep (Kept.same (same_new hl))))⟩⟩
  | tup ds =>
    cases e
    obtain ⟨p, vs, e3, e4, e5, e6⟩ := hb.tpl rfl
    subst e3
    exact ⟨p, vs, rfl, .inr ⟨e4, k _ _ (Same.refl H) e6⟩⟩
  | ktp ds =>
    cases e
    obtain ⟨p, vs, e3, e4, e5, e6⟩ := hb.tpl rfl
    subst e3
    exact ⟨p, vs, rfl, .inr ⟨e4, k _ _ (Same.refl H) e6⟩⟩
  | _ => cases e
theorem p_tupleOf (hK : X.K = K) (hm : X.mg "tuple" = none) (ha : PA X [e] (lBs S fs)) (hgl : Gl X "tuple") (he : starEach (e :: []) X.env = (false, eval e X.env) :: starEach [] X.env := by rfl) : PE X (.Call (.Name "tuple" p) [e] [] pos) (lE S (sAs (g1 gTupleOf) fs)) := by
  subst hK
  exact p_callT call_tuple_of oTupleOf hgl hm (by decide +kernel) ha (by decide) (by decide) he (by rfl)
def gStr1 : D → Option D
  | .int i => if i.natAbs.log2 < 1920 then some (.str (toString i)) else none
  | .str a => some (.str a)
  | _ => none
theorem oStr1 {G : Gx K} : CallP G (fun xs H Q => (∃ i, xs = [.int i] ∧ i.natAbs.log2 < 1920 ∧ Q (.str (toString i)) H) ∨ ∃ a, xs = [.str a] ∧ Q (.str a) H) (g1 gStr1) := by
  refine c1 fun O F H x a d al e hb Q k => ?_
  cases a with
  | int i =>
    unfold gStr1 at e
    dsimp only at e
    split at e
    · rename_i hl
      cases e
      exact .inl ⟨i, by rw [hb.int], hl, k _ _ (Same.refl H) (.str _)⟩
    · cases e
  | str z => cases e; exact .inr ⟨z, by rw [hb.str], k _ _ (Same.refl H) (.str _)⟩
  | _ => cases e
theorem p_str1 (hm : X.mg "str" = none) (ha : PA X [e] (lBs S fs)) (hgl : Gl X "str") (he : starEach (e :: []) X.env = (false, eval e X.env) :: starEach [] X.env := by rfl) : PE X (.Call (.Name "str" p) [e] [] pos) (lE S (sAs (g1 gStr1) fs)) :=
  p_callT (call_str_int.or SkE.call_str_str) oStr1 hgl hm (by decide +kernel) ha (by decide) (by decide) he (by rfl)
def gMax2 : D → D → Option D := gI0 fun i j => .int (if j > i then j else i)
def gMin2 : D → D → Option D := gI0 fun i j => .int (if j < i then j else i)
theorem p_max2 (hcm : X.calm = true) (hm : X.mg "max" = none) (ha : PA X [e, b] (lBs S fs)) (hgl : Gl X "max") (he : starEach (e :: [b]) X.env = (false, eval e X.env) :: starEach [b] X.env := by rfl) (hpl : (backTo pos (starEach [b] X.env)).any (·.1) = false := by rfl) : PE X (.Call (.Name "max" p) [e, b] [] pos) (lE S (sAs (g2 gMax2) fs)) :=
  p_callB (call_max2 hcm) (c2 fun O F H x y a b d al e ha hb Q k => by
    unfold gMax2 gI0 at e
    split at e
    · cases e; exact ⟨_, _, by rw [ha.int, hb.int], k _ _ (Same.refl H) (.int _)⟩
    · cases e) hgl hm (by decide +kernel) ha (by decide) (by decide) he hpl
theorem p_min2 (hcm : X.calm = true) (hm : X.mg "min" = none) (ha : PA X [e, b] (lBs S fs)) (hgl : Gl X "min") (he : starEach (e :: [b]) X.env = (false, eval e X.env) :: starEach [b] X.env := by rfl) (hpl : (backTo pos (starEach [b] X.env)).any (·.1) = false := by rfl) : PE X (.Call (.Name "min" p) [e, b] [] pos) (lE S (sAs (g2 gMin2) fs)) :=
  p_callB (call_min2 hcm) (c2 fun O F H x y a b d al e ha hb Q k => by
    unfold gMin2 gI0 at e
    split at e
    · cases e; exact ⟨_, _, by rw [ha.int, hb.int], k _ _ (Same.refl H) (.int _)⟩
    · cases e) hgl hm (by decide +kernel) ha (by decide) (by decide) he hpl
end
end Pu
namespace Pu
open PySem L2 PySem.Spec PyProof.Rows Pw
theorem mem_set_flat {Fs : List (List Addr)} {j : Nat} {F' : List Addr} {b : Addr} (h : b ∈ (Fs.set j F').flatten) : b ∈ F' ∨ ∃ i F, i ≠ j ∧ Fs[i]? = some F ∧ b ∈ F := by
  obtain ⟨F, hF, hb⟩ := List.mem_flatten.mp h
  obtain ⟨i, hi⟩ := List.getElem?_of_mem hF
  by_cases e : i = j
  · subst e
    rw [List.getElem?_set_self' ] at hi
    cases q : Fs[i]? with
    | none => rw [q] at hi; cases hi
    | some G => rw [q] at hi; cases hi; exact .inl hb
  · rw [List.getElem?_set_ne (Ne.symm e)] at hi
    exact .inr ⟨i, F, e, hi, hb⟩
theorem disj_flat : ∀ {Fs : List (List Addr)}, Fs.flatten.Nodup → ∀ {i j : Nat} {F F' : List Addr}, i ≠ j → Fs[i]? = some F → Fs[j]? = some F' → ∀ b ∈ F, b ∉ F'
  | [], _, _, _, _, _, _, e, _ => by simp at e
  | G :: Gs, nd, i, j, F, F', hij, e1, e2 => by
    rw [List.flatten_cons, List.nodup_append] at nd
    intro b hb hb'
    cases i with
    | zero =>
      cases j with
      | zero => exact hij rfl
      | succ j =>
        cases e1
        exact nd.2.2 b hb b (mem_flat (List.mem_of_getElem? (by simpa using e2)) hb') rfl
    | succ i =>
      cases j with
      | zero =>
        cases e2
        exact nd.2.2 b hb' b (mem_flat (List.mem_of_getElem? (by simpa using e1)) hb) rfl
      | succ j => exact disj_flat (i := i) (j := j) nd.2.1 (by omega) (by simpa using e1) (by simpa using e2) b hb hb'
theorem nodup_part : ∀ {Fs : List (List Addr)}, Fs.flatten.Nodup → ∀ {i : Nat} {F : List Addr}, Fs[i]? = some F → F.Nodup
  | [], _, _, _, e => by simp at e
  | G :: Gs, nd, i, F, e => by
    rw [List.flatten_cons, List.nodup_append] at nd
    cases i with
    | zero => cases e; exact nd.1
    | succ i => exact nodup_part nd.2.1 (by simpa using e)
theorem nodup_set : ∀ {Fs : List (List Addr)} {j : Nat} {F' : List Addr}, Fs.flatten.Nodup → F'.Nodup → (∀ i F, i ≠ j → Fs[i]? = some F → ∀ b ∈ F', b ∉ F) → (Fs.set j F').flatten.Nodup
  | [], _, _, nd, _, _ => nd
  | G :: Gs, 0, F', nd, n', h => by
    rw [List.flatten_cons, List.nodup_append] at nd
    rw [List.set_cons_zero, List.flatten_cons, List.nodup_append]
    refine ⟨n', nd.2.1, fun a ha b hb e => ?_⟩
    subst e
    obtain ⟨F, hF, hb⟩ := List.mem_flatten.mp hb
    obtain ⟨i, hi⟩ := List.getElem?_of_mem hF
    exact h (i + 1) F (by omega) (by simpa using hi) a ha hb
  | G :: Gs, j + 1, F', nd, n', h => by
    rw [List.flatten_cons, List.nodup_append] at nd
    rw [List.set_cons_succ, List.flatten_cons, List.nodup_append]
    refine ⟨nd.1, nodup_set nd.2.1 n' (fun i F hi e => h (i + 1) F (by omega) (by simpa using e)), fun a ha b hb e => ?_⟩
    subst e
    rcases mem_set_flat hb with hb | ⟨i, F, hi, e, hb⟩
    · exact h 0 G (by omega) rfl a hb ha
    · exact nd.2.2 a ha a (mem_flat (List.mem_of_getElem? e) hb) rfl
section
variable {K : PySem.W.Frag} {G : Gx K} {B O O' : Addr → Prop} {Fs Fs' : List (List Addr)} {H H' : Hp} {σ : L2.St} {ρ ρ' : Env} {M : List Md}
structure Upd (j : Nat) (O : Addr → Prop) (F : List Addr) (H : Hp) (O' : Addr → Prop) (F' : List Addr) (H' : Hp) : Prop where
  chg : ∀ b o, H b = some o → b ∉ F → H' b = some o
  dom : ∀ b o, H b = some o → ∃ o', H' b = some o'
  mono : ∀ b, O b → O' b
  grow : ∀ b, O' b → O b ∨ H b = none
  al : Al O' H'
  fgrow : ∀ b ∈ F', b ∈ F ∨ H b = none
  sub : ∀ b ∈ F', O' b
  nd : F'.Nodup
theorem Wd.put {j : Nat} {m : Md} {t : Shp} {v : V} {d' : D} {F F' : List Addr} (w : Wd G B O Fs H σ ρ M) (hm : M[j]? = some m) (ht : m = .ow t ∨ m = .op t) (hv : σ[j]? = some (some v)) (hF : Fs[j]? = some F) (u : Upd j O F H O' F' H') (ow : Own G O' H' t v d' F') :
    Wd G B O' (Fs.set j F') H' σ (ρ.set j (some d')) M ∧ Ev M O Fs H ρ O' (Fs.set j F') H' (ρ.set j (some d')) := by
  have hj : j < M.length := (List.getElem?_eq_some_iff.mp hm).1
  have hF0 : ∀ b ∈ F, b ∈ Fs.flatten := fun b hb => mem_flat (List.mem_of_getElem? hF) hb
  have ev : Ev M O Fs H ρ O' (Fs.set j F') H' (ρ.set j (some d')) := by
    refine ⟨fun b o h n => u.chg b o h fun z => n (hF0 b z), u.dom, u.mono, u.grow, fun b hb => ?_, fun i m' hi ho => ?_⟩
    · rcases mem_set_flat hb with hb | ⟨i, F1, _, e, hb⟩
      · exact (u.fgrow b hb).imp (hF0 b) id
      · exact .inl (mem_flat (List.mem_of_getElem? e) hb)
    · have : i ≠ j := fun z => by
        subst z
        rw [hm] at hi
        cases hi
        rcases ht with rfl | rfl <;> cases ho
      rw [List.getElem?_set_ne (Ne.symm this)]
  refine ⟨⟨?_, fun a ha => ?_, fun a h => u.mono a (w.bo a h), u.al, w.ls, by rw [List.length_set]; exact w.lr, by rw [List.length_set]; exact w.lf, fun i m' v' d f h1 h2 h3 h4 => ?_⟩, ev⟩
  · refine nodup_set w.nd u.nd fun i F1 hi e b hb hb1 => ?_
    rcases u.fgrow b hb with z | z
    · exact disj_flat w.nd hi e hF b hb1 z
    · obtain ⟨o, ho⟩ := w.al b (w.sub b (mem_flat (List.mem_of_getElem? e) hb1))
      rw [z] at ho
      cases ho
  · rcases mem_set_flat ha with ha | ⟨i, F1, _, e, hb⟩
    · exact u.sub a ha
    · exact u.mono a (w.sub a (mem_flat (List.mem_of_getElem? e) hb))
  · by_cases e : i = j
    · subst e
      rw [hm] at h1
      cases h1
      rw [List.getElem?_set_self (by rw [w.lr]; exact hj)] at h3
      rw [List.getElem?_set_self (by rw [w.lf]; exact hj)] at h4
      rw [hv] at h2
      cases h2
      cases h3
      cases h4
      rcases ht with rfl | rfl
      · refine ⟨fun a ha => ?_, v, d', rfl, rfl, ow⟩
        obtain ⟨v0, d0, F0, e1, e2, e3, sl⟩ := w.get hm
        rw [hF] at e3
        cases e3
        rcases u.fgrow a ha with z | z
        · exact sl.1 a z
        · exact fun zb => by
            obtain ⟨o, ho⟩ := w.al a (w.bo a zb)
            rw [z] at ho
            cases ho
      · exact ⟨v, d', rfl, rfl, ow⟩
    · rw [List.getElem?_set_ne (Ne.symm e)] at h3 h4
      have sl := w.sl i m' v' d f h1 h2 h3 h4
      have k : Kept O H O' H' := ev.kept w.sub
      refine sl.keep k ev.chg (fun b hb => ?_) (fun b o hb n z => ?_)
      · have hb2 : b ∈ Fs.flatten := mem_flat (List.mem_of_getElem? h4) hb
        obtain ⟨o, ho⟩ := w.al b (w.sub b hb2)
        rw [ho]
        exact u.chg b o ho (disj_flat w.nd e h4 hF b hb)
      · rcases ev.fgrow b z with z | z
        · exact n z
        · rw [hb] at z; cases z
end
inductive RF where
  | ok (d : D) (ds : List D)
  | ex (x : Exn) (ds : List D)
  | bad
section
variable {K : PySem.W.Frag} {G : Gx K} {xa : String → Option Addr}
def SpF (G : Gx K) (xa : String → Option Addr) (pm : List Md) (g : List D → RF) : Sp := fun vs H Q E => ∃ (O : Addr → Prop) (Fs : List (List Addr)) (ds : List D), Wd G O O Fs H (vs.map some) (ds.map some) pm ∧
  match g ds with
  | .ok d ds' => ∀ v O' Fs' H', Ev pm O Fs H (ds.map some) O' Fs' H' (ds'.map some) → Wd G O O' Fs' H' (vs.map some) (ds'.map some) pm → Rep G O' H' v d → Q v H'
  | .ex x ds' => ∀ cls dd O' Fs' H', Ev pm O Fs H (ds.map some) O' Fs' H' (ds'.map some) → Wd G O O' Fs' H' (vs.map some) (ds'.map some) pm → XRep G xa O' H' cls dd x → E cls dd H'
  | .bad => False
inductive AReps (G : Gx K) (O : Addr → Prop) (F : List Addr) (H : Hp) : List Md → List V → List D → Prop
  | nil : AReps G O F H [] [] []
  | sh {ms : List Md} {v : V} {d : D} {vs : List V} {ds : List D} : Rep G O H v d → AReps G O F H ms vs ds → AReps G O F H (.sh :: ms) (v :: vs) (d :: ds)
  | br {ms : List Md} {v : V} {d : D} {vs : List V} {ds : List D} : BRep G O F H v d → AReps G O F H ms vs ds → AReps G O F H (.br :: ms) (v :: vs) (d :: ds)
theorem BRep.less {O : Addr → Prop} {F F' : List Addr} {H : Hp} {v : V} {d : D} (h : BRep G O F H v d) (s : ∀ b ∈ F', b ∈ F) : BRep G O F' H v d := by
  rcases h with h | ⟨p, n, r⟩
  · exact .inl h
  · exact .inr ⟨p, fun z => n (s p z), r⟩
theorem AReps.len {O : Addr → Prop} {F : List Addr} {H : Hp} : ∀ {ms : List Md} {vs : List V} {ds : List D}, AReps G O F H ms vs ds → vs.length = ms.length ∧ ds.length = ms.length
  | _, _, _, .nil => ⟨rfl, rfl⟩
  | _, _, _, .sh _ t => by rw [List.length_cons, List.length_cons, List.length_cons, t.len.1, t.len.2]; exact ⟨rfl, rfl⟩
  | _, _, _, .br _ t => by rw [List.length_cons, List.length_cons, List.length_cons, t.len.1, t.len.2]; exact ⟨rfl, rfl⟩
theorem AReps.slot {B O : Addr → Prop} {F F' : List Addr} {H : Hp} (s : ∀ b ∈ F', b ∈ F) : ∀ {ms : List Md} {vs : List V} {ds : List D} {i : Nat} {m : Md} {v : Option V} {d : Option D}, AReps G O F H ms vs ds → ms[i]? = some m → (vs.map some)[i]? = some v → (ds.map some)[i]? = some d → SlOk G B O F' H m v d []
  | _, _, _, _, _, _, _, .nil, e, _, _ => by simp at e
  | _, _, _, 0, _, _, _, .sh r _, e1, e2, e3 => by
    cases e1; cases e2; cases e3
    exact ⟨rfl, _, _, rfl, rfl, r⟩
  | _, _, _, 0, _, _, _, .br r _, e1, e2, e3 => by
    cases e1; cases e2; cases e3
    exact ⟨rfl, _, _, rfl, rfl, r.less s⟩
  | _, _, _, i + 1, _, _, _, .sh _ t, e1, e2, e3 => AReps.slot s t (by simpa using e1) (by simpa using e2) (by simpa using e3)
  | _, _, _, i + 1, _, _, _, .br _ t, e1, e2, e3 => AReps.slot s t (by simpa using e1) (by simpa using e2) (by simpa using e3)
theorem flat_nil : ∀ (n : Nat), (List.replicate n ([] : List Addr)).flatten = []
  | 0 => rfl
  | n + 1 => by rw [List.replicate_succ, List.flatten_cons, flat_nil n]; rfl
theorem AReps.wd {B O : Addr → Prop} {Fs : List (List Addr)} {H : Hp} {σ : L2.St} {ρ : Env} {M ms : List Md} {vs : List V} {ds : List D} (h : AReps G O Fs.flatten H ms vs ds) (w : Wd G B O Fs H σ ρ M) :
    Wd G O O (List.replicate ms.length []) H (vs.map some) (ds.map some) ms := by
  refine ⟨by rw [flat_nil]; exact .nil, fun a ha => ?_, fun _ h => h, w.al, by rw [List.length_map]; exact h.len.1, by rw [List.length_map]; exact h.len.2, by simp, fun i m v d f e1 e2 e3 e4 => ?_⟩
  · rw [flat_nil] at ha; cases ha
  · have : f = [] := by
      have := List.mem_of_getElem? e4
      exact (List.mem_replicate.mp this).2
    subst this
    exact h.slot (by rw [flat_nil]; intro b hb; cases hb) e1 e2 e3
theorem Rep.anti {O O' : Addr → Prop} {H : Hp} {v : V} {d : D} (h : Rep G O' H v d) (s : ∀ b, O b → O' b) : Rep G O H v d :=
  h.keep ⟨fun _ _ _ _ r => r, fun _ _ _ r => r, fun _ _ _ r => r, fun _ _ _ _ r => r, fun _ _ _ _ _ r => r, fun b z => .inl (s b z)⟩
theorem RepF.anti {O O' : Addr → Prop} {H : Hp} {v : List (Str × V)} {d : List (Str × D)} (h : RepF G O' H v d) (s : ∀ b, O b → O' b) : RepF G O H v d :=
  h.keep ⟨fun _ _ _ _ r => r, fun _ _ _ r => r, fun _ _ _ r => r, fun _ _ _ _ r => r, fun _ _ _ _ _ r => r, fun b z => .inl (s b z)⟩
theorem XRep.anti {O O' : Addr → Prop} {H : Hp} {cls : Value} {dd : Option Addr} {x : Exn} (h : XRep G xa O' H cls dd x) (s : ∀ b, O b → O' b) : XRep G xa O H cls dd x := by
  obtain ⟨C, e1, e2, dx, fvs, e3, n, e4, e5⟩ := h
  exact ⟨C, e1, e2, dx, fvs, e3, fun z => n (s dx z), e4, e5.anti s⟩
end
section
variable {K : PySem.W.Frag} {S : Sx K} {X : Cx} {e : Expr} {es : List Expr} {fa : Env → R D} {fs : Env → R (List D)} {pos p apos : Pos} {ms : List Md}
abbrev vAs (S : Sx K) (ms : List Md) : VRel (List D) (List V) := fun O Fs H v d => AReps S.G O Fs.flatten H ms v d
abbrev lAs (S : Sx K) (ms : List Md) (f : Env → R (List D)) : TA := lX S (vAs S ms) f
theorem pa_nil' : PA X [] (lAs S [] sNil) := PA.of pa_nil fun _ _ _ ⟨_, _, _, _, w, r⟩ => r.use w .nil
theorem pa_sh (ha : PE X e (lE S fa)) (hr : PA X es (lAs S ms fs)) (hs : starEach (e :: es) X.env = (false, eval e X.env) :: starEach es X.env := by rfl) : PA X (e :: es) (lAs S (.sh :: ms) (sCons fa fs)) := by
  refine PA.of (pa_cons ha hr hs) fun σ H Q ⟨B, O, Fs, ρ, w, run⟩ => ?_
  refine ⟨B, O, Fs, ρ, w, run.bind fun x ρ1 v O1 Fs1 H1 _ ev1 w1 r1 run1 => ⟨B, O1, Fs1, ρ1, w1, run1.bind fun y ρ2 u O2 Fs2 H2 _ ev2 w2 r2 run2 => ?_⟩⟩
  exact run2.use w2 (.sh (r1.ev w1 ev2) r2)
theorem pa_br (ha : PE X e (lB S fa)) (hr : PA X es (lAs S ms fs)) (hs : starEach (e :: es) X.env = (false, eval e X.env) :: starEach es X.env := by rfl) : PA X (e :: es) (lAs S (.br :: ms) (sCons fa fs)) := by
  refine PA.of (pa_cons ha hr hs) fun σ H Q ⟨B, O, Fs, ρ, w, run⟩ => ?_
  refine ⟨B, O, Fs, ρ, w, run.bind fun x ρ1 v O1 Fs1 H1 _ ev1 w1 r1 run1 => ⟨B, O1, Fs1, ρ1, w1, run1.bind fun y ρ2 u O2 Fs2 H2 _ ev2 w2 r2 run2 => ?_⟩⟩
  exact run2.use w2 (.br (r1.ev w1 ev2) r2)
def RF.toR (r : RF) (ρ : Env) : R D := match r with
  | .ok d _ => .ok d ρ
  | .ex x _ => .ex x ρ
  | .bad => .bad
def sCall (g : List D → RF) (fs : Env → R (List D)) : Env → R D := fun ρ => (fs ρ).bind fun ds ρ1 => (g ds).toR ρ1
theorem sp_of {g : List D → RF} {B O : Addr → Prop} {Fs : List (List Addr)} {H : Hp} {σ : L2.St} {ρ : Env} {vs : List V} {ds : List D} {Q : VK} (w : Wd S.G B O Fs H σ ρ S.M) (h : AReps S.G O Fs.flatten H ms vs ds) (run : Run S (vE S) ((g ds).toR ρ) B O Fs H σ ρ Q) : SpF S.G S.xa ms g vs H Q (WE S.W σ) := by
  refine ⟨O, List.replicate ms.length [], ds, h.wd w, ?_⟩
  have same : ∀ {O' Fs' H' ρ'}, Ev ms O (List.replicate ms.length []) H (ds.map some) O' Fs' H' ρ' → Same H H' := fun e b o hb => e.chg b o hb (by rw [flat_nil]; intro z; cases z)
  cases e : g ds with
  | ok d ds' =>
    rw [e] at run
    exact fun v O' Fs' H' ev wd r => run v O Fs H' (Ev.same (same ev)) (w.same (same ev)) (r.anti ev.mono)
  | ex x ds' =>
    rw [e] at run
    exact fun cls dd O' Fs' H' ev wd r => run cls dd O Fs H' (Ev.same (same ev)) (w.same (same ev)) (r.anti ev.mono)
  | bad =>
    rw [e] at run
    exact run.elim
theorem p_call {CX : CXT} {k : Nat} {f : Addr} {fd : FuncData} {ps : List Str} {x : Str} {g : List D → RF} (F : FnOkG X.prog X.w X.K X.mg X.base (L2.CX X.prog X.w) k f fd ps (SpF S.G S.xa ms g)) (hr : RoomG k X.A) (hg : Gl X x) (hm : X.mg x = some (.ref f)) (hk : PySem.W.keepIn X.K (.ref f) = true) (hb : Binds X.K fd ps []) (tk : Takes X S.W)
    (ha : PA X (e :: es) (lAs S ms fs)) (hdb : (x == ("__debug__" : Str)) = false := by decide) (he : starEach (e :: es) X.env = (false, eval e X.env) :: starEach es X.env := by rfl) (hpl : (backTo pos (starEach es X.env)).any (·.1) = false := by rfl) :
    PE X (.Call (.Name x p) (e :: es) [] pos) (lE S (sCall g fs)) := by
  refine PE.of (pe_callG (E := WE S.W) F hr hg hm hk hb .nil (fun σ => passAt tk σ) ha hdb he hpl) fun σ H Q ⟨B, O, Fs, ρ, w, run⟩ => ?_
  refine ⟨B, O, Fs, ρ, w, run.bind fun ds ρ1 vs O1 Fs1 H1 _ ev1 w1 r1 run1 => ?_⟩
  rw [List.append_nil]
  exact sp_of w1 r1 run1
end
end Pu
namespace Pu
open PySem L2 PySem.Spec PyProof.Rows Pw
section
variable {K : PySem.W.Frag} {S : Sx K} {X : Cx} {e e0 : Expr} {es : List Expr} {fa : Env → R D} {fs : Env → R (List D)} {pos p apos : Pos} {ms : List Md} {t : Shp} {j : Nat}
def RF.toRO (r : RF) (j : Nat) (ρ : Env) : R D := match r with
  | .ok d (d0 :: _) => .ok d (ρ.set j (some d0))
  | .ex x (d0 :: _) => .ex x (ρ.set j (some d0))
  | _ => .bad
def callO (j : Nat) (g : List D → RF) (ds : List D) (ρ : Env) : R D := match ρ[j]? with
  | some (some d0) => (g (d0 :: ds)).toRO j ρ
  | _ => .bad
def sCallO (j : Nat) (g : List D → RF) (fs : Env → R (List D)) : Env → R D := fun ρ => (fs ρ).bind fun ds ρ1 => callO j g ds ρ1
def Md.is (m : Md) (t : Shp) : Prop := m = .ow t ∨ m = .op t
theorem Wd.own {G : Gx K} {B O : Addr → Prop} {Fs : List (List Addr)} {H : Hp} {σ : L2.St} {ρ : Env} {M : List Md} {m : Md} (w : Wd G B O Fs H σ ρ M) (hm : M[j]? = some m) (ht : m.is t) : ∃ v d F, σ[j]? = some (some v) ∧ ρ[j]? = some (some d) ∧ Fs[j]? = some F ∧ Own G O H t v d F := by
  obtain ⟨v, d, F, h1, h2, h3, sl⟩ := w.get hm
  rcases ht with rfl | rfl
  · obtain ⟨_, v', d', e1, e2, o⟩ := sl
    subst e1 e2
    exact ⟨v', d', F, h1, h2, h3, o⟩
  · obtain ⟨v', d', e1, e2, o⟩ := sl
    subst e1 e2
    exact ⟨v', d', F, h1, h2, h3, o⟩
theorem sp_ofO {m : Md} {g : List D → RF} {B O : Addr → Prop} {Fs : List (List Addr)} {H : Hp} {σ : L2.St} {ρ : Env} {v : V} {vs : List V} {ds : List D} {Q : VK} (w : Wd S.G B O Fs H σ ρ S.M) (hm : S.M[j]? = some m) (ht : m.is t) (hv : σ[j]? = some (some v)) (h : AReps S.G O Fs.flatten H ms vs ds)
    (run : Run S (vE S) (callO j g ds ρ) B O Fs H σ ρ Q) : SpF S.G S.xa (.op t :: ms) g (v :: vs) H Q (WE S.W σ) := by
  obtain ⟨v', d0, F, h1, h2, h3, ow⟩ := w.own hm ht
  rw [hv] at h1
  cases h1
  have hF0 : ∀ b ∈ F, b ∈ Fs.flatten := fun b hb => mem_flat (List.mem_of_getElem? h3) hb
  have fl : (F :: List.replicate ms.length []).flatten = F := by rw [List.flatten_cons, flat_nil, List.append_nil]
  have wc : Wd S.G O O (F :: List.replicate ms.length []) H ((v :: vs).map some) ((d0 :: ds).map some) (.op t :: ms) := by
    refine ⟨by rw [fl]; exact nodup_part w.nd h3, fun a ha => ?_, fun _ h => h, w.al, ?_, ?_, by simp, fun i m' v' d f e1 e2 e3 e4 => ?_⟩
    · rw [fl] at ha
      exact w.sub a (hF0 a ha)
    · rw [List.length_map, List.length_cons, List.length_cons, h.len.1]
    · rw [List.length_map, List.length_cons, List.length_cons, h.len.2]
    · cases i with
      | zero =>
        cases e1; cases e2; cases e3; cases e4
        exact ⟨v, d0, rfl, rfl, ow⟩
      | succ i =>
        have : f = [] := (List.mem_replicate.mp (List.mem_of_getElem? (show (List.replicate ms.length ([] : List Addr))[i]? = some f by simpa using e4))).2
        subst this
        exact h.slot (by rw [fl]; exact hF0) (by simpa using e1) (by simpa using e2) (by simpa using e3)
  refine ⟨O, _, d0 :: ds, wc, ?_⟩
  unfold callO at run
  rw [h2] at run
  dsimp only at run
  have fin : ∀ {d0' : D} {ds' : List D} {O' Fs' H'}, Ev (.op t :: ms) O (F :: List.replicate ms.length []) H ((d0 :: ds).map some) O' Fs' H' ((d0' :: ds').map some) → Wd S.G O O' Fs' H' ((v :: vs).map some) ((d0' :: ds').map some) (.op t :: ms) →
      ∃ F', Wd S.G B O' (Fs.set j F') H' σ (ρ.set j (some d0')) S.M ∧ Ev S.M O Fs H ρ O' (Fs.set j F') H' (ρ.set j (some d0')) := fun {d0' ds' O' Fs' H'} ev wd => by
    obtain ⟨v1, d1, F', e1, e2, e3, sl⟩ := wd.get (i := 0) (m := .op t) rfl
    cases e1
    cases e2
    obtain ⟨v2, d2, e4, e5, ow'⟩ := sl
    cases e4
    cases e5
    refine ⟨F', w.put hm ht hv h3 ⟨fun b o hb n => ev.chg b o hb (by rw [fl]; exact n), ev.dom, ev.mono, ev.grow, wd.al, fun b hb => ?_, fun b hb => wd.sub b (mem_flat (List.mem_of_getElem? e3) hb), nodup_part wd.nd e3⟩ ow'⟩
    have := ev.fgrow b (mem_flat (List.mem_of_getElem? e3) hb)
    rwa [fl] at this
  cases e : g (d0 :: ds) with
  | ok d ds' =>
    rw [e] at run
    cases ds' with
    | nil => exact run.elim
    | cons d0' ds' =>
      intro u O' Fs' H' ev wd r
      obtain ⟨F', w', ev'⟩ := fin ev wd
      exact run u O' _ H' ev' w' r
  | ex x ds' =>
    rw [e] at run
    cases ds' with
    | nil => exact run.elim
    | cons d0' ds' =>
      intro cls dd O' Fs' H' ev wd r
      obtain ⟨F', w', ev'⟩ := fin ev wd
      exact run cls dd O' _ H' ev' w' r
  | bad =>
    rw [e] at run
    exact run.elim
theorem p_callO {k : Nat} {f : Addr} {fd : FuncData} {ps : List Str} {x : Str} {m : Md} {g : List D → RF} (F : FnOkG X.prog X.w X.K X.mg X.base (L2.CX X.prog X.w) k f fd ps (SpF S.G S.xa (.op t :: ms) g)) (hr : RoomG k X.A) (hg : Gl X x) (hm : X.mg x = some (.ref f)) (hk : PySem.W.keepIn X.K (.ref f) = true) (hb : Binds X.K fd ps []) (tk : Takes X S.W)
    (h0 : PE X e0 (tVar j)) (hj : S.M[j]? = some m) (ht : m.is t) (ha : PA X es (lAs S ms fs)) (hdb : (x == ("__debug__" : Str)) = false := by decide) (he : starEach (e0 :: es) X.env = (false, eval e0 X.env) :: starEach es X.env := by rfl) (hpl : (backTo pos (starEach es X.env)).any (·.1) = false := by rfl) :
    PE X (.Call (.Name x p) (e0 :: es) [] pos) (lE S (sCallO j g fs)) := by
  refine PE.of (pe_callG (E := WE S.W) F hr hg hm hk hb .nil (fun σ => passAt tk σ) (pa_cons h0 ha he) hdb he hpl) fun σ H Q ⟨B, O, Fs, ρ, w, run⟩ => ?_
  obtain ⟨v, d, F, h1, _⟩ := w.own hj ht
  refine ⟨v, h1, B, O, Fs, ρ, w, run.bind fun ds ρ1 vs O1 Fs1 H1 _ ev1 w1 r1 run1 => ?_⟩
  show SpF S.G S.xa (.op t :: ms) g ((v :: vs) ++ []) H1 Q (WE S.W σ)
  rw [List.append_nil]
  exact sp_ofO w1 hj ht h1 r1 run1
def Shp.flat : Shp → Bool
  | .lst .sh => true
  | .dct .sh => true
  | _ => false
theorem own_b {G : Gx K} {O : Addr → Prop} {H : Hp} {v : V} {d : D} {F : List Addr} (hf : t.flat = true ∨ t = .obj flatO) (h : Own G O H t v d F) : ∃ p, F = [p] ∧ (∃ o, H p = some o) ∧ (Own G O H (.lst .sh) v d [p] ∨ Own G O H (.dct .sh) v d [p] ∨ Own G O H (.obj flatO) v d [p]) := by
  have nil3 : ∀ {α β : Type} {P : α → β → List Addr → Prop} {as : List α} {bs : List β} {Fs : List (List Addr)}, All3 P as bs Fs → (∀ a b c, P a b c → c = []) → Fs.flatten = [] := by
    intro α β P as bs Fs h hn
    induction h with
    | nil => rfl
    | cons h t ih => rw [List.flatten_cons, ih, hn _ _ _ h]; rfl
  rcases hf with hf | hf
  · cases t with
    | lst s =>
      cases s with
      | sh =>
        obtain ⟨p, vs, ds, Fs, e1, e2, e3, e4, e5⟩ := id h
        have := nil3 e5 fun _ _ _ h => h.1
        rw [this] at e4
        subst e4
        exact ⟨p, rfl, ⟨_, e3⟩, .inl h⟩
      | _ => cases hf
    | dct s =>
      cases s with
      | sh =>
        obtain ⟨p, kvs, Fs, e1, e4, ⟨ks, e2, e3, e5⟩ | ⟨ks, e2, e3, e5⟩⟩ := id h
        · have := nil3 e5 fun _ _ _ h => h.2.1
          rw [this] at e4
          subst e4
          exact ⟨p, rfl, ⟨_, e3⟩, .inr (.inl h)⟩
        · have := nil3 e5 fun _ _ _ h => h.2.1
          rw [this] at e4
          subst e4
          exact ⟨p, rfl, ⟨_, e3⟩, .inr (.inl h)⟩
      | _ => cases hf
    | _ => cases hf
  · subst hf
    obtain ⟨p, C, dx, fvs, c, fs, Fs, e1, e2, e3, e6, e4, e7, e5⟩ := id h
    have := nil3 e5 fun _ _ _ h => h.2.1
    rw [this] at e4
    subst e4
    exact ⟨p, rfl, ⟨_, e6⟩, .inr (.inr h)⟩
theorem Wd.hide {G : Gx K} {B O : Addr → Prop} {Fs : List (List Addr)} {H : Hp} {σ : L2.St} {ρ : Env} {M : List Md} {m : Md} (w : Wd G B O Fs H σ ρ M) (hm : M[j]? = some m) (ht : m.is t) (hf : t.flat = true ∨ t = .obj flatO) : Wd G B O (Fs.set j []) H σ ρ (M.set j .br) := by
  obtain ⟨v, d, F, h1, h2, h3, ow⟩ := w.own hm ht
  have hj : j < M.length := (List.getElem?_eq_some_iff.mp hm).1
  have sub : ∀ b ∈ (Fs.set j []).flatten, b ∈ Fs.flatten := fun b hb => by
    rcases mem_set_flat hb with hb | ⟨i, F1, _, e, hb⟩
    · cases hb
    · exact mem_flat (List.mem_of_getElem? e) hb
  refine ⟨nodup_set w.nd .nil (fun _ _ _ _ b hb => by cases hb), fun a ha => w.sub a (sub a ha), w.bo, w.al, by rw [List.length_set]; exact w.ls, by rw [List.length_set]; exact w.lr, by rw [List.length_set, List.length_set]; exact w.lf, fun i m' v' d' f e1 e2 e3 e4 => ?_⟩
  by_cases e : i = j
  · subst e
    rw [List.getElem?_set_self hj] at e1
    rw [List.getElem?_set_self (by rw [w.lf]; exact hj)] at e4
    rw [h1] at e2
    rw [h2] at e3
    cases e1; cases e2; cases e3; cases e4
    obtain ⟨p, rfl, ho, r⟩ := own_b hf ow
    refine ⟨rfl, v, d, rfl, rfl, .inr ⟨p, fun z => ?_, ho, r⟩⟩
    rcases mem_set_flat z with z | ⟨i', F1, hi, e, hb⟩
    · cases z
    · exact disj_flat w.nd hi e h3 p hb (List.mem_singleton.mpr rfl)
  · rw [List.getElem?_set_ne (Ne.symm e)] at e1 e4
    have sl := w.sl i m' v' d' f e1 e2 e3 e4
    exact sl.keep ⟨fun _ _ _ _ r => r, fun _ _ _ r => r, fun _ _ _ r => r, fun _ _ _ _ r => r, fun _ _ _ _ _ r => r, fun _ z => .inl z⟩ (fun _ _ h _ => h) (fun _ _ => rfl) (fun b _ _ n z => n (sub b z))
theorem Wd.hideH {G : Gx K} {B O : Addr → Prop} {Fs : List (List Addr)} {H : Hp} {σ : L2.St} {ρ : Env} {M : List Md} {m : Md} (w : Wd G B O Fs H σ ρ M) (hm : M[j]? = some m) : Wd G B O (Fs.set j []) H σ ρ (M.set j .hd) := by
  have hj : j < M.length := (List.getElem?_eq_some_iff.mp hm).1
  have sub : ∀ b ∈ (Fs.set j []).flatten, b ∈ Fs.flatten := fun b hb => by
    rcases mem_set_flat hb with hb | ⟨i, F1, _, e, hb⟩
    · cases hb
    · exact mem_flat (List.mem_of_getElem? e) hb
  refine ⟨nodup_set w.nd .nil (fun _ _ _ _ b hb => by cases hb), fun a ha => w.sub a (sub a ha), w.bo, w.al, by rw [List.length_set]; exact w.ls, by rw [List.length_set]; exact w.lr, by rw [List.length_set, List.length_set]; exact w.lf, fun i m' v' d' f e1 e2 e3 e4 => ?_⟩
  by_cases e : i = j
  · subst e
    rw [List.getElem?_set_self hj] at e1
    rw [List.getElem?_set_self (by rw [w.lf]; exact hj)] at e4
    cases e1; cases e4
    exact rfl
  · rw [List.getElem?_set_ne (Ne.symm e)] at e1 e4
    have sl := w.sl i m' v' d' f e1 e2 e3 e4
    exact sl.keep ⟨fun _ _ _ _ r => r, fun _ _ _ r => r, fun _ _ _ r => r, fun _ _ _ _ r => r, fun _ _ _ _ _ r => r, fun _ z => .inl z⟩ (fun _ _ h _ => h) (fun _ _ => rfl) (fun b _ _ n z => n (sub b z))
theorem Wd.unhide {G : Gx K} {B O O' : Addr → Prop} {Fs Fs' : List (List Addr)} {H H' : Hp} {σ : L2.St} {ρ ρ' : Env} {M : List Md} {m : Md} (w : Wd G B O Fs H σ ρ M) (hm : M[j]? = some m) (ht : m.is t)
    {mo : Md} (hmo : mo = .br ∨ mo = .hd) (w' : Wd G B O' Fs' H' σ ρ' (M.set j mo)) (ev : Ev (M.set j mo) O (Fs.set j []) H ρ O' Fs' H' ρ') : ∃ Fs2, Wd G B O' Fs2 H' σ ρ' M ∧ Ev M O Fs H ρ O' Fs2 H' ρ' ∧ (∀ b ∈ Fs'.flatten, b ∈ Fs2.flatten) ∧ (∀ b ∈ Fs2.flatten, b ∈ Fs'.flatten ∨ b ∈ Fs.flatten) ∧ Fs2[j]? = Fs[j]? := by
  obtain ⟨v, d, F, h1, h2, h3, ow⟩ := w.own hm ht
  have hj : j < M.length := (List.getElem?_eq_some_iff.mp hm).1
  have hFO : ∀ b ∈ F, O b := fun b hb => w.sub b (mem_flat (List.mem_of_getElem? h3) hb)
  have nF : ∀ b ∈ F, b ∉ (Fs.set j []).flatten := fun b hb z => by
    rcases mem_set_flat z with z | ⟨i, F1, hi, e, hb1⟩
    · cases z
    · exact disj_flat w.nd hi e h3 b hb1 hb
  have sub : ∀ b ∈ (Fs.set j []).flatten, b ∈ Fs.flatten := fun b hb => by
    rcases mem_set_flat hb with hb | ⟨i, F1, _, e, hb⟩
    · cases hb
    · exact mem_flat (List.mem_of_getElem? e) hb
  have kF : ∀ b ∈ F, H' b = H b := fun b hb => by
    obtain ⟨o, ho⟩ := w.al b (hFO b hb)
    rw [ho]
    exact ev.chg b o ho (nF b hb)
  have hj' : j < (M.set j mo).length := by rw [List.length_set]; exact hj
  have ef : Fs'[j]? = some [] := by
    obtain ⟨_, _, f, _, _, e3, sl⟩ := w'.get (i := j) (m := mo) (List.getElem?_set_self hj)
    rcases hmo with rfl | rfl
    · rw [e3, sl.1]
    · rw [e3, sl]
  have nF' : ∀ b ∈ F, b ∉ Fs'.flatten := fun b hb z => by
    rcases ev.fgrow b z with z | z
    · exact nF b hb z
    · obtain ⟨o, ho⟩ := w.al b (hFO b hb)
      rw [ho] at z; cases z
  have sup : ∀ b ∈ Fs'.flatten, b ∈ (Fs'.set j F).flatten := fun b hb => by
    obtain ⟨F1, hF1, hb1⟩ := List.mem_flatten.mp hb
    obtain ⟨i, hi⟩ := List.getElem?_of_mem hF1
    have : i ≠ j := fun z => by
      subst z
      rw [ef] at hi
      cases hi
      cases hb1
    exact mem_flat (List.mem_of_getElem? (by rw [List.getElem?_set_ne (Ne.symm this)]; exact hi)) hb1
  have kp : Kept O H O' H' := ev.kept fun a ha => w.sub a (sub a ha)
  refine ⟨Fs'.set j F, ⟨nodup_set w'.nd (nodup_part w.nd h3) (fun i F1 hi e b hb hb1 => nF' b hb (mem_flat (List.mem_of_getElem? e) hb1)), fun a ha => ?_, w'.bo, w'.al, by rw [w'.ls, List.length_set], by rw [w'.lr, List.length_set], by rw [List.length_set, w'.lf, List.length_set], fun i m' v' d' f e1 e2 e3 e4 => ?_⟩, ⟨fun b o h n => ev.chg b o h fun z => n (sub b z), ev.dom, ev.mono, ev.grow, fun b hb => ?_, fun i m' e ho => ?_⟩, sup, fun b hb => ?_, by rw [List.getElem?_set_self (by rw [w'.lf]; exact hj'), h3]⟩
  · rcases mem_set_flat ha with ha | ⟨i, F1, _, e, hb⟩
    · exact ev.mono a (hFO a ha)
    · exact w'.sub a (mem_flat (List.mem_of_getElem? e) hb)
  · by_cases e : i = j
    · subst e
      rw [hm] at e1
      rw [List.getElem?_set_self (by rw [w'.lf]; exact hj')] at e4
      have hk := ev.keep i mo (List.getElem?_set_self hj) (by rcases hmo with rfl | rfl <;> rfl)
      rw [h2] at hk
      rw [hk] at e3
      rw [h1] at e2
      cases e1; cases e2; cases e3; cases e4
      have ow' := Own.keep kp t kF ow
      rcases ht with rfl | rfl
      · obtain ⟨v0, d0, F0, q1, q2, q3, sl⟩ := w.get hm
        rw [h3] at q3
        cases q3
        exact ⟨sl.1, v, d, rfl, rfl, ow'⟩
      · exact ⟨v, d, rfl, rfl, ow'⟩
    · rw [List.getElem?_set_ne (Ne.symm e)] at e4
      have sl := w'.sl i m' v' d' f (by rw [List.getElem?_set_ne (Ne.symm e)]; exact e1) e2 e3 e4
      cases m' with
      | br =>
        obtain ⟨q1, v1, d1, q2, q3, r⟩ := sl
        refine ⟨q1, v1, d1, q2, q3, ?_⟩
        obtain ⟨v2, d2, f2, g1, g2, g3, sl2⟩ := w.get e1
        obtain ⟨_, v3, d3, g4, g5, r2⟩ := sl2
        subst g4 g5
        have hk := ev.keep i .br (by rw [List.getElem?_set_ne (Ne.symm e)]; exact e1) rfl
        rw [e3, g2, q3] at hk
        rw [e2, q2] at g1
        cases hk
        cases g1
        rcases r2 with r2 | ⟨p, n, ⟨o, ho⟩, r2⟩
        · exact .inl (r2.keep kp)
        · have np : p ∉ (Fs.set j []).flatten := fun z => n (sub p z)
          have kp1 : ∀ b ∈ [p], H' b = H b := fun b hb => by
            rw [List.mem_singleton.mp hb, ho]
            exact ev.chg p o ho np
          refine .inr ⟨p, fun z => ?_, ⟨o, ev.chg p o ho np⟩, ?_⟩
          · rcases mem_set_flat z with z | ⟨i', F1, _, e', hb⟩
            · exact n (mem_flat (List.mem_of_getElem? h3) z)
            · rcases ev.fgrow p (mem_flat (List.mem_of_getElem? e') hb) with z | z
              · exact np z
              · rw [ho] at z; cases z
          · rcases r2 with r2 | r2 | r2
            · exact .inl (Own.keep kp _ kp1 r2)
            · exact .inr (.inl (Own.keep kp _ kp1 r2))
            · exact .inr (.inr (Own.keep kp _ kp1 r2))
      | na => exact sl
      | hd => exact sl
      | mb => exact sl
      | th _ _ _ _ => exact sl
      | sh => exact sl
      | ow t => exact sl
      | op t => exact sl
  · rcases mem_set_flat hb with hb | ⟨i, F1, _, e, hb⟩
    · exact .inl (mem_flat (List.mem_of_getElem? h3) hb)
    · exact (ev.fgrow b (mem_flat (List.mem_of_getElem? e) hb)).imp (sub b) id
  · refine ev.keep i m' ?_ ho
    have : i ≠ j := fun z => by
      subst z
      rw [hm] at e
      cases e
      rcases ht with rfl | rfl <;> cases ho
    rw [List.getElem?_set_ne (Ne.symm this)]
    exact e
  · rcases mem_set_flat hb with hb | ⟨i, F1, _, e, hb⟩
    · exact .inr (mem_flat (List.mem_of_getElem? h3) hb)
    · exact .inl (mem_flat (List.mem_of_getElem? e) hb)
abbrev Sx.br (S : Sx K) (j : Nat) : Sx K := { S with M := S.M.set j .br }
variable {m : Md} {f : Env → R D}
theorem run_hide {α β : Type} {VR : VRel α β} {r : R α} {B O : Addr → Prop} {Fs : List (List Addr)} {H : Hp} {σ : L2.St} {ρ : Env} {Q : β → Hp → Prop} (w : Wd S.G B O Fs H σ ρ S.M) (hm : S.M[j]? = some m) (ht : m.is t) (hv : ∀ O Fs Fs' H v d, (∀ b ∈ Fs.flatten, b ∈ Fs'.flatten) → VR O Fs H v d → VR O Fs' H v d)
    (run : Run S VR r B O Fs H σ ρ Q) : Run (S.br j) VR r B O (Fs.set j []) H σ ρ Q := by
  cases r with
  | ok d ρ' =>
    intro v O' Fs' H' ev wd x
    obtain ⟨Fs2, w2, ev2, sp, _⟩ := w.unhide hm ht (.inl rfl) wd ev
    exact run v O' Fs2 H' ev2 w2 (hv _ _ _ _ _ _ sp x)
  | ex x ρ' =>
    intro cls dd O' Fs' H' ev wd x
    obtain ⟨Fs2, w2, ev2, sp, _⟩ := w.unhide hm ht (.inl rfl) wd ev
    exact run cls dd O' Fs2 H' ev2 w2 x
  | bad => exact run
theorem p_hide (hm : S.M[j]? = some m) (ht : m.is t) (hf : t.flat = true ∨ t = .obj flatO) (h : PE X e (lE (S.br j) f)) : PE X e (lE S f) :=
  PE.of h fun σ H Q ⟨B, O, Fs, ρ, w, run⟩ => ⟨B, O, Fs.set j [], ρ, w.hide hm ht hf, run_hide w hm ht (fun _ _ _ _ _ _ _ h => h) run⟩
theorem t_hide {f : Env → R Bool} (hm : S.M[j]? = some m) (ht : m.is t) (hf : t.flat = true ∨ t = .obj flatO) (h : PT X e (lT (S.br j) f)) : PT X e (lT S f) :=
  PT.of h fun σ H Q ⟨B, O, Fs, ρ, w, run⟩ => ⟨B, O, Fs.set j [], ρ, w.hide hm ht hf, run_hide w hm ht (fun _ _ _ _ _ _ _ h => h) run⟩
end
end Pu
namespace Pu
open PySem L2 PySem.Spec PyProof.Rows Pw
inductive Wk : List Md → List Md → Prop
  | refl (M : List Md) : Wk M M
  | na {M M' : List Md} (j : Nat) : Wk (M.set j .na) M' → Wk M M'
  | fr {M M' : List Md} (j : Nat) (t : Shp) : M[j]? = some (.ow t) → Wk (M.set j .sh) M' → Wk M M'
  | br {M M' : List Md} (j : Nat) : M[j]? = some .sh → Wk (M.set j .br) M' → Wk M M'
  | mb {M M' : List Md} (j : Nat) : M[j]? = some .sh → Wk (M.set j .mb) M' → Wk M M'
section
variable {K : PySem.W.Frag} {G : Gx K} {B O O1 : Addr → Prop} {Fs : List (List Addr)} {H : Hp} {σ : L2.St} {ρ : Env} {M M' : List Md}
theorem kept_anti (s : ∀ b, O1 b → O b) : Kept O H O1 H := ⟨fun _ _ _ _ r => r, fun _ _ _ r => r, fun _ _ _ r => r, fun _ _ _ _ r => r, fun _ _ _ _ _ r => r, fun b z => .inl (s b z)⟩
theorem all3_reps' {t : Shp} (ih : ∀ {v : V} {d : D} {F : List Addr}, (∀ a ∈ F, ¬ O1 a) → Own G O H t v d F → Rep G O1 H v d) : ∀ {vs : List V} {ds : List D} {Fs : List (List Addr)}, (∀ a ∈ Fs.flatten, ¬ O1 a) → All3 (Own G O H t) vs ds Fs → Reps G O1 H vs ds
  | _, _, _, _, .nil => .nil
  | _, _, _, n, .cons h t => .cons (ih (fun a ha => n a (by rw [List.flatten_cons]; exact List.mem_append_left _ ha)) h) (all3_reps' ih (fun a ha => n a (by rw [List.flatten_cons]; exact List.mem_append_right _ ha)) t)
theorem all3_repK' {t : Shp} (ih : ∀ {v : V} {d : D} {F : List Addr}, (∀ a ∈ F, ¬ O1 a) → Own G O H t v d F → Rep G O1 H v d) : ∀ {ks : List (Key × V)} {kvs : List (D × D)} {Fs : List (List Addr)}, (∀ a ∈ Fs.flatten, ¬ O1 a) → All3 (fun (a : Key × V) (e : D × D) F => e.1.key = some a.1 ∧ Own G O H t a.2 e.2 F) ks kvs Fs → RepK G O1 H ks kvs
  | _, _, _, _, .nil => .nil
  | _, _, _, n, .cons h t => .cons h.1 (ih (fun a ha => n a (by rw [List.flatten_cons]; exact List.mem_append_left _ ha)) h.2) (all3_repK' ih (fun a ha => n a (by rw [List.flatten_cons]; exact List.mem_append_right _ ha)) t)
theorem all3_repT' {t : Shp} (ih : ∀ {v : V} {d : D} {F : List Addr}, (∀ a ∈ F, ¬ O1 a) → Own G O H t v d F → Rep G O1 H v d) : ∀ {ks : List (List Key × V)} {kvs : List (D × D)} {Fs : List (List Addr)}, (∀ a ∈ Fs.flatten, ¬ O1 a) → All3 (fun (a : List Key × V) (e : D × D) F => e.1.tkey = some a.1 ∧ Own G O H t a.2 e.2 F) ks kvs Fs → RepT G O1 H ks kvs
  | _, _, _, _, .nil => .nil
  | _, _, _, n, .cons h t => .cons h.1 (ih (fun a ha => n a (by rw [List.flatten_cons]; exact List.mem_append_left _ ha)) h.2) (all3_repT' ih (fun a ha => n a (by rw [List.flatten_cons]; exact List.mem_append_right _ ha)) t)
theorem all3_repF' {f : Str → Shp} (ih : ∀ (n : Str) {v : V} {d : D} {F : List Addr}, (∀ a ∈ F, ¬ O1 a) → Own G O H (f n) v d F → Rep G O1 H v d) : ∀ {ks : List (Str × V)} {kvs : List (Str × D)} {Fs : List (List Addr)}, (∀ a ∈ Fs.flatten, ¬ O1 a) → All3 (fun (a : Str × V) (b : Str × D) F => a.1 = b.1 ∧ Own G O H (f a.1) a.2 b.2 F) ks kvs Fs → RepF G O1 H ks kvs
  | _, _, _, _, .nil => .nil
  | (x, v) :: _, (y, d) :: _, _, n, .cons h t => by
    obtain ⟨e, h⟩ := h
    cases (show x = y from e)
    exact .cons (ih x (fun a ha => n a (by rw [List.flatten_cons]; exact List.mem_append_left _ ha)) h) (all3_repF' ih (fun a ha => n a (by rw [List.flatten_cons]; exact List.mem_append_right _ ha)) t)
theorem Reps.ints : ∀ xs : List Int, Reps G O1 H (xs.map V.int) (xs.map D.int)
  | [] => .nil
  | x :: xs => .cons (.int x) (Reps.ints xs)
theorem Own.freeze (s : ∀ b, O1 b → O b) : ∀ (t : Shp) {v : V} {d : D} {F : List Addr}, (∀ a ∈ F, ¬ O1 a) → Own G O H t v d F → Rep G O1 H v d
  | .sh, _, _, _, _, ⟨_, h⟩ => h.anti s
  | .deal, _, _, _, n, ⟨p, l, xs, i, h1, h2, h3, h4, h5⟩ => by
    subst h1 h2 h5
    exact .lst (.inl h3) (n p (by simp)) (.cons (.lst (.inl h4) (n l (by simp)) (Reps.ints xs)) (.cons (.int i) .nil))
  | .tab, _, _, _, _, ⟨_, h, _⟩ => h.anti s
  | .lst t, _, _, _, n, ⟨p, vs, ds, Fs, h1, h2, h3, h4, h5⟩ => by
    subst h1 h2 h4
    exact .lst (.inl h3) (n p (List.mem_cons_self ..)) (all3_reps' (Own.freeze s t) (fun a ha => n a (List.mem_cons_of_mem _ ha)) h5)
  | .dct t, _, _, _, n, ⟨p, kvs, Fs, h1, h4, h⟩ => by
    subst h1 h4
    rcases h with ⟨ks, h2, h3, h5⟩ | ⟨ks, h2, h3, h5⟩
    · subst h2
      exact .dk (.inl h3) (n p (List.mem_cons_self ..)) (all3_repK' (Own.freeze s t) (fun a ha => n a (List.mem_cons_of_mem _ ha)) h5)
    · subst h2
      exact .dt (.inl h3) (n p (List.mem_cons_self ..)) (all3_repT' (Own.freeze s t) (fun a ha => n a (List.mem_cons_of_mem _ ha)) h5)
  | .obj f, _, _, _, n, ⟨p, C, dx, fvs, c, fs, Fs, h1, h2, h3, h4, h5, h6, h7⟩ => by
    subst h1 h2 h5
    exact .obj h3 h4 (n p (List.mem_cons_self ..)) h6 (all3_repF' (fun x => Own.freeze s (f x)) (fun a ha => n a (List.mem_cons_of_mem _ ha)) h7)
structure Less (O : Addr → Prop) (Fs : List (List Addr)) (O1 : Addr → Prop) (Fs1 : List (List Addr)) : Prop where
  o : ∀ b, O1 b → O b
  f : ∀ b, b ∈ Fs1.flatten → b ∈ Fs.flatten
theorem Less.refl : Less O Fs O Fs := ⟨fun _ h => h, fun _ h => h⟩
theorem Less.trans {O2 : Addr → Prop} {Fs1 Fs2 : List (List Addr)} (a : Less O Fs O1 Fs1) (b : Less O1 Fs1 O2 Fs2) : Less O Fs O2 Fs2 := ⟨fun c h => a.o c (b.o c h), fun c h => a.f c (b.f c h)⟩
theorem set_nil_sub {j : Nat} : ∀ b ∈ (Fs.set j []).flatten, b ∈ Fs.flatten := fun b hb => by
  rcases mem_set_flat hb with hb | ⟨i, F1, _, e, hb⟩
  · cases hb
  · exact mem_flat (List.mem_of_getElem? e) hb
theorem Wd.dropNa (w : Wd G B O Fs H σ ρ M) (j : Nat) : Wd G B O (Fs.set j []) H σ ρ (M.set j .na) := by
  refine ⟨nodup_set w.nd .nil (fun _ _ _ _ b hb => by cases hb), fun a ha => w.sub a (set_nil_sub a ha), w.bo, w.al, by rw [List.length_set]; exact w.ls, by rw [List.length_set]; exact w.lr, by rw [List.length_set, List.length_set]; exact w.lf, fun i m v d f e1 e2 e3 e4 => ?_⟩
  by_cases e : i = j
  · subst e
    by_cases hj : i < M.length
    · rw [List.getElem?_set_self hj] at e1
      rw [List.getElem?_set_self (by rw [w.lf]; exact hj)] at e4
      cases e1
      cases e4
      exact rfl
    · rw [List.set_eq_of_length_le (by omega)] at e1
      have := (List.getElem?_eq_some_iff.mp e1).1
      omega
  · rw [List.getElem?_set_ne (Ne.symm e)] at e1 e4
    exact (w.sl i m v d f e1 e2 e3 e4).keep (kept_anti fun _ h => h) (fun _ _ h _ => h) (fun _ _ => rfl) (fun b _ _ n z => n (set_nil_sub b z))
theorem Wd.toSh {j : Nat} {t : Shp} (w : Wd G B O Fs H σ ρ M) (hm : M[j]? = some (.ow t)) : ∃ O1, Wd G B O1 (Fs.set j []) H σ ρ (M.set j .sh) ∧ ∀ b, O1 b → O b := by
  obtain ⟨v, d, F, h1, h2, h3, nb, v', d', e1, e2, ow⟩ := w.get hm
  subst e1 e2
  have hj : j < M.length := (List.getElem?_eq_some_iff.mp hm).1
  refine ⟨fun a => O a ∧ a ∉ F, ⟨nodup_set w.nd .nil (fun _ _ _ _ b hb => by cases hb), fun a ha => ?_, fun a h => ⟨w.bo a h, fun z => nb a z h⟩, fun a h => w.al a h.1, by rw [List.length_set]; exact w.ls, by rw [List.length_set]; exact w.lr, by rw [List.length_set, List.length_set]; exact w.lf, fun i m v d f e1 e2 e3 e4 => ?_⟩, fun b h => h.1⟩
  · refine ⟨w.sub a (set_nil_sub a ha), fun z => ?_⟩
    rcases mem_set_flat ha with ha | ⟨i, F1, hi, e, hb⟩
    · cases ha
    · exact disj_flat w.nd hi e h3 a hb z
  · by_cases e : i = j
    · subst e
      rw [List.getElem?_set_self hj] at e1
      rw [List.getElem?_set_self (by rw [w.lf]; exact hj)] at e4
      rw [h1] at e2
      rw [h2] at e3
      cases e1; cases e2; cases e3; cases e4
      exact ⟨rfl, _, _, rfl, rfl, Own.freeze (fun b h => h.1) t (fun a ha h => h.2 ha) ow⟩
    · rw [List.getElem?_set_ne (Ne.symm e)] at e1 e4
      exact (w.sl i m v d f e1 e2 e3 e4).keep (kept_anti fun b h => h.1) (fun _ _ h _ => h) (fun _ _ => rfl) (fun b _ _ n z => n (set_nil_sub b z))
theorem Wd.toBr {j : Nat} (w : Wd G B O Fs H σ ρ M) (hm : M[j]? = some .sh) : Wd G B O Fs H σ ρ (M.set j .br) := by
  have hj : j < M.length := (List.getElem?_eq_some_iff.mp hm).1
  refine ⟨w.nd, w.sub, w.bo, w.al, by rw [List.length_set]; exact w.ls, by rw [List.length_set]; exact w.lr, by rw [List.length_set]; exact w.lf, fun i m v d f e1 e2 e3 e4 => ?_⟩
  by_cases e : i = j
  · subst e
    rw [List.getElem?_set_self hj] at e1
    cases e1
    obtain ⟨q, v', d', e5, e6, r⟩ := w.sl i .sh v d f hm e2 e3 e4
    exact ⟨q, v', d', e5, e6, .inl r⟩
  · rw [List.getElem?_set_ne (Ne.symm e)] at e1
    exact w.sl i m v d f e1 e2 e3 e4
theorem Wd.toMb {j : Nat} (w : Wd G B O Fs H σ ρ M) (hm : M[j]? = some .sh) : Wd G B O Fs H σ ρ (M.set j .mb) := by
  have hj : j < M.length := (List.getElem?_eq_some_iff.mp hm).1
  refine ⟨w.nd, w.sub, w.bo, w.al, by rw [List.length_set]; exact w.ls, by rw [List.length_set]; exact w.lr, by rw [List.length_set]; exact w.lf, fun i m v d f e1 e2 e3 e4 => ?_⟩
  by_cases e : i = j
  · subst e
    rw [List.getElem?_set_self hj] at e1
    cases e1
    obtain ⟨q, v', d', e5, e6, r⟩ := w.sl i .sh v d f hm e2 e3 e4
    refine ⟨q, fun d2 hd => ?_⟩
    rw [e6] at hd
    cases hd
    exact ⟨v', e5, r⟩
  · rw [List.getElem?_set_ne (Ne.symm e)] at e1
    exact w.sl i m v d f e1 e2 e3 e4
theorem Wd.wk (k : Wk M M') : ∀ {O : Addr → Prop} {Fs : List (List Addr)}, Wd G B O Fs H σ ρ M → ∃ O1 Fs1, Wd G B O1 Fs1 H σ ρ M' ∧ Less O Fs O1 Fs1 := by
  induction k with
  | refl M => exact fun {O Fs} w => ⟨O, Fs, w, Less.refl⟩
  | na j k ih =>
    intro O Fs w
    obtain ⟨O1, Fs1, w1, l1⟩ := ih (w.dropNa j)
    exact ⟨O1, Fs1, w1, Less.trans ⟨fun _ h => h, set_nil_sub⟩ l1⟩
  | fr j t hm k ih =>
    intro O Fs w
    obtain ⟨O0, w0, s0⟩ := w.toSh hm
    obtain ⟨O1, Fs1, w1, l1⟩ := ih w0
    exact ⟨O1, Fs1, w1, Less.trans ⟨s0, set_nil_sub⟩ l1⟩
  | br j hm k ih =>
    intro O Fs w
    obtain ⟨O1, Fs1, w1, l1⟩ := ih (w.toBr hm)
    exact ⟨O1, Fs1, w1, l1⟩
  | mb j hm k ih =>
    intro O Fs w
    obtain ⟨O1, Fs1, w1, l1⟩ := ih (w.toMb hm)
    exact ⟨O1, Fs1, w1, l1⟩
end
def Md.fix : Md → Bool
  | .br => true
  | .op _ => true
  | .hd => true
  | _ => false
def fxOk : List Md → List Md → Bool
  | .br :: M, m :: M' => (match m with | .br => true | _ => false) && fxOk M M'
  | .op _ :: M, m :: M' => m.fix && fxOk M M'
  | .hd :: M, m :: M' => m.fix && fxOk M M'
  | _ :: M, _ :: M' => fxOk M M'
  | [], _ => true
  | _ :: _, [] => false
theorem fxOk_fix : ∀ {M M' : List Md} {j : Nat} {m : Md}, fxOk M M' = true → M[j]? = some m → m.fix = true → ∃ m', M'[j]? = some m' ∧ m'.fix = true ∧ (m = .br → m' = .br)
  | [], _, _, _, _, e, _ => by simp at e
  | a :: M, [], _, _, h, _, _ => by cases a <;> cases h
  | a :: M, b :: M', 0, m, h, e, f => by
    cases e
    cases a with
    | br =>
      unfold fxOk at h
      cases b with
      | br => exact ⟨.br, rfl, rfl, fun _ => rfl⟩
      | _ => cases h
    | op t =>
      unfold fxOk at h
      rw [Bool.and_eq_true] at h
      exact ⟨b, rfl, h.1, fun z => by cases z⟩
    | hd =>
      unfold fxOk at h
      rw [Bool.and_eq_true] at h
      exact ⟨b, rfl, h.1, fun z => by cases z⟩
    | _ => cases f
  | a :: M, b :: M', j + 1, m, h, e, f => by
    have h' : fxOk M M' = true := by
      cases a with
      | br => unfold fxOk at h; rw [Bool.and_eq_true] at h; exact h.2
      | op t => unfold fxOk at h; rw [Bool.and_eq_true] at h; exact h.2
      | hd => unfold fxOk at h; rw [Bool.and_eq_true] at h; exact h.2
      | _ => exact h
    obtain ⟨m', e1, e2, e3⟩ := fxOk_fix h' (by simpa using e) f
    exact ⟨m', by simpa using e1, e2, e3⟩
structure EvS (M : List Md) (O : Addr → Prop) (Fs : List (List Addr)) (H : Hp) (σ : L2.St) (ρ : Env) (O' : Addr → Prop) (Fs' : List (List Addr)) (H' : Hp) (σ' : L2.St) (ρ' : Env) : Prop where
  chg : ∀ b o, H b = some o → b ∉ Fs.flatten → H' b = some o
  dom : ∀ b o, H b = some o → ∃ o', H' b = some o'
  grow : ∀ b, O' b → O b ∨ H b = none
  fgrow : ∀ b, b ∈ Fs'.flatten → b ∈ Fs.flatten ∨ H b = none
  sig : ∀ (j : Nat) (m : Md), M[j]? = some m → m.fix = true → σ'[j]? = σ[j]?
  keep : ∀ (j : Nat), M[j]? = some .br → ρ'[j]? = ρ[j]?
section
variable {O O' O'' O1 : Addr → Prop} {Fs Fs' Fs'' Fs1 : List (List Addr)} {H H' H'' : Hp} {σ σ' σ'' : L2.St} {ρ ρ' ρ'' : Env} {M M1 : List Md}
theorem EvS.refl : EvS M O Fs H σ ρ O Fs H σ ρ := ⟨fun _ _ h _ => h, fun _ o h => ⟨o, h⟩, fun _ h => .inl h, fun _ h => .inl h, fun _ _ _ _ => rfl, fun _ _ => rfl⟩
theorem EvS.trans (a : EvS M O Fs H σ ρ O' Fs' H' σ' ρ') (fx : fxOk M M1 = true) (b : EvS M1 O' Fs' H' σ' ρ' O'' Fs'' H'' σ'' ρ'') : EvS M O Fs H σ ρ O'' Fs'' H'' σ'' ρ'' := by
  have none_of : ∀ c, H' c = none → H c = none := fun c h => by
    cases e : H c with
    | none => rfl
    | some o => obtain ⟨o', h'⟩ := a.dom c o e; rw [h] at h'; cases h'
  refine ⟨fun c o h n => b.chg c o (a.chg c o h n) fun z => ?_, fun c o h => ?_, fun c h => ?_, fun c h => ?_, fun j m h1 h2 => ?_, fun j h1 => ?_⟩
  · rcases a.fgrow c z with z | z
    · exact n z
    · rw [h] at z; cases z
  · obtain ⟨o', h'⟩ := a.dom c o h
    exact b.dom c o' h'
  · rcases b.grow c h with h | h
    · exact a.grow c h
    · exact .inr (none_of c h)
  · rcases b.fgrow c h with h | h
    · exact a.fgrow c h
    · exact .inr (none_of c h)
  · obtain ⟨m', e1, e2, _⟩ := fxOk_fix fx h1 h2
    exact (b.sig j m' e1 e2).trans (a.sig j m h1 h2)
  · obtain ⟨m', e1, e2, e3⟩ := fxOk_fix fx h1 rfl
    have := e3 rfl
    subst this
    exact (b.keep j e1).trans (a.keep j h1)
theorem Ev.toS (e : Ev M O Fs H ρ O' Fs' H' ρ') : EvS M O Fs H σ ρ O' Fs' H' σ ρ' := ⟨e.chg, e.dom, e.grow, e.fgrow, fun _ _ _ _ => rfl, fun j h => e.keep j .br h rfl⟩
theorem EvS.less (e : EvS M O Fs H σ ρ O' Fs' H' σ' ρ') (l : Less O' Fs' O1 Fs1) : EvS M O Fs H σ ρ O1 Fs1 H' σ' ρ' := ⟨e.chg, e.dom, fun b h => e.grow b (l.o b h), fun b h => e.fgrow b (l.f b h), e.sig, e.keep⟩
theorem EvS.less0 (l : Less O Fs O1 Fs1) (e : EvS M O1 Fs1 H σ ρ O' Fs' H' σ' ρ') : EvS M O Fs H σ ρ O' Fs' H' σ' ρ' := ⟨fun b o h n => e.chg b o h fun z => n (l.f b z), e.dom, fun b h => (e.grow b h).imp (l.o b) id, fun b h => (e.fgrow b h).imp (l.f b) id, e.sig, e.keep⟩
end
structure Tx (K : PySem.W.Frag) where
  G : Gx K
  xa : String → Option Addr
  W : WX
  Mb : List Md
  Mr : List Md
  Mx : List Md
abbrev Tx.ex {K : PySem.W.Frag} (T : Tx K) (M : List Md) : Sx K := ⟨T.G, T.xa, T.W, M⟩
section
variable {K : PySem.W.Frag}
def RunS (T : Tx K) (M Mn : List Md) (r : RS) (B O : Addr → Prop) (Fs : List (List Addr)) (H : Hp) (σ : L2.St) (ρ : Env) (E : Ends) : Prop := match r with
  | .nx ρ' => ∀ O' Fs' H' σ', EvS M O Fs H σ ρ O' Fs' H' σ' ρ' → Wd T.G B O' Fs' H' σ' ρ' Mn → E.nx σ' H'
  | .rt d ρ' => ∀ v O' Fs' H' σ', EvS M O Fs H σ ρ O' Fs' H' σ' ρ' → Wd T.G B O' Fs' H' σ' ρ' T.Mr → Rep T.G O' H' v d → E.rt v H'
  | .bk ρ' => ∀ O' Fs' H' σ', EvS M O Fs H σ ρ O' Fs' H' σ' ρ' → Wd T.G B O' Fs' H' σ' ρ' T.Mb → E.bk σ' H'
  | .ct ρ' => ∀ O' Fs' H' σ', EvS M O Fs H σ ρ O' Fs' H' σ' ρ' → Wd T.G B O' Fs' H' σ' ρ' T.Mb → E.ct σ' H'
  | .ex x ρ' => ∀ cls dd O' Fs' H' σ', EvS M O Fs H σ ρ O' Fs' H' σ' ρ' → Wd T.G B O' Fs' H' σ' ρ' T.Mx → XRep T.G T.xa O' H' cls dd x → T.W cls dd σ' H'
  | .bad => False
def lS (T : Tx K) (M Mn : List Md) (g : Env → RS) : TS := fun E σ H => ∃ B O Fs ρ, Wd T.G B O Fs H σ ρ M ∧ RunS T M Mn (g ρ) B O Fs H σ ρ E
variable {T : Tx K} {M M1 M2 Mn : List Md} {B O O1 : Addr → Prop} {Fs Fs1 : List (List Addr)} {H H1 : Hp} {σ σ1 : L2.St} {ρ ρ1 : Env} {r : RS} {E : Ends}
theorem RunS.shift (h : RunS T M Mn r B O Fs H σ ρ E) (fx : fxOk M M1 = true) (e : EvS M O Fs H σ ρ O1 Fs1 H1 σ1 ρ1) : RunS T M1 Mn r B O1 Fs1 H1 σ1 ρ1 E := by
  cases r with
  | nx ρ' => exact fun O' Fs' H' σ' e2 w => h O' Fs' H' σ' (e.trans fx e2) w
  | rt d ρ' => exact fun v O' Fs' H' σ' e2 w x => h v O' Fs' H' σ' (e.trans fx e2) w x
  | bk ρ' => exact fun O' Fs' H' σ' e2 w => h O' Fs' H' σ' (e.trans fx e2) w
  | ct ρ' => exact fun O' Fs' H' σ' e2 w => h O' Fs' H' σ' (e.trans fx e2) w
  | ex x ρ' => exact fun c dd O' Fs' H' σ' e2 w x => h c dd O' Fs' H' σ' (e.trans fx e2) w x
  | bad => exact h
theorem RunS.bindE {α β : Type} {VA : VRel α β} {f : R α} {k : α → Env → RS} {Q1 : β → Hp → Prop} (h : RunS T M Mn (f.bindS k) B O Fs H σ ρ E) (wk : Wk M T.Mx)
    (hk : ∀ a ρ1 v O1 Fs1 H1, f = .ok a ρ1 → Ev M O Fs H ρ O1 Fs1 H1 ρ1 → Wd T.G B O1 Fs1 H1 σ ρ1 M → VA O1 Fs1 H1 v a → RunS T M Mn (k a ρ1) B O1 Fs1 H1 σ ρ1 E → Q1 v H1) (fx : fxOk M M = true) : Run (T.ex M) VA f B O Fs H σ ρ Q1 := by
  cases f with
  | ok a ρ1 => exact fun v O' Fs' H' e w x => hk a ρ1 v O' Fs' H' rfl e w x (RunS.shift h fx e.toS)
  | ex x ρ' =>
    intro cls dd O' Fs' H' e w x
    obtain ⟨O1, Fs1, w1, l⟩ := w.wk wk
    exact h cls dd O1 Fs1 H' σ (e.toS.less l) w1 (x.anti l.o)
  | bad => exact h
theorem RunS.use (h : RunS T M Mn (.nx ρ) B O Fs H σ ρ E) (w : Wd T.G B O Fs H σ ρ Mn) : E.nx σ H := h O Fs H σ EvS.refl w
end
theorem fxOk_refl : ∀ M : List Md, fxOk M M = true
  | [] => rfl
  | .br :: M => by unfold fxOk; rw [fxOk_refl M]; rfl
  | .op t :: M => by unfold fxOk; rw [fxOk_refl M]; rfl
  | .na :: M => by unfold fxOk; exact fxOk_refl M
  | .hd :: M => by unfold fxOk; rw [fxOk_refl M]; rfl
  | .sh :: M => by unfold fxOk; exact fxOk_refl M
  | .th _ _ _ _ :: M => by unfold fxOk; exact fxOk_refl M
  | .mb :: M => by unfold fxOk; exact fxOk_refl M
  | .ow t :: M => by unfold fxOk; exact fxOk_refl M
section
variable {K : PySem.W.Frag} {T : Tx K} {M M1 M2 Mn : List Md} {X : Cx} {st : Stmt} {sts : List Stmt} {g g' : Env → RS} {pos : Pos} {e c : Expr} {f : Env → R D} {t : Env → R Bool}
def sSeq (g g' : Env → RS) : Env → RS := fun ρ => (g ρ).bind g'
def sNx : Env → RS := fun ρ => .nx ρ
theorem s_nil : PSs X [] (lS T M M sNx) := PSs.of pss_nil fun E σ H ⟨B, O, Fs, ρ, w, run⟩ => run.use w
theorem s_cons (h1 : PS X st (lS T M M1 g)) (h2 : PSs X sts (lS T M1 Mn g')) (fx : fxOk M M1 = true := by rfl) : PSs X (st :: sts) (lS T M Mn (sSeq g g')) := by
  refine PSs.of (pss_cons h1 h2) fun E σ H ⟨B, O, Fs, ρ, w, run⟩ => ⟨B, O, Fs, ρ, w, ?_⟩
  unfold sSeq at run
  cases e : g ρ with
  | nx ρ' =>
    rw [e] at run
    exact fun O' Fs' H' σ' ev wd => ⟨B, O', Fs', ρ', wd, RunS.shift run fx ev⟩
  | rt d ρ' => rw [e] at run; exact run
  | bk ρ' => rw [e] at run; exact run
  | ct ρ' => rw [e] at run; exact run
  | ex x ρ' => rw [e] at run; exact run
  | bad => rw [e] at run; exact run
theorem s_one (h1 : PS X st (lS T M Mn g)) : PSs X [st] (lS T M Mn g) := pss_one h1
theorem s_pre (wk : Wk M M1) (fx : fxOk M M1 = true) (h : PSs X sts (lS T M1 Mn g)) : PSs X sts (lS T M Mn g) := by
  refine PSs.of h fun E σ H ⟨B, O, Fs, ρ, w, run⟩ => ?_
  obtain ⟨O1, Fs1, w1, l⟩ := w.wk wk
  refine ⟨B, O1, Fs1, ρ, w1, RunS.shift run fx (EvS.less0 l ⟨fun _ _ h _ => h, fun _ o h => ⟨o, h⟩, fun _ h => .inl h, fun _ h => .inl h, fun _ _ _ _ => rfl, fun _ _ => rfl⟩)⟩
theorem s_pre1 (wk : Wk M M1) (fx : fxOk M M1 = true) (h : PS X st (lS T M1 Mn g)) : PS X st (lS T M Mn g) := by
  refine PS.of h fun E σ H ⟨B, O, Fs, ρ, w, run⟩ => ?_
  obtain ⟨O1, Fs1, w1, l⟩ := w.wk wk
  refine ⟨B, O1, Fs1, ρ, w1, RunS.shift run fx (EvS.less0 l ⟨fun _ _ h _ => h, fun _ o h => ⟨o, h⟩, fun _ h => .inl h, fun _ h => .inl h, fun _ _ _ _ => rfl, fun _ _ => rfl⟩)⟩
theorem run_post {r : RS} {B O : Addr → Prop} {Fs : List (List Addr)} {H : Hp} {σ : L2.St} {ρ : Env} {E : Ends} (wk : Wk M1 Mn) (run : RunS T M Mn r B O Fs H σ ρ E) : RunS T M M1 r B O Fs H σ ρ E := by
  cases r with
  | nx ρ' =>
    intro O' Fs' H' σ' ev wd
    obtain ⟨O1, Fs1, w1, l⟩ := wd.wk wk
    exact run O1 Fs1 H' σ' (ev.less l) w1
  | rt d ρ' => exact run
  | bk ρ' => exact run
  | ct ρ' => exact run
  | ex x ρ' => exact run
  | bad => exact run
theorem s_post (wk : Wk M1 Mn) (h : PSs X sts (lS T M M1 g)) : PSs X sts (lS T M Mn g) :=
  PSs.of h fun E σ H ⟨B, O, Fs, ρ, w, run⟩ => ⟨B, O, Fs, ρ, w, run_post wk run⟩
theorem s_post1 (wk : Wk M1 Mn) (h : PS X st (lS T M M1 g)) : PS X st (lS T M Mn g) :=
  PS.of h fun E σ H ⟨B, O, Fs, ρ, w, run⟩ => ⟨B, O, Fs, ρ, w, run_post wk run⟩
def sDo (f : Env → R D) : Env → RS := fun ρ => (f ρ).bindS fun _ ρ1 => .nx ρ1
theorem s_expr (he : PE X e (lE (T.ex M) f)) (wx : Wk M T.Mx) (hs : swapsWith e none pos.line X.env = pure false := by rfl) : PS X (.Expr e pos) (lS T M M (sDo f)) :=
  PS.of (ps_expr he hs) fun E σ H ⟨B, O, Fs, ρ, w, run⟩ => ⟨B, O, Fs, ρ, w, run.bindE wx (fun a ρ1 v O1 Fs1 H1 _ ev w1 r1 run1 => run1.use w1) (fxOk_refl M)⟩
def sRet (f : Env → R D) : Env → RS := fun ρ => (f ρ).bindS fun d ρ1 => .rt d ρ1
theorem s_ret (he : PE X e (lE (T.ex M) f)) (wx : Wk M T.Mx) (wr : Wk M T.Mr) : PS X (.Return (some e) pos) (lS T M Mn (sRet f)) :=
  PS.of (ps_ret he) fun E σ H ⟨B, O, Fs, ρ, w, run⟩ => ⟨B, O, Fs, ρ, w, run.bindE wx (fun a ρ1 v O1 Fs1 H1 _ ev w1 r1 run1 => by
    obtain ⟨O2, Fs2, w2, l⟩ := w1.wk wr
    exact run1 v O2 Fs2 H1 σ (EvS.refl.less l) w2 (r1.anti l.o)) (fxOk_refl M)⟩
def sIfS (t : Env → R Bool) (g g' : Env → RS) : Env → RS := fun ρ => (t ρ).bindS fun k ρ1 => if k then g ρ1 else g' ρ1
theorem s_if {a b : List Stmt} (hc : PT X c (lT (T.ex M) t)) (wx : Wk M T.Mx) (ha : PSs X a (lS T M Mn g)) (hb : PSs X b (lS T M Mn g')) : PS X (.If c a b pos) (lS T M Mn (sIfS t g g')) := by
  refine PS.of (ps_if hc ha hb) fun E σ H ⟨B, O, Fs, ρ, w, run⟩ => ⟨B, O, Fs, ρ, w, run.bindE wx (fun k ρ1 v O1 Fs1 H1 _ ev w1 r1 run1 => ?_) (fxOk_refl M)⟩
  cases (show v = k from r1)
  cases k with
  | true => rw [if_pos rfl] at run1 ⊢; exact ⟨B, O1, Fs1, ρ1, w1, run1⟩
  | false => rw [if_neg (by decide)] at run1 ⊢; exact ⟨B, O1, Fs1, ρ1, w1, run1⟩
end
end Pu
namespace Pu
open PySem L2 PySem.Spec PyProof.Rows Pw
def nf (M : List Md) (i : Nat) : Bool := match M[i]? with
  | some m => !m.fix
  | none => false
theorem nf_lt {M : List Md} {i : Nat} (h : nf M i = true) : i < M.length := by
  unfold nf at h
  split at h
  · rename_i m e
    exact (List.getElem?_eq_some_iff.mp e).1
  · cases h
section
variable {K : PySem.W.Frag} {G : Gx K} {B O O' : Addr → Prop} {Fs Fs' : List (List Addr)} {H H' : Hp} {σ σ' : L2.St} {ρ ρ' : Env} {M : List Md}
theorem Wd.set {i : Nat} {m : Md} {v : V} {d : D} {F : List Addr} (w : Wd G B O Fs H σ ρ M) (hn : nf M i = true) (nd : F.Nodup) (sub : ∀ b ∈ F, O b) (dj : ∀ b ∈ F, b ∉ Fs.flatten) (brn : ∀ (j : Nat) (v' : V) (d' : D), M[j]? = some .br → σ[j]? = some (some v') → ρ[j]? = some (some d') → BRep G O (Fs.set i F).flatten H v' d')
    (sl : SlOk G B O (Fs.set i F).flatten H m (some v) (some d) F) : Wd G B O (Fs.set i F) H (σ.set i (some v)) (ρ.set i (some d)) (M.set i m) := by
  have hi := nf_lt hn
  refine ⟨nodup_set w.nd nd (fun j F1 _ e b hb hb1 => dj b hb (mem_flat (List.mem_of_getElem? e) hb1)), fun a ha => ?_, w.bo, w.al, by rw [List.length_set, List.length_set]; exact w.ls, by rw [List.length_set, List.length_set]; exact w.lr, by rw [List.length_set, List.length_set]; exact w.lf, fun j m' v' d' f e1 e2 e3 e4 => ?_⟩
  · rcases mem_set_flat ha with ha | ⟨j, F1, _, e, hb⟩
    · exact sub a ha
    · exact w.sub a (mem_flat (List.mem_of_getElem? e) hb)
  · by_cases e : j = i
    · subst e
      rw [List.getElem?_set_self hi] at e1
      rw [List.getElem?_set_self (by rw [w.ls]; exact hi)] at e2
      rw [List.getElem?_set_self (by rw [w.lr]; exact hi)] at e3
      rw [List.getElem?_set_self (by rw [w.lf]; exact hi)] at e4
      cases e1; cases e2; cases e3; cases e4
      exact sl
    · rw [List.getElem?_set_ne (Ne.symm e)] at e1 e2 e3 e4
      have s0 := w.sl j m' v' d' f e1 e2 e3 e4
      cases m' with
      | br =>
        obtain ⟨q1, v1, d1, q2, q3, r⟩ := s0
        subst q2 q3
        exact ⟨q1, v1, d1, rfl, rfl, brn j v1 d1 e1 e2 e3⟩
      | na => exact s0
      | th _ _ _ _ => exact s0
      | mb => exact s0
      | hd => exact s0
      | sh => exact s0
      | ow t => exact s0
      | op t => exact s0
theorem br_set_nil {i : Nat} (w : Wd G B O Fs H σ ρ M) : ∀ (j : Nat) (v' : V) (d' : D), M[j]? = some .br → σ[j]? = some (some v') → ρ[j]? = some (some d') → BRep G O (Fs.set i []).flatten H v' d' := fun j v' d' e1 e2 e3 => by
  obtain ⟨v, d, f, h1, h2, h3, _, v1, d1, q2, q3, r⟩ := w.get e1
  subst q2 q3
  rw [e2] at h1
  rw [e3] at h2
  cases h1
  cases h2
  exact r.less set_nil_sub
theorem Wd.setSh {i : Nat} {v : V} {d : D} (w : Wd G B O Fs H σ ρ M) (hn : nf M i = true) (r : Rep G O H v d) : Wd G B O (Fs.set i []) H (σ.set i (some v)) (ρ.set i (some d)) (M.set i .sh) :=
  w.set hn .nil (fun b hb => by cases hb) (fun b hb => by cases hb) (br_set_nil w) ⟨rfl, v, d, rfl, rfl, r⟩
structure New (B O : Addr → Prop) (Fs : List (List Addr)) (Fv : List Addr) (H0 : Hp) : Prop where
  nd : Fv.Nodup
  sub : ∀ b ∈ Fv, O b
  dj : ∀ b ∈ Fv, b ∉ Fs.flatten
  fr : ∀ b ∈ Fv, H0 b = none
theorem Wd.setOw {i : Nat} {t : Shp} {v : V} {d : D} {Fv : List Addr} {H0 : Hp} (w : Wd G B O Fs H σ ρ M) (hn : nf M i = true) (n : New B O Fs Fv H0) (nb : ∀ b ∈ Fv, ¬ B b) (br : ∀ (j : Nat) (v' : V) (d' : D), M[j]? = some .br → σ[j]? = some (some v') → ρ[j]? = some (some d') → BRep G O (Fs.set i Fv).flatten H v' d') (r : Own G O H t v d Fv) :
    Wd G B O (Fs.set i Fv) H (σ.set i (some v)) (ρ.set i (some d)) (M.set i (.ow t)) :=
  w.set hn n.nd n.sub n.dj br ⟨nb, v, d, rfl, rfl, r⟩
theorem EvS.set {i : Nat} {v : V} {d : D} {F : List Addr} {H0 : Hp} {O0 : Addr → Prop} {Fs0 : List (List Addr)} {ρ0 : Env} (e : EvS M O0 Fs0 H0 σ ρ0 O Fs H σ ρ) (hn : nf M i = true) (hF : ∀ b ∈ F, b ∈ Fs0.flatten ∨ H0 b = none) : EvS M O0 Fs0 H0 σ ρ0 O (Fs.set i F) H (σ.set i (some v)) (ρ.set i (some d)) := by
  have ne : ∀ j m, M[j]? = some m → m.fix = true → j ≠ i := fun j m h1 h2 z => by
    subst z
    unfold nf at hn
    rw [h1] at hn
    simp only [h2] at hn
    cases hn
  refine ⟨e.chg, e.dom, e.grow, fun b hb => ?_, fun j m h1 h2 => ?_, fun j h1 => ?_⟩
  · rcases mem_set_flat hb with hb | ⟨j, F1, _, e1, hb⟩
    · exact hF b hb
    · exact e.fgrow b (mem_flat (List.mem_of_getElem? e1) hb)
  · rw [List.getElem?_set_ne (Ne.symm (ne j m h1 h2))]
  · rw [List.getElem?_set_ne (Ne.symm (ne j .br h1 rfl))]
    exact e.keep j h1
end
section
variable {K : PySem.W.Frag}
def RunF (S : Sx K) (t : Shp) (r : R D) (B O : Addr → Prop) (Fs : List (List Addr)) (H : Hp) (σ : L2.St) (ρ : Env) (Q : VK) : Prop := match r with
  | .ok d ρ' => ∀ v O' Fs' H' Fv, Ev S.M O Fs H ρ O' Fs' H' ρ' → Wd S.G B O' Fs' H' σ ρ' S.M → Own S.G O' H' t v d Fv → New B O' Fs' Fv H → Q v H'
  | .ex x ρ' => ∀ cls dd O' Fs' H', Ev S.M O Fs H ρ O' Fs' H' ρ' → Wd S.G B O' Fs' H' σ ρ' S.M → XRep S.G S.xa O' H' cls dd x → S.W cls dd σ H'
  | .bad => False
def lF (S : Sx K) (t : Shp) (f : Env → R D) : TE := fun σ H Q => ∃ B O Fs ρ, Wd S.G B O Fs H σ ρ S.M ∧ RunF S t (f ρ) B O Fs H σ ρ Q
variable {S : Sx K} {B O O1 : Addr → Prop} {Fs Fs1 : List (List Addr)} {H H1 : Hp} {σ : L2.St} {ρ ρ1 : Env} {t : Shp}
theorem New.back {Fv : List Addr} {M : List Md} {O2 : Addr → Prop} {Fs2 : List (List Addr)} (n : New B O2 Fs2 Fv H1) (e : Ev M O Fs H ρ O1 Fs1 H1 ρ1) : New B O2 Fs2 Fv H := ⟨n.nd, n.sub, n.dj, fun b hb => by
  cases h : H b with
  | none => rfl
  | some o => obtain ⟨o', h'⟩ := e.dom b o h; rw [n.fr b hb] at h'; cases h'⟩
theorem RunF.shift {r : R D} {Q : VK} (h : RunF S t r B O Fs H σ ρ Q) (e : Ev S.M O Fs H ρ O1 Fs1 H1 ρ1) : RunF S t r B O1 Fs1 H1 σ ρ1 Q := by
  cases r with
  | ok d ρ' => exact fun v O' Fs' H' Fv e2 w x n => h v O' Fs' H' Fv (e.trans e2) w x (n.back e)
  | ex x ρ' => exact fun c dd O' Fs' H' e2 w x => h c dd O' Fs' H' (e.trans e2) w x
  | bad => exact h
theorem RunF.bind {γ δ : Type} {VA : VRel γ δ} {r : R γ} {k : γ → Env → R D} {Q : VK} {Q1 : δ → Hp → Prop} (h : RunF S t (r.bind k) B O Fs H σ ρ Q)
    (hk : ∀ a ρ1 v O1 Fs1 H1, r = .ok a ρ1 → Ev S.M O Fs H ρ O1 Fs1 H1 ρ1 → Wd S.G B O1 Fs1 H1 σ ρ1 S.M → VA O1 Fs1 H1 v a → RunF S t (k a ρ1) B O1 Fs1 H1 σ ρ1 Q → Q1 v H1) : Run S VA r B O Fs H σ ρ Q1 := by
  cases r with
  | ok a ρ1 => exact fun v O' Fs' H' e w x => hk a ρ1 v O' Fs' H' rfl e w x (RunF.shift h e)
  | ex x ρ' => exact h
  | bad => exact h
theorem Wd.own1 {G : Gx K} {M : List Md} {p : Addr} {o : HO} (w : Wd G B O Fs H σ ρ M) (hp : H p = none) (no : ∀ vs, o ≠ .tup vs := by intro _ z; cases z) : Wd G B (fun a => O a ∨ a = p) Fs (upd H p o) σ ρ M ∧ Ev M O Fs H ρ (fun a => O a ∨ a = p) Fs (upd H p o) ρ ∧ New B (fun a => O a ∨ a = p) Fs [p] H ∧ Kept O H (fun a => O a ∨ a = p) (upd H p o) := by
  have ev : Ev M O Fs H ρ (fun a => O a ∨ a = p) Fs (upd H p o) ρ :=
    ⟨fun b u h _ => by rw [upd_ne (ne_of_none h hp)]; exact h, fun b u h => ⟨u, by rw [upd_ne (ne_of_none h hp)]; exact h⟩, fun _ h => .inl h, fun b h => h.imp id (fun z => by rw [z]; exact hp), fun _ h => .inl h, fun _ _ _ _ => rfl⟩
  have k := ev.kept w.sub
  refine ⟨⟨w.nd, fun a ha => .inl (w.sub a ha), fun a h => .inl (w.bo a h), fun a h => ?_, w.ls, w.lr, w.lf, fun i m v d f h1 h2 h3 h4 => ?_⟩, ev, ⟨by simp, fun b hb => .inr (List.mem_singleton.mp hb), fun b hb z => ?_, fun b hb => by rw [List.mem_singleton.mp hb]; exact hp⟩, k⟩
  · rcases h with h | h
    · obtain ⟨u, hu⟩ := w.al a h
      exact ⟨u, by rw [upd_ne (ne_of_none hu hp)]; exact hu⟩
    · exact ⟨⟨o, no⟩, by rw [h, upd_same]⟩
  · refine (w.sl i m v d f h1 h2 h3 h4).keep k ev.chg (fun b hb => ?_) (fun _ _ _ n => n)
    obtain ⟨u, hu⟩ := w.al b (w.sub b (mem_flat (List.mem_of_getElem? h4) hb))
    rw [upd_ne (ne_of_none hu hp)]
  · obtain ⟨u, hu⟩ := w.al b (w.sub b z)
    rw [List.mem_singleton.mp hb, hp] at hu
    cases hu
theorem own_lst {G : Gx K} {p : Addr} {vs : List V} {ds : List D} (h : H p = some (.lst vs)) (r : Reps G O H vs ds) : Own G O H (.lst .sh) (.ref p) (.lst ds) [p] := by
  have all : ∀ {vs : List V} {ds : List D}, Reps G O H vs ds → ∃ Fs : List (List Addr), Fs.flatten = [] ∧ All3 (Own G O H .sh) vs ds Fs := by
    intro vs ds h
    induction ds generalizing vs with
    | nil => cases h; exact ⟨[], rfl, .nil⟩
    | cons d ds ih =>
      cases h with
      | cons a t =>
        obtain ⟨Fs, e, h⟩ := ih t
        exact ⟨[] :: Fs, e, .cons ⟨rfl, a⟩ h⟩
  obtain ⟨Fs, e, h'⟩ := all r
  exact ⟨p, vs, ds, Fs, rfl, rfl, h, by rw [e], h'⟩
theorem RunF.lst {p : Addr} {vs : List V} {ds : List D} {Q : VK} (h : RunF S (.lst .sh) (.ok (.lst ds) ρ) B O Fs H σ ρ Q) (w : Wd S.G B O Fs H σ ρ S.M) (hp : H p = none) (r : Reps S.G O H vs ds) : Q (.ref p) (upd H p (.lst vs)) := by
  obtain ⟨w1, ev, n, k⟩ := w.own1 (o := .lst vs) hp
  exact h _ _ _ _ [p] ev w1 (own_lst upd_same (r.keep k)) n
variable {X : Cx} {e : Expr} {es : List Expr} {fs : Env → R (List D)} {pos : Pos}
theorem f_lst (h : PA X es (lEs S fs)) : PE X (.List es pos) (lF S (.lst .sh) (sAs gList fs)) := by
  refine PE.of (pe_lst h) fun σ H Q ⟨B, O, Fs, ρ, w, run⟩ => ?_
  refine ⟨B, O, Fs, ρ, w, run.bind fun xs ρ1 vs O1 Fs1 H1 _ ev1 w1 r1 run1 => ?_⟩
  unfold gList at run1
  by_cases hl : xs.length ≤ line
  · rw [if_pos hl] at run1
    exact ⟨by rw [Reps.length r1]; exact Nat.le_trans hl line_lt, fun p hp => run1.lst w1 hp r1⟩
  · rw [if_neg hl] at run1
    exact run1.elim
theorem own_dK {G : Gx K} {p : Addr} (h : H p = some (.dK [])) : Own G O H (.dct .sh) (.ref p) (.dct []) [p] := ⟨p, [], [], rfl, rfl, .inl ⟨[], rfl, h, .nil⟩⟩
theorem own_dT {G : Gx K} {p : Addr} (h : H p = some (.dT [])) : Own G O H (.dct .sh) (.ref p) (.dtt []) [p] := ⟨p, [], [], rfl, rfl, .inr ⟨[], rfl, h, .nil⟩⟩
theorem f_dT : PE X (.Dict [] [] pos) (lF S (.dct .sh) (sC (.dtt []))) := PE.of pe_dnewT fun σ H Q ⟨B, O, Fs, ρ, w, run⟩ p hp => by
  obtain ⟨w1, ev, n, k⟩ := w.own1 (o := .dT []) hp
  exact run _ _ _ _ [p] ev w1 (own_dT upd_same) n
theorem RunF.of {r : R D} {Q : VK} (h : Run S (vE S) r B O Fs H σ ρ Q) (t : Shp) (w : Wd S.G B O Fs H σ ρ S.M) : RunF S t r B O Fs H σ ρ Q := by
  cases r with
  | ok d ρ' =>
    intro v O' Fs' H' Fv ev wd ow n
    have sub1 : ∀ b ∈ Fv, ¬ O b := fun b hb z => by
      obtain ⟨o, ho⟩ := w.al b z
      rw [n.fr b hb] at ho
      cases ho
    have s : ∀ b, (O' b ∧ b ∉ Fv) → O' b := fun b h => h.1
    refine h v (fun b => O' b ∧ b ∉ Fv) Fs' H' ⟨ev.chg, ev.dom, fun b hb => ⟨ev.mono b hb, fun z => sub1 b z hb⟩, fun b h => ev.grow b h.1, ev.fgrow, ev.keep⟩ ⟨wd.nd, fun a ha => ⟨wd.sub a ha, fun z => n.dj a z ha⟩, fun a ha => ⟨wd.bo a ha, fun z => sub1 a z (w.bo a ha)⟩, fun a ha => wd.al a ha.1, wd.ls, wd.lr, wd.lf, fun i m v' d' f h1 h2 h3 h4 => ?_⟩ (Own.freeze s t (fun a ha z => z.2 ha) ow)
    exact (wd.sl i m v' d' f h1 h2 h3 h4).keep (kept_anti s) (fun _ _ h _ => h) (fun _ _ => rfl) (fun _ _ _ n => n)
  | ex x ρ' => exact h
  | bad => exact h
theorem p_new {f : Env → R D} {t : Shp} (h : PE X e (lF S t f)) : PE X e (lE S f) :=
  PE.of h fun σ H Q ⟨B, O, Fs, ρ, w, run⟩ => ⟨B, O, Fs, ρ, w, RunF.of run t w⟩
end
section
variable {K : PySem.W.Frag} {T : Tx K} {M M1 Mn Mt : List Md} {X : Cx} {st : Stmt} {sts : List Stmt} {g g' : Env → RS} {pos pos' : Pos} {e c tg it : Expr} {f : Env → R D} {t : Env → R Bool} {i : Nat} {x : Str} {sh : Shp}
def sSet (i : Nat) (f : Env → R D) : Env → RS := fun ρ => (f ρ).bindS fun d ρ1 => .nx (ρ1.set i (some d))
theorem s_set (hN : X.N.Nodup) (hi : X.N[i]? = some x) (hx : Loc X.env.scope x) (he : PE X e (lE (T.ex M) f)) (wx : Wk M T.Mx) (hn : nf M i = true) (hs : swapsWith e (some (.Name x pos')) pos.line X.env = pure false := by rfl) (hf : X.fn x = true ∨ X.env.scope.names.lookup x = some .local := by first | exact .inl rfl | exact .inr rfl | assumption) :
    PS X (.Assign [.Name x pos'] e pos) (lS T M (M.set i .sh) (sSet i f)) :=
  PS.of (ps_set hN hi hx he hs hf) fun E σ H ⟨B, O, Fs, ρ, w, run⟩ => ⟨B, O, Fs, ρ, w, run.bindE wx (fun a ρ1 v O1 Fs1 H1 _ ev w1 r1 run1 =>
    run1 O1 (Fs1.set i []) H1 _ (EvS.set EvS.refl hn (fun b hb => by cases hb)) (w1.setSh hn r1)) (fxOk_refl M)⟩
theorem RunS.bindF {f : R D} {k : D → Env → RS} {Q1 : VK} {B O : Addr → Prop} {Fs : List (List Addr)} {H : Hp} {σ : L2.St} {ρ : Env} {E : Ends} (h : RunS T M Mn (f.bindS k) B O Fs H σ ρ E) (wk : Wk M T.Mx)
    (hk : ∀ a ρ1 v O1 Fs1 H1 Fv, Ev M O Fs H ρ O1 Fs1 H1 ρ1 → Wd T.G B O1 Fs1 H1 σ ρ1 M → Own T.G O1 H1 sh v a Fv → New B O1 Fs1 Fv H → RunS T M Mn (k a ρ1) B O Fs H σ ρ E → Q1 v H1) : RunF (T.ex M) sh f B O Fs H σ ρ Q1 := by
  cases f with
  | ok a ρ1 => exact fun v O' Fs' H' Fv e w x n => hk a ρ1 v O' Fs' H' Fv e w x n h
  | ex x ρ' =>
    intro cls dd O' Fs' H' e w x
    obtain ⟨O1, Fs1, w1, l⟩ := w.wk wk
    exact h cls dd O1 Fs1 H' σ (e.toS.less l) w1 (x.anti l.o)
  | bad => exact h
theorem br_new {G : Gx K} {B O O1 : Addr → Prop} {Fs Fs1 : List (List Addr)} {H H1 : Hp} {σ : L2.St} {ρ ρ1 : Env} {Fv : List Addr} (w : Wd G B O Fs H σ ρ M) (ev : Ev M O Fs H ρ O1 Fs1 H1 ρ1) (w1 : Wd G B O1 Fs1 H1 σ ρ1 M) (n : New B O1 Fs1 Fv H) :
    ∀ (j : Nat) (v' : V) (d' : D), M[j]? = some .br → σ[j]? = some (some v') → ρ1[j]? = some (some d') → BRep G O1 (Fs1.set i Fv).flatten H1 v' d' := fun j v' d' e1 e2 e3 => by
  have hk := ev.keep j .br e1 rfl
  rw [e3] at hk
  obtain ⟨v, d, f, h1, h2, h3, _, v1, d1, q2, q3, r⟩ := w.get e1
  subst q2 q3
  rw [e2] at h1
  rw [h2] at hk
  cases h1
  cases hk
  have k := ev.kept w.sub
  rcases r with r | ⟨p, np, ⟨o, ho⟩, r⟩
  · exact .inl (r.keep k)
  · have kp : ∀ b ∈ [p], H1 b = H b := fun b hb => by
      rw [List.mem_singleton.mp hb, ho]
      exact ev.chg p o ho np
    refine .inr ⟨p, fun z => ?_, ⟨o, ev.chg p o ho np⟩, ?_⟩
    · rcases mem_set_flat z with z | ⟨j', F1, _, e', hb⟩
      · have := n.fr p z
        rw [ho] at this
        cases this
      · rcases ev.fgrow p (mem_flat (List.mem_of_getElem? e') hb) with z | z
        · exact np z
        · rw [ho] at z; cases z
    · rcases r with r | r | r
      · exact .inl (Own.keep k _ kp r)
      · exact .inr (.inl (Own.keep k _ kp r))
      · exact .inr (.inr (Own.keep k _ kp r))
theorem s_setF (hN : X.N.Nodup) (hi : X.N[i]? = some x) (hx : Loc X.env.scope x) (he : PE X e (lF (T.ex M) sh f)) (wx : Wk M T.Mx) (hn : nf M i = true) (hs : swapsWith e (some (.Name x pos')) pos.line X.env = pure false := by rfl) (hf : X.fn x = true ∨ X.env.scope.names.lookup x = some .local := by first | exact .inl rfl | exact .inr rfl | assumption) :
    PS X (.Assign [.Name x pos'] e pos) (lS T M (M.set i (.ow sh)) (sSet i f)) :=
  PS.of (ps_set hN hi hx he hs hf) fun E σ H ⟨B, O, Fs, ρ, w, run⟩ => ⟨B, O, Fs, ρ, w, run.bindF wx fun a ρ1 v O1 Fs1 H1 Fv ev w1 ow n run1 => by
    refine run1 O1 (Fs1.set i Fv) H1 _ (EvS.set ev.toS hn (fun b hb => .inr (n.fr b hb))) (w1.setOw hn n (fun b hb z => ?_) (br_new w ev w1 n) ow)
    obtain ⟨o, ho⟩ := w.al b (w.bo b z)
    rw [n.fr b hb] at ho
    cases ho⟩
end
end Pu
namespace Pu
open PySem L2 PySem.Spec PyProof.Rows Pw
section
variable {K : PySem.W.Frag}
def Out1 {α : Type} (ts : List Nat) (σ σ' : List α) : Prop := σ'.length = σ.length ∧ ∀ (j : Nat), j ∉ ts → σ'[j]? = σ[j]?
theorem Out1.refl {α : Type} (ts : List Nat) (σ : List α) : Out1 ts σ σ := ⟨rfl, fun _ _ => rfl⟩
theorem Out1.set {α : Type} (i : Nat) (σ : List α) (a : α) : Out1 [i] σ (σ.set i a) := ⟨by rw [List.length_set], fun j hj => by rw [List.getElem?_set_ne (fun z => hj (by rw [z]; exact List.mem_singleton.mpr rfl))]⟩
theorem Out1.trans {α : Type} {ts us : List Nat} {σ σ1 σ2 : List α} (a : Out1 ts σ σ1) (b : Out1 us σ1 σ2) : Out1 (ts ++ us) σ σ2 := ⟨b.1.trans a.1, fun j h => (b.2 j fun z => h (List.mem_append_right _ z)).trans (a.2 j fun z => h (List.mem_append_left _ z))⟩
structure Out (ts : List Nat) (σ σ' : L2.St) (ρ ρ' : Env) (M M' : List Md) : Prop where
  s : Out1 ts σ σ'
  r : Out1 ts ρ ρ'
  m : Out1 ts M M'
theorem Out.refl (ts : List Nat) (σ : L2.St) (ρ : Env) (M : List Md) : Out ts σ σ ρ ρ M M := ⟨.refl _ _, .refl _ _, .refl _ _⟩
theorem Out.trans {ts us : List Nat} {σ σ1 σ2 : L2.St} {ρ ρ1 ρ2 : Env} {M M1 M2 : List Md} (a : Out ts σ σ1 ρ ρ1 M M1) (b : Out us σ1 σ2 ρ1 ρ2 M1 M2) : Out (ts ++ us) σ σ2 ρ ρ2 M M2 := ⟨a.s.trans b.s, a.r.trans b.r, a.m.trans b.m⟩
def lG (T : Tx K) (M Mt : List Md) (ts : List Nat) (tg : D → Env → Option Env) : TG := fun v σ H Q => ∃ B O Fs ρ d, Wd T.G B O Fs H σ ρ M ∧ Rep T.G O H v d ∧ ∃ ρ', tg d ρ = some ρ' ∧ ∀ σ' Fs', EvS M O Fs H σ ρ O Fs' H σ' ρ' → Out ts σ σ' ρ ρ' M Mt → Wd T.G B O Fs' H σ' ρ' Mt → Q σ' H
def lGs (T : Tx K) (M Mt : List Md) (ts : List Nat) (tg : List D → Env → Option Env) : TGs := fun vs σ H Q => ∃ B O Fs ρ ds, Wd T.G B O Fs H σ ρ M ∧ Reps T.G O H vs ds ∧ ∃ ρ', tg ds ρ = some ρ' ∧ ∀ σ' Fs', EvS M O Fs H σ ρ O Fs' H σ' ρ' → Out ts σ σ' ρ ρ' M Mt → Wd T.G B O Fs' H σ' ρ' Mt → Q σ' H
variable {T : Tx K} {M M1 Mt : List Md} {X : Cx} {e : Expr} {es : List Expr} {i : Nat} {x : Str} {pos : Pos}
def tName (i : Nat) (d : D) (ρ : Env) : Option Env := some (ρ.set i (some d))
theorem g_name (hN : X.N.Nodup) (hi : X.N[i]? = some x) (hx : Loc X.env.scope x) (hn : nf M i = true) (hf : X.fn x = true ∨ X.env.scope.names.lookup x = some .local := by first | exact .inl rfl | exact .inr rfl | assumption) : PG X (.Name x pos) (lG T M (M.set i .sh) [i] (tName i)) := by
  refine ⟨fun pins s σ H v u Q I r hw => ?_⟩
  obtain ⟨B, O, Fs, ρ, d, w, rp, ρ', e, k⟩ := hw
  cases e
  exact (pg_name hN hi hx hf).run pins s σ H v u Q I r (k _ (Fs.set i []) (EvS.set EvS.refl hn (fun b hb => by cases hb)) ⟨.set _ _ _, .set _ _ _, .set _ _ _⟩ (w.setSh hn rp))
def tNil (ds : List D) (ρ : Env) : Option Env := match ds with
  | [] => some ρ
  | _ => none
def tCons (t : D → Env → Option Env) (ts : List D → Env → Option Env) (ds : List D) (ρ : Env) : Option Env := match ds with
  | d :: ds => (t d ρ).bind fun ρ1 => ts ds ρ1
  | [] => none
theorem gs_nil : PGs X [] (lGs T M M [] tNil) := by
  refine ⟨fun pins s σ H vs us Q I r hw => ?_⟩
  obtain ⟨B, O, Fs, ρ, ds, w, rp, ρ', e, k⟩ := hw
  cases ds with
  | nil =>
    cases e
    cases rp
    exact pgs_nil.run pins s σ H [] us Q I r ⟨rfl, k _ Fs EvS.refl (Out.refl _ _ _ _) w⟩
  | cons d ds => cases e
theorem gs_cons {us ws : List Nat} {t : D → Env → Option Env} {ts : List D → Env → Option Env} (h1 : PG X e (lG T M M1 us t)) (h2 : PGs X es (lGs T M1 Mt ws ts)) (fx : fxOk M M1 = true := by rfl) (hs : (assignEach (e :: es) X.env).map (·.2) = assign e X.env :: (assignEach es X.env).map (·.2) := by rfl) : PGs X (e :: es) (lGs T M Mt (us ++ ws) (tCons t ts)) := by
  refine ⟨fun pins s σ H vs us Q I r hw => ?_⟩
  obtain ⟨B, O, Fs, ρ, ds, w, rp, ρ', e, k⟩ := hw
  cases ds with
  | nil => cases e
  | cons d ds =>
    cases rp with
    | cons r1 r2 =>
      obtain ⟨ρ1, e1, e2⟩ := Option.bind_eq_some_iff.mp e
      refine (pgs_cons h1 h2 hs).run pins s σ H _ us Q I r ⟨_, _, rfl, B, O, Fs, ρ, d, w, r1, ρ1, e1, fun σ1 Fs1 ev1 o1 w1 => ⟨B, O, Fs1, ρ1, ds, w1, r2, ρ', e2, fun σ2 Fs2 ev2 o2 w2 => k σ2 Fs2 (ev1.trans fx ev2) (o1.trans o2) w2⟩⟩
def tTup (n : Nat) (ts : List D → Env → Option Env) (d : D) (ρ : Env) : Option Env := match d.seq with
  | some ds => if ds.length = n then ts ds ρ else none
  | none => none
theorem g_tup {us : List Nat} {ts : List D → Env → Option Env} {k n : Nat} (hK : X.K = K) (hc : X.calm = true) (h : PGs X es (lGs T M Mt us ts)) (hn : (assignEach es X.env).length = n := by rfl) (hst : (assignEach es X.env).findIdx? (·.1) = none := by rfl) : PG X (.Tuple es k pos) (lG T M Mt us (tTup n ts)) := by
  subst hK
  refine ⟨fun pins s σ H v u Q I r hw => ?_⟩
  obtain ⟨B, O, Fs, ρ, d, w, rp, ρ', e, kk⟩ := hw
  unfold tTup at e
  split at e
  · rename_i ds hs
    split at e
    · rename_i hl
      obtain ⟨a, vs, e1, e2, e3⟩ := (show BRep T.G O [] H v d from .inl rp).seq hs
      subst e1
      have hl2 : vs.length = n := by rw [e3.length]; exact hl
      rcases e2 with e2 | e2
      · exact (pg_lst hc h hn hst).run pins s σ H _ u Q I r ⟨a, vs, rfl, e2, hl2, B, O, Fs, ρ, ds, w, e3, ρ', e, kk⟩
      · exact (pg_tup hc h hn hst).run pins s σ H _ u Q I r ⟨a, vs, rfl, e2, hl2, B, O, Fs, ρ, ds, w, e3, ρ', e, kk⟩
    · cases e
  · cases e
def sAsg (f : Env → R D) (tg : D → Env → Option Env) : Env → RS := fun ρ => (f ρ).bindS fun d ρ1 => match tg d ρ1 with
  | some ρ2 => .nx ρ2
  | none => .bad
end
def RS.loop (r : RS) (k : Env → RS) : RS := match r with
  | .nx ρ => k ρ
  | .ct ρ => k ρ
  | .bk ρ => .nx ρ
  | r => r
def sWhile (c : Env → R Bool) (g : Env → RS) : Nat → Env → RS
  | 0, _ => .bad
  | n + 1, ρ => (c ρ).bindS fun k ρ1 => if k then (g ρ1).loop (sWhile c g n) else .nx ρ1
def sFor (tg : D → Env → Option Env) (g : Env → RS) : List D → Env → RS
  | [], ρ => .nx ρ
  | x :: xs, ρ => match tg x ρ with
    | some ρ1 => (g ρ1).loop (sFor tg g xs)
    | none => .bad
section
variable {K : PySem.W.Frag} {T : Tx K} {M Mt Mn : List Md} {X : Cx} {st : Stmt} {body : List Stmt} {g : Env → RS} {pos : Pos} {e c tgt it : Expr} {t : Env → R Bool}
theorem run_turn {r : RS} {k : Env → RS} {B O : Addr → Prop} {Fs : List (List Addr)} {H : Hp} {σ : L2.St} {ρ : Env} {E : Ends} {N : L2.St → Hp → Prop} (run : RunS T Mt M (r.loop k) B O Fs H σ ρ E)
    (hN : ∀ ρ' O' Fs' H' σ', EvS Mt O Fs H σ ρ O' Fs' H' σ' ρ' → Wd T.G B O' Fs' H' σ' ρ' M → RunS T Mt M (k ρ') B O Fs H σ ρ E → N σ' H') : RunS { T with Mb := M } Mt M r B O Fs H σ ρ { E with nx := N, ct := N, bk := E.nx } := by
  cases r with
  | nx ρ' => exact fun O' Fs' H' σ' ev wd => hN ρ' O' Fs' H' σ' ev wd run
  | ct ρ' => exact fun O' Fs' H' σ' ev wd => hN ρ' O' Fs' H' σ' ev wd run
  | bk ρ' => exact run
  | rt d ρ' => exact run
  | ex x ρ' => exact run
  | bad => exact run
theorem s_while (n : Nat) (hp : PassesOwn (model X.prog X.w) X.A X.env X.xe) (hc : PT X c (lT (T.ex M) t)) (wx : Wk M T.Mx) (hb : PSs X body (lS { T with Mb := M } M M g)) : PS X (.While c body [] pos) (lS T M M (sWhile t g n)) := by
  refine PS.of (ps_while hp hc hb) fun E σ H ⟨B, O, Fs, ρ, w, run⟩ => ?_
  refine ⟨fun m σ H => ∃ B O Fs ρ, Wd T.G B O Fs H σ ρ M ∧ RunS T M M (sWhile t g m ρ) B O Fs H σ ρ E, ⟨n, B, O, Fs, ρ, w, run⟩, ?_⟩
  rintro m σ H ⟨B, O, Fs, ρ, w, run⟩
  cases m with
  | zero => exact run.elim
  | succ m =>
    refine ⟨B, O, Fs, ρ, w, RunS.bindE run wx (fun k ρ1 v O1 Fs1 H1 _ ev w1 r1 run1 => ?_) (fxOk_refl M)⟩
    cases (show v = k from r1)
    cases k with
    | false => rw [if_neg (by decide)] at run1 ⊢; exact run1.use w1
    | true =>
      rw [if_pos rfl] at run1 ⊢
      refine ⟨fun σ' H' => ∃ B O Fs ρ, Wd T.G B O Fs H' σ' ρ M ∧ RunS T M M (sWhile t g m ρ) B O Fs H' σ' ρ E, fun σ' H' h => ⟨m, Nat.lt_succ_self m, h⟩, B, O1, Fs1, ρ1, w1, ?_⟩
      exact run_turn run1 fun ρ' O' Fs' H' σ' ev' wd' run2 => ⟨B, O', Fs', ρ', wd', RunS.shift run2 (fxOk_refl M) ev'⟩
structure Kp0 (O : Addr → Prop) (F : List Addr) (H : Hp) (O2 : Addr → Prop) (H2 : Hp) : Prop where
  chg : ∀ b o, H b = some o → b ∉ F → H2 b = some o
  grow : ∀ b, O2 b → O b ∨ H b = none
structure ItOk (G : Gx K) (J : It) (xs : List D) (O : Addr → Prop) (F : List Addr) (H : Hp) : Prop where
  go : ∀ i O2 H2, Kp0 O F H O2 H2 → i < xs.length → J.go i H2
  yl : ∀ i O2 H2 x H3 d, Kp0 O F H O2 H2 → Al O2 H2 → J.yld i H2 x H3 → xs[i]? = some d → Same H2 H3 ∧ Rep G O2 H3 x d
  st : ∀ i O2 H2, Kp0 O F H O2 H2 → xs.length ≤ i → J.stop i H2
abbrev vI (S : Sx K) : VRel (List D) It := fun O Fs H J xs => ItOk S.G J xs O Fs.flatten H
abbrev lI (S : Sx K) (f : Env → R (List D)) : TI := lX S (vI S) f
def sForS (f : Env → R (List D)) (tg : D → Env → Option Env) (g : Env → RS) : Env → RS := fun ρ => (f ρ).bindS fun xs ρ1 => sFor tg g xs ρ1
theorem s_forC {us : List Nat} {f : Env → R (List D)} {tg : D → Env → Option Env} {wi : TI} {C : L2.St → Hp → Prop} (hp : PassesOwn (model X.prog X.w) X.A X.env X.xe) (hc : X.calm = true) (hi : PI X tgt it wi) (hw : ∀ σ H R, C σ H → lI (T.ex M) f σ H R → wi σ H R) (wx : Wk M T.Mx) (hg : PG X tgt (lG T M Mt us tg)) (fx : fxOk M Mt = true) (fx' : fxOk Mt M = true) (hb : PSs X body (lS { T with Mb := M } Mt M g))
    (h1 : ∀ x, foldedSetIterable it X.env x = pure x := by intro _; rfl) : PS X (.For tgt it body [] pos) (fun E σ H => C σ H ∧ lS T M M (sForS f tg g) E σ H) := by
  refine PS.of (ps_for hp hc hi hg hb h1) fun E σ H ⟨hC, B, O, Fs, ρ, w, run⟩ => ?_
  refine hw σ H _ hC ⟨B, O, Fs, ρ, w, RunS.bindE run wx (fun xs ρ1 J O1 Fs1 H1 _ ev w1 r1 run1 => ?_) (fxOk_refl M)⟩
  refine ⟨fun i m σ H => ∃ O Fs ρ, m = xs.length - i ∧ Wd T.G B O Fs H σ ρ M ∧ Kp0 O1 Fs1.flatten H1 O H ∧ (∀ b ∈ Fs.flatten, b ∈ Fs1.flatten ∨ H1 b = none) ∧ (∀ b o, H1 b = some o → ∃ o', H b = some o') ∧ RunS T M M (sFor tg g (xs.drop i) ρ) B O Fs H σ ρ E, ⟨_, O1, Fs1, ρ1, rfl, w1, ⟨fun _ _ h _ => h, fun _ h => .inl h⟩, fun _ h => .inl h, fun _ o h => ⟨o, h⟩, run1⟩, ?_⟩
  rintro i m σ H ⟨O, Fs, ρ, rfl, w, kp, fg, dm, run⟩
  by_cases hl : i < xs.length
  · refine .inr ⟨r1.go i O H kp hl, fun σ' H' => ∃ O Fs ρ, Wd T.G B O Fs H' σ' ρ M ∧ Kp0 O1 Fs1.flatten H1 O H' ∧ (∀ b ∈ Fs.flatten, b ∈ Fs1.flatten ∨ H1 b = none) ∧ (∀ b o, H1 b = some o → ∃ o', H' b = some o') ∧ RunS T M M (sFor tg g (xs.drop (i + 1)) ρ) B O Fs H' σ' ρ E, fun σ' H' ⟨O', Fs', ρ', h1, h2, h3, h4, h5⟩ => ⟨xs.length - (i + 1), by omega, O', Fs', ρ', rfl, h1, h2, h3, h4, h5⟩, fun x H3 hy => ?_⟩
    have hd : xs[i]? = some (xs[i]'hl) := List.getElem?_eq_getElem hl
    obtain ⟨sm, rp⟩ := r1.yl i O H x H3 _ kp w.al hy hd
    have w3 := w.same sm
    have dr : xs.drop i = xs[i]'hl :: xs.drop (i + 1) := List.drop_eq_getElem_cons hl
    rw [dr] at run
    unfold sFor at run
    cases et : tg (xs[i]'hl) ρ with
    | none => rw [et] at run; exact run.elim
    | some ρ2 =>
      rw [et] at run
      have run3 : RunS T M M ((g ρ2).loop (sFor tg g (xs.drop (i + 1)))) B O Fs H3 σ ρ E := RunS.shift run (fxOk_refl M) (Ev.same sm).toS
      refine ⟨B, O, Fs, ρ, _, w3, rp, ρ2, et, fun σ2 Fs2 ev2 _ w2 => ⟨B, O, Fs2, ρ2, w2, ?_⟩⟩
      refine run_turn (RunS.shift run3 fx ev2) fun ρ' O' Fs' H' σ' ev' wd' run4 => ⟨O', Fs', ρ', wd', ⟨fun b o hb n => ?_, fun b hb => ?_⟩, fun b hb => ?_, fun b o hb => ?_, RunS.shift run4 fx' ev'⟩
      · have h3 := sm b o (kp.chg b o hb n)
        refine ev'.chg b o h3 fun z => ?_
        rcases ev2.fgrow b z with z | z
        · rcases fg b z with z | z
          · exact n z
          · rw [hb] at z; cases z
        · rw [h3] at z; cases z
      · rcases ev'.grow b hb with z | z
        · exact kp.grow b z
        · refine .inr ?_
          cases q : H1 b with
          | none => rfl
          | some o => obtain ⟨o', ho⟩ := dm b o q; rw [sm b o' ho] at z; cases z
      · rcases ev'.fgrow b hb with z | z
        · rcases ev2.fgrow b z with z | z
          · exact fg b z
          · refine .inr ?_
            cases q : H1 b with
            | none => rfl
            | some o => obtain ⟨o', ho⟩ := dm b o q; rw [sm b o' ho] at z; cases z
        · refine .inr ?_
          cases q : H1 b with
          | none => rfl
          | some o => obtain ⟨o', ho⟩ := dm b o q; rw [sm b o' ho] at z; cases z
      · obtain ⟨o', ho⟩ := dm b o hb
        exact ev'.dom b o' (sm b o' ho)
  · refine .inl ⟨r1.st i O H kp (by omega), ?_⟩
    rw [List.drop_eq_nil_of_le (by omega)] at run
    exact RunS.use run w
theorem s_for {us : List Nat} {f : Env → R (List D)} {tg : D → Env → Option Env} (hp : PassesOwn (model X.prog X.w) X.A X.env X.xe) (hc : X.calm = true) (hi : PI X tgt it (lI (T.ex M) f)) (wx : Wk M T.Mx) (hg : PG X tgt (lG T M Mt us tg)) (fx : fxOk M Mt = true) (fx' : fxOk Mt M = true) (hb : PSs X body (lS { T with Mb := M } Mt M g))
    (h1 : ∀ x, foldedSetIterable it X.env x = pure x := by intro _; rfl) : PS X (.For tgt it body [] pos) (lS T M M (sForS f tg g)) :=
  PS.of (s_forC (C := fun _ _ => True) hp hc hi (fun _ _ _ _ h => h) wx hg fx fx' hb h1) fun _ _ _ h => ⟨True.intro, h⟩
end
section
variable {K : PySem.W.Frag} {S : Sx K} {X : Cx} {e tgt a b : Expr} {fa : Env → R D} {fs : Env → R (List D)} {pos p : Pos}
theorem PI.of {w w' : TI} (h : PI X tgt e w) (i : ∀ σ H R, w' σ H R → w σ H R) : PI X tgt e w' := ⟨fun pins s σ H R I x => h.run pins s σ H R I (i σ H R x)⟩
def sIt (g : D → Option (List D)) (fa : Env → R D) : Env → R (List D) := fun ρ => (fa ρ).bind fun x ρ1 => R.of (g x) ρ1
theorem itOk_list {G : Gx K} {O : Addr → Prop} {F : List Addr} {H : Hp} {a : Addr} {vs : List V} {ds : List D} (hk : ∀ O2 H2, Kp0 O F H O2 H2 → Rd H2 a (.lst vs)) (hF : ∀ b ∈ F, O b) (r : Reps G O H vs ds) : ItOk G (Itl K a) ds O F H := by
  have kept : ∀ O2 H2, Kp0 O F H O2 H2 → Kept O H O2 H2 := fun O2 H2 k => ⟨fun b u n _ h => by
      rcases h with h | ⟨o, h⟩
      · exact .inl (k.chg b _ h fun z => n (hF b z))
      · exact .inr ⟨o, k.chg b _ h fun z => n (hF b z)⟩, fun b P n h => k.chg b _ h fun z => n (hF b z), fun b vs n h => k.chg b _ h fun z => n (hF b z), fun b o vs n h => k.chg b _ h fun z => n (hF b z), fun b C dx fs n h => k.chg b _ h fun z => n (hF b z), k.grow⟩
  refine ⟨fun i O2 H2 k hi => ?_, fun i O2 H2 x H3 d k al hy hd => ?_, fun i O2 H2 k hi => ⟨vs, .inl (hk O2 H2 k), by rw [r.length]; exact hi⟩⟩
  · have : i < vs.length := by rw [r.length]; exact hi
    exact ⟨vs, vs[i], .inl (hk O2 H2 k), List.getElem?_eq_getElem this⟩
  · obtain ⟨rfl, h⟩ := hy
    obtain ⟨v, e1, e2⟩ := (r.keep (kept O2 H3 k)).get hd
    have := h vs (.inl (hk O2 H3 k))
    rw [e1] at this
    cases this
    exact ⟨Same.refl _, e2⟩
theorem itOk_tup {G : Gx K} {O : Addr → Prop} {F : List Addr} {H : Hp} {a : Addr} {vs : List V} {ds : List D} (hk : ∀ O2 H2, Kp0 O F H O2 H2 → SqT K H2 a vs) (hF : ∀ b ∈ F, O b) (r : Reps G O H vs ds) : ItOk G (Itt K a) ds O F H := by
  have kept : ∀ O2 H2, Kp0 O F H O2 H2 → Kept O H O2 H2 := fun O2 H2 k => ⟨fun b u n _ h => by
      rcases h with h | ⟨o, h⟩
      · exact .inl (k.chg b _ h fun z => n (hF b z))
      · exact .inr ⟨o, k.chg b _ h fun z => n (hF b z)⟩, fun b P n h => k.chg b _ h fun z => n (hF b z), fun b vs n h => k.chg b _ h fun z => n (hF b z), fun b o vs n h => k.chg b _ h fun z => n (hF b z), fun b C dx fs n h => k.chg b _ h fun z => n (hF b z), k.grow⟩
  refine ⟨fun i O2 H2 k hi => ?_, fun i O2 H2 x H3 d k al hy hd => ?_, fun i O2 H2 k hi => ⟨vs, hk O2 H2 k, by rw [r.length]; exact hi⟩⟩
  · have : i < vs.length := by rw [r.length]; exact hi
    exact ⟨vs, vs[i], hk O2 H2 k, List.getElem?_eq_getElem this⟩
  · obtain ⟨rfl, h⟩ := hy
    obtain ⟨v, e1, e2⟩ := (r.keep (kept O2 H3 k)).get hd
    have := h vs (hk O2 H3 k)
    rw [e1] at this
    cases this
    exact ⟨Same.refl _, e2⟩
theorem BRep.lstK {G : Gx K} {O : Addr → Prop} {F : List Addr} {H : Hp} {v : V} {ds : List D} (h : BRep G O F H v (.lst ds)) (hF : ∀ b ∈ F, O b) : ∃ a vs, v = .ref a ∧ Reps G O H vs ds ∧ Rd H a (.lst vs) ∧ ∀ O2 H2, Kp0 O F H O2 H2 → Rd H2 a (.lst vs) := by
  rcases h with h | ⟨p, n, _, h | h | h⟩
  · cases h with
    | lst r nO t =>
      refine ⟨_, _, rfl, t, r, fun O2 H2 k => ?_⟩
      rcases r with r | ⟨o, r⟩
      · exact .inl (k.chg _ _ r fun z => nO (hF _ z))
      · exact .inr ⟨o, k.chg _ _ r fun z => nO (hF _ z)⟩
  · obtain ⟨a, vs, ds', Fs, e1, e2, e3, e4, e5⟩ := h
    cases e2
    have : a = p := (List.cons.inj e4).1.symm
    subst this
    exact ⟨a, vs, e1, all3_reps e5, .inl e3, fun O2 H2 k => .inl (k.chg _ _ e3 n)⟩
  · obtain ⟨a, kvs, Fs, e1, e2, ⟨_, e3, _⟩ | ⟨_, e3, _⟩⟩ := h <;> cases e3
  · obtain ⟨a, C, dx, fvs, c, fs, Fs, e1, e2, _⟩ := h
    cases e2
theorem BRep.tplK {G : Gx K} {O : Addr → Prop} {F : List Addr} {H : Hp} {v : V} {d : D} {ds : List D} (h : BRep G O F H v d) (hs : d.tpl = some ds) (hF : ∀ b ∈ F, O b) : ∃ a vs, v = .ref a ∧ Reps G O H vs ds ∧ SqT K H a vs ∧ ∀ O2 H2, Kp0 O F H O2 H2 → SqT K H2 a vs := by
  obtain ⟨a, vs, e1, e2, e3, rp⟩ := h.tpl hs
  cases d with
  | tup xs =>
    obtain ⟨a', vs', e4, e5, e6, e7⟩ := h.tup
    subst e4
    cases hs
    exact ⟨a', vs', rfl, e7, SqT.of e5, fun O2 H2 k => SqT.of (k.chg _ _ e5 fun z => e6 (hF _ z))⟩
  | ktp xs =>
    cases rp with
    | ktp r t => cases e1; cases hs; exact ⟨_, _, rfl, t, r.sq, fun O2 H2 k => r.sq⟩
    | ftp r n t =>
      cases e1; cases hs
      obtain ⟨o, h, c, d⟩ := r
      exact ⟨_, _, rfl, t, .inl (.inr ⟨o, h⟩), fun O2 H2 k => .inl (.inr ⟨o, k.chg _ _ h fun z => n (hF _ z)⟩)⟩
  | _ => cases hs
theorem i_seq (hK : X.K = K) (ha : PE X e (lB S fa)) : PI X tgt e (lI S (sIt D.seq fa)) := by
  subst hK
  refine ⟨fun pins s σ H R I hw => ?_⟩
  obtain ⟨B, O, Fs, ρ, w, run⟩ := hw
  have go : (∀ d ρ1, fa ρ = .ok d ρ1 → ∃ ds, d = .lst ds) ∨ (∀ d ρ1, fa ρ = .ok d ρ1 → ∀ ds, d ≠ .lst ds) := by
    cases hq : fa ρ with
    | ok d ρ1 =>
      cases d with
      | lst ds => exact .inl fun d ρ1 e => by cases e; exact ⟨ds, rfl⟩
      | _ => exact .inr fun d ρ1 e ds z => by cases e; cases z
    | ex x ρ1 => exact .inl fun d ρ1 e => by cases e
    | bad => exact .inl fun d ρ1 e => by cases e
  rcases go with go | go
  · refine (pi_list ha).run pins s σ H R I ⟨B, O, Fs, ρ, w, run.bind fun d ρ1 v O1 Fs1 H1 he ev1 w1 r1 run1 => ?_⟩
    obtain ⟨ds, rfl⟩ := go d ρ1 he
    obtain ⟨a, vs, e1, e2, e3, e4⟩ := r1.lstK w1.sub
    exact ⟨a, e1, ⟨vs, .inl e3⟩, run1.use w1 (itOk_list e4 w1.sub e2)⟩
  · refine (pi_tup ha).run pins s σ H R I ⟨B, O, Fs, ρ, w, run.bind fun d ρ1 v O1 Fs1 H1 he ev1 w1 r1 run1 => ?_⟩
    cases hs : d.seq with
    | none => rw [hs] at run1; exact run1.elim
    | some ds =>
      rw [hs] at run1
      have ht : d.tpl = some ds := by
        cases d with
        | lst xs => exact absurd rfl (go _ ρ1 he xs)
        | tup xs => exact hs
        | ktp xs => exact hs
        | _ => cases hs
      obtain ⟨a, vs, e1, e2, e3, e4⟩ := r1.tplK ht w1.sub
      exact ⟨a, e1, ⟨vs, e3⟩, run1.use w1 (itOk_tup e4 w1.sub e2)⟩
def signs : D → Option (List D)
  | .str x => some (x.cps.toList.map fun c => .str ⟨#[c]⟩)
  | _ => none
theorem i_str (ha : PE X e (lB S fa)) : PI X tgt e (lI S (sIt signs fa)) := by
  refine PI.of (pi_str ha) fun σ H R ⟨B, O, Fs, ρ, w, run⟩ => ⟨B, O, Fs, ρ, w, run.bind fun d ρ1 v O1 Fs1 H1 he ev1 w1 r1 run1 => ?_⟩
  cases d with
  | str x =>
    refine ⟨x, r1.str, run1.use w1 ⟨fun i O2 H2 _ hi => ?_, fun i O2 H2 y H3 d k al hy hd => ?_, fun i O2 H2 _ hi => ?_⟩⟩
    · rw [List.length_map] at hi
      exact (show i < x.cps.size by simpa using hi)
    · obtain ⟨rfl, c, hc, rfl⟩ := hy
      refine ⟨Same.refl _, ?_⟩
      rw [List.getElem?_map] at hd
      have hc' : x.cps.toList[i]? = some c := by simpa using hc
      rw [hc'] at hd
      cases hd
      exact .str _
    · rw [List.length_map] at hi
      exact (show x.cps.size ≤ i by simpa using hi)
  | _ => exact run1.elim
def rng (lo : Int) (n : Nat) : List D := (List.range n).map fun (i : Nat) => .int (lo + (i : Int))
theorem itOk_rng {G : Gx K} {O : Addr → Prop} {F : List Addr} {H : Hp} {lo : Int} {n : Nat} : ItOk G (Itr lo n) (rng lo n) O F H := by
  have hl : (rng lo n).length = n := by unfold rng; simp
  refine ⟨fun i O2 H2 _ hi => by rw [hl] at hi; exact hi, fun i O2 H2 y H3 d k al hy hd => ?_, fun i O2 H2 _ hi => by rw [hl] at hi; exact hi⟩
  obtain ⟨rfl, rfl⟩ := hy
  refine ⟨Same.refl _, ?_⟩
  unfold rng at hd
  rw [List.getElem?_map] at hd
  cases hq : (List.range n)[i]? with
  | none => rw [hq] at hd; cases hd
  | some j =>
    rw [hq] at hd
    cases hd
    have : j = i := by
      have := List.getElem?_eq_some_iff.mp hq
      obtain ⟨h1, h2⟩ := this
      simpa using h2.symm
    subst this
    exact .int _
def gRng : List D → Option (List D)
  | [.int j] => if -(2 ^ 62) ≤ j ∧ j < 2 ^ 62 then some (rng 0 j.toNat) else none
  | [.int i, .int j] => if -(2 ^ 62) ≤ i ∧ i < 2 ^ 62 ∧ -(2 ^ 62) ≤ j ∧ j < 2 ^ 62 then some (rng i (j - i).toNat) else none
  | _ => none
def sItA (g : List D → Option (List D)) (fs : Env → R (List D)) : Env → R (List D) := fun ρ => (fs ρ).bind fun x ρ1 => R.of (g x) ρ1
theorem i_range1 (hg : Gl X "range") (hm : X.mg "range" = none) (ha : PA X [a] (lBs S fs)) (hs : starEach [a] X.env = [(false, eval a X.env)] := by rfl) (h1 : ∀ ρ ds ρ1, fs ρ = .ok ds ρ1 → ds.length = 1) : PI X tgt (.Call (.Name "range" p) [a] [] pos) (lI S (sItA gRng fs)) := by
  refine PI.of (pi_range1 hg hm ha hs) fun σ H R ⟨B, O, Fs, ρ, w, run⟩ => ⟨B, O, Fs, ρ, w, run.bind fun ds ρ1 vs O1 Fs1 H1 he ev1 w1 r1 run1 => ?_⟩
  have hl := h1 ρ ds ρ1 he
  unfold gRng at run1
  split at run1
  · rename_i j
    split at run1
    · rename_i hj
      obtain ⟨v, e1, r2⟩ := breps1 r1
      exact ⟨j, by rw [e1, r2.int], hj.1, hj.2, run1.use w1 itOk_rng⟩
    · exact run1.elim
  · cases hl
  · exact run1.elim
theorem len_nil : ∀ ρ ds ρ1, sNil ρ = .ok ds ρ1 → ds.length = 0 := fun ρ ds ρ1 h => by cases h; rfl
theorem len_cons {n : Nat} {fa : Env → R D} {fs : Env → R (List D)} (h : ∀ ρ ds ρ1, fs ρ = .ok ds ρ1 → ds.length = n) : ∀ ρ ds ρ1, sCons fa fs ρ = .ok ds ρ1 → ds.length = n + 1 := fun ρ ds ρ1 e => by
  unfold sCons at e
  cases e1 : fa ρ with
  | ok a ρ2 =>
    rw [e1] at e
    cases e2 : fs ρ2 with
    | ok as ρ3 =>
      simp only [R.bind, e2] at e
      cases e
      rw [List.length_cons, h _ _ _ e2]
    | ex x ρ3 => simp only [R.bind, e2] at e; cases e
    | bad => simp only [R.bind, e2] at e; cases e
  | ex x ρ2 => rw [e1] at e; cases e
  | bad => rw [e1] at e; cases e
end
end Pu
namespace Pu
open PySem L2 PySem.Spec PyProof.Rows Pw
def outs : List Md → List D → Env → List D
  | .op _ :: pm, d :: ds, some d' :: ρ => d' :: outs pm ds ρ
  | _ :: pm, d :: ds, _ :: ρ => d :: outs pm ds ρ
  | _, _, _ => []
def defF (pm : List Md) (n : Nat) (g : Env → RS) (ds : List D) : RF := match g (ds.map some ++ List.replicate n none) with
  | .nx ρ => .ok .non (outs pm ds ρ)
  | .rt d ρ => .ok d (outs pm ds ρ)
  | .ex x ρ => .ex x (outs pm ds ρ)
  | _ => .bad
def Md.ret : Md → Md
  | .op t => .op t
  | _ => .na
def pmOk : List Md → Bool
  | [] => true
  | .ow _ :: _ => false
  | _ :: ms => pmOk ms
def retM (pm : List Md) (n : Nat) : List Md := pm.map Md.ret ++ List.replicate n .na
abbrev defT {K : PySem.W.Frag} (G : Gx K) (xa : String → Option Addr) (E : XK) (pm : List Md) (n : Nat) : Tx K := ⟨G, xa, fun c d _ H => E c d H, [], retM pm n, retM pm n⟩
theorem outs_len : ∀ {pm : List Md} {ds : List D} {ρ : Env}, ds.length = pm.length → pm.length ≤ ρ.length → (outs pm ds ρ).length = pm.length
  | [], ds, ρ, h, _ => by unfold outs; cases ds <;> first | rfl | cases h
  | m :: pm, [], _, h, _ => by cases h
  | m :: pm, d :: ds, [], _, h => by cases h
  | m :: pm, d :: ds, r :: ρ, h1, h2 => by
    have ih := outs_len (pm := pm) (ds := ds) (ρ := ρ) (by simpa using h1) (by simpa using h2)
    cases m with
    | op t =>
      cases r with
      | none => unfold outs; rw [List.length_cons, List.length_cons, ih]
      | some r => unfold outs; rw [List.length_cons, List.length_cons, ih]
    | _ => unfold outs; rw [List.length_cons, List.length_cons, ih]
theorem outs_same : ∀ {pm : List Md} {ds : List D} {ρ : Env} {i : Nat} {m : Md}, ds.length = pm.length → pm.length ≤ ρ.length → pm[i]? = some m → m.isOw = false → (outs pm ds ρ)[i]? = ds[i]?
  | [], _, _, _, _, _, _, e, _ => by simp at e
  | a :: pm, [], _, _, _, h, _, _, _ => by cases h
  | a :: pm, d :: ds, [], _, _, _, h, _, _ => by cases h
  | a :: pm, d :: ds, r :: ρ, 0, m, _, _, e, ho => by
    cases e
    cases a with
    | op t => cases ho
    | _ => unfold outs; rfl
  | a :: pm, d :: ds, r :: ρ, i + 1, m, h1, h2, e, ho => by
    have ih := outs_same (pm := pm) (ds := ds) (ρ := ρ) (i := i) (m := m) (by simpa using h1) (by simpa using h2) (by simpa using e) ho
    cases a with
    | op t =>
      cases r with
      | none => unfold outs; simpa using ih
      | some r => unfold outs; simpa using ih
    | _ => unfold outs; simpa using ih
theorem outs_op : ∀ {pm : List Md} {ds : List D} {ρ : Env} {i : Nat} {t : Shp} {d' : D}, ds.length = pm.length → pm[i]? = some (.op t) → ρ[i]? = some (some d') → (outs pm ds ρ)[i]? = some d'
  | [], _, _, _, _, _, _, e, _ => by simp at e
  | a :: pm, [], _, _, _, _, h, _, _ => by cases h
  | a :: pm, d :: ds, [], _, _, _, _, _, e => by simp at e
  | a :: pm, d :: ds, r :: ρ, 0, t, d', _, e, e2 => by
    cases e
    cases e2
    unfold outs
    rfl
  | a :: pm, d :: ds, r :: ρ, i + 1, t, d', h1, e, e2 => by
    have ih := outs_op (pm := pm) (ds := ds) (ρ := ρ) (i := i) (t := t) (d' := d') (by simpa using h1) (by simpa using e) (by simpa using e2)
    cases a with
    | op t =>
      cases r with
      | none => unfold outs; simpa using ih
      | some r => unfold outs; simpa using ih
    | _ => unfold outs; simpa using ih
section
variable {K : PySem.W.Frag} {G : Gx K} {xa : String → Option Addr} {B O O' : Addr → Prop} {Fs Fs' : List (List Addr)} {H H' : Hp} {σ σ' : L2.St} {ρ ρ' : Env} {M : List Md}
theorem EvS.kept (e : EvS M O Fs H σ ρ O' Fs' H' σ' ρ') (s : ∀ a ∈ Fs.flatten, O a) : Kept O H O' H' where
  rd := fun b u n _ h => by
    rcases h with h | ⟨o, h⟩
    · exact .inl (e.chg b _ h fun z => n (s b z))
    · exact .inr ⟨o, e.chg b _ h fun z => n (s b z)⟩
  ext := fun b P n h => e.chg b _ h fun z => n (s b z)
  tup := fun b vs n h => e.chg b _ h fun z => n (s b z)
  ftp := fun b o vs n h => e.chg b _ h fun z => n (s b z)
  ins := fun b C dx fs n h => e.chg b _ h fun z => n (s b z)
  grow := e.grow
theorem fin_wd {pm : List Md} {n : Nat} {vs : List V} {ds : List D} (w : Wd G O O Fs H (vs.map some) (ds.map some) pm) (ok : pmOk pm = true) (ev : EvS (pm ++ List.replicate n .na) O (Fs ++ List.replicate n []) H (vs.map some ++ List.replicate n none) (ds.map some ++ List.replicate n none) O' Fs' H' σ' ρ') (w' : Wd G O O' Fs' H' σ' ρ' (retM pm n)) :
    ∃ Fs2, Ev pm O Fs H (ds.map some) O' Fs2 H' ((outs pm ds ρ').map some) ∧ Wd G O O' Fs2 H' (vs.map some) ((outs pm ds ρ').map some) pm := by
  have fl : (Fs ++ List.replicate n []).flatten = Fs.flatten := by rw [List.flatten_append, flat_nil, List.append_nil]
  have lv : vs.length = pm.length := by simpa using w.ls
  have ld : ds.length = pm.length := by simpa using w.lr
  have lf : Fs.length = pm.length := w.lf
  have lr' : ρ'.length = pm.length + n := by rw [w'.lr]; unfold retM; simp
  have lf' : Fs'.length = pm.length + n := by rw [w'.lf]; unfold retM; simp
  have lo := outs_len (pm := pm) (ds := ds) (ρ := ρ') ld (by omega)
  have subT : ∀ b ∈ (Fs'.take pm.length).flatten, b ∈ Fs'.flatten := fun b hb => by
    obtain ⟨F, hF, hb⟩ := List.mem_flatten.mp hb
    exact mem_flat (List.mem_of_mem_take hF) hb
  have chg : ∀ b o, H b = some o → b ∉ Fs.flatten → H' b = some o := fun b o h z => ev.chg b o h (by rw [fl]; exact z)
  have fgr : ∀ b ∈ Fs'.flatten, b ∈ Fs.flatten ∨ H b = none := fun b hb => by have := ev.fgrow b hb; rwa [fl] at this
  have k : Kept O H O' H' := ev.kept (by rw [fl]; exact w.sub)
  have nowm : ∀ (i : Nat) (t : Shp), pm[i]? ≠ some (Md.ow t) := by
    intro i t
    clear ev w w' lv ld lf lr' lf' lo subT
    induction pm generalizing i with
    | nil => simp
    | cons m ms ih =>
      cases i with
      | zero =>
        intro z
        cases z
        cases ok
      | succ i =>
        have ok' : pmOk ms = true := by cases m <;> first | exact ok | cases ok
        simpa using ih ok' i
  refine ⟨Fs'.take pm.length, ⟨chg, ev.dom, fun b hb => w'.bo b hb, ev.grow, fun b hb => fgr b (subT b hb), fun j m hj ho => ?_⟩, ⟨?_, fun a ha => w'.sub a (subT a ha), w'.bo, w'.al, by simpa using lv, by rw [List.length_map]; exact lo, by rw [List.length_take]; omega, fun i m v d f e1 e2 e3 e4 => ?_⟩⟩
  · rw [List.getElem?_map, List.getElem?_map, outs_same ld (by omega) hj ho]
  · have := w'.nd
    rw [← List.take_append_drop pm.length Fs', List.flatten_append, List.nodup_append] at this
    exact this.1
  · have hi : i < pm.length := (List.getElem?_eq_some_iff.mp e1).1
    have e4' : Fs'[i]? = some f := by
      rw [List.getElem?_take] at e4
      simpa [hi] using e4
    obtain ⟨v0, d0, F0, h1, h2, h3, sl⟩ := w.get e1
    rw [e2] at h1
    cases h1
    have hr : (retM pm n)[i]? = some m.ret := by
      unfold retM
      rw [List.getElem?_append_left (by simpa using hi), List.getElem?_map, e1]
      rfl
    obtain ⟨v1, d1, F1, g1, g2, g3, sl'⟩ := w'.get hr
    rw [e4'] at g3
    cases g3
    have same : m.isOw = false → d = d0 := fun ho => by
      rw [List.getElem?_map, outs_same ld (by omega) e1 ho, ← List.getElem?_map, h2] at e3
      exact (Option.some.inj e3).symm
    cases m with
    | na => exact sl'
    | hd => exact sl'
    | sh =>
      have := same rfl
      subst this
      obtain ⟨_, v', d', q1, q2, r⟩ := sl
      exact ⟨sl', v', d', q1, q2, r.keep k⟩
    | mb =>
      have := same rfl
      subst this
      obtain ⟨_, h⟩ := sl
      exact ⟨sl', fun d' hd => by obtain ⟨v', e1, r⟩ := h d' hd; exact ⟨v', e1, r.keep k⟩⟩
    | th a c q l =>
      obtain ⟨_, q1, ⟨h1, h2⟩, h3⟩ := sl
      exact ⟨sl', q1, ⟨k.no h2 h1, k.ext _ _ h1 h2⟩, fun p hp => (h3 p hp).keep k⟩
    | br =>
      have := same rfl
      subst this
      obtain ⟨_, v', d', q1, q2, r⟩ := sl
      refine ⟨sl', v', d', q1, q2, ?_⟩
      rcases r with r | ⟨p, np, ⟨o, ho⟩, r⟩
      · exact .inl (r.keep k)
      · have kp : ∀ b ∈ [p], H' b = H b := fun b hb => by
          rw [List.mem_singleton.mp hb, ho]
          exact chg p o ho np
        refine .inr ⟨p, fun z => ?_, ⟨o, chg p o ho np⟩, ?_⟩
        · rcases fgr p (subT p z) with z | z
          · exact np z
          · rw [ho] at z; cases z
        · rcases r with r | r | r
          · exact .inl (Own.keep k _ kp r)
          · exact .inr (.inl (Own.keep k _ kp r))
          · exact .inr (.inr (Own.keep k _ kp r))
    | ow t => exact absurd e1 (nowm i t)
    | op t =>
      obtain ⟨v', d', q1, q2, ow⟩ := sl'
      subst q1 q2
      have hs := ev.sig i (.op t) (by rw [List.getElem?_append_left hi]; exact e1) rfl
      rw [g1, List.getElem?_append_left (by rw [List.length_map]; omega), e2] at hs
      rw [List.getElem?_map, outs_op ld e1 g2] at e3
      cases hs
      cases e3
      exact ⟨v', d', rfl, rfl, ow⟩
theorem body_sp {pm : List Md} {n : Nat} {g : Env → RS} {vs : List V} {Q : VK} {E : XK} (ok : pmOk pm = true) (h : SpF G xa pm (defF pm n g) vs H Q E) : lS (defT G xa E pm n) (pm ++ List.replicate n .na) (retM pm n) g { nx := fun _ H' => Q .non H', rt := Q } (vs.map some ++ List.replicate n none) H := by
  obtain ⟨O, Fs, ds, w, run⟩ := h
  have fl : (Fs ++ List.replicate n []).flatten = Fs.flatten := by rw [List.flatten_append, flat_nil, List.append_nil]
  have w0 : Wd G O O (Fs ++ List.replicate n []) H (vs.map some ++ List.replicate n none) (ds.map some ++ List.replicate n none) (pm ++ List.replicate n .na) := by
    refine ⟨by rw [fl]; exact w.nd, by rw [fl]; exact w.sub, w.bo, w.al, by rw [List.length_append, List.length_append, w.ls]; simp, by rw [List.length_append, List.length_append, w.lr]; simp, by rw [List.length_append, List.length_append, w.lf]; simp, fun i m v d f e1 e2 e3 e4 => ?_⟩
    rw [fl]
    by_cases hi : i < pm.length
    · rw [List.getElem?_append_left hi] at e1
      rw [List.getElem?_append_left (by rw [w.ls]; exact hi)] at e2
      rw [List.getElem?_append_left (by rw [w.lr]; exact hi)] at e3
      rw [List.getElem?_append_left (by rw [w.lf]; exact hi)] at e4
      exact w.sl i m v d f e1 e2 e3 e4
    · rw [List.getElem?_append_right (by omega)] at e1
      rw [List.getElem?_append_right (by rw [w.lf]; omega)] at e4
      have h1 := (List.mem_replicate.mp (List.mem_of_getElem? e1)).2
      have h2 := (List.mem_replicate.mp (List.mem_of_getElem? e4)).2
      subst h1 h2
      exact rfl
  refine ⟨O, O, _, _, w0, ?_⟩
  unfold defF at run
  cases e : g (ds.map some ++ List.replicate n none) with
  | nx ρ' =>
    rw [e] at run
    intro O' Fs' H' σ' ev wd
    obtain ⟨Fs2, ev2, w2⟩ := fin_wd w ok ev wd
    exact run .non O' Fs2 H' ev2 w2 .non
  | rt d ρ' =>
    rw [e] at run
    intro v O' Fs' H' σ' ev wd r
    obtain ⟨Fs2, ev2, w2⟩ := fin_wd w ok ev wd
    exact run v O' Fs2 H' ev2 w2 r
  | ex x ρ' =>
    rw [e] at run
    intro cls dd O' Fs' H' σ' ev wd r
    obtain ⟨Fs2, ev2, w2⟩ := fin_wd w ok ev wd
    exact run cls dd O' Fs2 H' ev2 w2 r
  | bk ρ' => rw [e] at run; exact run.elim
  | ct ρ' => rw [e] at run; exact run.elim
  | bad => rw [e] at run; exact run.elim
end
theorem fn_ok {P : Program} {w : World} {K : PySem.W.Frag} {G : Gx K} {xa : String → Option Addr} {mg : Str → Option Value} {base : Heap} {x qual : Str} {st : Stmt} {f : Addr} {fd : FuncData} {N ps : List Str} {k n : Nat} {pm : List Md} {g : Env → RS} (F : Fun K x qual st f fd) (S : FnScope N ps (defScope st)) (hl : pm.length = ps.length) (ok : pmOk pm = true) (hn : N.length = ps.length + n)
    (hbody : ∀ (cdv : Value) (A : Around) (outer : List PySem.Env) (s : Shared) (H : Hp) (E : XK), RoomG k (A.deeper (envOfC qual (defScope st) s.heap.objs.size f cdv)) →
      PSs (cxOf (L2.CX P w) P w K mg base N qual (defScope st) f cdv A outer s H E) (defBody st) (lS (defT G xa E pm n) (pm ++ List.replicate n .na) (retM pm n) g)) : FnOkG P w K mg base (L2.CX P w) (k + 1) f fd ps (SpF G xa pm (defF pm n g)) := by
  have len : ∀ vs H Q E, SpF G xa pm (defF pm n g) vs H Q E → vs.length = ps.length := fun vs H Q E ⟨O, Fs, ds, w, _⟩ => by
    have := w.ls
    rw [List.length_map] at this
    omega
  refine okG F S len fun cdv A outer s H vs Q E hr h => ⟨_, hbody cdv A outer s H E hr, ?_⟩
  have hv := len vs H Q E h
  have es : L2.start N vs = vs.map some ++ List.replicate n none := by
    unfold L2.start
    rw [hn, hv, Nat.add_sub_cancel_left]
  rw [es]
  exact body_sp ok h
theorem fn_okD {P : Program} {w : World} {K : PySem.W.Frag} {G : Gx K} {xa : String → Option Addr} {mg : Str → Option Value} {base : Heap} {x qual : Str} {params : Arguments} {body : List Stmt} {scope : Scope} {dvs : List V} {kws : List (Str × V)} {f : Addr} {fd : FuncData} {N ps : List Str} {k n : Nat} {pm : List Md} {g : Env → RS} (F : FunD K x qual params body scope dvs kws f fd) (S : FnScope N ps scope) (hl : pm.length = ps.length) (ok : pmOk pm = true) (hn : N.length = ps.length + n)
    (hbody : ∀ (cdv : Value) (A : Around) (outer : List PySem.Env) (s : Shared) (H : Hp) (E : XK), RoomG k (A.deeper (envOfC qual scope s.heap.objs.size f cdv)) →
      PSs (cxOf (L2.CX P w) P w K mg base N qual scope f cdv A outer s H E) body (lS (defT G xa E pm n) (pm ++ List.replicate n .na) (retM pm n) g)) : FnOkG P w K mg base (L2.CX P w) (k + 1) f fd ps (SpF G xa pm (defF pm n g)) := by
  have len : ∀ vs H Q E, SpF G xa pm (defF pm n g) vs H Q E → vs.length = ps.length := fun vs H Q E ⟨O, Fs, ds, w, _⟩ => by
    have := w.ls
    rw [List.length_map] at this
    omega
  refine okDG F S len fun cdv A outer s H vs Q E hr h => ⟨_, hbody cdv A outer s H E hr, ?_⟩
  have hv := len vs H Q E h
  have es : L2.start N vs = vs.map some ++ List.replicate n none := by
    unfold L2.start
    rw [hn, hv, Nat.add_sub_cancel_left]
  rw [es]
  exact body_sp ok h
end Pu
namespace Pu
open PySem L2 PySem.Spec PyProof.Rows Pw
def wipeE (ρ : Env) : List Nat → Env
  | [] => ρ
  | v :: vs => (wipeE ρ vs).set v none
def R.noX {α : Type} : R α → R α
  | .ex _ _ => .bad
  | r => r
def lcL (tg : D → Env → Option Env) (tt : Env → R Bool) (te : Env → R D) (vs : List Nat) : List D → Env → R (List D)
  | [], ρ => .ok [] ρ
  | x :: xs, ρ => match tg x ρ with
    | none => .bad
    | some ρ1 => (tt ρ1).noX.bind fun k ρ2 => if k then (te ρ2).noX.bind fun y ρ3 => (lcL tg tt te vs xs (wipeE ρ3 vs)).bind fun ys ρ4 => .ok (y :: ys) ρ4 else lcL tg tt te vs xs (wipeE ρ2 vs)
def sLc (f : Env → R (List D)) (tg : D → Env → Option Env) (tt : Env → R Bool) (te : Env → R D) (vs : List Nat) : Env → R D := fun ρ => (f ρ).bind fun xs ρ1 => if xs.length ≤ line then (lcL tg tt te vs xs (wipeE ρ1 vs)).bind fun ys ρ2 => .ok (.lst ys) ρ2 else .bad
def naAll (M : List Md) : List Nat → Bool
  | [] => true
  | v :: vs => (match M[v]? with | some .na => true | _ => false) && naAll M vs
theorem naAll_na {M : List Md} : ∀ {vs : List Nat} {v : Nat}, naAll M vs = true → v ∈ vs → M[v]? = some .na
  | [], _, _, h => by cases h
  | u :: us, v, h, hv => by
    unfold naAll at h
    rw [Bool.and_eq_true] at h
    rcases List.mem_cons.mp hv with rfl | hv
    · have := h.1
      split at this
      · assumption
      · cases this
    · exact naAll_na h.2 hv
theorem wipe_out : ∀ {vs : List Nat} {σ : L2.St} {j : Nat}, j ∉ vs → (wipe σ vs)[j]? = σ[j]?
  | [], _, _, _ => rfl
  | v :: vs, σ, j, h => by
    unfold wipe
    rw [List.getElem?_set_ne (fun z => h (by rw [z]; exact List.mem_cons_self ..)), wipe_out (fun z => h (List.mem_cons_of_mem _ z))]
theorem wipeE_out : ∀ {vs : List Nat} {ρ : Env} {j : Nat}, j ∉ vs → (wipeE ρ vs)[j]? = ρ[j]?
  | [], _, _, _ => rfl
  | v :: vs, σ, j, h => by
    unfold wipeE
    rw [List.getElem?_set_ne (fun z => h (by rw [z]; exact List.mem_cons_self ..)), wipeE_out (fun z => h (List.mem_cons_of_mem _ z))]
theorem wipeE_len : ∀ {vs : List Nat} {ρ : Env}, (wipeE ρ vs).length = ρ.length
  | [], _ => rfl
  | v :: vs, σ => by unfold wipeE; rw [List.length_set, wipeE_len]
theorem wipe_in : ∀ {vs : List Nat} {σ : L2.St} {j : Nat}, j ∈ vs → j < σ.length → (wipe σ vs)[j]? = some none
  | v :: vs, σ, j, h, hl => by
    unfold wipe
    by_cases e : v = j
    · subst e
      rw [List.getElem?_set_self (by rw [wipe_length]; exact hl)]
    · rw [List.getElem?_set_ne e]
      rcases List.mem_cons.mp h with z | z
      · exact absurd z.symm e
      · exact wipe_in z hl
theorem wipeE_in : ∀ {vs : List Nat} {ρ : Env} {j : Nat}, j ∈ vs → j < ρ.length → (wipeE ρ vs)[j]? = some none
  | v :: vs, σ, j, h, hl => by
    unfold wipeE
    by_cases e : v = j
    · subst e
      rw [List.getElem?_set_self (by rw [wipeE_len]; exact hl)]
    · rw [List.getElem?_set_ne e]
      rcases List.mem_cons.mp h with z | z
      · exact absurd z.symm e
      · exact wipeE_in z hl
theorem wipeE_wipeE {vs : List Nat} {ρ : Env} : wipeE (wipeE ρ vs) vs = wipeE ρ vs := by
  apply List.ext_getElem?
  intro j
  by_cases h : j ∈ vs
  · by_cases hl : j < ρ.length
    · rw [wipeE_in h (by rw [wipeE_len]; exact hl), wipeE_in h hl]
    · rw [List.getElem?_eq_none (by rw [wipeE_len, wipeE_len]; omega), List.getElem?_eq_none (by rw [wipeE_len]; omega)]
  · rw [wipeE_out h]
theorem wipe_eq {vs ts : List Nat} {σ σ2 : L2.St} (o : Out1 ts (wipe σ vs) σ2) (hs : ∀ t ∈ ts, t ∈ vs) : wipe σ2 vs = wipe σ vs := by
  apply List.ext_getElem?
  intro j
  by_cases h : j ∈ vs
  · by_cases hl : j < σ.length
    · rw [wipe_in h hl, wipe_in h (by rw [o.1, wipe_length]; exact hl)]
    · rw [List.getElem?_eq_none (by rw [wipe_length, o.1, wipe_length]; omega), List.getElem?_eq_none (by rw [wipe_length]; omega)]
  · rw [wipe_out h, o.2 j fun z => h (hs j z)]
section
variable {K : PySem.W.Frag} {G : Gx K} {B O O' : Addr → Prop} {Fs Fs' : List (List Addr)} {H H' : Hp} {σ σ' : L2.St} {ρ ρ' : Env} {M : List Md}
theorem Wd.swap (w : Wd G B O Fs H σ ρ M) (hs : σ'.length = σ.length) (hr : ρ'.length = ρ.length) (h : ∀ (j : Nat), M[j]? ≠ some Md.na → σ'[j]? = σ[j]? ∧ ρ'[j]? = ρ[j]?) : Wd G B O Fs H σ' ρ' M := by
  refine ⟨w.nd, w.sub, w.bo, w.al, by rw [hs]; exact w.ls, by rw [hr]; exact w.lr, w.lf, fun i m v d f e1 e2 e3 e4 => ?_⟩
  cases m with
  | na =>
    obtain ⟨v0, d0, f0, _, _, h3, sl⟩ := w.get e1
    rw [e4] at h3
    cases h3
    exact sl
  | hd => obtain ⟨a, b⟩ := h i (by rw [e1]; intro z; cases z); exact w.sl i _ v d f e1 (a ▸ e2) (b ▸ e3) e4
  | sh => obtain ⟨a, b⟩ := h i (by rw [e1]; intro z; cases z); exact w.sl i _ v d f e1 (a ▸ e2) (b ▸ e3) e4
  | th _ _ _ _ => obtain ⟨a, b⟩ := h i (by rw [e1]; intro z; cases z); exact w.sl i _ v d f e1 (a ▸ e2) (b ▸ e3) e4
  | mb => obtain ⟨a, b⟩ := h i (by rw [e1]; intro z; cases z); exact w.sl i _ v d f e1 (a ▸ e2) (b ▸ e3) e4
  | br => obtain ⟨a, b⟩ := h i (by rw [e1]; intro z; cases z); exact w.sl i _ v d f e1 (a ▸ e2) (b ▸ e3) e4
  | ow t => obtain ⟨a, b⟩ := h i (by rw [e1]; intro z; cases z); exact w.sl i _ v d f e1 (a ▸ e2) (b ▸ e3) e4
  | op t => obtain ⟨a, b⟩ := h i (by rw [e1]; intro z; cases z); exact w.sl i _ v d f e1 (a ▸ e2) (b ▸ e3) e4
theorem Ev.swap {ρ0 : Env} {O0 : Addr → Prop} {Fs0 : List (List Addr)} {H0 : Hp} (e : Ev M O0 Fs0 H0 ρ0 O Fs H ρ) (h : ∀ (j : Nat), M[j]? ≠ some Md.na → ρ'[j]? = ρ[j]?) : Ev M O0 Fs0 H0 ρ0 O Fs H ρ' :=
  ⟨e.chg, e.dom, e.mono, e.grow, e.fgrow, fun j m h1 h2 => (h j (by rw [h1]; intro z; cases z; cases h2)).trans (e.keep j m h1 h2)⟩
end
inductive Nk : List Md → List Md → Prop
  | refl (M : List Md) : Nk M M
  | na {M M' : List Md} (j : Nat) : Nk (M.set j .na) M' → Nk M M'
theorem Wd.nk {K : PySem.W.Frag} {G : Gx K} {B O : Addr → Prop} {H : Hp} {σ : L2.St} {ρ : Env} {M M' : List Md} (k : Nk M M') : ∀ {Fs : List (List Addr)}, Wd G B O Fs H σ ρ M → ∃ Fs1, Wd G B O Fs1 H σ ρ M' ∧ ∀ b ∈ Fs1.flatten, b ∈ Fs.flatten := by
  induction k with
  | refl M => exact fun {Fs} w => ⟨Fs, w, fun _ h => h⟩
  | na j k ih =>
    intro Fs w
    obtain ⟨Fs1, w1, l1⟩ := ih (w.dropNa j)
    exact ⟨Fs1, w1, fun b h => set_nil_sub b (l1 b h)⟩
abbrev Sx.tx {K : PySem.W.Frag} (S : Sx K) : Tx K := ⟨S.G, S.xa, fun _ _ _ _ => False, [], [], []⟩
abbrev Sx.inn {K : PySem.W.Frag} (S : Sx K) (Mt : List Md) : Sx K := ⟨S.G, S.xa, fun _ _ _ _ => False, Mt⟩
section
variable {K : PySem.W.Frag} {S : Sx K} {X : Cx} {elt tg iter c : Expr} {ifs : List Expr} {scope : Scope} {own : List (Str × Nat)} {pos : Pos} {f : Env → R (List D)} {tgf : D → Env → Option Env} {tt : Env → R Bool} {te : Env → R D} {Mt : List Md} {us : List Nat}
def sTrue : Env → R Bool := fun ρ => .ok true ρ
theorem PTs.of {X : Cx} {e : List Expr} {t t' : TT} (h : PTs X e t) (i : ∀ σ H Q, t' σ H Q → t σ H Q) : PTs X e t' := ⟨fun pins s σ H Q I x => h.run pins s σ H Q I (i σ H Q x)⟩
theorem if_none : PTs X [] (lT S sTrue) := PTs.of pts_nil fun σ H Q ⟨B, O, Fs, ρ, w, run⟩ => run.use w rfl
theorem if_one {t : Env → R Bool} (h : PT X c (lT S t)) : PTs X [c] (lT S t) := pts_one h
theorem Wd.emb {G : Gx K} {B O : Addr → Prop} {Fs : List (List Addr)} {H : Hp} {σ : L2.St} {ρ : Env} {vs : List Nat} {M : List Md} (w : Wd G B O Fs H σ ρ M) (hv : naAll M vs = true) : Wd G B O Fs H (wipe σ vs) (wipeE ρ vs) M :=
  w.swap (wipe_length _ _) wipeE_len fun j h => ⟨wipe_out fun z => h (naAll_na hv z), wipeE_out fun z => h (naAll_na hv z)⟩
theorem lLcW {vs : List Nat} {σ : L2.St} {H : Hp} {Q : VK} {wi : TI} {B O : Addr → Prop} {Fs : List (List Addr)} {ρ : Env} (w : Wd S.G B O Fs H σ ρ S.M) (run : RunF S (.lst .sh) (sLc f tgf tt te vs ρ) B O Fs H σ ρ Q) (hw : ∀ R, Run S (vI S) (f ρ) B O Fs H σ ρ R → wi σ H R) (hv : naAll S.M vs = true) (hu : ∀ t ∈ us, t ∈ vs) (wk : Nk Mt S.M) : tLc wi (lG S.tx S.M Mt us tgf) (lT (S.inn Mt) tt) (lE (S.inn Mt) te) vs σ H Q := by
  refine hw _ (run.bind fun xs ρ1 J O1 Fs1 H1 _ ev1 w1 r1 run1 p hp => ?_)
  have run1 : RunF S (.lst .sh) (if xs.length ≤ line then (lcL tgf tt te vs xs (wipeE ρ1 vs)).bind fun ys ρ2 => .ok (.lst ys) ρ2 else .bad) B O1 Fs1 H1 σ ρ1 Q := run1
  by_cases hl : xs.length ≤ line
  case neg => rw [if_neg hl] at run1; exact run1.elim
  rw [if_pos hl] at run1
  obtain ⟨wp, evp, np, kp⟩ := w1.own1 (o := .lst []) hp
  have neqa : ∀ j, S.M[j]? ≠ some .na → j ∉ vs := fun j h z => h (naAll_na hv z)
  refine ⟨fun i m H => ∃ O Fs ρ acc ds, m = xs.length - i ∧ Wd S.G B O Fs H σ ρ S.M ∧ Ev S.M O1 Fs1 H1 ρ1 O Fs H ρ ∧ O p ∧ p ∉ Fs.flatten ∧ H p = some (.lst acc) ∧ Reps S.G O H acc ds ∧ acc.length ≤ i ∧
      RunF S (.lst .sh) ((lcL tgf tt te vs (xs.drop i) (wipeE ρ vs)).bind fun ys ρ2 => .ok (.lst (ds ++ ys)) ρ2) B O1 Fs1 H1 σ ρ1 Q,
    ⟨_, _, Fs1, ρ1, [], [], rfl, wp, evp, .inr rfl, fun z => ?_, upd_same, .nil, Nat.le_refl _, run1⟩, ?_⟩
  · obtain ⟨o, ho⟩ := w1.al p (w1.sub p z)
    rw [hp] at ho
    cases ho
  rintro i m H2 ⟨O2, Fs2, ρ2, acc, ds, rfl, w2, ev2, op, pf, hp2, rs, la, run2⟩
  have kp0 : Kp0 O1 Fs1.flatten H1 O2 H2 := ⟨ev2.chg, ev2.grow⟩
  by_cases hi : i < xs.length
  · refine .inr ⟨r1.go i O2 H2 kp0 hi, fun H => ∃ O Fs ρ acc ds, Wd S.G B O Fs H σ ρ S.M ∧ Ev S.M O1 Fs1 H1 ρ1 O Fs H ρ ∧ O p ∧ p ∉ Fs.flatten ∧ H p = some (.lst acc) ∧ Reps S.G O H acc ds ∧ acc.length ≤ i + 1 ∧
      RunF S (.lst .sh) ((lcL tgf tt te vs (xs.drop (i + 1)) (wipeE ρ vs)).bind fun ys ρ2 => .ok (.lst (ds ++ ys)) ρ2) B O1 Fs1 H1 σ ρ1 Q, fun H' ⟨O', Fs', ρ', acc', ds', h1, h2, h3, h4, h5, h6, h7, h8⟩ => ⟨xs.length - (i + 1), by omega, O', Fs', ρ', acc', ds', rfl, h1, h2, h3, h4, h5, h6, h7, h8⟩, fun x H3 hy => ?_⟩
    have hd : xs[i]? = some (xs[i]'hi) := List.getElem?_eq_getElem hi
    obtain ⟨sm, rp⟩ := r1.yl i O2 H2 x H3 _ kp0 w2.al hy hd
    have dr : xs.drop i = xs[i]'hi :: xs.drop (i + 1) := List.drop_eq_getElem_cons hi
    rw [dr] at run2
    have ev3 : Ev S.M O1 Fs1 H1 ρ1 O2 Fs2 H3 ρ2 := ev2.trans (Ev.same sm)
    have w3 : Wd S.G B O2 Fs2 H3 (wipe σ vs) (wipeE ρ2 vs) S.M := (w2.same sm).emb hv
    have rs3 := rs.keep (Kept.same (O := O2) sm)
    have hp3 := sm _ _ hp2
    unfold lcL at run2
    cases et : tgf (xs[i]'hi) (wipeE ρ2 vs) with
    | none => rw [et] at run2; exact run2.elim
    | some ρ4 =>
      rw [et] at run2
      have run2 : RunF S (.lst .sh) (((tt ρ4).noX.bind fun k ρ2 => if k then (te ρ2).noX.bind fun y ρ3 => (lcL tgf tt te vs (xs.drop (i + 1)) (wipeE ρ3 vs)).bind fun ys ρ4 => .ok (y :: ys) ρ4 else lcL tgf tt te vs (xs.drop (i + 1)) (wipeE ρ2 vs)).bind fun ys ρ2 => .ok (.lst (ds ++ ys)) ρ2) B O1 Fs1 H1 σ ρ1 Q := run2
      refine ⟨B, O2, Fs2, wipeE ρ2 vs, _, w3, rp, ρ4, et, fun σ4 Fs4 ev4 o4 w4 => ⟨wipe_eq o4.s hu, B, O2, Fs4, ρ4, w4, ?_⟩⟩
      have huv : ∀ j, j ∉ vs → j ∉ us := fun j h z => h (hu j z)
      have back : ∀ {O5 : Addr → Prop} {Fs5 : List (List Addr)} {H5 : Hp} {ρ5 : Env}, Ev Mt O2 Fs4 H3 ρ4 O5 Fs5 H5 ρ5 → Wd S.G B O5 Fs5 H5 σ4 ρ5 Mt → ∃ Fs6, Wd S.G B O5 Fs6 H5 σ (wipeE ρ5 vs) S.M ∧ Ev S.M O1 Fs1 H1 ρ1 O5 Fs6 H5 (wipeE ρ5 vs) ∧ O5 p ∧ p ∉ Fs6.flatten ∧ H5 p = some (.lst acc) ∧ Kept O2 H3 O5 H5 := fun {O5 Fs5 H5 ρ5} ev5 w5 => by
        obtain ⟨Fs6, w6, l6⟩ := w5.nk wk
        have f4 : ∀ b ∈ Fs4.flatten, b ∈ Fs2.flatten ∨ H3 b = none := ev4.fgrow
        have n4 : ∀ b o, H3 b = some o → b ∉ Fs2.flatten → b ∉ Fs4.flatten := fun b o h n z => by
          rcases f4 b z with z | z
          · exact n z
          · rw [h] at z; cases z
        have e25 : Ev S.M O2 Fs2 H3 ρ2 O5 Fs6 H5 (wipeE ρ5 vs) := by
          refine ⟨fun b o h n => ev5.chg b o h (n4 b o h n), ev5.dom, ev5.mono, ev5.grow, fun b hb => ?_, fun j m hj ho => ?_⟩
          · rcases ev5.fgrow b (l6 b hb) with z | z
            · exact f4 b z
            · exact .inr z
          · have hjv : j ∉ vs := neqa j (by rw [hj]; intro z; cases z; cases ho)
            have hm : Mt[j]? = some m := (o4.m.2 j (huv j hjv)).trans hj
            rw [wipeE_out hjv, ev5.keep j m hm ho, o4.r.2 j (huv j hjv), wipeE_out hjv]
        have hp5 : H5 p = some (.lst acc) := e25.chg p _ hp3 pf
        refine ⟨Fs6, w6.swap ?_ wipeE_len fun j h => ⟨?_, wipeE_out (neqa j h)⟩, ev3.trans e25, ev5.mono p op, fun z => ?_, hp5, e25.kept w2.sub⟩
        · have := w6.ls
          rw [this, w2.ls]
        · rw [o4.s.2 j (huv j (neqa j h)), wipe_out (neqa j h)]
        · rcases e25.fgrow p z with z | z
          · exact pf z
          · rw [hp3] at z; cases z
      cases ek : tt ρ4 with
      | ex x ρ5 => rw [ek] at run2; exact run2.elim
      | bad => rw [ek] at run2; exact run2.elim
      | ok k ρ5 =>
        rw [ek] at run2
        intro k' O5 Fs5 H5 ev5 w5 hk
        cases (show k' = k from hk)
        cases k with
        | false =>
          rw [if_neg (by decide)]
          obtain ⟨Fs6, w6, ev6, op6, pf6, hp6, kp6⟩ := back ev5 w5
          exact ⟨O5, Fs6, wipeE ρ5 vs, acc, ds, w6, ev6, op6, pf6, hp6, rs3.keep kp6, by omega, by rw [wipeE_wipeE]; exact run2⟩
        | true =>
          rw [if_pos rfl]
          refine ⟨B, O5, Fs5, ρ5, w5, ?_⟩
          have run2 : RunF S (.lst .sh) (((te ρ5).noX.bind fun y ρ3 => (lcL tgf tt te vs (xs.drop (i + 1)) (wipeE ρ3 vs)).bind fun ys ρ4 => .ok (y :: ys) ρ4).bind fun ys ρ2 => .ok (.lst (ds ++ ys)) ρ2) B O1 Fs1 H1 σ ρ1 Q := run2
          cases ey : te ρ5 with
          | ex x ρ6 => rw [ey] at run2; exact run2.elim
          | bad => rw [ey] at run2; exact run2.elim
          | ok y ρ6 =>
            rw [ey] at run2
            intro v O7 Fs7 H7 ev7 w7 rv
            obtain ⟨Fs6, w6, ev6, op6, pf6, hp6, kp6⟩ := back (ev5.trans ev7) w7
            have rs7 := rs3.keep kp6
            refine ⟨acc, hp6, ?_, ?_⟩
            · have := rs.length
              exact Nat.lt_of_lt_of_le (Nat.lt_of_le_of_lt la hi) (Nat.le_trans hl line_lt)
            · -- the cell is written
              have ne : ∀ b, b ≠ p → upd H7 p (.lst (acc ++ [v])) b = H7 b := fun b hb => upd_ne hb
              have kw : Kept O7 H7 O7 (upd H7 p (.lst (acc ++ [v]))) := ⟨fun b u n _ h => by
                  have hb : b ≠ p := fun z => n (by rw [z]; exact op6)
                  rcases h with h | ⟨o, h⟩
                  · exact .inl (by rw [ne b hb]; exact h)
                  · exact .inr ⟨o, by rw [ne b hb]; exact h⟩, fun b P n h => by
                  rw [ne b fun z => n (by rw [z]; exact op6)]; exact h, fun b vs n h => by
                  rw [ne b fun z => n (by rw [z]; exact op6)]; exact h, fun b o vs n h => by
                  rw [ne b fun z => n (by rw [z]; exact op6)]; exact h, fun b C dx fs n h => by
                  rw [ne b fun z => n (by rw [z]; exact op6)]; exact h, fun _ h => .inl h⟩
              have hpO : ¬ (∃ o, H1 p = some o) := fun ⟨o, h⟩ => by rw [hp] at h; cases h
              refine ⟨O7, Fs6, wipeE ρ6 vs, acc ++ [v], ds ++ [y], ⟨w6.nd, w6.sub, w6.bo, fun a ha => ?_, w6.ls, w6.lr, w6.lf, fun j m v' d' f e1 e2 e3 e4 => ?_⟩, ⟨fun b o h n => ?_, fun b o h => ?_, ev6.mono, ev6.grow, ev6.fgrow, ev6.keep⟩, op6, pf6, upd_same, (rs7.append (.cons rv .nil)).keep kw, by rw [List.length_append]; simpa using la, ?_⟩
              · by_cases hb : a = p
                · exact ⟨⟨.lst (acc ++ [v]), fun _ z => nomatch z⟩, by rw [hb, upd_same]⟩
                · obtain ⟨o, ho⟩ := w6.al a ha
                  exact ⟨o, by rw [ne a hb]; exact ho⟩
              · have sl := w6.sl j m v' d' f e1 e2 e3 e4
                have kf : ∀ b ∈ f, upd H7 p (.lst (acc ++ [v])) b = H7 b := fun b hb => ne b fun z => pf6 (by rw [← z]; exact mem_flat (List.mem_of_getElem? e4) hb)
                cases m with
                | mb =>
                  obtain ⟨q0, h⟩ := sl
                  exact ⟨q0, fun d' hd => by obtain ⟨v', e1, r⟩ := h d' hd; exact ⟨v', e1, r.keep kw⟩⟩
                | th a c q l =>
                  obtain ⟨q0, q1, ⟨h1, h2⟩, h3⟩ := sl
                  exact ⟨q0, q1, ⟨kw.no h2 h1, kw.ext _ _ h1 h2⟩, fun p hp => (h3 p hp).keep kw⟩
                | br =>
                  obtain ⟨q1, v1, d1, q2, q3, r⟩ := sl
                  refine ⟨q1, v1, d1, q2, q3, ?_⟩
                  rcases r with r | ⟨a, na, ⟨o, ho⟩, r⟩
                  · exact .inl (r.keep kw)
                  · -- a borrowed cell is older than the comprehension
                    have hap : a ≠ p := fun z => by
                      subst z
                      obtain ⟨v2, d2, f2, g1, g2, g3, _, v3, d3, g4, g5, r2⟩ := w1.get e1
                      subst g4 g5 q2
                      rw [e2] at g1
                      cases g1
                      have ed : d1 = d3 := by
                        have := ev6.keep j .br e1 rfl
                        rw [e3, q3, g2] at this
                        exact Option.some.inj (Option.some.inj this)
                      have nk : ∀ ds, d1 ≠ .ktp ds := by
                        intro ds z
                        subst z
                        rcases r with r | r | r
                        · obtain ⟨_, _, _, _, _, z2, _⟩ := r
                          cases z2
                        · obtain ⟨_, _, _, _, _, ⟨_, z2, _⟩ | ⟨_, z2, _⟩⟩ := r <;> cases z2
                        · obtain ⟨_, _, _, _, _, _, _, _, z2, _⟩ := r
                          cases z2
                      have nc : ∀ ds, d1 ≠ .cls ds := by
                        intro ds z
                        subst z
                        rcases r with r | r | r
                        · obtain ⟨_, _, _, _, _, z2, _⟩ := r
                          cases z2
                        · obtain ⟨_, _, _, _, _, ⟨_, z2, _⟩ | ⟨_, z2, _⟩⟩ := r <;> cases z2
                        · obtain ⟨_, _, _, _, _, _, _, _, z2, _⟩ := r
                          cases z2
                      have nl : ∀ ds, d1 ≠ .klt ds := by
                        intro ds z
                        subst z
                        rcases r with r | r | r
                        · obtain ⟨_, _, _, _, _, z2, _⟩ := r
                          cases z2
                        · obtain ⟨_, _, _, _, _, ⟨_, z2, _⟩ | ⟨_, z2, _⟩⟩ := r <;> cases z2
                        · obtain ⟨_, _, _, _, _, _, _, _, z2, _⟩ := r
                          cases z2
                      have old : BRep S.G O1 Fs1.flatten H1 v1 d1 → v1 = .ref a → False := fun rr ev => by
                        subst ev
                        rcases rr with rr | ⟨c, _, ⟨o, ho⟩, rr⟩
                        · cases rr with
                          | lst q _ _ => rcases q with q | ⟨_, q⟩ <;> (rw [hp] at q; cases q)
                          | tup q _ _ => rw [hp] at q; cases q
                          | ktp q _ => exact nk _ rfl
                          | ftp q _ _ => exact nk _ rfl
                          | cls q => exact nc _ rfl
                          | klt q => exact nl _ rfl
                          | dk q _ _ => rcases q with q | ⟨_, q⟩ <;> (rw [hp] at q; cases q)
                          | dt q _ _ => rcases q with q | ⟨_, q⟩ <;> (rw [hp] at q; cases q)
                          | obj _ q _ _ _ => rw [hp] at q; cases q
                        · rcases rr with rr | rr | rr
                          · obtain ⟨_, _, _, _, z1, _, z3, _⟩ := rr
                            cases z1
                            rw [hp] at z3
                            cases z3
                          · obtain ⟨_, _, _, z1, _, ⟨_, _, z3, _⟩ | ⟨_, _, z3, _⟩⟩ := rr <;> (cases z1; rw [hp] at z3; cases z3)
                          · obtain ⟨_, _, _, _, _, _, _, z1, _, _, z3, _⟩ := rr
                            cases z1
                            rw [hp] at z3
                            cases z3
                      refine old (ed ▸ r2) ?_
                      rcases r with r | r | r
                      · obtain ⟨_, _, _, _, z1, _, _, z4, _⟩ := r
                        have := (List.cons.inj z4).1
                        rw [z1, this]
                      · obtain ⟨_, _, _, z1, z4, _⟩ := r
                        have := (List.cons.inj z4).1
                        rw [z1, this]
                      · obtain ⟨_, _, _, _, _, _, _, z1, _, _, _, z4, _⟩ := r
                        have := (List.cons.inj z4).1
                        rw [z1, this]
                    have k1 : ∀ b ∈ [a], upd H7 p (.lst (acc ++ [v])) b = H7 b := fun b hb => by rw [List.mem_singleton.mp hb]; exact ne a hap
                    refine .inr ⟨a, na, ⟨o, by rw [ne a hap]; exact ho⟩, ?_⟩
                    rcases r with r | r | r
                    · exact .inl (Own.keep kw _ k1 r)
                    · exact .inr (.inl (Own.keep kw _ k1 r))
                    · exact .inr (.inr (Own.keep kw _ k1 r))
                | na => exact sl
                | hd => exact sl
                | sh => obtain ⟨q1, v1, d1, q2, q3, r⟩ := sl; exact ⟨q1, v1, d1, q2, q3, r.keep kw⟩
                | ow t => obtain ⟨q0, v1, d1, q2, q3, r⟩ := sl; exact ⟨q0, v1, d1, q2, q3, Own.keep kw t kf r⟩
                | op t => obtain ⟨v1, d1, q2, q3, r⟩ := sl; exact ⟨v1, d1, q2, q3, Own.keep kw t kf r⟩
              · have hb : b ≠ p := fun z => by rw [z, hp] at h; cases h
                rw [ne b hb]
                exact ev6.chg b o h n
              · have hb : b ≠ p := fun z => by rw [z, hp] at h; cases h
                rw [ne b hb]
                exact ev6.dom b o h
              · rw [wipeE_wipeE]
                have : (fun ys ρ2 => R.ok (D.lst ((ds ++ [y]) ++ ys)) ρ2) = fun (ys : List D) (ρ2 : Env) => R.ok (D.lst (ds ++ (y :: ys))) ρ2 := by
                  funext ys ρ2
                  rw [List.append_assoc]
                  rfl
                rw [this]
                have : ((lcL tgf tt te vs (xs.drop (i + 1)) (wipeE ρ6 vs)).bind fun ys ρ2 => (R.ok (D.lst (ds ++ (y :: ys))) ρ2 : R D)) = (((R.ok y ρ6).noX.bind fun y ρ3 => (lcL tgf tt te vs (xs.drop (i + 1)) (wipeE ρ3 vs)).bind fun ys ρ4 => .ok (y :: ys) ρ4).bind fun ys ρ2 => (R.ok (D.lst (ds ++ ys)) ρ2 : R D)) := by
                  show _ = R.bind (R.bind (lcL tgf tt te vs (xs.drop (i + 1)) (wipeE ρ6 vs)) fun ys ρ4 => .ok (y :: ys) ρ4) _
                  cases lcL tgf tt te vs (xs.drop (i + 1)) (wipeE ρ6 vs) <;> rfl
                rw [this]
                exact run2
  · refine .inl ⟨r1.st i O2 H2 kp0 (by omega), ?_⟩
    rw [List.drop_eq_nil_of_le (by omega)] at run2
    have run2 : RunF S (.lst .sh) (.ok (.lst (ds ++ [])) (wipeE ρ2 vs)) B O1 Fs1 H1 σ ρ1 Q := run2
    rw [List.append_nil] at run2
    have e := (ev2.swap (ρ' := wipeE ρ2 vs) fun j h => wipeE_out (neqa j h))
    refine run2 (.ref p) O2 Fs2 H2 [p] e (w2.swap rfl wipeE_len fun j h => ⟨rfl, wipeE_out (neqa j h)⟩) (own_lst hp2 rs) ⟨by simp, fun b hb => by rw [List.mem_singleton.mp hb]; exact op, fun b hb => by rw [List.mem_singleton.mp hb]; exact pf, fun b hb => by rw [List.mem_singleton.mp hb]; exact hp⟩
theorem lLcC {vs : List Nat} {σ : L2.St} {H : Hp} {Q : VK} {wi : TI} (hw : ∀ R, lI S f σ H R → wi σ H R) (hv : naAll S.M vs = true) (hu : ∀ t ∈ us, t ∈ vs) (wk : Nk Mt S.M) (h : lF S (.lst .sh) (sLc f tgf tt te vs) σ H Q) : tLc wi (lG S.tx S.M Mt us tgf) (lT (S.inn Mt) tt) (lE (S.inn Mt) te) vs σ H Q := by
  obtain ⟨B, O, Fs, ρ, w, run⟩ := h
  exact lLcW w run (fun R r => hw R ⟨B, O, Fs, ρ, w, r⟩) hv hu wk
theorem lLc {vs : List Nat} {σ : L2.St} {H : Hp} {Q : VK} (hv : naAll S.M vs = true) (hu : ∀ t ∈ us, t ∈ vs) (wk : Nk Mt S.M) (h : lF S (.lst .sh) (sLc f tgf tt te vs) σ H Q) : tLc (lI S f) (lG S.tx S.M Mt us tgf) (lT (S.inn Mt) tt) (lE (S.inn Mt) te) vs σ H Q := lLcC (fun _ h => h) hv hu wk h
theorem f_lcC {wi : TI} {C : L2.St → Hp → Prop} (hc : X.calm = true) (hN : X.N.Nodup) (hi : PI X tg iter wi) (hw : ∀ σ H R, C σ H → lI S f σ H R → wi σ H R) (ok : BlkOk X.N X.env.scope scope own) (hv : naAll S.M (own.map (·.2)) = true) (hu : ∀ t ∈ us, t ∈ own.map (·.2)) (wk : Nk Mt S.M)
    (hg : ∀ (s : Shared) (H : Hp) (C : Addr) (cl : List (Str × Addr)) (fp : List Addr), PG (X.blk s H scope (compEnvC scope cl C X.env) fp) tg (lG S.tx S.M Mt us tgf)) (ht : ∀ (s : Shared) (H : Hp) (C : Addr) (cl : List (Str × Addr)) (fp : List Addr), PTs (X.blk s H scope (compEnvC scope cl C X.env) fp) ifs (lT (S.inn Mt) tt))
    (he : ∀ (s : Shared) (H : Hp) (C : Addr) (cl : List (Str × Addr)) (fp : List Addr), PE (X.blk s H scope (compEnvC scope cl C X.env) fp) elt (lE (S.inn Mt) te)) (hs : ∀ x, foldedSetIterable iter X.env x = pure x := by intro _; rfl) :
    PE X (.ListComp elt [⟨tg, iter, ifs, 0⟩] scope pos) (fun σ H Q => C σ H ∧ lF S (.lst .sh) (sLc f tgf tt te (own.map (·.2))) σ H Q) :=
  PE.of (pe_lc hc hN hi ok hg ht he hs) fun σ H Q ⟨hC, h⟩ => lLcC (fun R => hw σ H R hC) hv hu wk h
theorem f_lc (hc : X.calm = true) (hN : X.N.Nodup) (hi : PI X tg iter (lI S f)) (ok : BlkOk X.N X.env.scope scope own) (hv : naAll S.M (own.map (·.2)) = true) (hu : ∀ t ∈ us, t ∈ own.map (·.2)) (wk : Nk Mt S.M)
    (hg : ∀ (s : Shared) (H : Hp) (C : Addr) (cl : List (Str × Addr)) (fp : List Addr), PG (X.blk s H scope (compEnvC scope cl C X.env) fp) tg (lG S.tx S.M Mt us tgf)) (ht : ∀ (s : Shared) (H : Hp) (C : Addr) (cl : List (Str × Addr)) (fp : List Addr), PTs (X.blk s H scope (compEnvC scope cl C X.env) fp) ifs (lT (S.inn Mt) tt))
    (he : ∀ (s : Shared) (H : Hp) (C : Addr) (cl : List (Str × Addr)) (fp : List Addr), PE (X.blk s H scope (compEnvC scope cl C X.env) fp) elt (lE (S.inn Mt) te)) (hs : ∀ x, foldedSetIterable iter X.env x = pure x := by intro _; rfl) :
    PE X (.ListComp elt [⟨tg, iter, ifs, 0⟩] scope pos) (lF S (.lst .sh) (sLc f tgf tt te (own.map (·.2)))) :=
  PE.of (pe_lc hc hN hi ok hg ht he hs) fun σ H Q h => lLc hv hu wk h
end
section
variable {K : PySem.W.Frag} {T : Tx K} {M Mt : List Md} {X : Cx} {elt tg iter : Expr} {ifs : List Expr} {scope : Scope} {own : List (Str × Nat)} {pos spos py : Pos} {f : Env → R (List D)} {tgf : D → Env → Option Env} {tt : Env → R Bool} {te : Env → R D} {us : List Nat} {i : Nat} {y : Str}
theorem s_setLc (hc : X.calm = true) (hN : X.N.Nodup) (hy : X.N[i]? = some y) (hyl : X.env.scope.names.lookup y = some .local) (hsw : swapsWith (.ListComp elt [⟨tg, iter, ifs, 0⟩] scope pos) (some (.Name y py)) spos.line X.env = pure true) (hi : PI X tg iter (lI (T.ex M) f)) (ok : BlkOk X.N X.env.scope scope own) (hv : naAll M (own.map (·.2)) = true) (hu : ∀ t ∈ us, t ∈ own.map (·.2)) (wk : Nk Mt M)
    (hg : ∀ (s : Shared) (H : Hp) (C : Addr) (cl : List (Str × Addr)) (fp : List Addr), PG (X.blk s H scope (compEnvC scope cl C X.env) fp) tg (lG (T.ex M).tx M Mt us tgf)) (ht : ∀ (s : Shared) (H : Hp) (C : Addr) (cl : List (Str × Addr)) (fp : List Addr), PTs (X.blk s H scope (compEnvC scope cl C X.env) fp) ifs (lT ((T.ex M).inn Mt) tt))
    (he : ∀ (s : Shared) (H : Hp) (C : Addr) (cl : List (Str × Addr)) (fp : List Addr), PE (X.blk s H scope (compEnvC scope cl C X.env) fp) elt (lE ((T.ex M).inn Mt) te)) (wx : Wk M T.Mx) (hn : nf M i = true) (hs : ∀ x, foldedSetIterable iter X.env x = pure x := by intro _; rfl) :
    PS X (.Assign [.Name y py] (.ListComp elt [⟨tg, iter, ifs, 0⟩] scope pos) spos) (lS T M (M.set i (.ow (.lst .sh))) (sSet i (sLc f tgf tt te (own.map (·.2))))) := by
  refine PS.of (ps_setLc hc hN hy hyl hsw hi ok hg ht he hs) fun E σ H ⟨B, O, Fs, ρ, w, run⟩ => ?_
  refine lLc (S := T.ex M) hv hu wk ⟨B, O, Fs, ρ, w, RunS.bindF run wx fun a ρ1 v O1 Fs1 H1 Fv ev w1 ow n run1 => ?_⟩
  refine run1 O1 (Fs1.set i Fv) H1 _ (EvS.set ev.toS hn (fun b hb => .inr (n.fr b hb))) (w1.setOw hn n (fun b hb z => ?_) (br_new w ev w1 n) ow)
  obtain ⟨o, ho⟩ := w.al b (w.bo b z)
  rw [n.fr b hb] at ho
  cases ho
end
end Pu
namespace Pu
open PySem L2 PySem.Spec PyProof.Rows Pw
theorem Wk.trans {M M1 M2 : List Md} (a : Wk M M1) (b : Wk M1 M2) : Wk M M2 := by
  induction a with
  | refl M => exact b
  | na j k ih => exact .na j (ih b)
  | fr j t h k ih => exact .fr j t h (ih b)
  | mb j h k ih => exact .mb j h (ih b)
  | br j h k ih => exact .br j h (ih b)
theorem wk_ret : ∀ (M L : List Md), Wk (L ++ M) (L ++ M.map Md.ret)
  | [], L => .refl _
  | m :: M, L => by
    have ih := wk_ret M (L ++ [m.ret])
    rw [List.append_assoc, List.append_assoc] at ih
    refine Wk.trans ?_ ih
    have set : (L ++ m :: M).set L.length .na = L ++ .na :: M := by simp
    cases m with
    | op t => exact .refl _
    | na => exact .refl _
    | hd => exact .na L.length (by rw [set]; exact .refl _)
    | sh => exact .na L.length (by rw [set]; exact .refl _)
    | br => exact .na L.length (by rw [set]; exact .refl _)
    | th _ _ _ _ => exact .na L.length (by rw [set]; exact .refl _)
    | mb => exact .na L.length (by rw [set]; exact .refl _)
    | ow t => exact .na L.length (by rw [set]; exact .refl _)
theorem wkR {M M' : List Md} (h : M.map Md.ret = M') : Wk M M' := h ▸ wk_ret M []
theorem u65 {k : Nat} {A : Around} (r : RoomG k A) : A.units + 65 < cLine := by have := r.un; omega
theorem u64 {k : Nat} {A : Around} (r : RoomG k A) : A.units + 64 < cLine := by have := r.un; omega
theorem u1 {k : Nat} {A : Around} (r : RoomG k A) : A.units + 1 < cLine := by have := r.un; omega
section
variable {K : PySem.W.Frag} {S : Sx K} {T : Tx K} {M Mn : List Md} {X : Cx} {e a b c o e0 : Expr} {es : List Expr} {st : Stmt} {f fa fb fc : Env → R D} {fs : Env → R (List D)} {pos p apos cpos : Pos} {ms : List Md} {j : Nat} {m : Md} {t : Shp}
theorem q_eq (hK : X.K = K) (hu : X.A.units + 64 < cLine) (ha : PE X a (lB S fa)) (hb : PE X b (lB S fb)) : PE X (.Compare a [.Eq] [b] pos) (lE S (sOp gEq fa fb)) := by subst hK; exact p_cmp (op_eqD hu) oEq ha hb (nomark _)
theorem r_eq (hK : X.K = K) (hu : X.A.units + 64 < cLine) (ha : PE X a (lB S fa)) (hb : PE X b (lB S fb)) : PT X (.Compare a [.Eq] [b] pos) (lT S (sB (sOp gEq fa fb))) := by subst hK; exact t_cmp (op_eqD hu) oEq ha hb (nomark _)
theorem r_ne (hK : X.K = K) (hu : X.A.units + 64 < cLine) (ha : PE X a (lB S fa)) (hb : PE X b (lB S fb)) : PT X (.Compare a [.NotEq] [b] pos) (lT S (sB (sOp gNe fa fb))) := by subst hK; exact t_cmp (op_neD hu) oNe ha hb (nomark _)
theorem q_ge (ha : PE X a (lB S fa)) (hb : PE X b (lB S fb)) : PE X (.Compare a [.GtE] [b] pos) (lE S (sOp gGe fa fb)) := p_cmp op_ge oGe ha hb (nomark _)
theorem r_gt (ha : PE X a (lB S fa)) (hb : PE X b (lB S fb)) : PT X (.Compare a [.Gt] [b] pos) (lT S (sB (sOp gGt fa fb))) := t_cmp op_gt oGt ha hb (nomark _)
theorem q_add (hK : X.K = K) (ha : PE X a (lB S fa)) (hb : PE X b (lB S fb)) : PE X (.BinOp a .Add b pos) (lE S (sOp gAdd fa fb)) := by subst hK; exact p_op op_add4 oAdd ha hb
theorem q_sub (ha : PE X a (lB S fa)) (hb : PE X b (lB S fb)) : PE X (.BinOp a .Sub b pos) (lE S (sOp gSub fa fb)) := p_op op_sub oSub ha hb
def gNeg : D → Option D
  | .int i => some (.int (-i))
  | _ => none
def D.kd {K : PySem.W.Frag} (G : Gx K) : D → Option Kd
  | .non => some .non
  | .bl _ => some .bl
  | .int _ => some .int
  | .str _ => some .str
  | .lst _ => some .lst
  | .tup _ => some .tup
  | .ktp _ => some .tup
  | .dct _ => none
  | .dtt _ => none
  | .obj c _ => (G.ca c).map .own
  | .cls _ => none
  | .klt _ => none
theorem any_of {G : Gx K} {O : Addr → Prop} {F : List Addr} {H : Hp} {v : V} {d : D} {k : Kd} (h : BRep G O F H v d) (e : d.kd G = some k) : Any K H v k := by
  cases d with
  | non => cases e; rw [h.non]; exact .non
  | bl b => cases e; rw [h.bl]; exact .bl b
  | int i => cases e; rw [h.int]; exact .int i
  | str x => cases e; rw [h.str]; exact .str x
  | lst ds => cases e; obtain ⟨a, vs, e1, e2, _⟩ := h.lst; rw [e1]; exact .lst (.inl e2)
  | tup ds => cases e; obtain ⟨a, vs, e1, e2, _⟩ := h.tpl rfl; rw [e1]; exact .tup e2
  | ktp ds => cases e; obtain ⟨a, vs, e1, e2, _⟩ := h.tpl rfl; rw [e1]; exact .tup e2
  | dct _ => cases e
  | dtt _ => cases e
  | cls _ => cases e
  | klt _ => cases e
  | obj c fs =>
    obtain ⟨a, C, dx, fvs, e1, e2, e3, _⟩ := h.obj
    obtain ⟨C', e4, e5⟩ := Option.map_eq_some_iff.mp (show (G.ca c).map Kd.own = some k from e)
    rw [e2] at e4
    cases e4
    cases e5
    rw [e1]
    exact .own e3 (G.oc e2)
def isTy (t : String) : D → Option Bool
  | .cls _ => none
  | .klt _ => none
  | .dct _ => none
  | .dtt _ => none
  | .int _ => some (t == "int")
  | .bl _ => some (t == "int" || t == "bool")
  | .str _ => some (t == "str")
  | .lst _ => some (t == "list")
  | .tup _ => some (t == "tuple")
  | .ktp _ => some (t == "tuple")
  | _ => some false
def tyOk (t : String) : Bool := t == "int" || t == "bool" || t == "str" || t == "list" || t == "tuple"
theorem kit_bl {G : Gx K} {O : Addr → Prop} {F : List Addr} {H : Hp} {v : V} {d : D} {t : String} {k : Bool} (h : BRep G O F H v d) (ht : tyOk t = true) (e : isTy t d = some k) : ∃ kd, Any K H v kd ∧ PySem.W.kitOne K kd.ty (.type t) = some k := by
  have ex : ∃ kd, d.kd G = some kd := by
    cases d with
    | dct _ => cases e
    | dtt _ => cases e
    | cls _ => cases e
    | klt _ => cases e
    | obj c fs =>
      obtain ⟨a, C, dx, fvs, e1, e2, e3, _⟩ := h.obj
      exact ⟨.own C, by show (G.ca c).map Kd.own = _; rw [e2]; rfl⟩
    | _ => exact ⟨_, rfl⟩
  obtain ⟨kd, hk⟩ := ex
  have an := any_of h hk
  refine ⟨kd, an, ?_⟩
  have five : t = "int" ∨ t = "bool" ∨ t = "str" ∨ t = "list" ∨ t = "tuple" := by
    unfold tyOk at ht
    simp only [Bool.or_eq_true, beq_iff_eq] at ht
    rcases ht with (((h | h) | h) | h) | h
    · exact .inl h
    · exact .inr (.inl h)
    · exact .inr (.inr (.inl h))
    · exact .inr (.inr (.inr (.inl h)))
    · exact .inr (.inr (.inr (.inr h)))
  have val : ∀ (q : Kd → Bool), (∀ {v k}, Any K H v k → PySem.W.kitOne K k.ty (.type t) = some (q k)) → q kd = k → PySem.W.kitOne K kd.ty (.type t) = some k := fun q hq eq => by rw [hq an, eq]
  rcases five with rfl | rfl | rfl | rfl | rfl
  · refine val Kd.isInt (fun h => h.kInt) ?_
    cases d <;> first | (cases hk; cases e; rfl) | (obtain ⟨_, _, z⟩ := Option.map_eq_some_iff.mp hk; cases z; cases e; rfl) | cases e
  · refine val Kd.isBool (fun h => h.kBool) ?_
    cases d <;> first | (cases hk; cases e; rfl) | (obtain ⟨_, _, z⟩ := Option.map_eq_some_iff.mp hk; cases z; cases e; rfl) | cases e
  · refine val Kd.isStr (fun h => h.kStr) ?_
    cases d <;> first | (cases hk; cases e; rfl) | (obtain ⟨_, _, z⟩ := Option.map_eq_some_iff.mp hk; cases z; cases e; rfl) | cases e
  · refine val Kd.isLst (fun h => h.kLst) ?_
    cases d <;> first | (cases hk; cases e; rfl) | (obtain ⟨_, _, z⟩ := Option.map_eq_some_iff.mp hk; cases z; cases e; rfl) | cases e
  · refine val Kd.isTup (fun h => h.kTup) ?_
    cases d <;> first | (cases hk; cases e; rfl) | (obtain ⟨_, _, z⟩ := Option.map_eq_some_iff.mp hk; cases z; cases e; rfl) | cases e
def gIsi (t : String) (d : D) : Option D := (isTy t d).map .bl
theorem q_isi {t : String} (hK : X.K = K) (ht : tyOk t = true) (hm : X.mg "isinstance" = none) (hgl : Gl X "isinstance") (ha : PE X a (lB S fa)) (hb : PE X b (tC (.ty t))) (he : starEach (a :: [b]) X.env = (false, eval a X.env) :: starEach [b] X.env := by rfl) (he2 : starEach (b :: []) X.env = (false, eval b X.env) :: starEach [] X.env := by rfl) (hpl : (backTo pos (starEach [b] X.env)).any (·.1) = false := by rfl) :
    PE X (.Call (.Name "isinstance" p) [a, b] [] pos) (lE S (sUn (gIsi t) fa)) := by
  subst hK
  refine PE.of (pe_callB call_isi hgl hm (by decide +kernel) (L2.pa_cons ha (L2.pa_cons hb L2.pa_nil he2) he) (by decide) (by decide) he hpl) fun σ H Q h => ?_
  refine lUn (g := gIsi t) (r := fun x H Q => rIsi X.K [x, .ty t] H Q) ?_ h
  intro O F H x a d al e hb Q k
  obtain ⟨q, e1, e2⟩ := Option.map_eq_some_iff.mp e
  cases e2
  obtain ⟨kd, an, hk⟩ := kit_bl hb ht e1
  exact ⟨_, _, _, _, _, rfl, .ty _, an.ty, hk, k _ _ (Same.refl H) (.bl _)⟩
def isOwn (c : String) : D → Option Bool
  | .cls _ => none
  | .klt _ => none
  | .dct _ => none
  | .dtt _ => none
  | .obj c' _ => some (c' == c)
  | _ => some false
def gIsO (c : String) (d : D) : Option D := (isOwn c d).map .bl
theorem q_isO {c : String} {C : Addr} (hK : X.K = K) (hC : S.G.ca c = some C) (hm : X.mg "isinstance" = none) (hgl : Gl X "isinstance") (ha : PE X a (lB S fa)) (hb : PE X b (tC (.ref C))) (he : starEach (a :: [b]) X.env = (false, eval a X.env) :: starEach [b] X.env := by rfl) (he2 : starEach (b :: []) X.env = (false, eval b X.env) :: starEach [] X.env := by rfl) (hpl : (backTo pos (starEach [b] X.env)).any (·.1) = false := by rfl) :
    PE X (.Call (.Name "isinstance" p) [a, b] [] pos) (lE S (sUn (gIsO c) fa)) := by
  subst hK
  refine PE.of (pe_callB call_isi hgl hm (by decide +kernel) (L2.pa_cons ha (L2.pa_cons hb L2.pa_nil he2) he) (by decide) (by decide) he hpl) fun σ H Q h => ?_
  refine lUn (g := gIsO c) (r := fun x H Q => rIsi X.K [x, .ref C] H Q) ?_ h
  intro O F H x a d al e hb Q k
  obtain ⟨q, e1, e2⟩ := Option.map_eq_some_iff.mp e
  cases e2
  have plain : ∀ kd, a.kd S.G = some kd → kd.plain = true → q = false → rIsi X.K [x, .ref C] H Q := fun kd hk hp hq => by
    have an := any_of hb hk
    refine ⟨_, _, _, _, _, rfl, .own _, an.ty, Kd.kitOwn (S.G.oc hC) hp, ?_⟩
    subst hq
    exact k _ _ (Same.refl H) (.bl _)
  cases a with
  | obj c' fs =>
    obtain ⟨y, C', dx, fvs, e1', e2', e3, _⟩ := hb.obj
    have an : Any X.K H x (.own C') := by rw [e1']; exact .own e3 (S.G.oc e2')
    have eq : (c' == c) = q := Option.some.inj e1
    by_cases hc : c' = c
    · subst hc
      rw [hC] at e2'
      cases e2'
      refine ⟨_, _, _, _, _, rfl, .own _, an.ty, kit_self, ?_⟩
      rw [beq_self_eq_true] at eq
      subst eq
      exact k _ _ (Same.refl H) (.bl _)
    · refine ⟨_, _, _, _, _, rfl, .own _, an.ty, S.G.di e2' hC hc, ?_⟩
      rw [beq_eq_false_iff_ne.mpr hc] at eq
      subst eq
      exact k _ _ (Same.refl H) (.bl _)
  | dct _ => cases e1
  | dtt _ => cases e1
  | cls _ => cases e1
  | klt _ => cases e1
  | non => exact plain _ rfl rfl (by cases e1; rfl)
  | bl _ => exact plain _ rfl rfl (by cases e1; rfl)
  | int _ => exact plain _ rfl rfl (by cases e1; rfl)
  | str _ => exact plain _ rfl rfl (by cases e1; rfl)
  | lst _ => exact plain _ rfl rfl (by cases e1; rfl)
  | tup _ => exact plain _ rfl rfl (by cases e1; rfl)
  | ktp _ => exact plain _ rfl rfl (by cases e1; rfl)
def gIsSq (d : D) : Option D := match isTy "list" d, isTy "tuple" d with
  | some x, some y => some (.bl (x || y))
  | _, _ => none
theorem q_isSq {x1 : Nat} {b1 b2 : Expr} {p2 : Pos} (hK : X.K = K) (hm : X.mg "isinstance" = none) (hgl : Gl X "isinstance") (ha : PE X a (lB S fa)) (h1 : PE X b1 (tC (.ty "list"))) (h2 : PE X b2 (tC (.ty "tuple"))) (he : starEach (a :: [.Tuple [b1, b2] x1 p2]) X.env = (false, eval a X.env) :: starEach [.Tuple [b1, b2] x1 p2] X.env := by rfl) (he2 : starEach (.Tuple [b1, b2] x1 p2 :: []) X.env = (false, eval (.Tuple [b1, b2] x1 p2) X.env) :: starEach [] X.env := by rfl)
    (e1 : starEach (b1 :: [b2]) X.env = (false, eval b1 X.env) :: starEach [b2] X.env := by rfl) (e2 : starEach (b2 :: []) X.env = (false, eval b2 X.env) :: starEach [] X.env := by rfl) (hpl : (backTo pos (starEach [.Tuple [b1, b2] x1 p2] X.env)).any (·.1) = false := by rfl) :
    PE X (.Call (.Name "isinstance" p) [a, .Tuple [b1, b2] x1 p2] [] pos) (lE S (sUn gIsSq fa)) := by
  subst hK
  refine PE.of (pe_callB call_isiT hgl hm (by decide +kernel) (L2.pa_cons ha (L2.pa_cons (pe_tup (L2.pa_cons h1 (L2.pa_cons h2 L2.pa_nil e2) e1)) L2.pa_nil he2) he) (by decide) (by decide) he hpl) fun σ H Q h => ?_
  refine lUn (g := gIsSq) (r := fun x H Q => 2 ≤ sizeLine ∧ ∀ p, H p = none → rIsiT X.K [x, .ref p] (upd H p (.tup [.ty "list", .ty "tuple"])) Q) ?_ h
  intro O F H x a d al e hb Q k
  refine ⟨by decide, fun p hp => ?_⟩
  unfold gIsSq at e
  split at e
  · rename_i y z h1 h2
    cases e
    have ex : ∃ kd, a.kd S.G = some kd ∧ (y || z) = (kd.isLst || kd.isTup) := by
      cases a with
      | dct _ => cases h1
      | dtt _ => cases h1
      | cls _ => cases h1
      | klt _ => cases h1
      | obj c fs =>
        obtain ⟨a, C, dx, fvs, e1, e2, e3, _⟩ := hb.obj
        refine ⟨.own C, by show (S.G.ca c).map Kd.own = _; rw [e2]; rfl, ?_⟩
        cases h1; cases h2; rfl
      | _ => exact ⟨_, rfl, by cases h1; cases h2; rfl⟩
    obtain ⟨kd, hk, hv⟩ := ex
    have an := any_of hb hk
    have sm : Same H (upd H p (.tup [.ty "list", .ty "tuple"])) := same_new hp
    refine ⟨_, p, _, _, _, _, rfl, upd_same, .cons (.ty _) (.cons (.ty _) .nil), (an.same sm).ty, an.kSeq, ?_⟩
    rw [← hv]
    exact k _ _ sm (.bl _)
  · cases e
def MutP (r : V → List V → Hp → VK → Prop) (u : List D → List D → Option (D × List D)) : Prop := ∀ {K : PySem.W.Frag} (G : Gx K) (O : Addr → Prop) (H : Hp) (l : Addr) (vs args : List V) (ds as : List D) (d : D) (ds' : List D), u ds as = some (d, ds') → H l = some (.lst vs) → Reps G O H vs ds → Reps G O H args as → O l →
  ∀ Q : VK, (∀ v vs', Rep G O H v d → Reps G O H vs' ds' → Q v (upd H l (.lst vs'))) → r (.ref l) args H Q
def mutD (j : Nat) (u : List D → List D → Option (D × List D)) (as : List D) (ρ : Env) : R D := match ρ[j]? with
  | some (some (.lst ds)) => match u ds as with
    | some (d, ds') => .ok d (ρ.set j (some (.lst ds')))
    | none => .bad
  | _ => .bad
def sMut (j : Nat) (u : List D → List D → Option (D × List D)) (fs : Env → R (List D)) : Env → R D := fun ρ => (fs ρ).bind fun as ρ1 => mutD j u as ρ1
theorem reps_own {G : Gx K} {O : Addr → Prop} {H : Hp} {v : V} {d : D} {F : List Addr} (h : Own G O H (.lst .sh) v d F) : ∃ p vs ds, v = .ref p ∧ d = .lst ds ∧ H p = some (.lst vs) ∧ F = [p] ∧ Reps G O H vs ds := by
  obtain ⟨p, e, _, _⟩ := own_b (t := .lst .sh) (.inl rfl) h
  obtain ⟨q, vs, ds, Fs, e1, e2, e3, e4, e5⟩ := h
  rw [e] at e4
  have := (List.cons.inj e4).1
  subst this
  exact ⟨p, vs, ds, e1, e2, e3, e, all3_reps e5⟩
theorem run_mut {r : V → List V → Hp → VK → Prop} {u : List D → List D → Option (D × List D)} (hu : MutP r u) {B O : Addr → Prop} {Fs : List (List Addr)} {H : Hp} {σ : L2.St} {ρ : Env} {Q : VK} {v : V} {args : List V} {as : List D} (w : Wd S.G B O Fs H σ ρ S.M) (hj : S.M[j]? = some m) (ht : m.is (.lst .sh)) (hv : σ[j]? = some (some v)) (ra : Reps S.G O H args as) (run : Run S (vE S) (mutD j u as ρ) B O Fs H σ ρ Q) : r v args H Q := by
  obtain ⟨v', d0, F, h1, h2, h3, ow⟩ := w.own hj ht
  rw [hv] at h1
  cases h1
  obtain ⟨l, vs, ds, e1, e2, e3, e4, e5⟩ := reps_own ow
  subst e1 e2 e4
  unfold mutD at run
  rw [h2] at run
  dsimp only at run
  have lO : O l := w.sub l (mem_flat (List.mem_of_getElem? h3) (List.mem_singleton.mpr rfl))
  cases hq : u ds as with
  | none => rw [hq] at run; exact run.elim
  | some q =>
    obtain ⟨d, ds'⟩ := q
    rw [hq] at run
    refine hu S.G O H l vs args ds as d ds' hq e3 e5 ra lO Q fun v' vs' rv rs => ?_
    have ne : ∀ b, b ≠ l → upd H l (.lst vs') b = H b := fun b hb => upd_ne hb
    have kw : Kept O H O (upd H l (.lst vs')) := ⟨fun b u n _ h => by
        have hb : b ≠ l := fun z => n (by rw [z]; exact lO)
        rcases h with h | ⟨o, h⟩
        · exact .inl (by rw [ne b hb]; exact h)
        · exact .inr ⟨o, by rw [ne b hb]; exact h⟩, fun b P n h => by
        rw [ne b fun z => n (by rw [z]; exact lO)]; exact h, fun b vs n h => by
        rw [ne b fun z => n (by rw [z]; exact lO)]; exact h, fun b o vs n h => by
        rw [ne b fun z => n (by rw [z]; exact lO)]; exact h, fun b C dx fs n h => by
        rw [ne b fun z => n (by rw [z]; exact lO)]; exact h, fun _ h => .inl h⟩
    have al' : Al O (upd H l (.lst vs')) := fun a ha => by
      by_cases hb : a = l
      · exact ⟨⟨.lst vs', fun _ z => nomatch z⟩, by rw [hb, upd_same]⟩
      · obtain ⟨o, ho⟩ := w.al a ha
        exact ⟨o, by rw [ne a hb]; exact ho⟩
    obtain ⟨w2, ev2⟩ := w.put hj ht hv h3 (O' := O) (F' := [l]) (H' := upd H l (.lst vs')) (d' := .lst ds') ⟨fun b o h n => by rw [ne b fun z => n (by rw [z]; exact List.mem_singleton.mpr rfl)]; exact h, fun b o h => by
      by_cases hb : b = l
      · exact ⟨_, by rw [hb, upd_same]⟩
      · exact ⟨o, by rw [ne b hb]; exact h⟩, fun _ h => h, fun _ h => .inl h, al', fun b hb => .inl hb, fun b hb => by rw [List.mem_singleton.mp hb]; exact lO, by simp⟩ (own_lst upd_same (rs.keep kw))
    exact run v' O _ _ ev2 w2 (rv.keep kw)
theorem m_meth {T id : String} {name : Str} {r : V → List V → Hp → VK → Prop} {u : List D → List D → Option (D × List D)} (hu : MutP r u) (hT : T = "list") (pa : PlainAttrs T) (slot : Slot T name id) (hty : typeOf (.builtin id) = pure (.type "method_descriptor")) (hm : MtR X id r) (hK : X.K = K) (h0 : PE X o (tVar j)) (hj : S.M[j]? = some m) (ht : m.is (.lst .sh)) (ha : PA X (e :: es) (lEs S fs))
    (hbase : attributeBase o name X.env (eval o X.env) = eval o X.env := by rfl)
    (hfew : ((backTo cpos (starEach (e :: es) X.env)).all (fun x => !x.1) && (backToKw cpos (keywordEach [] X.env)).all (fun x => x.1.isSome) && decide ((e :: es).length + ([] : List Keyword).length + (if ([] : List Keyword).isEmpty then 0 else 1) < 30)) = true := by rfl)
    (hline : (apos.endLine == cpos.line) = true := by rfl) (hs : starEach (e :: es) X.env = (false, eval e X.env) :: starEach es X.env := by rfl) (hplain : (backTo cpos (starEach es X.env)).any (·.1) = false := by rfl) : PE X (.Call (.Attribute o name apos) (e :: es) [] cpos) (lE S (sMut j u fs)) := by
  subst hK
  refine PE.of (pe_bm pa slot hty hm h0 ha hbase hfew hline hs hplain) fun σ H Q ⟨B, O, Fs, ρ, w, run⟩ => ?_
  obtain ⟨v, d, F, h1, h2, h3, ow⟩ := w.own hj ht
  obtain ⟨l, vs, ds, e1, e2, e3, e4, e5⟩ := reps_own ow
  refine ⟨v, h1, ?_, B, O, Fs, ρ, w, run.bind fun as ρ1 args O1 Fs1 H1 _ ev1 w1 r1 run1 => run_mut hu w1 hj ht h1 r1 run1⟩
  subst e1 hT
  exact .inl ⟨rfl, vs, SqL.of e3⟩
def uApp (ds as : List D) : Option (D × List D) := match as with
  | [d] => if ds.length < line then some (.non, ds ++ [d]) else none
  | _ => none
theorem lt_line {n : Nat} (h : n < line) : n < sizeLine := Nat.lt_of_lt_of_le h line_lt
theorem mu_app : MutP rAppend uApp := by
  intro K G O H l vs args ds as d ds' e hl rs ra hO Q k
  match as, e with
  | [z], e =>
    unfold uApp at e
    dsimp only at e
    split at e
    · rename_i hz
      cases e
      cases ra with
      | cons r t =>
        cases t
        have l1 := rs.length
        refine ⟨l, vs, _, rfl, rfl, hl, by rw [l1]; exact lt_line hz, k _ _ .non (rs.append (.cons r .nil))⟩
    · cases e
theorem Reps.erase {G : Gx K} {O : Addr → Prop} {H : Hp} : ∀ {ds : List D} {vs : List V} (k : Nat), Reps G O H vs ds → Reps G O H (vs.eraseIdx k) (ds.eraseIdx k)
  | [], _, _, h => by cases h; exact .nil
  | d :: ds, _, 0, h => by cases h with | cons r t => exact t
  | d :: ds, _, k + 1, h => by cases h with | cons r t => exact .cons r (Reps.erase k t)
def uPopAt (ds as : List D) : Option (D × List D) := match as with
  | [.int i] => if -(2 ^ 63) ≤ i ∧ i < 2 ^ 63 then match seqIndex? i ds.length with
    | some k => (ds[k]?).map fun d => (d, ds.eraseIdx k)
    | none => none else none
  | _ => none
theorem mu_popAt : MutP rPopAt uPopAt := by
  intro K G O H l vs args ds as d ds' e hl rs ra hO Q k
  match as, e with
  | [.int i], e =>
    unfold uPopAt at e
    dsimp only at e
    split at e
    · rename_i hi
      split at e
      · rename_i n hn
        obtain ⟨z, e1, e2⟩ := Option.map_eq_some_iff.mp e
        cases e2
        obtain ⟨v, h1, h2⟩ := rs.get e1
        have l1 := rs.length
        cases ra with
        | cons r t =>
          cases t
          cases r
          refine ⟨l, vs, i, n, v, rfl, rfl, hl, hi.1, hi.2, by rw [l1]; exact hn, h1, k _ _ h2 (rs.erase n)⟩
      · cases e
    · cases e
end
end Pu
namespace Pu
open PySem L2 PySem.Spec PyProof.Rows Pw
section
variable {K : PySem.W.Frag} {S : Sx K} {T : Tx K} {M Mn : List Md} {X : Cx} {e a b c o e0 value : Expr} {es : List Expr} {st : Stmt} {f fa fb fc fv : Env → R D} {fs : Env → R (List D)} {pos p apos cpos pos' : Pos} {ms : List Md} {j : Nat} {m : Md} {t : Shp}
theorem p_glI2 {t : Str} (h : PE X e (tC (.str t))) : PE X e (lE S (sC (.str t))) := PE.of h fun _ _ _ ⟨_, _, _, _, w, r⟩ => r.use w (.str t)
theorem f_listOf (hK : X.K = K) (hm : X.mg "list" = none) (ha : PE X e (lB S fa)) (hgl : Gl X "list") (he : starEach (e :: []) X.env = (false, eval e X.env) :: starEach [] X.env := by rfl) : PE X (.Call (.Name "list" p) [e] [] pos) (lF S (.lst .sh) (sAs (g1 gListOf) (sCons fa sNil))) := by
  subst hK
  refine PE.of (pe_callTy call_list_of hgl hm (by decide +kernel) (L2.pa_cons ha L2.pa_nil he) (by decide) (by decide) he (by rfl)) fun σ H Q ⟨B, O, Fs, ρ, w, run⟩ => ⟨B, O, Fs, ρ, w, ?_⟩
  have run : RunF S (.lst .sh) ((fa ρ).bind fun x ρ1 => R.of (gListOf x) ρ1) B O Fs H σ ρ Q := by
    unfold sAs sCons sNil at run
    cases h : fa ρ with
    | ok x ρ1 => rw [h] at run; exact run
    | ex x ρ1 => rw [h] at run; exact run
    | bad => rw [h] at run; exact run
  refine run.bind fun x ρ1 v O1 Fs1 H1 _ ev1 w1 r1 run1 => ?_
  unfold gListOf at run1
  cases hs : x.seq with
  | none => rw [hs] at run1; exact run1.elim
  | some ds =>
    rw [hs] at run1
    obtain ⟨q, vs, e1, e2, e3⟩ := r1.seq hs
    exact ⟨q, vs, by rw [e1], e2, fun l hl => run1.lst w1 hl e3⟩
def cutL {α : Type} (xs : List α) (lo hi : Option Int) : List α := (xs.drop (HT.sIx xs.length 0 lo)).take (HT.sIx xs.length xs.length hi - HT.sIx xs.length 0 lo)
theorem Reps.drop {G : Gx K} {O : Addr → Prop} {H : Hp} : ∀ {ds : List D} {vs : List V} (n : Nat), Reps G O H vs ds → Reps G O H (vs.drop n) (ds.drop n)
  | [], _, n, h => by cases h; simp; exact .nil
  | d :: ds, _, 0, h => h
  | d :: ds, _, n + 1, h => by cases h with | cons r t => exact Reps.drop n t
theorem Reps.take {G : Gx K} {O : Addr → Prop} {H : Hp} : ∀ {ds : List D} {vs : List V} (n : Nat), Reps G O H vs ds → Reps G O H (vs.take n) (ds.take n)
  | [], _, n, h => by cases h; simp; exact .nil
  | d :: ds, _, 0, h => .nil
  | d :: ds, _, n + 1, h => by cases h with | cons r t => exact .cons r (Reps.take n t)
theorem Reps.cut {G : Gx K} {O : Addr → Prop} {H : Hp} {ds : List D} {vs : List V} (lo hi : Option Int) (h : Reps G O H vs ds) : Reps G O H (cutV vs lo hi) (cutL ds lo hi) := by
  unfold cutV cutL
  rw [h.length]
  exact (h.drop _).take _
abbrev vO : VRel (Option Int) (Option Int) := fun _ _ _ v d => v = d
abbrev lO (S : Sx K) (f : Env → R (Option Int)) : TO := lX S vO f
theorem PO.of {e : Option Expr} {t t' : TO} (h : PO X e t) (i : ∀ σ H Q, t' σ H Q → t σ H Q) : PO X e t' := ⟨fun pins s σ H Q I x => h.run pins s σ H Q I (i σ H Q x)⟩
def oNone : Env → R (Option Int) := fun ρ => .ok none ρ
def oSome (f : Env → R D) : Env → R (Option Int) := fun ρ => (f ρ).bind fun d ρ1 => match d with
  | .int i => .ok (some i) ρ1
  | _ => .bad
theorem o_none : PO X none (lO S oNone) := PO.of po_none fun σ H Q ⟨B, O, Fs, ρ, w, run⟩ => run.use w rfl
theorem o_some (ha : PE X a (lB S fa)) : PO X (some a) (lO S (oSome fa)) := by
  refine PO.of (po_some ha) fun σ H Q ⟨B, O, Fs, ρ, w, run⟩ => ⟨B, O, Fs, ρ, w, run.bind fun d ρ1 v O1 Fs1 H1 _ ev1 w1 r1 run1 => ?_⟩
  cases d with
  | int i => exact ⟨i, r1.int, run1.use w1 rfl⟩
  | _ => exact run1.elim
def whole (n : Nat) (lo hi : Option Int) : Bool := HT.sIx n 0 lo == 0 && HT.sIx n n hi == n
def gCut (d : D) (lo hi : Option Int) : Option D := match d with
  | .lst ds => some (.lst (cutL ds lo hi))
  | .str z => if z.length ≤ line then some (.str (cutS z lo hi)) else none
  | .tup ds => if whole ds.length lo hi then some (.tup ds) else some (.tup (cutL ds lo hi))
  | .ktp ds => if whole ds.length lo hi then some (.ktp ds) else some (.tup (cutL ds lo hi))
  | _ => none
def sSlice (fa : Env → R D) (fl fh : Env → R (Option Int)) : Env → R D := fun ρ => (fa ρ).bind fun x ρ1 => (fl ρ1).bind fun l ρ2 => (fh ρ2).bind fun h ρ3 => R.of (gCut x l h) ρ3
def rCut (K : PySem.W.Frag) : V → Option Int → Option Int → Hp → VK → Prop := fun x lo hi H Q => rSlL K x lo hi H Q ∨ rSlA K x lo hi H Q ∨ rSlS x lo hi H Q
theorem sl_any : SlR X (rCut X.K) := sl_list.or (sl_tupA.or sl_str)
theorem cut_ok {G : Gx K} {O : Addr → Prop} {F : List Addr} {H : Hp} {x : V} {a d : D} {lo hi : Option Int} (al : Al O H) (e : gCut a lo hi = some d) (h : BRep G O F H x a) (Q : VK) (k : ∀ v H', Same H H' → Rep G O H' v d → Q v H') : rCut K x lo hi H Q := by
  have tupc : ∀ {ds : List D}, a.tpl = some ds → (whole ds.length lo hi = true → d = a) → (whole ds.length lo hi = false → d = .tup (cutL ds lo hi)) → rCut K x lo hi H Q := fun {ds} ht h1 h2 => by
    obtain ⟨q, vs, e1, e2, e3, rp⟩ := h.tpl ht
    refine .inr (.inl ⟨q, vs, e1, e2, fun z => ?_, fun z q' hq => ?_⟩)
    · rw [e3.length] at z
      have : d = a := h1 (by unfold whole; rw [z.1, z.2]; simp)
      subst this
      subst e1
      exact k _ _ (Same.refl H) rp
    · rw [e3.length] at z
      have : d = .tup (cutL ds lo hi) := h2 (by
        unfold whole
        rw [← Bool.not_eq_true, Bool.and_eq_true, beq_iff_eq, beq_iff_eq]
        exact z)
      subst this
      exact k _ _ (same_new hq) (.tup upd_same (Al.no al hq) ((e3.cut lo hi).keep (Kept.same (same_new hq))))
  cases a with
  | lst ds =>
    cases e
    obtain ⟨q, vs, e1, e2, e3⟩ := h.lst
    exact .inl ⟨q, vs, e1, .inl e2, fun q' hq => k _ _ (same_new hq) (.lst (.inl upd_same) (Al.no al hq) ((e3.cut lo hi).keep (Kept.same (same_new hq))))⟩
  | str z =>
    unfold gCut at e
    dsimp only at e
    split at e
    · rename_i hl
      cases e
      exact .inr (.inr ⟨z, h.str, Nat.le_trans hl line_lt, k _ _ (Same.refl H) (.str _)⟩)
    · cases e
  | tup ds =>
    unfold gCut at e
    dsimp only at e
    refine tupc rfl (fun z => ?_) (fun z => ?_)
    · rw [if_pos z] at e; exact (Option.some.inj e).symm
    · rw [if_neg (by rw [z]; decide)] at e; exact (Option.some.inj e).symm
  | ktp ds =>
    unfold gCut at e
    dsimp only at e
    refine tupc rfl (fun z => ?_) (fun z => ?_)
    · rw [if_pos z] at e; exact (Option.some.inj e).symm
    · rw [if_neg (by rw [z]; decide)] at e; exact (Option.some.inj e).symm
  | _ => cases e
theorem p_slice {lo hi : Option Expr} {p2 : Pos} {fl fh : Env → R (Option Int)} (hK : X.K = K) (ha : PE X a (lB S fa)) (hl : PO X lo (lO S fl)) (hh : PO X hi (lO S fh)) : PE X (.Subscript a (.Slice lo hi none p2) pos) (lE S (sSlice fa fl fh)) := by
  subst hK
  refine PE.of (pe_slice sl_any ha hl hh) fun σ H Q ⟨B, O, Fs, ρ, w, run⟩ => ⟨B, O, Fs, ρ, w, run.bind fun x ρ1 v O1 Fs1 H1 _ ev1 w1 r1 run1 => ⟨B, O1, Fs1, ρ1, w1, run1.bind fun l ρ2 l' O2 Fs2 H2 _ ev2 w2 r2 run2 => ⟨B, O2, Fs2, ρ2, w2, run2.bind fun h ρ3 h' O3 Fs3 H3 _ ev3 w3 r3 run3 => ?_⟩⟩⟩
  cases (show l' = l from r2)
  cases (show h' = h from r3)
  exact run3.of (r := fun Q => rCut X.K v l h H3 Q) w3 fun d e k => cut_ok w3.al e ((r1.ev w1 ev2).ev w2 ev3) Q k
def sumLen (ys : List Str) : Nat := (ys.map (·.length)).sum
def sM1 (g : Str → D → Option D) (fa fb : Env → R D) : Env → R D := fun ρ => (fa ρ).bind fun x ρ1 => match x with
  | .str z => (fb ρ1).bind fun y ρ2 => R.of (g z y) ρ2
  | _ => .bad
def M1P (G : Gx K) (r : V → List V → Hp → VK → Prop) (g : Str → D → Option D) : Prop := ∀ (O : Addr → Prop) (F : List Addr) (H : Hp) (z : Str) (y : V) (b d : D), Al O H → g z b = some d → BRep G O F H y b → ∀ Q : VK, (∀ v H', Same H H' → Rep G O H' v d → Q v H') → r (.str z) [y] H Q
theorem lM1 {r : V → List V → Hp → VK → Prop} {g : Str → D → Option D} (hg : M1P S.G r g) {σ : L2.St} {H : Hp} {Q : VK} (h : lE S (sM1 g fa fb) σ H Q) : tM1 r (lB S fa) (lB S fb) σ H Q := by
  obtain ⟨B, O, Fs, ρ, w, run⟩ := h
  refine ⟨B, O, Fs, ρ, w, run.bind fun x ρ1 v O1 Fs1 H1 _ ev1 w1 r1 run1 => ?_⟩
  cases x with
  | str z =>
    have ev := r1.str
    subst ev
    refine ⟨⟨z, rfl⟩, B, O1, Fs1, ρ1, w1, run1.bind fun y ρ2 u O2 Fs2 H2 _ ev2 w2 r2 run2 => ?_⟩
    exact run2.of (r := fun Q => r (.str z) [u] H2 Q) w2 fun d e k => hg O2 Fs2.flatten H2 z u y d w2.al e r2 Q k
  | _ => exact run1.elim
def gJoin (z : Str) (b : D) : Option D := match b.seq with
  | some ds => match D.strs ds with
    | some ys => if sumLen ys + ys.length * z.length ≤ line then some (.str (Txt.join z ys)) else none
    | none => none
  | none => none
theorem p_join (hK : X.K = K) (ha : PE X a (lB S fa)) (hb : PE X b (lB S fb)) (hs : starEach [b] X.env = [(false, eval b X.env)] := by rfl) (hbase : attributeBase a "join" X.env (eval a X.env) = eval a X.env := by rfl) (hline : (apos.endLine == pos.line) = true := by rfl) : PE X (.Call (.Attribute a "join" apos) [b] [] pos) (lE S (sM1 gJoin fa fb)) := by
  subst hK
  refine PE.of (pe_join ha hb hs hbase hline) fun σ H Q h => lM1 ?_ h
  intro O F H z y b d al e hb Q k
  unfold gJoin at e
  split at e
  · rename_i ds h1
    split at e
    · rename_i ys h2
      split at e
      · rename_i hl
        cases e
        obtain ⟨q, vs, e1, e2, e3⟩ := hb.seq h1
        have ev := reps_strs e3 h2
        subst ev
        exact ⟨z, q, ys, rfl, by rw [e1], e2, Nat.le_trans hl line_lt, k _ _ (Same.refl H) (.str _)⟩
      · cases e
    · cases e
  · cases e
theorem reps_str {G : Gx K} {O : Addr → Prop} {H : Hp} : ∀ ys : List Str, Reps G O H (ys.map V.str) (ys.map D.str)
  | [] => .nil
  | y :: ys => .cons (.str y) (reps_str ys)
theorem j_str {x j} : PE X (.Constant (.str x) j pos) (lE S (sC (.str x))) := p_str
def gFmt : D → Option D
  | .int i => if i.natAbs.log2 < 1920 then some (.str (toString i)) else none
  | .str a => if a.length ≤ line then some (.str a) else none
  | _ => none
theorem j_fmt (ha : PE X a (lB S fa)) : PE X (.FormattedValue a (-1) none pos) (lE S (sUn gFmt fa)) := by
  refine PE.of (pe_fmt ha) fun σ H Q h => ?_
  refine lUn (r := fun x H1 Q => (∃ y : Str, x = .str y ∧ y.length ≤ sizeLine ∧ Q (.str y) H1) ∨ ∃ i : Int, x = .int i ∧ i.natAbs.log2 < 1920 ∧ Q (.str (toString i)) H1) ?_ h
  intro O F H x a d al e hb Q k
  cases a with
  | int i =>
    unfold gFmt at e
    dsimp only at e
    split at e
    · rename_i hl
      cases e
      exact .inr ⟨i, hb.int, hl, k _ _ (Same.refl H) (.str _)⟩
    · cases e
  | str z =>
    unfold gFmt at e
    dsimp only at e
    split at e
    · rename_i hl
      cases e
      exact .inl ⟨z, hb.str, Nat.le_trans hl line_lt, k _ _ (Same.refl H) (.str _)⟩
    · cases e
  | _ => cases e
end
end Pu
namespace Pu
open PySem L2 PySem.Spec PyProof.Rows Pw
section
variable {K : PySem.W.Frag} {S : Sx K} {T : Tx K} {M Mn : List Md} {X : Cx} {e a b c o e0 value : Expr} {es : List Expr} {st : Stmt} {f fa fb fc fv fk : Env → R D} {fs : Env → R (List D)} {pos p apos cpos pos' : Pos} {ms : List Md} {i j : Nat} {m : Md} {t : Shp} {x n : Str}
def joinK (k : Str → Env → R D) (acc : Str) (d : D) (ρ : Env) : R D := match d with
  | .str y => if (acc ++ y).length ≤ line then k (acc ++ y) ρ else .bad
  | _ => .bad
def foldJ : List (Env → R D) → Str → Env → R D
  | [], acc, ρ => .ok (.str acc) ρ
  | f :: fs, acc, ρ => (f ρ).bind fun d ρ1 => joinK (foldJ fs) acc d ρ1
theorem lJs : ∀ (fs : List (Env → R D)) (acc : Str) {σ : L2.St} {H : Hp} {Q : VK}, lE S (foldJ fs acc) σ H Q → tJs (fs.map (lE S)) acc σ H (fun out H1 => Q (.str out) H1)
  | [], acc, σ, H, Q, ⟨B, O, Fs, ρ, w, run⟩ => Run.use run w (.str acc)
  | f :: fs, acc, σ, H, Q, ⟨B, O, Fs, ρ, w, run⟩ => by
    refine ⟨B, O, Fs, ρ, w, Run.bind run fun d ρ1 v O1 Fs1 H1 _ ev1 w1 r1 run1 => ?_⟩
    cases d with
    | str y =>
      have ev := (show BRep S.G O1 [] H1 v (.str y) from .inl r1).str
      subst ev
      unfold joinK at run1
      dsimp only at run1
      by_cases hl : (acc ++ y).length ≤ line
      · rw [if_pos hl] at run1
        exact ⟨y, rfl, Nat.le_trans hl line_lt, lJs fs (acc ++ y) ⟨B, O1, Fs1, ρ1, w1, run1⟩⟩
      · rw [if_neg hl] at run1
        exact run1.elim
    | _ => exact run1.elim
theorem p_joined {v1 v2 : Expr} {rest : List Expr} (fs : List (Env → R D)) (h : PJ X (v1 :: v2 :: rest) (fs.map (lE S))) : PE X (.JoinedStr (v1 :: v2 :: rest) pos) (lE S (foldJ fs Str.empty)) :=
  PE.of (pe_joined h) fun σ H Q h => lJs fs Str.empty h
def sAug (i : Nat) (g : D → D → Option D) (f : Env → R D) : Env → RS := fun ρ => match ρ[i]? with
  | some (some x) => (f ρ).bindS fun y ρ1 => match g x y with
    | some d => .nx (ρ1.set i (some d))
    | none => .bad
  | _ => .bad
def putD (kvs : List (D × D)) (k v : D) : List (D × D) := if kvs.any (fun e => hkEq e.1 k) then kvs.map (fun e => if hkEq e.1 k then (e.1, v) else e) else kvs ++ [(k, v)]
def dPut (a k v : D) : Option D := match a with
  | .dct kvs => if k.key.isSome ∧ kvs.length < line then some (.dct (putD kvs k v)) else none
  | .dtt kvs => if k.tkey.isSome ∧ kvs.length < line then some (.dtt (putD kvs k v)) else none
  | _ => none
def putR (j : Nat) (k v : D) (ρ : Env) : RS := match ρ[j]? with
  | some (some a) => match dPut a k v with
    | some d => .nx (ρ.set j (some d))
    | none => .bad
  | _ => .bad
def sPut (j : Nat) (fk fv : Env → R D) : Env → RS := fun ρ => (fv ρ).bindS fun v ρ1 => (fk ρ1).bindS fun k ρ2 => putR j k v ρ2
theorem hk_K {G : Gx K} {O : Addr → Prop} {H : Hp} {k : Key} {kd : D} {v : V} {d : D} (e : kd.key = some k) (r : Rep G O H v d) : ∀ {ks : List (Key × V)} {kvs : List (D × D)}, RepK G O H ks kvs → (kvs.any fun e => hkEq e.1 kd) = (ks.any fun kv => decide (kv.1 = k)) ∧ RepK G O H (ks.map fun kv => if kv.1 = k then (kv.1, v) else kv) (kvs.map fun e => if hkEq e.1 kd then (e.1, d) else e)
  | _, _, .nil => ⟨rfl, .nil⟩
  | _, _, .cons (k := k1) (kd := kd1) e1 r1 t => by
    obtain ⟨i1, i2⟩ := hk_K e r t
    have hb : hkEq kd1 kd = decide (k1 = k) := by unfold hkEq; rw [e1, e]
    refine ⟨by rw [List.any_cons, List.any_cons, hb, i1], ?_⟩
    rw [List.map_cons, List.map_cons]
    by_cases hk : k1 = k
    · rw [if_pos hk, if_pos (by rw [hb]; exact decide_eq_true hk)]
      exact .cons e1 r i2
    · rw [if_neg hk, if_neg (by rw [hb]; simpa using hk)]
      exact .cons e1 r1 i2
theorem hk_T {G : Gx K} {O : Addr → Prop} {H : Hp} {k : List Key} {kd : D} {v : V} {d : D} (e : kd.tkey = some k) (r : Rep G O H v d) : ∀ {ks : List (List Key × V)} {kvs : List (D × D)}, RepT G O H ks kvs → (kvs.any fun e => hkEq e.1 kd) = (ks.any fun kv => decide (kv.1 = k)) ∧ RepT G O H (ks.map fun kv => if kv.1 = k then (kv.1, v) else kv) (kvs.map fun e => if hkEq e.1 kd then (e.1, d) else e)
  | _, _, .nil => ⟨rfl, .nil⟩
  | _, _, .cons (k := k1) (kd := kd1) e1 r1 t => by
    obtain ⟨i1, i2⟩ := hk_T e r t
    have hb : hkEq kd1 kd = decide (k1 = k) := by unfold hkEq; rw [tkey_key e1, tkey_key e]; dsimp only; rw [e1, e]
    refine ⟨by rw [List.any_cons, List.any_cons, hb, i1], ?_⟩
    rw [List.map_cons, List.map_cons]
    by_cases hk : k1 = k
    · rw [if_pos hk, if_pos (by rw [hb]; exact decide_eq_true hk)]
      exact .cons e1 r i2
    · rw [if_neg hk, if_neg (by rw [hb]; simpa using hk)]
      exact .cons e1 r1 i2
theorem RepK.snoc {G : Gx K} {O : Addr → Prop} {H : Hp} {k : Key} {kd : D} {v : V} {d : D} (e : kd.key = some k) (r : Rep G O H v d) : ∀ {ks : List (Key × V)} {kvs : List (D × D)}, RepK G O H ks kvs → RepK G O H (ks ++ [(k, v)]) (kvs ++ [(kd, d)])
  | _, _, .nil => .cons e r .nil
  | _, _, .cons e1 r1 t => .cons e1 r1 (RepK.snoc e r t)
theorem RepT.snoc {G : Gx K} {O : Addr → Prop} {H : Hp} {k : List Key} {kd : D} {v : V} {d : D} (e : kd.tkey = some k) (r : Rep G O H v d) : ∀ {ks : List (List Key × V)} {kvs : List (D × D)}, RepT G O H ks kvs → RepT G O H (ks ++ [(k, v)]) (kvs ++ [(kd, d)])
  | _, _, .nil => .cons e r .nil
  | _, _, .cons e1 r1 t => .cons e1 r1 (RepT.snoc e r t)
theorem RepK.put {G : Gx K} {O : Addr → Prop} {H : Hp} {k : Key} {kd : D} {v : V} {d : D} {ks : List (Key × V)} {kvs : List (D × D)} (h : RepK G O H ks kvs) (e : kd.key = some k) (r : Rep G O H v d) : RepK G O H (putK ks k v) (putD kvs kd d) := by
  obtain ⟨h1, h2⟩ := hk_K e r h
  unfold putK putD
  rw [← h1]
  by_cases hc : (kvs.any fun e => hkEq e.1 kd) = true
  · rw [if_pos hc, if_pos hc]; exact h2
  · rw [if_neg hc, if_neg hc]; exact h.snoc e r
theorem RepT.put {G : Gx K} {O : Addr → Prop} {H : Hp} {k : List Key} {kd : D} {v : V} {d : D} {ks : List (List Key × V)} {kvs : List (D × D)} (h : RepT G O H ks kvs) (e : kd.tkey = some k) (r : Rep G O H v d) : RepT G O H (putK ks k v) (putD kvs kd d) := by
  obtain ⟨h1, h2⟩ := hk_T e r h
  unfold putK putD
  rw [← h1]
  by_cases hc : (kvs.any fun e => hkEq e.1 kd) = true
  · rw [if_pos hc, if_pos hc]; exact h2
  · rw [if_neg hc, if_neg hc]; exact h.snoc e r
theorem own_K {G : Gx K} {O : Addr → Prop} {H : Hp} {q : Addr} {ks : List (Key × V)} {kvs : List (D × D)} (h : H q = some (.dK ks)) (r : RepK G O H ks kvs) : Own G O H (.dct .sh) (.ref q) (.dct kvs) [q] := by
  have all : ∀ {ks : List (Key × V)} {kvs : List (D × D)}, RepK G O H ks kvs → ∃ Fs : List (List Addr), Fs.flatten = [] ∧ All3 (fun (a : Key × V) (e : D × D) F => e.1.key = some a.1 ∧ Own G O H .sh a.2 e.2 F) ks kvs Fs := by
    intro ks kvs h
    induction kvs generalizing ks with
    | nil => cases h; exact ⟨[], rfl, .nil⟩
    | cons d ds ih =>
      cases h with
      | cons e a t =>
        obtain ⟨Fs, e', h⟩ := ih t
        exact ⟨[] :: Fs, e', .cons ⟨e, rfl, a⟩ h⟩
  obtain ⟨Fs, e, h'⟩ := all r
  exact ⟨q, kvs, Fs, rfl, by rw [e], .inl ⟨ks, rfl, h, h'⟩⟩
theorem own_T {G : Gx K} {O : Addr → Prop} {H : Hp} {q : Addr} {ks : List (List Key × V)} {kvs : List (D × D)} (h : H q = some (.dT ks)) (r : RepT G O H ks kvs) : Own G O H (.dct .sh) (.ref q) (.dtt kvs) [q] := by
  have all : ∀ {ks : List (List Key × V)} {kvs : List (D × D)}, RepT G O H ks kvs → ∃ Fs : List (List Addr), Fs.flatten = [] ∧ All3 (fun (a : List Key × V) (e : D × D) F => e.1.tkey = some a.1 ∧ Own G O H .sh a.2 e.2 F) ks kvs Fs := by
    intro ks kvs h
    induction kvs generalizing ks with
    | nil => cases h; exact ⟨[], rfl, .nil⟩
    | cons d ds ih =>
      cases h with
      | cons e a t =>
        obtain ⟨Fs, e', h⟩ := ih t
        exact ⟨[] :: Fs, e', .cons ⟨e, rfl, a⟩ h⟩
  obtain ⟨Fs, e, h'⟩ := all r
  exact ⟨q, kvs, Fs, rfl, by rw [e], .inr ⟨ks, rfl, h, h'⟩⟩
theorem Wd.cell {G : Gx K} {B O : Addr → Prop} {Fs : List (List Addr)} {H : Hp} {σ : L2.St} {ρ : Env} {q : Addr} {u : HO} {v : V} {d' : D} (w : Wd G B O Fs H σ ρ M) (hm : M[j]? = some m) (ht : m.is t) (hv : σ[j]? = some (some v)) (hF : Fs[j]? = some [q]) (ow : ∀ O', O' = O → Kept O H O (upd H q u) → Own G O (upd H q u) t v d' [q]) (no : ∀ vs, u ≠ .tup vs := by intro _ z; cases z) :
    Wd G B O (Fs.set j [q]) (upd H q u) σ (ρ.set j (some d')) M ∧ Ev M O Fs H ρ O (Fs.set j [q]) (upd H q u) (ρ.set j (some d')) := by
  have lO : O q := w.sub q (mem_flat (List.mem_of_getElem? hF) (List.mem_singleton.mpr rfl))
  have ne : ∀ b, b ≠ q → upd H q u b = H b := fun b hb => upd_ne hb
  have kw : Kept O H O (upd H q u) := ⟨fun b u' n _ h => by
      have hb : b ≠ q := fun z => n (by rw [z]; exact lO)
      rcases h with h | ⟨o, h⟩
      · exact .inl (by rw [ne b hb]; exact h)
      · exact .inr ⟨o, by rw [ne b hb]; exact h⟩, fun b P n h => by
      rw [ne b fun z => n (by rw [z]; exact lO)]; exact h, fun b vs n h => by
      rw [ne b fun z => n (by rw [z]; exact lO)]; exact h, fun b o vs n h => by
      rw [ne b fun z => n (by rw [z]; exact lO)]; exact h, fun b C dx fs n h => by
      rw [ne b fun z => n (by rw [z]; exact lO)]; exact h, fun _ h => .inl h⟩
  have al' : Al O (upd H q u) := fun a ha => by
    by_cases hb : a = q
    · exact ⟨⟨u, no⟩, by rw [hb, upd_same]⟩
    · obtain ⟨o, ho⟩ := w.al a ha
      exact ⟨o, by rw [ne a hb]; exact ho⟩
  exact w.put hm ht hv hF ⟨fun b o h n => by rw [ne b fun z => n (by rw [z]; exact List.mem_singleton.mpr rfl)]; exact h, fun b o h => by
    by_cases hb : b = q
    · exact ⟨_, by rw [hb, upd_same]⟩
    · exact ⟨o, by rw [ne b hb]; exact h⟩, fun _ h => h, fun _ h => .inl h, al', fun b hb => .inl hb, fun b hb => by rw [List.mem_singleton.mp hb]; exact lO, by simp⟩ (ow O rfl kw)
theorem s_put (hu : X.A.units + 1 < cLine) (h0 : PE X o (tVar j)) (hj : M[j]? = some m) (ht : m.is (.dct .sh)) (hk : PE X a (lE (T.ex M) fk)) (hv : PE X value (lE (T.ex M) fv)) (wx : Wk M T.Mx) (hs : swapsWith value (some (.Subscript o a pos')) pos.line X.env = pure false := by rfl) :
    PS X (.Assign [.Subscript o a pos'] value pos) (lS T M M (sPut j fk fv)) := by
  refine PS.of (ps_dput hu h0 hk hv hs) fun E σ H ⟨B, O, Fs, ρ, w, run⟩ => ?_
  refine ⟨B, O, Fs, ρ, w, run.bindE wx (fun dv ρ1 v O1 Fs1 H1 _ ev1 w1 r1 run1 => ?_) (fxOk_refl M)⟩
  obtain ⟨l0, d0, F0, h1, _⟩ := w1.own hj ht
  refine ⟨l0, h1, B, O1, Fs1, ρ1, w1, run1.bindE wx (fun dk ρ2 y O2 Fs2 H2 _ ev2 w2 r2 run2 => ?_) (fxOk_refl M)⟩
  have rv := r1.ev w1 ev2
  obtain ⟨l, d, F, g1, g2, g3, ow⟩ := w2.own hj ht
  rw [h1] at g1
  cases g1
  unfold putR at run2
  rw [g2] at run2
  dsimp only at run2
  cases hp : dPut d dk dv with
  | none => rw [hp] at run2; exact run2.elim
  | some d' =>
    rw [hp] at run2
    obtain ⟨q, eF, ⟨ob, hob⟩, _⟩ := own_b (t := .dct .sh) (.inl rfl) ow
    subst eF
    obtain ⟨q', kvs, Fs', e1, e2, e3⟩ := ow
    have eq : q = q' := (List.cons.inj e2).1
    subst eq
    subst e1
    rcases e3 with ⟨ks, e4, e5, e6⟩ | ⟨ks, e4, e5, e6⟩
    · subst e4
      unfold dPut at hp
      dsimp only at hp
      split at hp
      · rename_i hc
        cases hp
        obtain ⟨k, hk'⟩ := Option.isSome_iff_exists.mp hc.1
        have rk := all3_repK e6
        have ey := key_kV r2 hk'
        subst ey
        refine ⟨q, _, rfl, DPut.k e5 (by rw [rk.length]; exact lt_line hc.2), ?_⟩
        obtain ⟨w3, ev3⟩ := w2.cell (u := .dK (putK ks k v)) (d' := .dct (putD kvs dk dv)) hj ht h1 g3 fun O' _ kw => own_K upd_same ((rk.put hk' rv).keep kw)
        exact run2 O2 _ _ σ ev3.toS w3
      · cases hp
    · subst e4
      unfold dPut at hp
      dsimp only at hp
      split at hp
      · rename_i hc
        cases hp
        obtain ⟨k, hk'⟩ := Option.isSome_iff_exists.mp hc.1
        have rk := all3_repT e6
        obtain ⟨b, eb, hb⟩ := tkey_kV r2 hk'
        subst eb
        refine ⟨q, _, rfl, DPut.t e5 hb (by rw [rk.length]; exact lt_line hc.2), ?_⟩
        obtain ⟨w3, ev3⟩ := w2.cell (u := .dT (putK ks k v)) (d' := .dtt (putD kvs dk dv)) hj ht h1 g3 fun O' _ kw => own_T upd_same ((rk.put hk' rv).keep kw)
        exact run2 O2 _ _ σ ev3.toS w3
      · cases hp
end
end Pu
namespace Pu
open PySem L2 PySem.Spec PyProof.Rows Pw
theorem All3.get {α β γ : Type} {P : α → β → γ → Prop} : ∀ {as : List α} {bs : List β} {cs : List γ} {i : Nat} {b : β}, All3 P as bs cs → bs[i]? = some b → ∃ a c, as[i]? = some a ∧ cs[i]? = some c ∧ P a b c
  | _, _, _, _, _, .nil, e => by simp at e
  | _, _, _, 0, _, .cons h _, e => by cases e; exact ⟨_, _, rfl, rfl, h⟩
  | _, _, _, i + 1, _, .cons _ t, e => by
    obtain ⟨a, c, h1, h2, h3⟩ := All3.get (i := i) t (by simpa using e)
    exact ⟨a, c, by simpa using h1, by simpa using h2, h3⟩
theorem All3.setK {α β γ : Type} {P P' : α → β → γ → Prop} {a : α} {b' : β} {c' : γ} : ∀ {as : List α} {bs : List β} {cs : List γ} {i : Nat}, All3 P as bs cs → as[i]? = some a → P' a b' c' → (∀ (k : Nat) a b c, k ≠ i → cs[k]? = some c → P a b c → P' a b c) → All3 P' as (bs.set i b') (cs.set i c')
  | _, _, _, _, .nil, e, _, _ => by simp at e
  | _, _, _, 0, .cons h t, e, n, o => by
    cases e
    have rest : ∀ {as : List α} {bs : List β} {cs : List γ}, All3 P as bs cs → (∀ (k : Nat) a b c, cs[k]? = some c → P a b c → P' a b c) → All3 P' as bs cs := by
      intro as bs cs h hh
      induction h with
      | nil => exact .nil
      | cons h t ih => exact .cons (hh 0 _ _ _ rfl h) (ih fun k a b c e => hh (k + 1) a b c (by simpa using e))
    exact .cons n (rest t fun k a b c e => o (k + 1) a b c (by omega) (by simpa using e))
  | _, _, _, i + 1, .cons h t, e, n, o => .cons (o 0 _ _ _ (by omega) rfl h) (All3.setK t (by simpa using e) n fun k a b c hk e => o (k + 1) a b c (by omega) (by simpa using e))
structure Fo {K : PySem.W.Frag} (G : Gx K) (O : Addr → Prop) (H : Hp) (t : Shp) (v : V) (F : List Addr) (t' : Shp) (v' : V) (d' : D) (F' : List Addr) (put : D → D) : Prop where
  own : Own G O H t' v' d' F'
  nd : F'.Nodup
  sub : ∀ b ∈ F', b ∈ F
  back : ∀ (O2 : Addr → Prop) (H2 : Hp) (d2 : D) (F2 : List Addr), Own G O2 H2 t' v' d2 F2 → Kept O H O2 H2 → (∀ b ∈ F, b ∉ F' → H2 b = H b) → (∀ b ∈ F2, b ∈ F' ∨ H b = none) → F2.Nodup → (∀ b ∈ F, ∃ o, H b = some o) → ∃ F3, Own G O2 H2 t v (put d2) F3 ∧ F3.Nodup ∧ (∀ b ∈ F3, b ∈ F2 ∨ (b ∈ F ∧ b ∉ F'))
section
variable {K : PySem.W.Frag} {G : Gx K} {O : Addr → Prop} {H : Hp} {t t1 t2 : Shp} {v v1 v2 : V} {d d1 d2 : D} {F F1 F2 : List Addr} {put put1 put2 : D → D}
theorem Fo.refl (h : Own G O H t v d F) (nd : F.Nodup) : Fo G O H t v F t v d F id := ⟨h, nd, fun _ h => h, fun O2 H2 d2 F2 ow _ _ _ n2 _ => ⟨F2, ow, n2, fun b hb => .inl hb⟩⟩
theorem Fo.trans (a : Fo G O H t v F t1 v1 d1 F1 put1) (b : Fo G O H t1 v1 F1 t2 v2 d2 F2 put2) : Fo G O H t v F t2 v2 d2 F2 (put1 ∘ put2) := by
  refine ⟨b.own, b.nd, fun c h => a.sub c (b.sub c h), fun O2 H2 d2' F2' ow k fr nw n2 al => ?_⟩
  obtain ⟨F3, ow3, n3, s3⟩ := b.back O2 H2 d2' F2' ow k (fun c hc hn => fr c (a.sub c hc) hn) nw n2 (fun c hc => al c (a.sub c hc))
  obtain ⟨F4, ow4, n4, s4⟩ := a.back O2 H2 (put2 d2') F3 ow3 k (fun c hc hn => fr c hc fun z => hn (b.sub c z)) (fun c hc => by
    rcases s3 c hc with z | ⟨z, _⟩
    · exact (nw c z).imp (b.sub c) id
    · exact .inl z) n3 al
  refine ⟨F4, ow4, n4, fun c hc => ?_⟩
  rcases s4 c hc with z | ⟨z, zn⟩
  · rcases s3 c z with z | ⟨z, zn⟩
    · exact .inl z
    · exact .inr ⟨a.sub c z, zn⟩
  · exact .inr ⟨z, fun q => zn (b.sub c q)⟩
theorem fo_step {α β : Type} {P : (Addr → Prop) → Hp → α → β → List Addr → Prop} {q : Addr} {as : List α} {bs : List β} {Fs : List (List Addr)} {i : Nat} {a : α} {b : β} {mkV : β → D} {setV : β → D → β} {mkD : List β → D} (nd : (q :: Fs.flatten).Nodup)
    (h : All3 (P O H) as bs Fs) (hb : bs[i]? = some b) (ha : as[i]? = some a) (sel : ∀ F', P O H a b F' → Own G O H t1 v1 (mkV b) F') (new : ∀ (O2 : Addr → Prop) (H2 : Hp) (d2 : D) (F2 : List Addr), Own G O2 H2 t1 v1 d2 F2 → P O2 H2 a (setV b d2) F2)
    (keep : ∀ (O2 : Addr → Prop) (H2 : Hp) a b c, Kept O H O2 H2 → (∀ x ∈ c, H2 x = H x) → P O H a b c → P O2 H2 a b c) (top : ∀ (O2 : Addr → Prop) (H2 : Hp) (bs2 : List β) (Fs2 : List (List Addr)), H2 q = H q → All3 (P O2 H2) as bs2 Fs2 → Own G O2 H2 t v (mkD bs2) (q :: Fs2.flatten)) :
    ∃ F', Fo G O H t v (q :: Fs.flatten) t1 v1 (mkV b) F' (fun d2 => mkD (bs.set i (setV b d2))) := by
  obtain ⟨a', Fi, h1, h2, h3⟩ := h.get hb
  rw [ha] at h1
  cases h1
  have ndf : Fs.flatten.Nodup := (List.nodup_cons.mp nd).2
  have qn : q ∉ Fs.flatten := (List.nodup_cons.mp nd).1
  have inF : ∀ x ∈ Fi, x ∈ Fs.flatten := fun x hx => mem_flat (List.mem_of_getElem? h2) hx
  refine ⟨Fi, sel Fi h3, nodup_part ndf h2, fun x hx => List.mem_cons_of_mem _ (inF x hx), fun O2 H2 d2 F2 ow k fr nw n2 al => ⟨q :: (Fs.set i F2).flatten, ?_, ?_, ?_⟩⟩
  · refine top O2 H2 _ _ (fr q (List.mem_cons_self ..) fun z => qn (inF q z)) (h.setK ha (new O2 H2 d2 F2 ow) fun k' a b c hk hc p => keep O2 H2 a b c k (fun x hx => fr x (List.mem_cons_of_mem _ (mem_flat (List.mem_of_getElem? hc) hx)) (disj_flat ndf hk hc h2 x hx)) p)
  · refine List.nodup_cons.mpr ⟨fun z => ?_, nodup_set ndf n2 fun k' F1 hk hc x hx hx1 => ?_⟩
    · rcases mem_set_flat z with z | ⟨k', F1, _, e, z⟩
      · rcases nw q z with z | z
        · exact qn (inF q z)
        · obtain ⟨o, ho⟩ := al q (List.mem_cons_self ..)
          rw [z] at ho; cases ho
      · exact qn (mem_flat (List.mem_of_getElem? e) z)
    · rcases nw x hx with z | z
      · exact disj_flat ndf hk hc h2 x hx1 z
      · obtain ⟨o, ho⟩ := al x (List.mem_cons_of_mem _ (mem_flat (List.mem_of_getElem? hc) hx1))
        rw [z] at ho; cases ho
  · intro x hx
    rcases List.mem_cons.mp hx with rfl | hx
    · exact .inr ⟨List.mem_cons_self .., fun z => qn (inF _ z)⟩
    · rcases mem_set_flat hx with hx | ⟨k', F1, hk, e, hx⟩
      · exact .inl hx
      · exact .inr ⟨List.mem_cons_of_mem _ (mem_flat (List.mem_of_getElem? e) hx), disj_flat ndf hk e h2 x hx⟩
theorem fo_fld {f : Str → Shp} {c : String} {fs : List (Str × D)} {i : Nat} {n : Str} (h : Own G O H (.obj f) v (.obj c fs) F) (nd : F.Nodup) (hd : fs[i]? = some (n, d1)) : ∃ q C dx fvs v1 F1, v = .ref q ∧ G.ca c = some C ∧ H q = some (.ins C dx fvs) ∧ (∀ f, f ∈ fs.map (·.1) → NoAttr K C f) ∧ fvs.map (·.1) = fs.map (·.1) ∧ fvs[i]? = some (n, v1) ∧ Fo G O H (.obj f) v F (f n) v1 d1 F1 (fun d2 => .obj c (fs.set i (n, d2))) := by
  obtain ⟨q, C, dx, fvs, c', fs', Fs, e1, e2, e3, e4, e5, e6, e7⟩ := h
  cases e2
  subst e5 e1
  obtain ⟨⟨n', v1⟩, F', h1, h2, h3, h4⟩ := e7.get hd
  have hn : n' = n := h3
  subst hn
  have names : ∀ {O : Addr → Prop} {H : Hp} {fvs : List (Str × V)} {fs : List (Str × D)} {Fs : List (List Addr)}, All3 (fun (a : Str × V) (b : Str × D) F => a.1 = b.1 ∧ Own G O H (f a.1) a.2 b.2 F) fvs fs Fs → fvs.map (·.1) = fs.map (·.1) := by
    intro O H fvs fs Fs h
    induction h with
    | nil => rfl
    | cons h t ih => rw [List.map_cons, List.map_cons, h.1, ih]
  obtain ⟨F'', fo⟩ := fo_step (P := fun O H (a : Str × V) (b : Str × D) F => a.1 = b.1 ∧ Own G O H (f a.1) a.2 b.2 F) (mkV := fun b => b.2) (setV := fun b d => (b.1, d)) (mkD := fun fs => D.obj c fs) (t := .obj f) (v := .ref q) (t1 := f n') (v1 := v1) nd e7 hd h1 (fun F' h => h.2) (fun O2 H2 d2 F2 h => ⟨rfl, h⟩) (fun O2 H2 a b c k kf h => ⟨h.1, Own.keep k _ kf h.2⟩) fun O2 H2 bs2 Fs2 hq all => ⟨q, C, dx, fvs, c, bs2, Fs2, rfl, rfl, e3, by rw [hq]; exact e4, rfl, fun x hx => e6 x (by rw [← names all, names e7] at hx; exact hx), all⟩
  exact ⟨q, C, dx, fvs, v1, F'', rfl, e3, e4, e6, names e7, h1, fo⟩
theorem fo_K {kvs : List (D × D)} {i : Nat} {kd : D} (h : Own G O H (.dct t1) v (.dct kvs) F) (nd : F.Nodup) (hd : kvs[i]? = some (kd, d1)) : ∃ q ks k v1 F1, v = .ref q ∧ H q = some (.dK ks) ∧ kd.key = some k ∧ ks[i]? = some (k, v1) ∧ (∀ (n : Nat), (kvs[n]?).map (fun (e : D × D) => e.1.key) = (ks[n]?).map fun (e : Key × V) => some e.1) ∧ Fo G O H (.dct t1) v F t1 v1 d1 F1 (fun d2 => .dct (kvs.set i (kd, d2))) := by
  obtain ⟨q, kvs', Fs, e1, e4, ⟨ks, e2, e3, e5⟩ | ⟨ks, e2, e3, e5⟩⟩ := h
  · cases e2
    subst e4 e1
    obtain ⟨⟨k, v1⟩, F', h1, h2, h3, h4⟩ := e5.get hd
    obtain ⟨F'', fo⟩ := fo_step (P := fun O H (a : Key × V) (e : D × D) F => e.1.key = some a.1 ∧ Own G O H t1 a.2 e.2 F) (mkV := fun b => b.2) (setV := fun b d => (b.1, d)) (mkD := fun l => D.dct l) (t := .dct t1) (v := .ref q) (t1 := t1) (v1 := v1) nd e5 hd h1 (fun F' h => h.2) (fun O2 H2 d2 F2 h => ⟨h3, h⟩) (fun O2 H2 a b c k kf h => ⟨h.1, Own.keep k _ kf h.2⟩) fun O2 H2 bs2 Fs2 hq all => ⟨q, bs2, Fs2, rfl, rfl, .inl ⟨ks, rfl, by rw [hq]; exact e3, all⟩⟩
    refine ⟨q, ks, k, v1, F'', rfl, e3, h3, h1, fun n => ?_, fo⟩
    clear fo h1 hd h2 nd e3
    induction e5 generalizing n with
    | nil => rfl
    | cons h t ih =>
      cases n with
      | zero => exact congrArg some h.1
      | succ n => simpa using ih n
  · cases e2
end
section
variable {K : PySem.W.Frag} {S : Sx K} {X : Cx} {e : Expr} {j : Nat} {m : Md} {t t1 : Shp} {pos : Pos}
structure Ln where
  sel : Env → D → Option D
  put : Env → D → D → D
def tPth (S : Sx K) (j : Nat) (t t1 : Shp) (L : Ln) : TE := fun σ H Q => ∃ B O Fs ρ v d F d1, Wd S.G B O Fs H σ ρ S.M ∧ σ[j]? = some (some v) ∧ ρ[j]? = some (some d) ∧ Fs[j]? = some F ∧ Own S.G O H t v d F ∧ L.sel ρ d = some d1 ∧
  ∀ v1 F1, Fo S.G O H t v F t1 v1 d1 F1 (L.put ρ d) → Q v1 H
def Ln.here : Ln := ⟨fun _ d => some d, fun _ _ d => d⟩
theorem l_var (h : PE X e (tVar j)) : PE X e (tPth S j t t Ln.here) := by
  refine PE.of h fun σ H Q ⟨B, O, Fs, ρ, v, d, F, d1, w, h1, h2, h3, ow, hs, k⟩ => ⟨v, h1, ?_⟩
  cases hs
  exact k v F (Fo.refl ow (nodup_part w.nd h3))
def Ln.ix (L : Ln) (i : Nat) : Ln := ⟨fun ρ d => (L.sel ρ d).bind fun x => match x with
  | .lst ds => ds[i]?
  | _ => none, fun ρ d d2 => match L.sel ρ d with
  | some (.lst ds) => L.put ρ d (.lst (ds.set i d2))
  | _ => d⟩
theorem Fo.move {G : Gx K} {O O2 : Addr → Prop} {H H2 : Hp} {v v1 : V} {d1 : D} {F F1 : List Addr} {put : D → D} (fo : Fo G O H t v F t1 v1 d1 F1 put) (k : Kept O H O2 H2) (fr : ∀ b ∈ F, H2 b = H b) (dm : ∀ b o, H b = some o → ∃ o', H2 b = some o') (kt : ∀ O3 H3, Kept O2 H2 O3 H3 → Kept O H O3 H3) : Fo G O2 H2 t v F t1 v1 d1 F1 put := by
  refine ⟨Own.keep k _ (fun b hb => fr b (fo.sub b hb)) fo.own, fo.nd, fo.sub, fun O3 H3 d2 F2 ow k3 fr3 nw n2 al => ?_⟩
  refine fo.back O3 H3 d2 F2 ow (kt O3 H3 k3) (fun b hb hn => (fr3 b hb hn).trans (fr b hb)) (fun b hb => (nw b hb).imp id fun z => ?_) n2 fun b hb => ?_
  · cases q : H b with
    | none => rfl
    | some o => obtain ⟨o', h'⟩ := dm b o q; rw [z] at h'; cases h'
  · obtain ⟨o, ho⟩ := al b hb
    exact ⟨o, by rw [← fr b hb]; exact ho⟩
theorem Kept.trans {O O2 O3 : Addr → Prop} {H H2 H3 : Hp} (a : Kept O H O2 H2) (b : Kept O2 H2 O3 H3) (dm : ∀ b o, H b = some o → ∃ o', H2 b = some o') : Kept O H O3 H3 := by
  have no : ∀ {c : Addr} {o : HO}, H c = some o → ¬ O c → ¬ O2 c := fun h n => a.no h n
  refine ⟨fun c u n nf h => b.rd c u (a.no2 h n) nf (a.rd c u n nf h), fun c P n h => b.ext c P (no h n) (a.ext c P n h), fun c vs n h => b.tup c vs (no h n) (a.tup c vs n h), fun c o vs n h => b.ftp c o vs (no h n) (a.ftp c o vs n h), fun c C dx fs n h => b.ins c C dx fs (no h n) (a.ins c C dx fs n h), fun c h => ?_⟩
  rcases b.grow c h with z | z
  · exact a.grow c z
  · refine .inr ?_
    cases q : H c with
    | none => rfl
    | some o => obtain ⟨o', h'⟩ := dm c o q; rw [z] at h'; cases h'
abbrev Sx.hd (S : Sx K) (j : Nat) : Sx K := { S with M := S.M.set j .hd }
def mutP (j : Nat) (L : Ln) (u : List D → List D → Option (D × List D)) (as : List D) (ρ : Env) : R D := match ρ[j]? with
  | some (some d) => match L.sel ρ d with
    | some (.lst ds) => match u ds as with
      | some (r, ds') => .ok r (ρ.set j (some (L.put ρ d (.lst ds'))))
      | none => .bad
    | _ => .bad
  | _ => .bad
def Ln.Ok (L : Ln) (M : List Md) : Prop := ∀ ρ ρ' : Env, (∀ (i : Nat) (m : Md), M[i]? = some m → m.isOw = false → ρ'[i]? = ρ[i]?) → (∀ d, L.sel ρ' d = L.sel ρ d) ∧ ∀ d d2, L.put ρ' d d2 = L.put ρ d d2
def selOk (j : Nat) (L : Ln) (ρ : Env) : Bool := match ρ[j]? with
  | some (some d) => match L.sel ρ d with
    | some (.lst _) => true
    | _ => false
  | _ => false
def sMutP (j : Nat) (L : Ln) (u : List D → List D → Option (D × List D)) (fs : Env → R (List D)) : Env → R D := fun ρ => if selOk j L ρ then (fs ρ).bind fun as ρ1 => mutP j L u as ρ1 else .bad
theorem m_path {T id : String} {name : Str} {o : Expr} {es : List Expr} {fs : Env → R (List D)} {apos cpos : Pos} {L : Ln} {r : V → List V → Hp → VK → Prop} {u : List D → List D → Option (D × List D)} (hu : MutP r u) (hT : T = "list") (pa : PlainAttrs T) (slot : Slot T name id) (hty : typeOf (.builtin id) = pure (.type "method_descriptor")) (hm : MtR X id r) (hK : X.K = K) (h0 : PE X o (tPth S j t (.lst .sh) L)) (hj : S.M[j]? = some m) (ht : m.is t) (hL : L.Ok (S.M.set j .hd)) (ha : PA X (e :: es) (lEs (S.hd j) fs))
    (hbase : attributeBase o name X.env (eval o X.env) = eval o X.env := by rfl)
    (hfew : ((backTo cpos (starEach (e :: es) X.env)).all (fun x => !x.1) && (backToKw cpos (keywordEach [] X.env)).all (fun x => x.1.isSome) && decide ((e :: es).length + ([] : List Keyword).length + (if ([] : List Keyword).isEmpty then 0 else 1) < 30)) = true := by rfl)
    (hline : (apos.endLine == cpos.line) = true := by rfl) (hs : starEach (e :: es) X.env = (false, eval e X.env) :: starEach es X.env := by rfl) (hplain : (backTo cpos (starEach es X.env)).any (·.1) = false := by rfl) : PE X (.Call (.Attribute o name apos) (e :: es) [] cpos) (lE S (sMutP j L u fs)) := by
  subst hK
  refine PE.of (pe_bm pa slot hty hm h0 ha hbase hfew hline hs hplain) fun σ H Q ⟨B, O, Fs, ρ, w, run⟩ => ?_
  obtain ⟨v, d, F, h1, h2, h3, ow⟩ := w.own hj ht
  unfold sMutP at run
  by_cases hsel : selOk j L ρ = true
  case neg => rw [if_neg hsel] at run; exact run.elim
  rw [if_pos hsel] at run
  have ⟨ds, hds⟩ : ∃ ds, L.sel ρ d = some (.lst ds) := by
    unfold selOk at hsel
    rw [h2] at hsel
    dsimp only at hsel
    split at hsel
    · exact ⟨_, by assumption⟩
    · cases hsel
  refine ⟨B, O, Fs, ρ, v, d, F, .lst ds, w, h1, h2, h3, ow, hds, fun v1 F1 fo => ?_⟩
  obtain ⟨l, vs, ds', e1, e2, e3, e4, e5⟩ := reps_own fo.own
  cases e2
  subst e1 e4 hT
  refine ⟨.inl ⟨rfl, vs, SqL.of e3⟩, B, O, Fs.set j [], ρ, w.hideH hj, ?_⟩
  have key : ∀ {as : List D} {ρ1 : Env} {args : List V} {O1 : Addr → Prop} {Fs1 : List (List Addr)} {H1 : Hp}, fs ρ = .ok as ρ1 → Ev (S.M.set j .hd) O (Fs.set j []) H ρ O1 Fs1 H1 ρ1 → Wd S.G B O1 Fs1 H1 σ ρ1 (S.M.set j .hd) → Reps S.G O1 H1 args as → r (.ref l) args H1 Q := fun {as ρ1 args O1 Fs1 H1} hf ev wd ra => by
    obtain ⟨Fs2, w2, ev2, _, _, ef⟩ := w.unhide hj ht (.inr rfl) wd ev
    rw [h3] at ef
    rw [hf] at run
    have run2 : Run S (vE S) (mutP j L u as ρ1) B O1 Fs2 H1 σ ρ1 Q := Run.shift (show Run S (vE S) (mutP j L u as ρ1) B O Fs H σ ρ Q from run) ev2
    have hρ : ρ1[j]? = some (some d) := by
      rw [ev.keep j .hd (List.getElem?_set_self (List.getElem?_eq_some_iff.mp hj).1) rfl]
      exact h2
    obtain ⟨hs1, hp1⟩ := hL ρ ρ1 ev.keep
    unfold mutP at run2
    rw [hρ] at run2
    dsimp only at run2
    rw [hs1, hds] at run2
    dsimp only at run2
    have hFO : ∀ b ∈ F, b ∉ (Fs.set j []).flatten := fun b hb z => by
      rcases mem_set_flat z with z | ⟨i, F1, hi, e, hb1⟩
      · cases z
      · exact disj_flat w.nd hi e h3 b hb1 hb
    have frF : ∀ b ∈ F, H1 b = H b := fun b hb => by
      obtain ⟨o, ho⟩ := w.al b (w.sub b (mem_flat (List.mem_of_getElem? h3) hb))
      rw [ho]
      exact ev.chg b o ho (hFO b hb)
    have k01 : Kept O H O1 H1 := ev2.kept w.sub
    have fo1 := fo.move k01 frF ev.dom fun O3 H3 k3 => k01.trans k3 ev.dom
    obtain ⟨l2, vs2, ds2, q1, q2, q3, q4, q5⟩ := reps_own fo1.own
    cases q1
    cases q2
    cases hq : u ds as with
    | none => rw [hq] at run2; exact run2.elim
    | some z =>
      obtain ⟨dr, ds3⟩ := z
      rw [hq] at run2
      dsimp only at run2
      have lF : l ∈ F := fo.sub l (List.mem_singleton.mpr rfl)
      have lO : O1 l := w2.sub l (mem_flat (List.mem_of_getElem? ef) lF)
      refine hu S.G O1 H1 l vs2 args ds as dr ds3 hq q3 q5 ra lO Q fun v' vs' rv rs => ?_
      have ne : ∀ b, b ≠ l → upd H1 l (.lst vs') b = H1 b := fun b hb => upd_ne hb
      have kw : Kept O1 H1 O1 (upd H1 l (.lst vs')) := ⟨fun b u n _ h => by
          have hb : b ≠ l := fun z => n (by rw [z]; exact lO)
          rcases h with h | ⟨o, h⟩
          · exact .inl (by rw [ne b hb]; exact h)
          · exact .inr ⟨o, by rw [ne b hb]; exact h⟩, fun b P n h => by
          rw [ne b fun z => n (by rw [z]; exact lO)]; exact h, fun b vs n h => by
          rw [ne b fun z => n (by rw [z]; exact lO)]; exact h, fun b o vs n h => by
          rw [ne b fun z => n (by rw [z]; exact lO)]; exact h, fun b C dx fs n h => by
          rw [ne b fun z => n (by rw [z]; exact lO)]; exact h, fun _ h => .inl h⟩
      have dm : ∀ b o, H1 b = some o → ∃ o', upd H1 l (.lst vs') b = some o' := fun b o h => by
        by_cases hb : b = l
        · exact ⟨_, by rw [hb, upd_same]⟩
        · exact ⟨o, by rw [ne b hb]; exact h⟩
      have alF : ∀ b ∈ F, ∃ o, H1 b = some o := fun b hb => by obtain ⟨o, ho⟩ := w2.al b (w2.sub b (mem_flat (List.mem_of_getElem? ef) hb)); exact ⟨o, ho⟩
      obtain ⟨F3, ow3, n3, s3⟩ := fo1.back O1 (upd H1 l (.lst vs')) (.lst ds3) [l] (own_lst upd_same (rs.keep kw)) kw (fun b hb hn => ne b fun z => hn (by rw [z]; exact List.mem_singleton.mpr rfl)) (fun b hb => .inl hb) (by simp) alF
      have in3 : ∀ b ∈ F3, b ∈ F := fun b hb => by
        rcases s3 b hb with z | z
        · rw [List.mem_singleton.mp z]; exact lF
        · exact z.1
      obtain ⟨w3, ev3⟩ := w2.put hj ht h1 ef (O' := O1) (F' := F3) (H' := upd H1 l (.lst vs')) (d' := L.put ρ d (.lst ds3)) ⟨fun b o h n => by rw [ne b fun z => n (by rw [z]; exact lF)]; exact h, dm, fun _ h => h, fun _ h => .inl h, fun a ha => by
        obtain ⟨o, ho⟩ := w2.al a ha
        by_cases hb : a = l
        · exact ⟨⟨.lst vs', fun _ z => nomatch z⟩, by rw [hb, upd_same]⟩
        · exact ⟨o, by rw [ne a hb]; exact ho⟩, fun b hb => .inl (in3 b hb), fun b hb => w2.sub b (mem_flat (List.mem_of_getElem? ef) (in3 b hb)), n3⟩ ow3
      rw [hp1] at run2
      exact run2 v' O1 _ _ ev3 w3 (rv.keep kw)
  cases hf : fs ρ with
  | ok as ρ1 => exact fun args O1 Fs1 H1 ev wd ra => key hf ev wd ra
  | ex x ρ1 =>
    rw [hf] at run
    intro cls dd O' Fs' H' ev wd x
    obtain ⟨Fs2, w2, ev2, _, _, _⟩ := w.unhide hj ht (.inr rfl) wd ev
    exact run cls dd O' Fs2 H' ev2 w2 x
  | bad => rw [hf] at run; exact run.elim
end
end Pu
namespace Pu
open PySem L2 PySem.Spec PyProof.Rows Pw
section
variable {X : Cx} {CX : CXT} {k : Nat} {f C : Addr} {fd : FuncData} {ps : List Str} {sp : Sp} {dvs : List V} {ds : List Value} {E : L2.St → XK} {x m : Str} {p pos apos : Pos} {e o : Expr} {es : List Expr} {ta : TE} {t : TA}
def tMakeS (C : Addr) (sp : Sp) (dvs : List V) (E : L2.St → XK) (t : TA) : TE := fun σ H Q => t σ H fun vs H1 => ∀ a dx, H1 a = none → H1 dx = none → dx ≠ a →
  sp (.ref a :: (vs ++ dvs)) (upd (upd H1 dx (.own a)) a (.ins C dx [])) (fun v H2 => v = .non ∧ Q (.ref a) H2) (E σ)
theorem run_makeS {pins : List (Addr × Obj)} {σ : L2.St} {H : Hp} {s : Shared} {Q : VK} {us : List Value} {vs : List V}
    (M : Mk X.K C f) (F : FnOkG X.prog X.w X.K X.mg X.base CX k f fd ps sp)
    (hr : RoomG (k + 1) X.A) (hb : Binds X.K fd ps ds) (hd : Vals dvs ds)
    (hx : PassesAt CX X σ (E σ)) (I : Inv X pins σ H s) (r : Vals vs us)
    (h : ∀ a dx, H a = none → H dx = none → dx ≠ a → sp (.ref a :: (vs ++ dvs)) (upd (upd H dx (.own a)) a (.ins C dx [])) (fun v H2 => v = .non ∧ Q (.ref a) H2) (E σ)) :
    wpAny (model X.prog X.w) X.A (call (.ref C) us) (EP X pins σ Q) X.xe s := by
  have n1 := I.hok.fresh (Nat.le_succ s.heap.objs.size)
  have n2 := I.hok.fresh (Nat.le_refl s.heap.objs.size)
  have want := h _ _ n1 n2 (Nat.ne_of_lt (Nat.lt_succ_self _))
  have J := Inv.made (C := C) I
  have all : Vals (V.ref (s.heap.objs.size + 1) :: (vs ++ dvs)) (Value.ref (s.heap.objs.size + 1) :: (us ++ ds)) := .cons rfl (r.append hd)
  have len : (Value.ref (s.heap.objs.size + 1) :: us ++ ds).length = ps.length := by
    rw [← F.len _ _ _ _ want]
    exact all.length.symm
  have fun_ok := F.run _ X.stack _ _ ⟨Value.ref (s.heap.objs.size + 1) :: us, []⟩ _ _ _ (E σ)
    (hr.make C us []) (J.env0.make C us []) (hb _ (Value.ref (s.heap.objs.size + 1) :: us) J.kIn len) all want
  refine wpAny_call (make_map (f := f) I.kIn M.makes M.init (beq_iff_eq.mp M.fn) (codeAny_mono fun_ok fun out s' hq => ?_))
  rcases out with e | fl
  · exact hx pins _ _ e s' J hq
  · cases fl with
    | ret u =>
      obtain ⟨v, H', J3, rv, ev, q3⟩ := J.after hq
      subst ev
      exact ⟨rv, ⟨V.ref (s.heap.objs.size + 1), H', J3, rfl, q3⟩⟩
    | next => exact hq.elim
    | brk => exact hq.elim
    | cont => exact hq.elim
theorem pe_makeS (M : Mk X.K C f) (F : FnOkG X.prog X.w X.K X.mg X.base CX k f fd ps sp)
    (hr : RoomG (k + 1) X.A) (hg : Gl X x) (hm : X.mg x = some (.ref C)) (hb : Binds X.K fd ps ds) (hd : Vals dvs ds) (hx : ∀ σ, PassesAt CX X σ (E σ)) (ha : PA X (e :: es) t)
    (hdb : (x == ("__debug__" : Str)) = false := by decide) (he : starEach (e :: es) X.env = (false, eval e X.env) :: starEach es X.env := by rfl)
    (hpl : (backTo pos (starEach es X.env)).any (·.1) = false := by rfl) : PE X (.Call (.Name x p) (e :: es) [] pos) (tMakeS C sp dvs E t) :=
  ⟨fun pins s σ H Q I h => wpAny_Call_Name_kw (ld_glob I hg hm (PySem.W.callWith_K (h₀ := X.base) I.ok.mod.kin M.kp
    (thn (ha.run pos pins s σ H _ I h) fun us s1 ⟨vs, H1, I1, r, q⟩ => ⟨I1.kIn, run_makeS M F hr hb hd (hx σ) I1 r q⟩) he hpl) hdb)⟩
def tMethS (C : Addr) (m : Str) (sp : Sp) (dvs : List V) (E : L2.St → XK) (ta : TE) (t : TA) : TE := fun σ H Q => ta σ H fun x H1 => ∃ a dx fs, x = .ref a ∧ H1 a = some (.ins C dx fs) ∧ fs.lookup m = none ∧
  t σ H1 fun vs H2 => sp (.ref a :: vs ++ dvs) H2 Q (E σ)
theorem pe_methS2 {pl : Sem Bool} (he : PE X o ta) (c : Cls X.K C) (hm : Meth X.K C m f) (F : FnOkG X.prog X.w X.K X.mg X.base CX k f fd ps sp)
    (hr : RoomG k X.A) (hb : Binds X.K fd ps ds) (hd : Vals dvs ds) (hx : ∀ σ, PassesAt CX X σ (E σ)) (ha : PA X (e :: es) t)
    (hst : starEach (e :: es) X.env = (false, eval e X.env) :: starEach es X.env := by rfl)
    (hpl : (backTo pos (starEach es X.env)).any (·.1) = false := by rfl)
    (ht : eval (.Call (.Attribute o m apos) (e :: es) [] pos) X.env = (do
      let ov ← eval o X.env
      standAt apos.atName
      let (f, first) ← holding [ov] (getMethod ov m pl)
      callWith pos f first (backTo pos (starEach (e :: es) X.env)) (backToKw pos (keywordEach [] X.env))) := by rfl) : PE X (.Call (.Attribute o m apos) (e :: es) [] pos) (tMethS C m sp dvs E ta t) := by
  constructor
  intro pins s σ H Q I h
  refine PySem.W.methodCall_KW (pl := pl) (thn (he.run pins s σ H _ I h) ?_) ht
  rintro u s1 ⟨x, H1, J, rx, a, dx, fs, ex, ea, l, q⟩
  subst ex
  obtain rfl : u = Value.ref a := rx
  refine getmeth_ok J ea c hm l (PySem.W.callWith_K (first := [.ref a]) (h₀ := X.base) I.ok.mod.kin hm.kp (thn (ha.run pos pins s1 σ H1 _ J q) ?_) hst hpl)
  rintro us s2 ⟨vs, H2, J2, r, q2⟩
  exact ⟨J2.kIn, run_fnG (us := .ref a :: us) (vs := .ref a :: vs) F hr hb hd (hx σ) J2 (.cons rfl r) q2⟩
end
section
variable {K : PySem.W.Frag} {S : Sx K} {X : Cx} {e o : Expr} {es : List Expr} {fa : Env → R D} {fs : Env → R (List D)} {pos p apos : Pos} {ms ms2 : List Md} {t : Shp}
inductive DReps (G : Gx K) : List Md → List V → List D → Prop
  | nil : DReps G [] [] []
  | cons {ms : List Md} {v : V} {d : D} {vs : List V} {ds : List D} : (∀ O H, Rep G O H v d) → DReps G ms vs ds → DReps G (.sh :: ms) (v :: vs) (d :: ds)
  | consB {ms : List Md} {v : V} {d : D} {vs : List V} {ds : List D} : (∀ O H, Rep G O H v d) → DReps G ms vs ds → DReps G (.br :: ms) (v :: vs) (d :: ds)
theorem DReps.a {G : Gx K} {O : Addr → Prop} {F : List Addr} {H : Hp} : ∀ {ms : List Md} {vs : List V} {ds : List D}, DReps G ms vs ds → AReps G O F H ms vs ds
  | _, _, _, .nil => .nil
  | _, _, _, .cons r t => .sh (r O H) t.a
  | _, _, _, .consB r t => .br (.inl (r O H)) t.a
theorem AReps.app {G : Gx K} {O : Addr → Prop} {F : List Addr} {H : Hp} : ∀ {ms ms2 : List Md} {vs vs2 : List V} {ds ds2 : List D}, AReps G O F H ms vs ds → AReps G O F H ms2 vs2 ds2 → AReps G O F H (ms ++ ms2) (vs ++ vs2) (ds ++ ds2)
  | _, _, _, _, _, _, .nil, h => h
  | _, _, _, _, _, _, .sh r t, h => .sh r (t.app h)
  | _, _, _, _, _, _, .br r t, h => .br r (t.app h)
theorem AReps.keep {G : Gx K} {O O' : Addr → Prop} {F F' : List Addr} {H H' : Hp} (k : Kept O H O' H') (kb : ∀ b o, b ∉ F → H b = some o → H' b = some o ∧ b ∉ F') : ∀ {ms : List Md} {vs : List V} {ds : List D}, AReps G O F H ms vs ds → AReps G O' F' H' ms vs ds
  | _, _, _, .nil => .nil
  | _, _, _, .sh r t => .sh (r.keep k) (t.keep k kb)
  | _, _, _, .br r t => by
    refine .br ?_ (t.keep k kb)
    rcases r with r | ⟨p, np, ⟨o, ho⟩, r⟩
    · exact .inl (r.keep k)
    · have kp : ∀ b ∈ [p], H' b = H b := fun b hb => by
        rw [List.mem_singleton.mp hb, ho]
        exact (kb p o np ho).1
      refine .inr ⟨p, (kb p o np ho).2, ⟨o, (kb p o np ho).1⟩, ?_⟩
      rcases r with r | r | r
      · exact .inl (Own.keep k _ kp r)
      · exact .inr (.inl (Own.keep k _ kp r))
      · exact .inr (.inr (Own.keep k _ kp r))
def RF.toNew (r : RF) (ρ : Env) : R D := match r with
  | .ok .non (d :: _) => .ok d ρ
  | .ok _ _ => .bad
  | .ex x _ => .ex x ρ
  | .bad => .bad
def sMake (c : String) (dd : List D) (g : List D → RF) (fs : Env → R (List D)) : Env → R D := fun ρ => (fs ρ).bind fun ds ρ1 => (g (.obj c [] :: (ds ++ dd))).toNew ρ1
theorem sp_make {g : List D → RF} {B O : Addr → Prop} {Fs : List (List Addr)} {H : Hp} {σ : L2.St} {ρ : Env} {vs : List V} {ds : List D} {Q : VK} {a C dx : Addr} {c : String} {fsh : Str → Shp} (w : Wd S.G B O Fs H σ ρ S.M) (hC : S.G.ca c = some C) (h : AReps S.G O Fs.flatten H ms vs ds) (na : H a = none) (nx : H dx = none) (ne : dx ≠ a)
    (run : Run S (vE S) ((g (.obj c [] :: ds)).toNew ρ) B O Fs H σ ρ Q) : SpF S.G S.xa (.op (.obj fsh) :: ms) g (.ref a :: vs) (upd (upd H dx (.own a)) a (.ins C dx [])) (fun v H2 => v = .non ∧ Q (.ref a) H2) (WE S.W σ) := by
  have old : ∀ b u, H b = some u → upd (upd H dx (.own a)) a (.ins C dx []) b = some u := fun b u hb => by
    rw [upd_ne (ne_of_none hb na), upd_ne (ne_of_none hb nx)]
    exact hb
  have same : Same H (upd (upd H dx (.own a)) a (.ins C dx [])) := old
  have k0 : Kept O H (fun b => O b ∨ b = a) (upd (upd H dx (.own a)) a (.ins C dx [])) := by
    have := Kept.same (O := O) same
    exact ⟨this.rd, this.ext, this.tup, this.ftp, this.ins, fun b hb => hb.imp id fun z => by rw [z]; exact na⟩
  have A2 : AReps S.G (fun b => O b ∨ b = a) ([] : List Addr) (upd (upd H dx (.own a)) a (.ins C dx [])) ms vs ds := h.keep k0 fun b u _ hb => ⟨old b u hb, fun z => by cases z⟩
  have A3 : AReps S.G (fun b => O b ∨ b = a) ([a] : List Addr) (upd (upd H dx (.own a)) a (.ins C dx [])) ms vs ds := h.keep k0 fun b u _ hb => ⟨old b u hb, fun z => ne_of_none hb na (List.mem_singleton.mp z)⟩
  have fl : ([a] :: List.replicate ms.length []).flatten = [a] := by rw [List.flatten_cons, flat_nil]; rfl
  have al2 : ∀ b, (O b ∨ b = a) → ∃ o : NTO, upd (upd H dx (.own a)) a (.ins C dx []) b = some o.1 := fun b hb => by
    rcases hb with hb | hb
    · obtain ⟨u, hu⟩ := w.al b hb
      exact ⟨u, old b u hu⟩
    · exact ⟨⟨.ins C dx [], fun _ z => nomatch z⟩, by rw [hb, upd_same]⟩
  refine ⟨fun b => O b ∨ b = a, [a] :: List.replicate ms.length [], .obj c [] :: ds, ⟨by rw [fl]; simp, by rw [fl]; exact fun b hb => .inr (List.mem_singleton.mp hb), fun _ h => h, al2, by simp [h.len.1], by simp [h.len.2], by simp, fun i m v d f e1 e2 e3 e4 => ?_⟩, ?_⟩
  · cases i with
    | zero =>
      cases e1; cases e2; cases e3; cases e4
      exact ⟨_, _, rfl, rfl, a, C, dx, [], c, [], [], rfl, rfl, hC, upd_same, rfl, (fun f hf => by cases hf), .nil⟩
    | succ i =>
      have : f = [] := (List.mem_replicate.mp (List.mem_of_getElem? (by simpa using e4))).2
      subst this
      rw [fl]
      exact A3.slot (fun b hb => hb) (by simpa using e1) (by simpa using e2) (by simpa using e3)
  · have fin : ∀ {O' : Addr → Prop} {Fs' : List (List Addr)} {H' : Hp} {ds' : List D}, Ev (.op (.obj fsh) :: ms) (fun b => O b ∨ b = a) ([a] :: List.replicate ms.length []) (upd (upd H dx (.own a)) a (.ins C dx [])) ((D.obj c [] :: ds).map some) O' Fs' H' (ds'.map some) → Same H H' ∧ (∀ b, O b → O' b) ∧ ∀ b ∈ Fs'.flatten, ¬ O b := fun {O' Fs' H' ds'} ev => by
      refine ⟨fun b u hb => ev.chg b u (old b u hb) (by rw [fl]; exact fun z => ne_of_none hb na (List.mem_singleton.mp z)), fun b hb => ev.mono b (.inl hb), fun b hb z => ?_⟩
      obtain ⟨u, hu⟩ := w.al b z
      rcases ev.fgrow b hb with q | q
      · rw [fl] at q
        exact ne_of_none hu na (List.mem_singleton.mp q)
      · rw [old b u hu] at q; cases q
    cases e : g (.obj c [] :: ds) with
    | ok d ds' =>
      rw [e] at run
      intro v O' Fs' H' ev wd r
      obtain ⟨sm, mo, no⟩ := fin ev
      cases d with
      | non =>
        cases r
        refine ⟨rfl, ?_⟩
        cases ds' with
        | nil => exact run.elim
        | cons d1 ds1 =>
          obtain ⟨v1, d2, F, h1, h2, h3, ow⟩ := wd.own (j := 0) (t := .obj fsh) (m := .op (.obj fsh)) rfl (.inr rfl)
          cases h1
          cases h2
          refine run (.ref a) O Fs H' (Ev.same sm) (w.same sm) (Own.freeze mo _ (fun b hb => no b ?_) ow)
          exact mem_flat (List.mem_of_getElem? h3) hb
      | _ => exact run.elim
    | ex x ds' =>
      rw [e] at run
      intro cls dd O' Fs' H' ev wd r
      obtain ⟨sm, mo, no⟩ := fin ev
      exact run cls dd O Fs H' (Ev.same sm) (w.same sm) (r.anti mo)
    | bad => rw [e] at run; exact run.elim
theorem p_make {k : Nat} {f C : Addr} {fd : FuncData} {ps : List Str} {x : Str} {c : String} {fsh : Str → Shp} {g : List D → RF} {dvs : List V} {dds : List D} {dvl : List Value} (M : Mk X.K C f) (F : FnOkG X.prog X.w X.K X.mg X.base (L2.CX X.prog X.w) k f fd ps (SpF S.G S.xa (.op (.obj fsh) :: (ms ++ ms2)) g)) (hC : S.G.ca c = some C) (hr : RoomG (k + 1) X.A) (hg : Gl X x) (hm : X.mg x = some (.ref C)) (hb : Binds X.K fd ps dvl) (hd : Vals dvs dvl) (hdd : DReps S.G ms2 dvs dds) (tk : Takes X S.W)
    (ha : PA X (e :: es) (lAs S ms fs)) (hdb : (x == ("__debug__" : Str)) = false := by decide) (he : starEach (e :: es) X.env = (false, eval e X.env) :: starEach es X.env := by rfl) (hpl : (backTo pos (starEach es X.env)).any (·.1) = false := by rfl) :
    PE X (.Call (.Name x p) (e :: es) [] pos) (lE S (sMake c dds g fs)) := by
  refine PE.of (pe_makeS (E := WE S.W) M F hr hg hm hb hd (fun σ => passAt tk σ) ha hdb he hpl) fun σ H Q ⟨B, O, Fs, ρ, w, run⟩ => ?_
  refine ⟨B, O, Fs, ρ, w, run.bind fun ds ρ1 vs O1 Fs1 H1 _ ev1 w1 r1 run1 => ?_⟩
  exact fun a dx na nx ne => sp_make w1 hC (r1.app hdd.a) na nx ne run1
def isC (c : String) (m : Str) : D → Bool
  | .obj c' fs => c' == c && (fs.lookup m).isNone
  | _ => false
def sMeth (c : String) (m : Str) (dd : List D) (g : List D → RF) (fa : Env → R D) (fs : Env → R (List D)) : Env → R D := fun ρ => (fa ρ).bind fun x ρ1 => if isC c m x then (fs ρ1).bind fun ds ρ2 => (g (x :: (ds ++ dd))).toR ρ2 else .bad
theorem repF_none {G : Gx K} {O : Addr → Prop} {H : Hp} {n : Str} : ∀ {fs : List (Str × D)} {fvs : List (Str × V)}, RepF G O H fvs fs → fs.lookup n = none → fvs.lookup n = none
  | [], _, h, _ => by cases h; rfl
  | (f, d) :: fs, _, h, e => by
    cases h with
    | cons r t =>
      cases hb : n == f with
      | true => rw [List.lookup_cons, hb] at e; cases e
      | false =>
        rw [List.lookup_cons, hb] at e ⊢
        exact repF_none t e
theorem p_meth {pl : Sem Bool} {k : Nat} {f C : Addr} {fd : FuncData} {ps : List Str} {m : Str} {c : String} {g : List D → RF} {dvs : List V} {dds : List D} {dvl : List Value} (hK : X.K = K) (hC : S.G.ca c = some C) (hm : Meth X.K C m f) (F : FnOkG X.prog X.w X.K X.mg X.base (L2.CX X.prog X.w) k f fd ps (SpF S.G S.xa (.br :: (ms ++ ms2)) g)) (hr : RoomG k X.A) (hb : Binds X.K fd ps dvl) (hd : Vals dvs dvl) (hdd : DReps S.G ms2 dvs dds) (tk : Takes X S.W)
    (ho : PE X o (lB S fa)) (ha : PA X (e :: es) (lAs S ms fs)) (hst : starEach (e :: es) X.env = (false, eval e X.env) :: starEach es X.env := by rfl) (hpl : (backTo pos (starEach es X.env)).any (·.1) = false := by rfl)
    (ht : eval (.Call (.Attribute o m apos) (e :: es) [] pos) X.env = (do
      let ov ← eval o X.env
      standAt apos.atName
      let (f, first) ← holding [ov] (getMethod ov m pl)
      callWith pos f first (backTo pos (starEach (e :: es) X.env)) (backToKw pos (keywordEach [] X.env))) := by rfl) : PE X (.Call (.Attribute o m apos) (e :: es) [] pos) (lE S (sMeth c m dds g fa fs)) := by
  subst hK
  refine PE.of (pe_methS2 (E := WE S.W) ho (S.G.oc hC).cl hm F hr hb hd (fun σ => passAt tk σ) ha hst hpl ht) fun σ H Q ⟨B, O, Fs, ρ, w, run⟩ => ?_
  refine ⟨B, O, Fs, ρ, w, run.bind fun x ρ1 v O1 Fs1 H1 _ ev1 w1 r1 run1 => ?_⟩
  cases hx : isC c m x with
  | false => rw [hx] at run1; exact run1.elim
  | true =>
    rw [hx, if_pos rfl] at run1
    cases x with
    | obj c' fs' =>
      have hx : (c' == c && (fs'.lookup m).isNone) = true := hx
      rw [Bool.and_eq_true, beq_iff_eq, Option.isNone_iff_eq_none] at hx
      obtain ⟨rfl, hn⟩ := hx
      obtain ⟨a, C', dx, fvs, e1, e2, e3, e4, e5⟩ := r1.obj
      rw [hC] at e2
      cases e2
      subst e1
      refine ⟨a, dx, fvs, rfl, e3, repF_none e5 hn, B, O1, Fs1, ρ1, w1, run1.bind fun ds ρ2 vs O2 Fs2 H2 _ ev2 w2 r2 run2 => ?_⟩
      exact sp_of w2 (.br (r1.ev w1 ev2) (r2.app hdd.a)) run2
    | _ => cases hx
end
end Pu
namespace Pu
open PySem L2 PySem.Spec PyProof.Rows Pw
def putFD (f : Str) (d : D) : List (Str × D) → List (Str × D)
  | [] => [(f, d)]
  | (g, x) :: r => if g = f then (g, d) :: r else (g, x) :: putFD f d r
theorem putFD_names {f : Str} {d : D} : ∀ {fs : List (Str × D)} {x : Str}, x ∈ (putFD f d fs).map (·.1) → x = f ∨ x ∈ fs.map (·.1)
  | [], x, h => by
    unfold putFD at h
    exact .inl (by simpa using h)
  | (g, y) :: r, x, h => by
    unfold putFD at h
    split at h
    · exact .inr h
    · rw [List.map_cons] at h
      rcases List.mem_cons.mp h with h | h
      · exact .inr (by rw [h]; exact List.mem_cons_self ..)
      · exact (putFD_names h).imp id (List.mem_cons_of_mem _)
section
variable {K : PySem.W.Frag} {G : Gx K} {O : Addr → Prop} {H : Hp} {fsh : Str → Shp} {f : Str} {v : V} {d : D}
abbrev OwF (G : Gx K) (O : Addr → Prop) (H : Hp) (fsh : Str → Shp) : Str × V → Str × D → List Addr → Prop := fun a b F => a.1 = b.1 ∧ Own G O H (fsh a.1) a.2 b.2 F
theorem all3_putF (hf : fsh f = .sh) (r : Rep G O H v d) : ∀ {fvs : List (Str × V)} {fs : List (Str × D)} {Fs : List (List Addr)}, All3 (OwF G O H fsh) fvs fs Fs → ∃ Fs', All3 (OwF G O H fsh) (putF f v fvs) (putFD f d fs) Fs' ∧ Fs'.flatten = Fs.flatten
  | _, _, _, .nil => ⟨[[]], .cons ⟨rfl, by rw [hf]; exact ⟨rfl, r⟩⟩ .nil, rfl⟩
  | (g, x) :: fvs, (g', y) :: fs, F :: Fs, .cons h t => by
    obtain ⟨e, h⟩ := h
    cases (show g = g' from e)
    unfold putF putFD
    by_cases hg : g = f
    · subst hg
      rw [if_pos rfl, if_pos rfl]
      have h : Own G O H (fsh g) x y F := h
      rw [hf] at h
      obtain ⟨eF, _⟩ := h
      subst eF
      exact ⟨[] :: Fs, .cons ⟨rfl, by rw [hf]; exact ⟨rfl, r⟩⟩ t, rfl⟩
    · rw [if_neg hg, if_neg hg]
      obtain ⟨Fs', h1, h2⟩ := all3_putF hf r t
      exact ⟨F :: Fs', .cons ⟨rfl, h⟩ h1, by rw [List.flatten_cons, List.flatten_cons, h2]⟩
theorem all3_newF {Fv : List Addr} (r : Own G O H (fsh f) v d Fv) : ∀ {fvs : List (Str × V)} {fs : List (Str × D)} {Fs : List (List Addr)}, All3 (OwF G O H fsh) fvs fs Fs → fs.lookup f = none → All3 (OwF G O H fsh) (putF f v fvs) (putFD f d fs) (Fs ++ [Fv])
  | _, _, _, .nil, _ => .cons ⟨rfl, r⟩ .nil
  | (g, x) :: fvs, (g', y) :: fs, F :: Fs, .cons h t, hn => by
    obtain ⟨e, h⟩ := h
    cases (show g = g' from e)
    unfold putF putFD
    by_cases hg : g = f
    · subst hg
      rw [List.lookup_cons, beq_self_eq_true] at hn
      cases hn
    · rw [if_neg hg, if_neg hg]
      have : (f == g) = false := by rw [beq_eq_false_iff_ne]; exact Ne.symm hg
      rw [List.lookup_cons, this] at hn
      exact .cons ⟨rfl, h⟩ (all3_newF r t hn)
theorem kept_upd {q : Addr} {u : HO} (lO : O q) : Kept O H O (upd H q u) := by
  have ne : ∀ b, ¬ O b → b ≠ q := fun b n z => n (by rw [z]; exact lO)
  refine ⟨fun b u' n _ h => ?_, fun b P n h => by rw [upd_ne (ne b n)]; exact h, fun b vs n h => by rw [upd_ne (ne b n)]; exact h, fun b o vs n h => by rw [upd_ne (ne b n)]; exact h, fun b C dx fs n h => by rw [upd_ne (ne b n)]; exact h, fun _ h => .inl h⟩
  rcases h with h | ⟨o, h⟩
  · exact .inl (by rw [upd_ne (ne b n)]; exact h)
  · exact .inr ⟨o, by rw [upd_ne (ne b n)]; exact h⟩
theorem dom_upd {q : Addr} {u : HO} : ∀ b o, H b = some o → ∃ o', upd H q u b = some o' := fun b o h => by
  by_cases hb : b = q
  · exact ⟨_, by rw [hb, upd_same]⟩
  · exact ⟨o, by rw [upd_ne hb]; exact h⟩
theorem al_upd {q : Addr} {u : HO} (al : Al O H) (no : ∀ vs, u ≠ .tup vs := by intro _ z; cases z) : Al O (upd H q u) := fun b h => by
  obtain ⟨o, ho⟩ := al b h
  by_cases hb : b = q
  · exact ⟨⟨u, no⟩, by rw [hb, upd_same]⟩
  · exact ⟨o, by rw [upd_ne hb]; exact ho⟩
theorem all3_len {α β γ : Type} {P : α → β → γ → Prop} {as : List α} {bs : List β} {cs : List γ} (h : All3 P as bs cs) : as.length = bs.length := by
  induction h with
  | nil => rfl
  | cons _ _ ih => rw [List.length_cons, List.length_cons, ih]
theorem Wd.put2 {B : Addr → Prop} {Fs : List (List Addr)} {H' : Hp} {σ : L2.St} {ρ : Env} {M : List Md} {j : Nat} {m : Md} {t : Shp} {v : V} {d' : D} {F F' : List Addr} (w : Wd G B O Fs H σ ρ M) (hm : M[j]? = some m) (ht : m.is t) (hv : σ[j]? = some (some v)) (hF : Fs[j]? = some F) (chg : ∀ b o, H b = some o → b ∉ F → H' b = some o) (al : Al O H') (k : Kept O H O H')
    (fgr : ∀ b ∈ F', b ∈ F ∨ (b ∉ Fs.flatten ∧ O b ∧ ¬ B b)) (nd : F'.Nodup) (brn : ∀ (i : Nat) (v' : V) (d' : D), M[i]? = some .br → σ[i]? = some (some v') → ρ[i]? = some (some d') → BRep G O (Fs.set j F').flatten H' v' d') (ow : Own G O H' t v d' F') : Wd G B O (Fs.set j F') H' σ (ρ.set j (some d')) M := by
  have hj : j < M.length := (List.getElem?_eq_some_iff.mp hm).1
  refine ⟨?_, fun a ha => ?_, w.bo, fun a ha => ?_, w.ls, by rw [List.length_set]; exact w.lr, by rw [List.length_set]; exact w.lf, fun i m' v' d f h1 h2 h3 h4 => ?_⟩
  · refine nodup_set w.nd nd fun i F1 hi e b hb hb1 => ?_
    rcases fgr b hb with z | z
    · exact disj_flat w.nd hi e hF b hb1 z
    · exact z.1 (mem_flat (List.mem_of_getElem? e) hb1)
  · rcases mem_set_flat ha with ha | ⟨i, F1, _, e, hb⟩
    · rcases fgr a ha with z | z
      · exact w.sub a (mem_flat (List.mem_of_getElem? hF) z)
      · exact z.2.1
    · exact w.sub a (mem_flat (List.mem_of_getElem? e) hb)
  · exact al a ha
  · by_cases e : i = j
    · subst e
      rw [hm] at h1
      cases h1
      rw [List.getElem?_set_self (by rw [w.lr]; exact hj)] at h3
      rw [List.getElem?_set_self (by rw [w.lf]; exact hj)] at h4
      rw [hv] at h2
      cases h2
      cases h3
      cases h4
      rcases ht with rfl | rfl
      · refine ⟨fun a ha => ?_, v, d', rfl, rfl, ow⟩
        obtain ⟨v0, d0, F0, e1, e2, e3, sl⟩ := w.get hm
        rw [hF] at e3
        cases e3
        rcases fgr a ha with z | z
        · exact sl.1 a z
        · exact z.2.2
      · exact ⟨v, d', rfl, rfl, ow⟩
    · rw [List.getElem?_set_ne (Ne.symm e)] at h3 h4
      have sl := w.sl i m' v' d f h1 h2 h3 h4
      have kf : ∀ b ∈ f, H' b = H b := fun b hb => by
        have hb2 : b ∈ Fs.flatten := mem_flat (List.mem_of_getElem? h4) hb
        obtain ⟨o, ho⟩ := w.al b (w.sub b hb2)
        rw [ho]
        exact chg b o ho (disj_flat w.nd e h4 hF b hb)
      cases m' with
      | mb =>
        obtain ⟨q0, h⟩ := sl
        exact ⟨q0, fun d' hd => by obtain ⟨v', e1, r⟩ := h d' hd; exact ⟨v', e1, r.keep k⟩⟩
      | th a c q l =>
        obtain ⟨q0, q1, ⟨h1, h2⟩, h3⟩ := sl
        exact ⟨q0, q1, ⟨k.no h2 h1, k.ext _ _ h1 h2⟩, fun p hp => (h3 p hp).keep k⟩
      | br =>
        obtain ⟨q1, v1, d1, q2, q3, r⟩ := sl
        subst q2 q3
        exact ⟨q1, v1, d1, rfl, rfl, brn i v1 d1 h1 h2 h3⟩
      | na => exact sl
      | hd => exact sl
      | sh =>
        obtain ⟨q1, v1, d1, q2, q3, r⟩ := sl
        exact ⟨q1, v1, d1, q2, q3, r.keep k⟩
      | ow t =>
        obtain ⟨q1, v1, d1, q2, q3, r⟩ := sl
        exact ⟨q1, v1, d1, q2, q3, Own.keep k _ kf r⟩
      | op t =>
        obtain ⟨v1, d1, q2, q3, r⟩ := sl
        exact ⟨v1, d1, q2, q3, Own.keep k _ kf r⟩
end
section
variable {K : PySem.W.Frag} {T : Tx K} {M M1 Mn Mt : List Md} {X : Cx} {pos pos' : Pos} {e o value : Expr} {f : Env → R D} {j : Nat} {m : Md} {n : Str} {c : String} {C : Addr} {fsh : Str → Shp}
def fldR (j : Nat) (c : String) (n : Str) (d : D) (ρ : Env) : RS := match ρ[j]? with
  | some (some (.obj c' fs)) => if c' = c ∧ fs.length < 1000 then .nx (ρ.set j (some (.obj c' (putFD n d fs)))) else .bad
  | _ => .bad
def fldN (j : Nat) (c : String) (n : Str) (d : D) (ρ : Env) : RS := match ρ[j]? with
  | some (some (.obj c' fs)) => if c' = c ∧ fs.length < 1000 ∧ fs.lookup n = none then .nx (ρ.set j (some (.obj c' (putFD n d fs)))) else .bad
  | _ => .bad
def sFldS (j : Nat) (c : String) (n : Str) (f : Env → R D) : Env → RS := fun ρ => (f ρ).bindS fun d ρ1 => fldR j c n d ρ1
def sFldF (j : Nat) (c : String) (n : Str) (f : Env → R D) : Env → RS := fun ρ => (f ρ).bindS fun d ρ1 => fldN j c n d ρ1
theorem s_fld (hK : X.K = K) (h0 : PE X o (tVar j)) (hj : M[j]? = some m) (ht : m.is (.obj fsh)) (hf : fsh n = .sh) (hC : T.G.ca c = some C) (hN : NoAttr K C n) (hv : PE X value (lE (T.ex M) f)) (wx : Wk M T.Mx) (hs : swapsWith value (some (.Attribute o n pos')) pos.line X.env = pure false := by rfl) :
    PS X (.Assign [.Attribute o n pos'] value pos) (lS T M M (sFldS j c n f)) := by
  subst hK
  refine PS.of (ps_fld h0 hv hs) fun E σ H ⟨B, O, Fs, ρ, w, run⟩ => ?_
  refine ⟨B, O, Fs, ρ, w, run.bindE wx (fun d ρ1 v O1 Fs1 H1 _ ev1 w1 r1 run1 => ?_) (fxOk_refl M)⟩
  obtain ⟨v0, d0, F, h1, h2, h3, ow⟩ := w1.own hj ht
  obtain ⟨p, C', dx, fvs, c', fs, Fq, e1, e2, e3, e4, e5, e6, e7⟩ := ow
  subst e1 e2 e5
  unfold fldR at run1
  rw [h2] at run1
  dsimp only at run1
  split at run1
  · rename_i hc
    obtain ⟨rfl, hl⟩ := hc
    rw [hC] at e3
    cases e3
    refine ⟨.ref p, h1, p, C, dx, fvs, rfl, e4, (T.G.oc hC).cl, hN, by rw [all3_len e7]; exact hl, ?_⟩
    have nd := nodup_part w1.nd h3
    have pO : O1 p := w1.sub p (mem_flat (List.mem_of_getElem? h3) (List.mem_cons_self ..))
    have kw : Kept O1 H1 O1 (upd H1 p (.ins C dx (putF n v fvs))) := kept_upd pO
    have e8 : All3 (OwF T.G O1 (upd H1 p (.ins C dx (putF n v fvs))) fsh) fvs fs Fq := e7.imp fun a b F hF h => ⟨h.1, Own.keep kw _ (fun x hx => upd_ne fun z => (List.nodup_cons.mp nd).1 (by rw [← z]; exact mem_flat hF hx)) h.2⟩
    obtain ⟨Fq', g1, g2⟩ := all3_putF hf (r1.keep kw) e8
    obtain ⟨w3, ev3⟩ := w1.put hj ht h1 h3 (O' := O1) (F' := p :: Fq.flatten) (H' := upd H1 p (.ins C dx (putF n v fvs))) (d' := .obj c' (putFD n d fs)) ⟨fun b o h n => by rw [upd_ne fun z => n (by rw [z]; exact List.mem_cons_self ..)]; exact h, dom_upd, fun _ h => h, fun _ h => .inl h, al_upd w1.al, fun b hb => .inl hb, fun b hb => w1.sub b (mem_flat (List.mem_of_getElem? h3) hb), nd⟩
      ⟨p, C, dx, _, c', _, Fq', rfl, rfl, hC, upd_same, by rw [g2], fun x hx => by
        rcases putFD_names hx with hx | hx
        · rw [hx]; exact hN
        · exact e6 x hx, g1⟩
    exact run1 O1 _ _ σ ev3.toS w3
  · exact run1.elim
theorem s_fldF {t : Shp} (hK : X.K = K) (h0 : PE X o (tVar j)) (hj : M[j]? = some m) (ht : m.is (.obj fsh)) (hf : fsh n = t) (hC : T.G.ca c = some C) (hN : NoAttr K C n) (hv : PE X value (lF (T.ex M) t f)) (wx : Wk M T.Mx) (hs : swapsWith value (some (.Attribute o n pos')) pos.line X.env = pure false := by rfl) :
    PS X (.Assign [.Attribute o n pos'] value pos) (lS T M M (sFldF j c n f)) := by
  subst hK hf
  refine PS.of (ps_fld h0 hv hs) fun E σ H ⟨B, O, Fs, ρ, w, run⟩ => ?_
  refine ⟨B, O, Fs, ρ, w, run.bindF wx fun d ρ1 v O1 Fs1 H1 Fv ev1 w1 r1 nw run1 => ?_⟩
  obtain ⟨v0, d0, F, h1, h2, h3, ow⟩ := w1.own hj ht
  obtain ⟨p, C', dx, fvs, c', fs, Fq, e1, e2, e3, e4, e5, e6, e7⟩ := ow
  subst e1 e2 e5
  unfold fldN at run1
  rw [h2] at run1
  dsimp only at run1
  split at run1
  · rename_i hc
    obtain ⟨rfl, hl, hn⟩ := hc
    rw [hC] at e3
    cases e3
    refine ⟨.ref p, h1, p, C, dx, fvs, rfl, e4, (T.G.oc hC).cl, hN, by rw [all3_len e7]; exact hl, ?_⟩
    have nd := nodup_part w1.nd h3
    have inF : ∀ b ∈ p :: Fq.flatten, b ∈ Fs1.flatten := fun b hb => mem_flat (List.mem_of_getElem? h3) hb
    have pv : ∀ b ∈ Fv, b ≠ p := fun b hb z => nw.dj b hb (by rw [z]; exact inF p (List.mem_cons_self ..))
    have pO : O1 p := w1.sub p (inF p (List.mem_cons_self ..))
    have kw : Kept O1 H1 O1 (upd H1 p (.ins C dx (putF n v fvs))) := kept_upd pO
    have e8 : All3 (OwF T.G O1 (upd H1 p (.ins C dx (putF n v fvs))) fsh) fvs fs Fq := e7.imp fun a b F hF h => ⟨h.1, Own.keep kw _ (fun x hx => upd_ne fun z => (List.nodup_cons.mp nd).1 (by rw [← z]; exact mem_flat hF hx)) h.2⟩
    have g1 := all3_newF (Own.keep kw _ (fun b hb => upd_ne (pv b hb)) r1) e8 hn
    have fl : p :: (Fq ++ [Fv]).flatten = (p :: Fq.flatten) ++ Fv := by rw [List.flatten_append]; simp
    have chg : ∀ b u, H1 b = some u → b ∉ p :: Fq.flatten → upd H1 p (.ins C dx (putF n v fvs)) b = some u := fun b u h n => by rw [upd_ne fun z => n (by rw [z]; exact List.mem_cons_self ..)]; exact h
    have fgr : ∀ b ∈ (p :: Fq.flatten) ++ Fv, b ∈ p :: Fq.flatten ∨ (b ∉ Fs1.flatten ∧ O1 b ∧ ¬ B b) := fun b hb => by
      rcases List.mem_append.mp hb with hb | hb
      · exact .inl hb
      · refine .inr ⟨nw.dj b hb, nw.sub b hb, fun z => ?_⟩
        obtain ⟨o, ho⟩ := w.al b (w.bo b z)
        rw [nw.fr b hb] at ho
        cases ho
    have ev3 : Ev M O Fs H ρ O1 (Fs1.set j ((p :: Fq.flatten) ++ Fv)) (upd H1 p (.ins C dx (putF n v fvs))) (ρ1.set j (some (.obj c' (putFD n d fs)))) := by
      refine ⟨fun b u h z => chg b u (ev1.chg b u h z) fun q => ?_, fun b u h => ?_, ev1.mono, ev1.grow, fun b hb => ?_, fun i m' hi ho => ?_⟩
      · rcases ev1.fgrow b (inF b q) with q | q
        · exact z q
        · rw [h] at q; cases q
      · obtain ⟨u1, h1⟩ := ev1.dom b u h
        exact dom_upd b u1 h1
      · rcases mem_set_flat hb with hb | ⟨i, F1, _, e, hb⟩
        · rcases List.mem_append.mp hb with hb | hb
          · exact ev1.fgrow b (inF b hb)
          · exact .inr (nw.fr b hb)
        · exact ev1.fgrow b (mem_flat (List.mem_of_getElem? e) hb)
      · have : i ≠ j := fun z => by
          subst z
          rw [hj] at hi
          cases hi
          rcases ht with rfl | rfl <;> cases ho
        rw [List.getElem?_set_ne (Ne.symm this)]
        exact ev1.keep i m' hi ho
    have w3 := w1.put2 hj ht h1 h3 chg (al_upd w1.al) kw fgr (by
      rw [List.nodup_append]
      exact ⟨nd, nw.nd, fun a ha b hb z => nw.dj b hb (by rw [← z]; exact inF a ha)⟩) (fun i v' d' g1 g2 g3 => by
      have hk := ev1.keep i .br g1 rfl
      rw [g3] at hk
      obtain ⟨v, d, f, q1, q2, q3, _, v1, d1, q4, q5, r⟩ := w.get g1
      subst q4 q5
      rw [g2] at q1
      rw [q2] at hk
      cases q1
      cases hk
      have k := ev3.kept w.sub
      rcases r with r | ⟨q, nq, ⟨o, ho⟩, r⟩
      · exact .inl (r.keep k)
      · have hq : upd H1 p (.ins C dx (putF n _ fvs)) q = some o := ev3.chg q o ho nq
        have kp : ∀ b ∈ [q], upd H1 p (.ins C dx (putF n _ fvs)) b = H b := fun b hb => by
          rw [List.mem_singleton.mp hb, ho]
          exact hq
        refine .inr ⟨q, fun z => ?_, ⟨o, hq⟩, ?_⟩
        · rcases ev3.fgrow q z with z | z
          · exact nq z
          · rw [ho] at z; cases z
        · rcases r with r | r | r
          · exact .inl (Own.keep k _ kp r)
          · exact .inr (.inl (Own.keep k _ kp r))
          · exact .inr (.inr (Own.keep k _ kp r)))
      ⟨p, C, dx, _, c', _, Fq ++ [Fv], rfl, rfl, hC, upd_same, fl.symm, fun x hx => by
        rcases putFD_names hx with hx | hx
        · rw [hx]; exact hN
        · exact e6 x hx, g1⟩
    exact run1 O1 _ _ σ ev3.toS w3
  · exact run1.elim
end
section
variable {K : PySem.W.Frag} {S : Sx K} {X : Cx} {e b : Expr} {j i : Nat} {m : Md} {t t1 : Shp} {pos : Pos} {L : Ln}
def ixF (n : Str) (fs : List (Str × D)) : Nat := fs.findIdx fun e => e.1 == n
def Ln.fld (L : Ln) (n : Str) : Ln := ⟨fun ρ d => (L.sel ρ d).bind fun x => match x with
  | .obj _ fs => (fs[ixF n fs]?).map (·.2)
  | _ => none, fun ρ d d2 => match L.sel ρ d with
  | some (.obj c fs) => L.put ρ d (.obj c (fs.set (ixF n fs) (n, d2)))
  | _ => d⟩
theorem look_ix {n : Str} : ∀ {fs : List (Str × D)} {fvs : List (Str × V)} {d1 : D} {v1 : V}, fvs.map (·.1) = fs.map (·.1) → fvs[ixF n fs]? = some (n, v1) → fvs.lookup n = some v1
  | [], [], _, _, _, h => by cases h
  | [], _ :: _, _, _, e, _ => by cases e
  | _ :: _, [], _, _, e, _ => by cases e
  | (f, d) :: fs, (f', v) :: fvs, d1, v1, e, h => by
    rw [List.map_cons, List.map_cons] at e
    obtain ⟨ef, e⟩ := List.cons.inj e
    have ef : f' = f := ef
    unfold ixF at h
    rw [List.findIdx_cons] at h
    cases hb : (f == n) with
    | true =>
      have := beq_iff_eq.mp hb
      rw [hb] at h
      cases h
      rw [List.lookup_cons, beq_self_eq_true]
    | false =>
      rw [hb] at h
      have hb2 : (n == f') = false := by rw [ef]; rw [beq_eq_false_iff_ne] at hb ⊢; exact Ne.symm hb
      rw [List.lookup_cons, hb2]
      exact look_ix (d1 := d1) e (by unfold ixF; simpa using h)
theorem ixF_name {n : Str} {fs : List (Str × D)} {a : Str × D} (h : fs[ixF n fs]? = some a) : a.1 = n := by
  have hl : ixF n fs < fs.length := (List.getElem?_eq_some_iff.mp h).1
  have hg : (fs[ixF n fs].1 == n) = true := List.findIdx_getElem (w := hl)
  rw [(List.getElem?_eq_some_iff.mp h).2] at hg
  exact beq_iff_eq.mp hg
theorem l_fld {n : Str} {fsh : Str → Shp} (hK : X.K = K) (ha : PE X e (tPth S j t (.obj fsh) L)) (hb : attributeBase e n X.env (eval e X.env) = eval e X.env) : PE X (.Attribute e n pos) (tPth S j t (fsh n) (L.fld n)) := by
  subst hK
  refine PE.of (pe_fld ha hb) fun σ H Q ⟨B, O, Fs, ρ, v, d, F, d1, w, h1, h2, h3, ow, hs, k⟩ => ?_
  obtain ⟨x, e1, e2⟩ := Option.bind_eq_some_iff.mp hs
  cases x with
  | obj c fs =>
    refine ⟨B, O, Fs, ρ, v, d, F, .obj c fs, w, h1, h2, h3, ow, e1, fun v1 F1 fo => ?_⟩
    obtain ⟨a, e3, e4⟩ := Option.map_eq_some_iff.mp e2
    obtain ⟨n', d'⟩ := a
    have hn : n' = n := ixF_name e3
    subst hn
    have e4 : d' = d1 := e4
    rw [e4] at e3
    obtain ⟨q, C, dx, fvs, v2, F2, g1, g2, g3, g4, g5, g6, g7⟩ := fo_fld fo.own fo.nd e3
    refine ⟨q, C, dx, fvs, v2, g1, g3, (S.G.oc g2).cl, g4 n' ?_, look_ix (d1 := d1) g5 g6, ?_⟩
    · exact List.mem_map.mpr ⟨_, List.mem_of_getElem? e3, rfl⟩
    · refine k v2 F2 ?_
      have := fo.trans g7
      have ep : (L.put ρ d ∘ fun d2 => D.obj c (fs.set (ixF n' fs) (n', d2))) = (L.fld n').put ρ d := by
        funext d2
        show _ = match L.sel ρ d with | some (.obj c fs) => L.put ρ d (.obj c (fs.set (ixF n' fs) (n', d2))) | _ => d
        rw [e1]
        rfl
      rw [ep] at this
      exact this
  | _ => cases e2
def ixK (kd : D) (kvs : List (D × D)) : Nat := kvs.findIdx fun e => hkEq e.1 kd
def keyAt (ρ : Env) (i : Nat) : Option D := match ρ[i]? with
  | some (some d) => if d.key.isSome then some d else none
  | _ => none
def Ln.key (L : Ln) (i : Nat) : Ln := ⟨fun ρ d => (L.sel ρ d).bind fun x => match x, keyAt ρ i with
  | .dct kvs, some kd => (kvs[ixK kd kvs]?).map (·.2)
  | _, _ => none, fun ρ d d2 => match L.sel ρ d, keyAt ρ i with
  | some (.dct kvs), some kd => L.put ρ d (.dct (kvs.set (ixK kd kvs) (((kvs[ixK kd kvs]?).map (fun (e : D × D) => e.1)).getD kd, d2)))
  | _, _ => d⟩
theorem val_ix {kd : D} {k : Key} (hk : kd.key = some k) : ∀ {kvs : List (D × D)} {ks : List (Key × V)} {a : Key × V}, (∀ n : Nat, (kvs[n]?).map (fun (e : D × D) => e.1.key) = (ks[n]?).map fun (e : Key × V) => some e.1) → ks[ixK kd kvs]? = some a → valV ks k = some a.2
  | [], ks, a, e, h => by
    have := e 0
    unfold ixK at h
    rw [List.findIdx_nil] at h
    rw [h] at this
    cases this
  | (k1, d1) :: kvs, [], a, e, h => by simp at h
  | (k1, d1) :: kvs, (q, v) :: ks, a, e, h => by
    have e0 : k1.key = some q := by simpa using e 0
    have hb : hkEq k1 kd = decide (q = k) := by unfold hkEq; rw [e0, hk]
    unfold ixK at h
    rw [List.findIdx_cons] at h
    unfold valV
    by_cases hq : q = k
    · rw [show hkEq (k1, d1).1 kd = true by rw [hb]; exact decide_eq_true hq] at h
      cases h
      rw [List.find?_cons_of_pos (by exact decide_eq_true hq)]
      rfl
    · rw [show hkEq (k1, d1).1 kd = false by rw [hb]; exact decide_eq_false hq] at h
      rw [List.find?_cons_of_neg (by simpa using hq)]
      exact val_ix hk (fun n => by simpa using e (n + 1)) (by unfold ixK; simpa using h)
theorem l_key (hK : X.K = K) (hu : X.A.units + 1 < cLine) (ha : PE X e (tPth S j t (.dct t1) L)) (hi : PE X b (tVar i)) (hm : S.M[i]? = some .sh) (hs : NoSl b) : PE X (.Subscript e b pos) (tPth S j t t1 (L.key i)) := by
  subst hK
  refine PE.of (pe_dget hu ha hi hs) fun σ H Q ⟨B, O, Fs, ρ, v, d, F, d1, w, h1, h2, h3, ow, hs, k⟩ => ?_
  obtain ⟨x, e1, e2⟩ := Option.bind_eq_some_iff.mp hs
  cases hk : keyAt ρ i with
  | none => rw [hk] at e2; cases x <;> cases e2
  | some kd =>
    rw [hk] at e2
    cases x with
    | dct kvs =>
      refine ⟨B, O, Fs, ρ, v, d, F, .dct kvs, w, h1, h2, h3, ow, e1, fun v1 F1 fo => ?_⟩
      obtain ⟨a, e3, e4⟩ := Option.map_eq_some_iff.mp e2
      obtain ⟨n', d'⟩ := a
      have e4 : d' = d1 := e4
      rw [e4] at e3
      obtain ⟨q, ks, k0, v2, F2, g1, g2, g3, g4, g5, g6⟩ := fo_K fo.own fo.nd e3
      obtain ⟨vi, di, Fi, p1, p2, p3, _, vi', di', p4, p5, ri⟩ := w.get hm
      subst p4 p5
      have hk0 := hk
      unfold keyAt at hk
      rw [p2] at hk
      dsimp only at hk
      split at hk
      · rename_i hks
        have hk : di' = kd := Option.some.inj hk
        rw [hk] at hks ri
        obtain ⟨k1, hk1⟩ := Option.isSome_iff_exists.mp hks
        have := key_kV ri hk1
        subst this
        refine ⟨kV k1, p1, q, v2, g1, ?_, k v2 F2 ?_⟩
        · have := val_ix hk1 g5 g4
          rw [← this]
          exact DGet.k g2
        · have := fo.trans g6
          have ep : (L.put ρ d ∘ fun d2 => D.dct (kvs.set (ixK kd kvs) (n', d2))) = (L.key i).put ρ d := by
            funext d2
            show _ = match L.sel ρ d, keyAt ρ i with
              | some (.dct kvs), some kd => L.put ρ d (.dct (kvs.set (ixK kd kvs) (((kvs[ixK kd kvs]?).map (fun (e : D × D) => e.1)).getD kd, d2)))
              | _, _ => d
            rw [e1, hk0]
            dsimp only
            rw [e3]
            rfl
          rw [ep] at this
          exact this
      · cases hk
    | _ => cases e2
def sPth (j : Nat) (L : Ln) : Env → R D := fun ρ => match ρ[j]? with
  | some (some d) => R.of (L.sel ρ d) ρ
  | _ => .bad
theorem l_sh (h : PE X e (tPth S j t .sh L)) (hj : S.M[j]? = some m) (ht : m.is t) : PE X e (lE S (sPth j L)) := by
  refine PE.of h fun σ H Q ⟨B, O, Fs, ρ, w, run⟩ => ?_
  obtain ⟨v, d, F, h1, h2, h3, ow⟩ := w.own hj ht
  have run : Run S (vE S) (sPth j L ρ) B O Fs H σ ρ Q := run
  unfold sPth at run
  rw [h2] at run
  dsimp only at run
  cases hs : L.sel ρ d with
  | none => rw [hs] at run; exact run.elim
  | some d1 =>
    rw [hs] at run
    exact ⟨B, O, Fs, ρ, v, d, F, d1, w, h1, h2, h3, ow, hs, fun v1 F1 fo => run.use w fo.own.2⟩
theorem ok_here {M : List Md} : Ln.here.Ok M := fun _ _ _ => ⟨fun _ => rfl, fun _ _ => rfl⟩
theorem ok_fld {M : List Md} {n : Str} (h : L.Ok M) : (L.fld n).Ok M := fun ρ ρ' e => by
  obtain ⟨a, b⟩ := h ρ ρ' e
  exact ⟨fun d => by show Option.bind _ _ = Option.bind _ _; rw [a d], fun d d2 => by simp only [Ln.fld]; rw [a d]; cases L.sel ρ d with | none => rfl | some x => cases x <;> first | rfl | exact b _ _⟩
theorem ok_key {M : List Md} {i : Nat} {m : Md} (h : L.Ok M) (hi : M[i]? = some m) (ho : m.isOw = false) : (L.key i).Ok M := fun ρ ρ' e => by
  obtain ⟨a, b⟩ := h ρ ρ' e
  have hk : keyAt ρ' i = keyAt ρ i := by unfold keyAt; rw [e i m hi ho]
  refine ⟨fun d => ?_, fun d d2 => ?_⟩
  · simp only [Ln.key]
    rw [a d, hk]
  · simp only [Ln.key]
    rw [a d, hk]
    cases L.sel ρ d with
    | none => rfl
    | some x => cases x <;> cases keyAt ρ i <;> first | rfl | exact b _ _
end
end Pu
namespace Pu
open PySem L2 PySem.Spec PyProof.Rows Pw
section
variable {K : PySem.W.Frag} {G : Gx K} {xa : String → Option Addr}
def SpFo (G : Gx K) (xa : String → Option Addr) (t : Shp) (pm : List Md) (g : List D → RF) : Sp := fun vs H Q E => ∃ (O : Addr → Prop) (Fs : List (List Addr)) (ds : List D), Wd G O O Fs H (vs.map some) (ds.map some) pm ∧
  match g ds with
  | .ok d ds' => ∀ v O' Fs' H' Fv, Ev pm O Fs H (ds.map some) O' Fs' H' (ds'.map some) → Wd G O O' Fs' H' (vs.map some) (ds'.map some) pm → Own G O' H' t v d Fv → New O O' Fs' Fv H → Q v H'
  | .ex x ds' => ∀ cls dd O' Fs' H', Ev pm O Fs H (ds.map some) O' Fs' H' (ds'.map some) → Wd G O O' Fs' H' (vs.map some) (ds'.map some) pm → XRep G xa O' H' cls dd x → E cls dd H'
  | .bad => False
variable {S : Sx K} {X : Cx} {e : Expr} {es : List Expr} {fs : Env → R (List D)} {pos p : Pos} {ms : List Md} {t : Shp}
theorem Wd.grow {B O : Addr → Prop} {Fs : List (List Addr)} {H H' : Hp} {σ : L2.St} {ρ : Env} {M : List Md} {Fv : List Addr} (w : Wd G B O Fs H σ ρ M) (sm : Same H H') (al : ∀ b ∈ Fv, ∃ o : NTO, H' b = some o.1) (nw : ∀ b ∈ Fv, H b = none) :
    Wd G B (fun b => O b ∨ b ∈ Fv) Fs H' σ ρ M ∧ Ev M O Fs H ρ (fun b => O b ∨ b ∈ Fv) Fs H' ρ := by
  have ev : Ev M O Fs H ρ (fun b => O b ∨ b ∈ Fv) Fs H' ρ := ⟨fun b o h _ => sm b o h, fun b o h => ⟨o, sm b o h⟩, fun _ h => .inl h, fun b h => h.imp id (nw b), fun _ h => .inl h, fun _ _ _ _ => rfl⟩
  have k := ev.kept w.sub
  refine ⟨⟨w.nd, fun a ha => .inl (w.sub a ha), fun a h => .inl (w.bo a h), fun a h => ?_, w.ls, w.lr, w.lf, fun i m v d f h1 h2 h3 h4 => ?_⟩, ev⟩
  · rcases h with h | h
    · obtain ⟨u, hu⟩ := w.al a h
      exact ⟨u, sm a u hu⟩
    · exact al a h
  · refine (w.sl i m v d f h1 h2 h3 h4).keep k ev.chg (fun b hb => ?_) (fun _ _ _ n => n)
    obtain ⟨u, hu⟩ := w.al b (w.sub b (mem_flat (List.mem_of_getElem? h4) hb))
    rw [hu]
    exact sm b u hu
theorem sp_ofo {g : List D → RF} {B O : Addr → Prop} {Fs : List (List Addr)} {H : Hp} {σ : L2.St} {ρ : Env} {vs : List V} {ds : List D} {Q : VK} (w : Wd S.G B O Fs H σ ρ S.M) (h : AReps S.G O Fs.flatten H ms vs ds) (run : RunF S t ((g ds).toR ρ) B O Fs H σ ρ Q) : SpFo S.G S.xa t ms g vs H Q (WE S.W σ) := by
  refine ⟨O, List.replicate ms.length [], ds, h.wd w, ?_⟩
  have same : ∀ {O' Fs' H' ρ'}, Ev ms O (List.replicate ms.length []) H (ds.map some) O' Fs' H' ρ' → Same H H' := fun e b o hb => e.chg b o hb (by rw [flat_nil]; intro z; cases z)
  cases e : g ds with
  | ok d ds' =>
    rw [e] at run
    intro v O' Fs' H' Fv ev wd ow n
    obtain ⟨w2, ev2⟩ := w.grow (same ev) (fun b hb => wd.al b (n.sub b hb)) n.fr
    have k2 : Kept O' H' (fun b => O b ∨ b ∈ Fv) H' := kept_anti fun b hb => by
      rcases hb with hb | hb
      · exact ev.mono b hb
      · exact n.sub b hb
    refine run v _ Fs H' Fv ev2 w2 (Own.keep k2 _ (fun _ _ => rfl) ow) ⟨n.nd, fun b hb => .inr hb, fun b hb z => ?_, n.fr⟩
    obtain ⟨o, ho⟩ := w.al b (w.sub b z)
    rw [n.fr b hb] at ho
    cases ho
  | ex x ds' =>
    rw [e] at run
    exact fun cls dd O' Fs' H' ev wd r => run cls dd O Fs H' (Ev.same (same ev)) (w.same (same ev)) (r.anti ev.mono)
  | bad =>
    rw [e] at run
    exact run.elim
theorem f_call {k : Nat} {f : Addr} {fd : FuncData} {ps : List Str} {x : Str} {g : List D → RF} (F : FnOkG X.prog X.w X.K X.mg X.base (L2.CX X.prog X.w) k f fd ps (SpFo S.G S.xa t ms g)) (hr : RoomG k X.A) (hg : Gl X x) (hm : X.mg x = some (.ref f)) (hk : PySem.W.keepIn X.K (.ref f) = true) (hb : Binds X.K fd ps []) (tk : Takes X S.W)
    (ha : PA X (e :: es) (lAs S ms fs)) (hdb : (x == ("__debug__" : Str)) = false := by decide) (he : starEach (e :: es) X.env = (false, eval e X.env) :: starEach es X.env := by rfl) (hpl : (backTo pos (starEach es X.env)).any (·.1) = false := by rfl) :
    PE X (.Call (.Name x p) (e :: es) [] pos) (lF S t (sCall g fs)) := by
  refine PE.of (pe_callG (E := WE S.W) F hr hg hm hk hb .nil (fun σ => passAt tk σ) ha hdb he hpl) fun σ H Q ⟨B, O, Fs, ρ, w, run⟩ => ?_
  refine ⟨B, O, Fs, ρ, w, run.bind fun ds ρ1 vs O1 Fs1 H1 _ ev1 w1 r1 run1 => ?_⟩
  rw [List.append_nil]
  exact sp_ofo w1 r1 run1
end
end Pu
namespace Pu
open PySem L2 PySem.Spec PyProof.Rows Pw
def isDct (u : HO) : Prop := (∃ ks, u = .dK ks) ∨ ∃ ks, u = .dT ks
theorem isDct.nf {u : HO} (h : isDct u) : NF u := fun o x z => by
  rcases h with ⟨ks, rfl⟩ | ⟨ks, rfl⟩ <;> cases z
theorem isDct.mut {u : HO} (h : isDct u) : Mut (some u) := by
  rcases h with ⟨ks, rfl⟩ | ⟨ks, rfl⟩ <;> exact True.intro
def LkAt (i : Nat) (σ : L2.St) (H : Hp) : Prop := ∀ a u, σ[i]? = some (some (.ref a)) → isDct u → Rd H a u → ∃ o, H a = some (.frz o u)
section
variable {K : PySem.W.Frag} {G : Gx K} {B O O' : Addr → Prop} {Fs Fs' : List (List Addr)} {H H' : Hp} {σ σ' : L2.St} {ρ ρ' : Env} {M : List Md} {a : Addr} {u : HO} {od : Obj}
theorem kept_lock (ha : H a = some u) (du : isDct u) : Kept O H O (upd H a (.frz od u)) := by
  refine ⟨fun b v n nf h => ?_, fun b P n h => ?_, fun b vs n h => ?_, fun b o vs n h => ?_, fun b C dx fs n h => ?_, fun _ h => .inl h⟩
  · by_cases hb : b = a
    · subst hb
      rcases h with h | ⟨o, h⟩
      · rw [ha] at h
        cases h
        exact .inr ⟨od, upd_same⟩
      · rw [ha] at h
        cases h
        exact absurd rfl (du.nf _ _)
    · rcases h with h | ⟨o, h⟩
      · exact .inl (by rw [upd_ne hb]; exact h)
      · exact .inr ⟨o, by rw [upd_ne hb]; exact h⟩
  · rw [upd_ne fun z => by
      subst z
      rw [ha] at h
      cases h
      rcases du with ⟨ks, z⟩ | ⟨ks, z⟩ <;> cases z]
    exact h
  · rw [upd_ne fun z => by
      subst z
      rw [ha] at h
      cases h
      rcases du with ⟨ks, z⟩ | ⟨ks, z⟩ <;> cases z]
    exact h
  · rw [upd_ne fun z => by
      subst z
      rw [ha] at h
      cases h
      rcases du with ⟨ks, z⟩ | ⟨ks, z⟩ <;> cases z]
    exact h
  · rw [upd_ne fun z => by
      subst z
      rw [ha] at h
      cases h
      rcases du with ⟨ks, z⟩ | ⟨ks, z⟩ <;> cases z]
    exact h
theorem kept_open (ha : H a = some (.frz od u)) (du : isDct u) : Kept O H O (upd H a u) := by
  refine ⟨fun b v n nf h => ?_, fun b P n h => ?_, fun b vs n h => ?_, fun b o vs n h => ?_, fun b C dx fs n h => ?_, fun _ h => .inl h⟩
  · by_cases hb : b = a
    · subst hb
      rcases h with h | ⟨o, h⟩
      · rw [ha] at h
        cases h
        exact absurd rfl (nf _ _)
      · rw [ha] at h
        cases h
        exact .inl upd_same
    · rcases h with h | ⟨o, h⟩
      · exact .inl (by rw [upd_ne hb]; exact h)
      · exact .inr ⟨o, by rw [upd_ne hb]; exact h⟩
  · rw [upd_ne fun z => by subst z; rw [ha] at h; cases h]
    exact h
  · rw [upd_ne fun z => by subst z; rw [ha] at h; cases h]
    exact h
  · rw [upd_ne fun z => by
      subst z
      rw [ha] at h
      cases h
      rcases du with ⟨ks, z⟩ | ⟨ks, z⟩ <;> cases z]
    exact h
  · rw [upd_ne fun z => by subst z; rw [ha] at h; cases h]
    exact h
theorem BRep.free {F : List Addr} {v : V} {d : D} {p : Addr} (n : ¬ O p) (h : Own G O H (.lst .sh) v d [p] ∨ Own G O H (.dct .sh) v d [p] ∨ Own G O H (.obj flatO) v d [p]) : Rep G O H v d := by
  have no : ∀ a ∈ [p], ¬ O a := fun a ha => by rw [List.mem_singleton.mp ha]; exact n
  rcases h with h | h | h
  · exact Own.freeze (fun _ h => h) _ no h
  · exact Own.freeze (fun _ h => h) _ no h
  · exact Own.freeze (fun _ h => h) _ no h
theorem BRep.keep2 {F : List Addr} {v : V} {d : D} (h : BRep G O F H v d) (k : Kept O H O H') (nO : ¬ O a) (st : ∀ b, b ≠ a → H' b = H b) : BRep G O F H' v d := by
  rcases h with h | ⟨p, np, ⟨o, ho⟩, h⟩
  · exact .inl (h.keep k)
  · by_cases hp : p = a
    · subst hp
      exact .inl ((BRep.free (F := F) nO h).keep k)
    · have kp : ∀ b ∈ [p], H' b = H b := fun b hb => by rw [List.mem_singleton.mp hb]; exact st p hp
      refine .inr ⟨p, np, ⟨o, by rw [st p hp]; exact ho⟩, ?_⟩
      rcases h with h | h | h
      · exact .inl (Own.keep k _ kp h)
      · exact .inr (.inl (Own.keep k _ kp h))
      · exact .inr (.inr (Own.keep k _ kp h))
theorem Wd.keep2 (w : Wd G B O Fs H σ ρ M) (k : Kept O H O H') (nO : ¬ O a) (st : ∀ b, b ≠ a → H' b = H b) : Wd G B O Fs H' σ ρ M := by
  have ne : ∀ b, O b → b ≠ a := fun b h z => nO (by rw [← z]; exact h)
  refine ⟨w.nd, w.sub, w.bo, fun b hb => ?_, w.ls, w.lr, w.lf, fun i m v d f h1 h2 h3 h4 => ?_⟩
  · obtain ⟨o, ho⟩ := w.al b hb
    exact ⟨o, by rw [st b (ne b hb)]; exact ho⟩
  · have sl := w.sl i m v d f h1 h2 h3 h4
    have kf : ∀ b ∈ f, H' b = H b := fun b hb => st b (ne b (w.sub b (mem_flat (List.mem_of_getElem? h4) hb)))
    cases m with
    | na => exact sl
    | hd => exact sl
    | sh =>
      obtain ⟨q1, v1, d1, q2, q3, r⟩ := sl
      exact ⟨q1, v1, d1, q2, q3, r.keep k⟩
    | mb =>
      obtain ⟨q0, h⟩ := sl
      exact ⟨q0, fun d' hd => by obtain ⟨v', e1, r⟩ := h d' hd; exact ⟨v', e1, r.keep k⟩⟩
    | th a c q l =>
      obtain ⟨q0, q1, ⟨h1, h2⟩, h3⟩ := sl
      exact ⟨q0, q1, ⟨k.no h2 h1, k.ext _ _ h1 h2⟩, fun p hp => (h3 p hp).keep k⟩
    | br =>
      obtain ⟨q1, v1, d1, q2, q3, r⟩ := sl
      exact ⟨q1, v1, d1, q2, q3, r.keep2 k nO st⟩
    | ow t =>
      obtain ⟨q1, v1, d1, q2, q3, r⟩ := sl
      exact ⟨q1, v1, d1, q2, q3, Own.keep k _ kf r⟩
    | op t =>
      obtain ⟨v1, d1, q2, q3, r⟩ := sl
      exact ⟨v1, d1, q2, q3, Own.keep k _ kf r⟩
theorem Ev.lock (ev : Ev M O Fs (upd H a (.frz od u)) ρ O' Fs' H' ρ') (w : Wd G B O Fs H σ ρ M) (ha : H a = some u) (nO : ¬ O a) : H' a = some (.frz od u) ∧ ¬ O' a ∧ Ev M O Fs H ρ O' Fs' (upd H' a u) ρ' := by
  have nF : a ∉ Fs.flatten := fun z => nO (w.sub a z)
  have ha' : H' a = some (.frz od u) := ev.chg a _ upd_same nF
  have none_of : ∀ b, upd H a (.frz od u) b = none → H b = none := fun b z => by
    by_cases hb : b = a
    · subst hb; rw [upd_same] at z; cases z
    · rw [upd_ne hb] at z; exact z
  refine ⟨ha', fun z => ?_, fun b o h n => ?_, fun b o h => ?_, ev.mono, fun b h => (ev.grow b h).imp id (none_of b), fun b h => (ev.fgrow b h).imp id (none_of b), ev.keep⟩
  · rcases ev.grow a z with z | z
    · exact nO z
    · rw [upd_same] at z; cases z
  · by_cases hb : b = a
    · subst hb
      rw [upd_same, ← h]
      exact ha.symm
    · rw [upd_ne hb]
      exact ev.chg b o (by rw [upd_ne hb]; exact h) n
  · by_cases hb : b = a
    · exact ⟨_, by rw [hb, upd_same]⟩
    · rw [upd_ne hb]
      exact ev.dom b o (by rw [upd_ne hb]; exact h)
end
def noX {α : Type} (r : R α) : R α := match r with
  | .ex _ _ => .bad
  | r => r
def isDD (ρ : Env) (i : Nat) : Bool := match ρ[i]? with
  | some (some (.dct _)) => true
  | some (some (.dtt _)) => true
  | _ => false
def LkSl {K : PySem.W.Frag} (G : Gx K) (M : List Md) (c : Env → Bool) (L : L2.St → Hp → Prop) : Prop := ∀ {B O : Addr → Prop} {Fs : List (List Addr)} {H : Hp} {σ : L2.St} {ρ : Env}, Wd G B O Fs H σ ρ M → c ρ = true → ∃ a u, isDct u ∧ Rd H a u ∧ ¬ O a ∧ ∀ (H' : Hp) (od : Obj), H' a = some (.frz od u) → (∀ b, b ≠ a → H' b = H b) → L σ H'
def sLkC (c : Env → Bool) (f : Env → R D) : Env → R D := fun ρ => if c ρ then noX (f ρ) else .bad
def sLk (i : Nat) (f : Env → R D) : Env → R D := fun ρ => if isDD ρ i then noX (f ρ) else .bad
section
variable {K : PySem.W.Frag} {S : Sx K} {X : Cx} {e : Expr} {i : Nat} {f : Env → R D} {t : Shp}
theorem dd_slot {G : Gx K} {B O : Addr → Prop} {Fs : List (List Addr)} {H : Hp} {σ : L2.St} {ρ : Env} {M : List Md} (w : Wd G B O Fs H σ ρ M) (hm : M[i]? = some .sh) (h : isDD ρ i = true) : ∃ a u, σ[i]? = some (some (.ref a)) ∧ isDct u ∧ Rd H a u ∧ ¬ O a := by
  obtain ⟨v, d, F, h1, h2, h3, _, v', d', q1, q2, r⟩ := w.get hm
  subst q1 q2
  unfold isDD at h
  rw [h2] at h
  cases d' with
  | dct kvs =>
    cases r with
    | dk r n t => exact ⟨_, _, h1, .inl ⟨_, rfl⟩, r, n⟩
  | dtt kvs =>
    cases r with
    | dt r n t => exact ⟨_, _, h1, .inr ⟨_, rfl⟩, r, n⟩
  | _ => cases h
theorem lk_of {H : Hp} {σ : L2.St} {a : Addr} {u : HO} {od : Obj} (hs : σ[i]? = some (some (.ref a))) (du : isDct u) (h : H a = some (.frz od u)) : LkAt i σ H := fun b v hb dv r => by
  rw [hs] at hb
  cases hb
  rcases r with r | ⟨o, r⟩
  · rw [h] at r
    cases r
    exact absurd rfl (dv.nf _ _)
  · exact ⟨o, r⟩
theorem f_lockG {L : L2.St → Hp → Prop} {c : Env → Bool} (sl : LkSl S.G S.M c L) (h : PE X e (fun σ H Q => L σ H ∧ lF S t f σ H Q)) : PE X e (lF S t (sLkC c f)) := by
  constructor
  intro pins s σ H Q I ⟨B, O, Fs, ρ, w, run⟩
  have run : RunF S t (sLkC c f ρ) B O Fs H σ ρ Q := run
  unfold sLkC at run
  by_cases hd : c ρ = true
  case neg => rw [if_neg hd] at run; exact run.elim
  rw [if_pos hd] at run
  obtain ⟨a, u, du, r, nO, lk⟩ := sl w hd
  rcases r with ha | ⟨o, ha⟩
  · refine (pe_lock h).run pins s σ H Q I ⟨a, u, ha, du.mut, fun od => ⟨lk _ od upd_same (fun b hb => upd_ne hb), B, O, Fs, ρ, w.keep2 (kept_lock ha du) nO (fun b hb => upd_ne hb), ?_⟩⟩
    cases hf : f ρ with
    | ok d ρ' =>
      rw [hf] at run
      intro v O' Fs' H' Fv ev wd rv nw
      obtain ⟨ha', nO', ev'⟩ := ev.lock w ha nO
      have nv : ∀ b ∈ Fv, b ≠ a := fun b hb z => nO' (by rw [← z]; exact nw.sub b hb)
      refine ⟨ha', run v O' Fs' _ Fv ev' (wd.keep2 (kept_open ha' du) nO' fun b hb => upd_ne hb) (Own.keep (kept_open ha' du) _ (fun b hb => upd_ne (nv b hb)) rv) ⟨nw.nd, nw.sub, nw.dj, fun b hb => ?_⟩⟩
      have := nw.fr b hb
      rw [upd_ne (nv b hb)] at this
      exact this
    | ex x ρ' => rw [hf] at run; exact run.elim
    | bad => rw [hf] at run; exact run.elim
  · refine h.run pins s σ H Q I ⟨lk _ o ha (fun _ _ => rfl), B, O, Fs, ρ, w, ?_⟩
    cases hf : f ρ with
    | ok d ρ' => rw [hf] at run; exact run
    | ex x ρ' => rw [hf] at run; exact run.elim
    | bad => rw [hf] at run; exact run.elim
theorem dd_lk {G : Gx K} {M : List Md} (hm : M[i]? = some .sh) : LkSl G M (fun ρ => isDD ρ i) (LkAt i) := fun w h => by
  obtain ⟨a, u, hs, du, r, nO⟩ := dd_slot w hm h
  exact ⟨a, u, du, r, nO, fun H' od e _ => lk_of hs du e⟩
theorem f_lock (hm : S.M[i]? = some .sh) (h : PE X e (fun σ H Q => LkAt i σ H ∧ lF S t f σ H Q)) : PE X e (lF S t (sLk i f)) := f_lockG (dd_lk hm) h
end
def gKeys : D → Option (List D)
  | .dct kvs => some (kvs.map (·.1))
  | .dtt kvs => some (kvs.map (·.1))
  | _ => none
section
variable {K : PySem.W.Frag} {S : Sx K} {X : Cx} {i : Nat}
theorem RepK.at {G : Gx K} {O : Addr → Prop} {H : Hp} : ∀ {ks : List (Key × V)} {kvs : List (D × D)} {n : Nat} {d : D}, RepK G O H ks kvs → (kvs.map (·.1))[n]? = some d → ∃ k v, ks[n]? = some (k, v) ∧ d.key = some k
  | _, _, _, _, .nil, e => by simp at e
  | _, _, 0, _, .cons h _ _, e => by cases e; exact ⟨_, _, rfl, h⟩
  | _, _, n + 1, _, .cons _ _ t, e => by
    obtain ⟨k, v, h1, h2⟩ := RepK.at (n := n) t (by simpa using e)
    exact ⟨k, v, by simpa using h1, h2⟩
theorem RepT.at {G : Gx K} {O : Addr → Prop} {H : Hp} : ∀ {ks : List (List Key × V)} {kvs : List (D × D)} {n : Nat} {d : D}, RepT G O H ks kvs → (kvs.map (·.1))[n]? = some d → ∃ k v, ks[n]? = some (k, v) ∧ d.tkey = some k
  | _, _, _, _, .nil, e => by simp at e
  | _, _, 0, _, .cons h _ _, e => by cases e; exact ⟨_, _, rfl, h⟩
  | _, _, n + 1, _, .cons _ _ t, e => by
    obtain ⟨k, v, h1, h2⟩ := RepT.at (n := n) t (by simpa using e)
    exact ⟨k, v, by simpa using h1, h2⟩
theorem rep_key {G : Gx K} {O : Addr → Prop} {H : Hp} {d : D} {k : Key} (h : d.key = some k) : Rep G O H (kV k) d := by
  cases d with
  | int i => cases h; exact .int i
  | str x => cases h; exact .str x
  | _ => cases h
theorem reps_keys {G : Gx K} {O : Addr → Prop} {H : Hp} : ∀ {ds : List D} {ks : List Key}, D.keys ds = some ks → Reps G O H (ks.map kV) ds
  | [], _, h => by cases h; exact .nil
  | d :: ds, _, h => by
    unfold D.keys at h
    split at h
    · rename_i k ks e1 e2
      cases h
      exact .cons (rep_key e1) (reps_keys e2)
    · cases h
theorem keys_it {σ : L2.St} {H : Hp} {Z : It → Hp → Prop} {B O : Addr → Prop} {Fs : List (List Addr)} {ρ : Env} {v' : V} {d' : D} (w : Wd S.G B O Fs H σ ρ S.M) (lk : ∀ b u, v' = .ref b → isDct u → Rd H b u → ∃ o, H b = some (.frz o u)) (r : Rep S.G O H v' d') (run : Run S (vI S) (R.of (gKeys d') ρ) B O Fs H σ ρ Z) :
    ∃ d o, v' = .ref d ∧ ((∃ kvs, H d = some (.frz o (.dK kvs)) ∧ Z (Itk d o kvs) H) ∨ ∃ kvs, H d = some (.frz o (.dT kvs)) ∧ Z (Itkt d o kvs) H) := by
  have st : ∀ {a : Addr} {u : HO}, ¬ O a → H a = some u → ∀ O2 H2, Kp0 O Fs.flatten H O2 H2 → H2 a = some u := fun n h O2 H2 k => k.chg _ _ h fun z => n (w.sub _ z)
  cases d' with
  | dct kvs =>
    cases r with
    | dk r n t =>
      obtain ⟨o, ho⟩ := lk _ _ rfl (.inl ⟨_, rfl⟩) r
      refine ⟨_, o, rfl, .inl ⟨_, ho, Run.use (VR := vI S) run w (ItOk.mk (fun j O2 H2 k hj => ⟨st n ho O2 H2 k, ?_⟩) (fun j O2 H2 x H3 d k al hy hd => ?_) (fun j O2 H2 k hj => ⟨st n ho O2 H2 k, ?_⟩))⟩⟩
      · rw [t.length]; simpa using hj
      · obtain ⟨rfl, k', v', e1, e2⟩ := hy
        obtain ⟨k1, v1, e3, e4⟩ := t.at hd
        rw [e3] at e1
        cases e1
        subst e2
        exact ⟨Same.refl _, rep_key e4⟩
      · rw [t.length]; simpa using hj
  | dtt kvs =>
    cases r with
    | dt r n t =>
      obtain ⟨o, ho⟩ := lk _ _ rfl (.inr ⟨_, rfl⟩) r
      refine ⟨_, o, rfl, .inr ⟨_, ho, Run.use (VR := vI S) run w (ItOk.mk (fun j O2 H2 k hj => ⟨st n ho O2 H2 k, ?_⟩) (fun j O2 H2 x H3 d k al hy hd => ?_) (fun j O2 H2 k hj => ⟨st n ho O2 H2 k, ?_⟩))⟩⟩
      · rw [t.length]; simpa using hj
      · obtain ⟨rfl, k', v', q, e1, e2, e5⟩ := hy
        obtain ⟨k1, v1, e3, e4⟩ := t.at hd
        rw [e3] at e1
        cases e1
        subst e2
        refine ⟨Same.refl _, ?_⟩
        cases d with
        | tup ds =>
          refine .tup e5 (fun z => ?_) (reps_keys e4)
          obtain ⟨o, ho⟩ := al q z
          rw [e5] at ho
          exact o.2 _ (Option.some.inj ho).symm
        | _ => cases e4
      · rw [t.length]; simpa using hj
  | _ => exact run.elim
theorem i_keysW {σ : L2.St} {H : Hp} {Z : It → Hp → Prop} (hm : S.M[i]? = some .sh) (lk : LkAt i σ H) (h : lI S (sIt gKeys (sV i)) σ H Z) : iKeys (tVar i) σ H Z := by
  obtain ⟨B, O, Fs, ρ, w, run⟩ := h
  obtain ⟨v, d, F, h1, h2, h3, _, v', d', q1, q2, r⟩ := w.get hm
  subst q1 q2
  have run : Run S (vI S) ((sV i ρ).bind fun x ρ1 => R.of (gKeys x) ρ1) B O Fs H σ ρ Z := run
  unfold sV at run
  rw [h2] at run
  exact ⟨_, h1, keys_it w (fun b u e => lk b u (by rw [← e]; exact h1)) r run⟩
end
section
variable {K : PySem.W.Frag} {S : Sx K} {Mt : List Md} {X : Cx} {elt tg iter : Expr} {ifs : List Expr} {scope : Scope} {own : List (Str × Nat)} {pos : Pos} {tgf : D → Env → Option Env} {tt : Env → R Bool} {te : Env → R D} {us : List Nat} {i : Nat}
theorem f_lcK (hm : S.M[i]? = some .sh) (hc : X.calm = true) (hN : X.N.Nodup) (hv0 : PE X iter (tVar i)) (ok : BlkOk X.N X.env.scope scope own) (hv : naAll S.M (own.map (·.2)) = true) (hu : ∀ t ∈ us, t ∈ own.map (·.2)) (wk : Nk Mt S.M)
    (hg : ∀ (s : Shared) (H : Hp) (C : Addr) (cl : List (Str × Addr)) (fp : List Addr), PG (X.blk s H scope (compEnvC scope cl C X.env) fp) tg (lG S.tx S.M Mt us tgf)) (ht : ∀ (s : Shared) (H : Hp) (C : Addr) (cl : List (Str × Addr)) (fp : List Addr), PTs (X.blk s H scope (compEnvC scope cl C X.env) fp) ifs (lT (S.inn Mt) tt))
    (he : ∀ (s : Shared) (H : Hp) (C : Addr) (cl : List (Str × Addr)) (fp : List Addr), PE (X.blk s H scope (compEnvC scope cl C X.env) fp) elt (lE (S.inn Mt) te)) (hs : ∀ x, foldedSetIterable iter X.env x = pure x := by intro _; rfl) :
    PE X (.ListComp elt [⟨tg, iter, ifs, 0⟩] scope pos) (lF S (.lst .sh) (sLk i (sLc (sIt gKeys (sV i)) tgf tt te (own.map (·.2))))) :=
  f_lock hm (f_lcC (C := LkAt i) hc hN (pi_keys hv0) (fun σ H R lk h => i_keysW hm lk h) ok hv hu wk hg ht he hs)
end
end Pu
namespace Pu
open PySem L2 PySem.Spec PyProof.Rows Pw
section
variable {K : PySem.W.Frag} {G : Gx K} {B O1 O7 : Addr → Prop} {Fs1 Fs6 : List (List Addr)} {H1 H7 : Hp} {σ : L2.St} {ρ1 ρ6 : Env} {M : List Md} {p : Addr} {u : HO}
theorem brep_old {F : List Addr} {v : V} {d : D} {a : Addr} (hp : H1 a = none) (nk : (∀ ds, d ≠ .ktp ds) ∧ (∀ c, d ≠ .cls c) ∧ ∀ ns, d ≠ .klt ns) (h : BRep G O1 F H1 v d) : v ≠ .ref a := fun ev => by
  subst ev
  rcases h with rr | ⟨c, _, ⟨o, ho⟩, rr⟩
  · cases rr with
    | lst q _ _ => rcases q with q | ⟨_, q⟩ <;> (rw [hp] at q; cases q)
    | tup q _ _ => rw [hp] at q; cases q
    | ktp q _ => exact nk.1 _ rfl
    | ftp q _ _ => exact nk.1 _ rfl
    | cls q => exact nk.2.1 _ rfl
    | klt q => exact nk.2.2 _ rfl
    | dk q _ _ => rcases q with q | ⟨_, q⟩ <;> (rw [hp] at q; cases q)
    | dt q _ _ => rcases q with q | ⟨_, q⟩ <;> (rw [hp] at q; cases q)
    | obj _ q _ _ _ => rw [hp] at q; cases q
  · rcases rr with rr | rr | rr
    · obtain ⟨_, _, _, _, z1, _, z3, _⟩ := rr
      cases z1
      rw [hp] at z3
      cases z3
    · obtain ⟨_, _, _, z1, _, ⟨_, _, z3, _⟩ | ⟨_, _, z3, _⟩⟩ := rr <;> (cases z1; rw [hp] at z3; cases z3)
    · obtain ⟨_, _, _, _, _, _, _, z1, _, _, z3, _⟩ := rr
      cases z1
      rw [hp] at z3
      cases z3
theorem flat_at {O : Addr → Prop} {H : Hp} {v : V} {d : D} {a : Addr} (r : Own G O H (.lst .sh) v d [a] ∨ Own G O H (.dct .sh) v d [a] ∨ Own G O H (.obj flatO) v d [a]) : v = .ref a ∧ (∀ ds, d ≠ .ktp ds) ∧ (∀ c, d ≠ .cls c) ∧ ∀ ns, d ≠ .klt ns := by
  rcases r with r | r | r
  · obtain ⟨_, _, _, _, z1, z2, _, z4, _⟩ := r
    have := (List.cons.inj z4).1
    refine ⟨by rw [z1, this], fun ds z => ?_, fun ds z => ?_, fun ds z => ?_⟩ <;> (rw [z2] at z; cases z)
  · obtain ⟨_, _, _, z1, z4, z5⟩ := r
    have := (List.cons.inj z4).1
    refine ⟨by rw [z1, this], fun ds z => ?_, fun ds z => ?_, fun ds z => ?_⟩ <;> (rcases z5 with ⟨_, z2, _⟩ | ⟨_, z2, _⟩ <;> (rw [z2] at z; cases z))
  · obtain ⟨_, _, _, _, _, _, _, z1, z2, _, _, z4, _⟩ := r
    have := (List.cons.inj z4).1
    refine ⟨by rw [z1, this], fun ds z => ?_, fun ds z => ?_, fun ds z => ?_⟩ <;> (rw [z2] at z; cases z)
theorem wd_grown (hp : H1 p = none) (w1 : Wd G B O1 Fs1 H1 σ ρ1 M) (w6 : Wd G B O7 Fs6 H7 σ ρ6 M) (ev6 : Ev M O1 Fs1 H1 ρ1 O7 Fs6 H7 ρ6) (op6 : O7 p) (pf6 : p ∉ Fs6.flatten) (no : ∀ vs, u ≠ .tup vs) :
    Wd G B O7 Fs6 (upd H7 p u) σ ρ6 M ∧ Ev M O1 Fs1 H1 ρ1 O7 Fs6 (upd H7 p u) ρ6 ∧ Kept O7 H7 O7 (upd H7 p u) := by
  have ne : ∀ b, b ≠ p → upd H7 p u b = H7 b := fun b hb => upd_ne hb
  have kw : Kept O7 H7 O7 (upd H7 p u) := kept_upd op6
  refine ⟨⟨w6.nd, w6.sub, w6.bo, al_upd w6.al no, w6.ls, w6.lr, w6.lf, fun j m v' d' f e1 e2 e3 e4 => ?_⟩, ⟨fun b o h n => ?_, fun b o h => ?_, ev6.mono, ev6.grow, ev6.fgrow, ev6.keep⟩, kw⟩
  · have sl := w6.sl j m v' d' f e1 e2 e3 e4
    have kf : ∀ b ∈ f, upd H7 p u b = H7 b := fun b hb => ne b fun z => pf6 (by rw [← z]; exact mem_flat (List.mem_of_getElem? e4) hb)
    cases m with
    | mb =>
      obtain ⟨q0, h⟩ := sl
      exact ⟨q0, fun d' hd => by obtain ⟨v', e1, r⟩ := h d' hd; exact ⟨v', e1, r.keep kw⟩⟩
    | th a c q l =>
      obtain ⟨q0, q1, ⟨h1, h2⟩, h3⟩ := sl
      exact ⟨q0, q1, ⟨kw.no h2 h1, kw.ext _ _ h1 h2⟩, fun p hp => (h3 p hp).keep kw⟩
    | br =>
      obtain ⟨q1, v1, d1, q2, q3, r⟩ := sl
      refine ⟨q1, v1, d1, q2, q3, ?_⟩
      rcases r with r | ⟨a, na, ⟨o, ho⟩, r⟩
      · exact .inl (r.keep kw)
      · have hap : a ≠ p := fun z => by
          subst z
          obtain ⟨v2, d2, f2, g1, g2, g3, _, v3, d3, g4, g5, r2⟩ := w1.get e1
          subst g4 g5 q2
          rw [e2] at g1
          cases g1
          have ed : d1 = d3 := by
            have := ev6.keep j .br e1 rfl
            rw [e3, q3, g2] at this
            exact Option.some.inj (Option.some.inj this)
          subst ed
          obtain ⟨ev, nk⟩ := flat_at r
          exact brep_old hp nk r2 ev
        have k1 : ∀ b ∈ [a], upd H7 p u b = H7 b := fun b hb => by rw [List.mem_singleton.mp hb]; exact ne a hap
        refine .inr ⟨a, na, ⟨o, by rw [ne a hap]; exact ho⟩, ?_⟩
        rcases r with r | r | r
        · exact .inl (Own.keep kw _ k1 r)
        · exact .inr (.inl (Own.keep kw _ k1 r))
        · exact .inr (.inr (Own.keep kw _ k1 r))
    | na => exact sl
    | hd => exact sl
    | sh => obtain ⟨q1, v1, d1, q2, q3, r⟩ := sl; exact ⟨q1, v1, d1, q2, q3, r.keep kw⟩
    | ow t => obtain ⟨q0, v1, d1, q2, q3, r⟩ := sl; exact ⟨q0, v1, d1, q2, q3, Own.keep kw t kf r⟩
    | op t => obtain ⟨v1, d1, q2, q3, r⟩ := sl; exact ⟨v1, d1, q2, q3, Own.keep kw t kf r⟩
  · have hb : b ≠ p := fun z => by rw [z, hp] at h; cases h
    rw [ne b hb]
    exact ev6.chg b o h n
  · have hb : b ≠ p := fun z => by rw [z, hp] at h; cases h
    rw [ne b hb]
    exact ev6.dom b o h
theorem own_dput {O : Addr → Prop} {H : Hp} {p : Addr} {acc acc' kd vd : D} {y z : V} (h : Own G O H (.dct .sh) (.ref p) acc [p]) (lO : O p) (rk : Rep G O H y kd) (rv : Rep G O H z vd) (e : dPut acc kd vd = some acc') : ∃ u, (∀ vs, u ≠ .tup vs) ∧ DPut H p y z (upd H p u) ∧ Own G O (upd H p u) (.dct .sh) (.ref p) acc' [p] := by
  obtain ⟨q', kvs, Fs', e1, e2, e3⟩ := h
  cases e1
  rcases e3 with ⟨ks, e4, e5, e6⟩ | ⟨ks, e4, e5, e6⟩
  · subst e4
    unfold dPut at e
    dsimp only at e
    split at e
    · rename_i hc
      cases e
      obtain ⟨k, hk'⟩ := Option.isSome_iff_exists.mp hc.1
      have rk' := all3_repK e6
      have ey := key_kV rk hk'
      subst ey
      exact ⟨.dK (putK ks k z), (fun _ q => nomatch q), DPut.k e5 (by rw [rk'.length]; exact lt_line hc.2), own_K upd_same ((rk'.put hk' rv).keep (kept_upd lO))⟩
    · cases e
  · subst e4
    unfold dPut at e
    dsimp only at e
    split at e
    · rename_i hc
      cases e
      obtain ⟨k, hk'⟩ := Option.isSome_iff_exists.mp hc.1
      have rk' := all3_repT e6
      obtain ⟨b, eb, hb⟩ := tkey_kV rk hk'
      subst eb
      exact ⟨.dT (putK ks k z), (fun _ q => nomatch q), DPut.t e5 hb (by rw [rk'.length]; exact lt_line hc.2), own_T upd_same ((rk'.put hk' rv).keep (kept_upd lO))⟩
    · cases e
end
def dcL (tg : D → Env → Option Env) (tt : Env → R Bool) (tk tv : Env → R D) (vs : List Nat) : List D → D → Env → R D
  | [], acc, ρ => .ok acc ρ
  | x :: xs, acc, ρ => match tg x ρ with
    | none => .bad
    | some ρ1 => (tt ρ1).noX.bind fun k ρ2 => if k then (tk ρ2).noX.bind fun kd ρ3 => (tv ρ3).noX.bind fun vd ρ4 => match dPut acc kd vd with
        | some acc' => dcL tg tt tk tv vs xs acc' (wipeE ρ4 vs)
        | none => .bad
      else dcL tg tt tk tv vs xs acc (wipeE ρ2 vs)
def d0 (b : Bool) : D := if b then .dtt [] else .dct []
def o0 (b : Bool) : HO := if b then .dT [] else .dK []
def dynB (tg : D → Env → Option Env) (tt : Env → R Bool) (tk tv : Env → R D) (vs : List Nat) (xs : List D) (ρ : Env) : Bool := match dcL tg tt tk tv vs xs (.dct []) (wipeE ρ vs) with
  | .bad => true
  | _ => false
def sDc (b : List D → Env → Bool) (f : Env → R (List D)) (tg : D → Env → Option Env) (tt : Env → R Bool) (tk tv : Env → R D) (vs : List Nat) : Env → R D := fun ρ => (f ρ).bind fun xs ρ1 => dcL tg tt tk tv vs xs (d0 (b xs ρ1)) (wipeE ρ1 vs)
section
variable {K : PySem.W.Frag} {S : Sx K} {X : Cx} {kx vx tg iter c : Expr} {ifs : List Expr} {scope : Scope} {own : List (Str × Nat)} {pos : Pos} {f : Env → R (List D)} {tgf : D → Env → Option Env} {tt : Env → R Bool} {tk tv : Env → R D} {Mt : List Md} {us : List Nat} {b : List D → Env → Bool}
theorem lDcC {vs : List Nat} {σ : L2.St} {H : Hp} {Q : VK} {wi : TI} (hw : ∀ R, lI S f σ H R → wi σ H R) (hv : naAll S.M vs = true) (hu : ∀ t ∈ us, t ∈ vs) (wk : Nk Mt S.M) (h : lF S (.dct .sh) (sDc b f tgf tt tk tv vs) σ H Q) : tDcP wi (lG S.tx S.M Mt us tgf) (lT (S.inn Mt) tt) (lE (S.inn Mt) tk) (lE (S.inn Mt) tv) vs σ H Q := by
  obtain ⟨B, O, Fs, ρ, w, run⟩ := h
  refine hw _ ⟨B, O, Fs, ρ, w, run.bind fun xs ρ1 J O1 Fs1 H1 _ ev1 w1 r1 run1 p hp => ?_⟩
  have run1 : RunF S (.dct .sh) (dcL tgf tt tk tv vs xs (d0 (b xs ρ1)) (wipeE ρ1 vs)) B O1 Fs1 H1 σ ρ1 Q := run1
  generalize b xs ρ1 = b at run1
  have no0 : ∀ vs, o0 b ≠ .tup vs := fun vs z => by cases b <;> cases z
  obtain ⟨wp, evp, np, kp⟩ := w1.own1 (o := o0 b) hp no0
  have neqa : ∀ j, S.M[j]? ≠ some .na → j ∉ vs := fun j h z => h (naAll_na hv z)
  have own0 : Own S.G (fun a => O1 a ∨ a = p) (upd H1 p (o0 b)) (.dct .sh) (.ref p) (d0 b) [p] := by
    cases b with
    | true => exact own_dT upd_same
    | false => exact own_dK upd_same
  refine ⟨o0 b, by cases b; exact .inl rfl; exact .inr rfl, fun i m H => ∃ O Fs ρ acc, m = xs.length - i ∧ Wd S.G B O Fs H σ ρ S.M ∧ Ev S.M O1 Fs1 H1 ρ1 O Fs H ρ ∧ O p ∧ p ∉ Fs.flatten ∧ Own S.G O H (.dct .sh) (.ref p) acc [p] ∧
      RunF S (.dct .sh) (dcL tgf tt tk tv vs (xs.drop i) acc (wipeE ρ vs)) B O1 Fs1 H1 σ ρ1 Q,
    ⟨_, _, Fs1, ρ1, d0 b, rfl, wp, evp, .inr rfl, fun z => ?_, own0, run1⟩, ?_⟩
  · obtain ⟨o, ho⟩ := w1.al p (w1.sub p z)
    rw [hp] at ho
    cases ho
  rintro i m H2 ⟨O2, Fs2, ρ2, acc, rfl, w2, ev2, op, pf, ow2, run2⟩
  have kp0 : Kp0 O1 Fs1.flatten H1 O2 H2 := ⟨ev2.chg, ev2.grow⟩
  by_cases hi : i < xs.length
  · refine .inr ⟨r1.go i O2 H2 kp0 hi, fun H => ∃ O Fs ρ acc, Wd S.G B O Fs H σ ρ S.M ∧ Ev S.M O1 Fs1 H1 ρ1 O Fs H ρ ∧ O p ∧ p ∉ Fs.flatten ∧ Own S.G O H (.dct .sh) (.ref p) acc [p] ∧
      RunF S (.dct .sh) (dcL tgf tt tk tv vs (xs.drop (i + 1)) acc (wipeE ρ vs)) B O1 Fs1 H1 σ ρ1 Q, fun H' ⟨O', Fs', ρ', acc', h1, h2, h3, h4, h5, h6⟩ => ⟨xs.length - (i + 1), by omega, O', Fs', ρ', acc', rfl, h1, h2, h3, h4, h5, h6⟩, fun x H3 hy => ?_⟩
    have hd : xs[i]? = some (xs[i]'hi) := List.getElem?_eq_getElem hi
    obtain ⟨sm, rp⟩ := r1.yl i O2 H2 x H3 _ kp0 w2.al hy hd
    have dr : xs.drop i = xs[i]'hi :: xs.drop (i + 1) := List.drop_eq_getElem_cons hi
    rw [dr] at run2
    have ev3 : Ev S.M O1 Fs1 H1 ρ1 O2 Fs2 H3 ρ2 := ev2.trans (Ev.same sm)
    have w3 : Wd S.G B O2 Fs2 H3 (wipe σ vs) (wipeE ρ2 vs) S.M := (w2.same sm).emb hv
    obtain ⟨op0, hp0⟩ := w2.al p op
    have ow3 : Own S.G O2 H3 (.dct .sh) (.ref p) acc [p] := Own.keep (Kept.same (O := O2) sm) _ (fun c hc => by rw [List.mem_singleton.mp hc, hp0]; exact sm _ _ hp0) ow2
    have hp3 := sm _ _ hp0
    unfold dcL at run2
    cases et : tgf (xs[i]'hi) (wipeE ρ2 vs) with
    | none => rw [et] at run2; exact run2.elim
    | some ρ4 =>
      rw [et] at run2
      dsimp only at run2
      refine ⟨B, O2, Fs2, wipeE ρ2 vs, _, w3, rp, ρ4, et, fun σ4 Fs4 ev4 o4 w4 => ⟨wipe_eq o4.s hu, B, O2, Fs4, ρ4, w4, ?_⟩⟩
      have huv : ∀ j, j ∉ vs → j ∉ us := fun j h z => h (hu j z)
      have back : ∀ {O5 : Addr → Prop} {Fs5 : List (List Addr)} {H5 : Hp} {ρ5 : Env}, Ev Mt O2 Fs4 H3 ρ4 O5 Fs5 H5 ρ5 → Wd S.G B O5 Fs5 H5 σ4 ρ5 Mt → ∃ Fs6, Wd S.G B O5 Fs6 H5 σ (wipeE ρ5 vs) S.M ∧ Ev S.M O1 Fs1 H1 ρ1 O5 Fs6 H5 (wipeE ρ5 vs) ∧ O5 p ∧ p ∉ Fs6.flatten ∧ Own S.G O5 H5 (.dct .sh) (.ref p) acc [p] := fun {O5 Fs5 H5 ρ5} ev5 w5 => by
        obtain ⟨Fs6, w6, l6⟩ := w5.nk wk
        have f4 : ∀ b ∈ Fs4.flatten, b ∈ Fs2.flatten ∨ H3 b = none := ev4.fgrow
        have n4 : ∀ b o, H3 b = some o → b ∉ Fs2.flatten → b ∉ Fs4.flatten := fun b o h n z => by
          rcases f4 b z with z | z
          · exact n z
          · rw [h] at z; cases z
        have e25 : Ev S.M O2 Fs2 H3 ρ2 O5 Fs6 H5 (wipeE ρ5 vs) := by
          refine ⟨fun b o h n => ev5.chg b o h (n4 b o h n), ev5.dom, ev5.mono, ev5.grow, fun b hb => ?_, fun j m hj ho => ?_⟩
          · rcases ev5.fgrow b (l6 b hb) with z | z
            · exact f4 b z
            · exact .inr z
          · have hjv : j ∉ vs := neqa j (by rw [hj]; intro z; cases z; cases ho)
            have hm : Mt[j]? = some m := (o4.m.2 j (huv j hjv)).trans hj
            rw [wipeE_out hjv, ev5.keep j m hm ho, o4.r.2 j (huv j hjv), wipeE_out hjv]
        have hp5 : H5 p = some op0.1 := e25.chg p _ hp3 pf
        refine ⟨Fs6, w6.swap ?_ wipeE_len fun j h => ⟨?_, wipeE_out (neqa j h)⟩, ev3.trans e25, ev5.mono p op, fun z => ?_, Own.keep (e25.kept w2.sub) _ (fun c hc => by rw [List.mem_singleton.mp hc, hp3]; exact hp5) ow3⟩
        · have := w6.ls
          rw [this, w2.ls]
        · rw [o4.s.2 j (huv j (neqa j h)), wipe_out (neqa j h)]
        · rcases e25.fgrow p z with z | z
          · exact pf z
          · rw [hp3] at z; cases z
      cases ek : tt ρ4 with
      | ex x ρ5 => rw [ek] at run2; exact run2.elim
      | bad => rw [ek] at run2; exact run2.elim
      | ok k ρ5 =>
        rw [ek] at run2
        intro k' O5 Fs5 H5 ev5 w5 hk
        cases (show k' = k from hk)
        cases k with
        | false =>
          rw [if_neg (by decide)]
          obtain ⟨Fs6, w6, ev6, op6, pf6, ow6⟩ := back ev5 w5
          exact ⟨O5, Fs6, wipeE ρ5 vs, acc, w6, ev6, op6, pf6, ow6, by rw [wipeE_wipeE]; exact run2⟩
        | true =>
          rw [if_pos rfl]
          refine ⟨B, O5, Fs5, ρ5, w5, ?_⟩
          have run2 : RunF S (.dct .sh) ((tk ρ5).noX.bind fun kd ρ3 => (tv ρ3).noX.bind fun vd ρ4 => match dPut acc kd vd with
            | some acc' => dcL tgf tt tk tv vs (xs.drop (i + 1)) acc' (wipeE ρ4 vs)
            | none => .bad) B O1 Fs1 H1 σ ρ1 Q := run2
          cases ey : tk ρ5 with
          | ex x ρ6 => rw [ey] at run2; exact run2.elim
          | bad => rw [ey] at run2; exact run2.elim
          | ok kd ρ6 =>
            rw [ey] at run2
            intro y O7 Fs7 H7 ev7 w7 rk
            refine ⟨B, O7, Fs7, ρ6, w7, ?_⟩
            have run2 : RunF S (.dct .sh) ((tv ρ6).noX.bind fun vd ρ4 => match dPut acc kd vd with
              | some acc' => dcL tgf tt tk tv vs (xs.drop (i + 1)) acc' (wipeE ρ4 vs)
              | none => .bad) B O1 Fs1 H1 σ ρ1 Q := run2
            cases ez : tv ρ6 with
            | ex x ρ6 => rw [ez] at run2; exact run2.elim
            | bad => rw [ez] at run2; exact run2.elim
            | ok vd ρ8 =>
              rw [ez] at run2
              intro z O8 Fs8 H8 ev8 w8 rv
              have run2 : RunF S (.dct .sh) (match dPut acc kd vd with
                | some acc' => dcL tgf tt tk tv vs (xs.drop (i + 1)) acc' (wipeE ρ8 vs)
                | none => .bad) B O1 Fs1 H1 σ ρ1 Q := run2
              obtain ⟨Fs6, w6, ev6, op6, pf6, ow6⟩ := back (ev5.trans (ev7.trans ev8)) w8
              cases hq : dPut acc kd vd with
              | none => rw [hq] at run2; exact run2.elim
              | some acc' =>
                rw [hq] at run2
                obtain ⟨u, nu, dp, ow7⟩ := own_dput ow6 op6 (rk.ev w7 ev8) rv hq
                obtain ⟨w9, ev9, k9⟩ := wd_grown hp w1 w6 ev6 op6 pf6 nu
                exact ⟨_, dp, O8, Fs6, wipeE ρ8 vs, acc', w9, ev9, op6, pf6, ow7, by rw [wipeE_wipeE]; exact run2⟩
  · refine .inl ⟨r1.st i O2 H2 kp0 (by omega), ?_⟩
    rw [List.drop_eq_nil_of_le (by omega)] at run2
    have run2 : RunF S (.dct .sh) (.ok acc (wipeE ρ2 vs)) B O1 Fs1 H1 σ ρ1 Q := run2
    have e := (ev2.swap (ρ' := wipeE ρ2 vs) fun j h => wipeE_out (neqa j h))
    exact run2 (.ref p) O2 Fs2 H2 [p] e (w2.swap rfl wipeE_len fun j h => ⟨rfl, wipeE_out (neqa j h)⟩) ow2 ⟨by simp, fun b hb => by rw [List.mem_singleton.mp hb]; exact op, fun b hb => by rw [List.mem_singleton.mp hb]; exact pf, fun b hb => by rw [List.mem_singleton.mp hb]; exact hp⟩
theorem f_dcC {wi : TI} {C : L2.St → Hp → Prop} (hu0 : X.A.units + 1 < cLine) (hc : X.calm = true) (hN : X.N.Nodup) (hi : PI X tg iter wi) (hw : ∀ σ H R, C σ H → lI S f σ H R → wi σ H R) (ok : BlkOk X.N X.env.scope scope own) (hv : naAll S.M (own.map (·.2)) = true) (hu : ∀ t ∈ us, t ∈ own.map (·.2)) (wk : Nk Mt S.M)
    (hg : ∀ (s : Shared) (H : Hp) (C : Addr) (cl : List (Str × Addr)) (fp : List Addr), PG (X.blk s H scope (compEnvC scope cl C X.env) fp) tg (lG S.tx S.M Mt us tgf)) (ht : ∀ (s : Shared) (H : Hp) (C : Addr) (cl : List (Str × Addr)) (fp : List Addr), PTs (X.blk s H scope (compEnvC scope cl C X.env) fp) ifs (lT (S.inn Mt) tt))
    (hk : ∀ (s : Shared) (H : Hp) (C : Addr) (cl : List (Str × Addr)) (fp : List Addr), PE (X.blk s H scope (compEnvC scope cl C X.env) fp) kx (lE (S.inn Mt) tk)) (he : ∀ (s : Shared) (H : Hp) (C : Addr) (cl : List (Str × Addr)) (fp : List Addr), PE (X.blk s H scope (compEnvC scope cl C X.env) fp) vx (lE (S.inn Mt) tv)) (hs : ∀ x, foldedSetIterable iter X.env x = pure x := by intro _; rfl) :
    PE X (.DictComp kx vx [⟨tg, iter, ifs, 0⟩] scope pos) (fun σ H Q => C σ H ∧ lF S (.dct .sh) (sDc b f tgf tt tk tv (own.map (·.2))) σ H Q) :=
  PE.of (pe_dcP hu0 hc hN hi ok hg ht hk he hs) fun σ H Q ⟨hC, h⟩ => lDcC (fun R => hw σ H R hC) hv hu wk h
theorem f_dc (hu0 : X.A.units + 1 < cLine) (hc : X.calm = true) (hN : X.N.Nodup) (hi : PI X tg iter (lI S f)) (ok : BlkOk X.N X.env.scope scope own) (hv : naAll S.M (own.map (·.2)) = true) (hu : ∀ t ∈ us, t ∈ own.map (·.2)) (wk : Nk Mt S.M)
    (hg : ∀ (s : Shared) (H : Hp) (C : Addr) (cl : List (Str × Addr)) (fp : List Addr), PG (X.blk s H scope (compEnvC scope cl C X.env) fp) tg (lG S.tx S.M Mt us tgf)) (ht : ∀ (s : Shared) (H : Hp) (C : Addr) (cl : List (Str × Addr)) (fp : List Addr), PTs (X.blk s H scope (compEnvC scope cl C X.env) fp) ifs (lT (S.inn Mt) tt))
    (hk : ∀ (s : Shared) (H : Hp) (C : Addr) (cl : List (Str × Addr)) (fp : List Addr), PE (X.blk s H scope (compEnvC scope cl C X.env) fp) kx (lE (S.inn Mt) tk)) (he : ∀ (s : Shared) (H : Hp) (C : Addr) (cl : List (Str × Addr)) (fp : List Addr), PE (X.blk s H scope (compEnvC scope cl C X.env) fp) vx (lE (S.inn Mt) tv)) (hs : ∀ x, foldedSetIterable iter X.env x = pure x := by intro _; rfl) :
    PE X (.DictComp kx vx [⟨tg, iter, ifs, 0⟩] scope pos) (lF S (.dct .sh) (sDc b f tgf tt tk tv (own.map (·.2)))) :=
  PE.of (f_dcC (C := fun _ _ => True) hu0 hc hN hi (fun _ _ _ _ h => h) ok hv hu wk hg ht hk he hs) fun _ _ _ h => ⟨True.intro, h⟩
end
end Pu
namespace Pu
open PySem L2 PySem.Spec PyProof.Rows Pw
def D.pyd (d : D) : PyData := (d.py).getD .none
def leD : D → D → Bool := PySem.W.dataLe false D.pyd
def insL {α : Type} (le : α → α → Bool) (a : α) : List α → List α
  | [] => [a]
  | b :: r => if le a b then a :: b :: r else b :: insL le a r
def isrt {α : Type} (le : α → α → Bool) : List α → List α
  | [] => []
  | a :: l => insL le a (isrt le l)
theorem insL_at {α : Type} {le : α → α → Bool} {a : α} : ∀ {l1 l2 : List α}, (∀ b ∈ l1, le a b = false) → (∀ b ∈ l2, le a b = true) → insL le a (l1 ++ l2) = l1 ++ a :: l2
  | [], [], _, _ => rfl
  | [], b :: r, _, h => by
    show (if le a b then a :: b :: r else b :: insL le a r) = _
    rw [h b (List.mem_cons_self ..), if_pos rfl]
    rfl
  | c :: l1, l2, h1, h2 => by
    show (if le a c then a :: c :: (l1 ++ l2) else c :: insL le a (l1 ++ l2)) = _
    rw [h1 c (List.mem_cons_self ..), if_neg (by decide), insL_at (fun b hb => h1 b (List.mem_cons_of_mem _ hb)) h2]
    rfl
theorem ms_isrt {α : Type} {le : α → α → Bool} (tr : ∀ a b c, le a b = true → le b c = true → le a c = true) (to : ∀ a b, (le a b || le b a) = true) : ∀ l : List α, l.mergeSort le = isrt le l
  | [] => by simp [isrt]
  | a :: l => by
    obtain ⟨l1, l2, e1, e2, h⟩ := List.mergeSort_cons (le := le) tr to a l
    have hs := List.pairwise_mergeSort (le := le) tr to (a :: l)
    rw [e1, List.pairwise_append] at hs
    show _ = insL le a (isrt le l)
    rw [← ms_isrt tr to l, e1, e2, insL_at (fun b hb => by simpa using h b hb) fun b hb => (List.pairwise_cons.mp hs.2.1).1 b hb]
theorem leD_ok : PySem.W.TotalLe leD := by
  unfold leD PySem.W.dataLe
  exact PySem.W.sortLe_total _ _ _
theorem leD_total (a b : D) : (leD a b || leD b a) = true := by rw [Bool.or_eq_true]; exact leD_ok.total a b
theorem leD_trans (a b c : D) (h1 : leD a b = true) (h2 : leD b c = true) : leD a c = true := leD_ok.trans a b c h1 h2
def sortD (ds : List D) : List D := isrt leD ds
theorem sortD_eq (ds : List D) : sortD ds = ds.mergeSort leD := (ms_isrt leD_trans leD_total ds).symm
def tup1 : PyData → Bool
  | .tuple (_ :: _) => true
  | _ => false
def plainP : PyData → Bool
  | .none => false
  | .tuple _ => false
  | _ => true
def okSort (ps : List PyData) : Bool := (ps.all fun d => ps.all fun e => PySem.W.alike d e) && (ps.all tup1 || ps.all plainP) && ps.all fun d => decide (d.depth ≤ 40)
def sortL (ds : List D) : Option D := match D.pys ds with
  | some ps => if okSort ps then some (.lst (sortD ds)) else none
  | none => none
def leS (a b : Str) : Bool := !ltCps b.cps.toList a.cps.toList
def sortS (ks : List Str) : List Str := isrt leS ks
def sortK (kvs : List (D × D)) : Option D := match D.strs (kvs.map (·.1)) with
  | some ks => if ks.length < 64 then some (.lst ((sortS ks).map .str)) else none
  | none => none
def gSorted (d : D) : Option D := match d with
  | .dct kvs => sortK kvs
  | d => match d.seq with
    | some ds => sortL ds
    | none => none
theorem leS_iff (a b : Str) : leS a b = true ↔ a.cps.toList ≤ b.cps.toList := by
  unfold leS
  rw [ltCps_eq]
  simp
theorem leS_total (a b : Str) : (leS a b || leS b a) = true := by
  rw [Bool.or_eq_true, leS_iff, leS_iff]
  exact List.le_total _ _
theorem leS_trans (a b c : Str) (h1 : leS a b = true) (h2 : leS b c = true) : leS a c = true := by
  rw [leS_iff] at *
  exact List.le_trans h1 h2
theorem leS_anti (a b : Str) (h1 : leS a b = true) (h2 : leS b a = true) : a = b := by
  rw [leS_iff] at *
  have := List.le_antisymm h1 h2
  cases a with
  | mk a =>
    cases b with
    | mk b =>
      have : a = b := Array.toList_inj.mp this
      rw [this]
theorem rising_pw : ∀ {p : Str} {l : List Str}, risingS p l = true → (p :: l).Pairwise fun a b => leS a b = true
  | p, [], _ => List.pairwise_singleton _ _
  | p, x :: r, h => by
    unfold risingS at h
    rw [Bool.and_eq_true] at h
    have t := rising_pw h.2
    have hx : leS p x = true := h.1
    refine List.pairwise_cons.mpr ⟨fun y hy => ?_, t⟩
    rcases List.mem_cons.mp hy with rfl | hy
    · exact hx
    · exact leS_trans _ _ _ hx ((List.pairwise_cons.mp t).1 y hy)
theorem sorted_pw {l : List Str} (h : sortedS l = true) : l.Pairwise fun a b => leS a b = true := by
  cases l with
  | nil => exact .nil
  | cons x r => exact rising_pw h
theorem sortS_eq (ks : List Str) : sortS ks = ks.mergeSort leS := (ms_isrt leS_trans leS_total ks).symm
theorem sortS_pw (ks : List Str) : (sortS ks).Pairwise fun a b => leS a b = true := by rw [sortS_eq]; exact List.pairwise_mergeSort leS_trans leS_total ks
theorem sortS_perm (ks : List Str) : (sortS ks).Perm ks := by rw [sortS_eq]; exact List.mergeSort_perm ks leS
theorem sortS_uniq {ys ks : List Str} (hp : ys.Perm ks) (hs : sortedS ys = true) : ys = sortS ks :=
  List.Perm.eq_of_pairwise (fun a b _ _ h1 h2 => leS_anti a b h1 h2) (sorted_pw hs) (sortS_pw ks) (hp.trans (sortS_perm ks).symm)
section
variable {K : PySem.W.Frag} {G : Gx K} {O : Addr → Prop} {H : Hp}
theorem reps_zip : ∀ {ds : List D} {vs : List V}, Reps G O H vs ds → (vs.zip ds).map (·.1) = vs ∧ (vs.zip ds).map (·.2) = ds ∧ ∀ b ∈ vs.zip ds, Rep G O H b.1 b.2
  | [], _, h => by cases h; exact ⟨rfl, rfl, fun b hb => by cases hb⟩
  | d :: ds, _, h => by
    cases h with
    | cons r t =>
      obtain ⟨h1, h2, h3⟩ := reps_zip t
      refine ⟨?_, ?_, fun b hb => ?_⟩
      · rw [List.zip_cons_cons, List.map_cons, h1]
      · rw [List.zip_cons_cons, List.map_cons, h2]
      · rw [List.zip_cons_cons] at hb
        rcases List.mem_cons.mp hb with rfl | hb
        · exact r
        · exact h3 b hb
theorem reps_of_pairs : ∀ {l : List (V × D)}, (∀ b ∈ l, Rep G O H b.1 b.2) → Reps G O H (l.map (·.1)) (l.map (·.2))
  | [], _ => .nil
  | b :: l, h => .cons (h b (List.mem_cons_self ..)) (reps_of_pairs fun c hc => h c (List.mem_cons_of_mem _ hc))
theorem pys_mem : ∀ {ds : List D} {ps : List PyData}, D.pys ds = some ps → (∀ d ∈ ds, d.py = some d.pyd) ∧ ds.map D.pyd = ps
  | [], _, h => by cases h; exact ⟨(fun d hd => by cases hd), rfl⟩
  | d :: ds, _, h => by
    unfold D.pys at h
    split at h
    · rename_i p ps e1 e2
      cases h
      obtain ⟨h1, h2⟩ := pys_mem e2
      have e3 : d.pyd = p := by unfold D.pyd; rw [e1]; rfl
      refine ⟨fun c hc => ?_, by rw [List.map_cons, h2, e3]⟩
      rcases List.mem_cons.mp hc with rfl | hc
      · rw [e3]; exact e1
      · exact h1 c hc
    · cases h
theorem okSort_of {ps : List PyData} (h : okSort ps = true) : PySem.W.AllAlike ps ∧ PySem.W.Sortable ps ∧ ∀ d ∈ ps, d.depth ≤ 40 := by
  unfold okSort at h
  rw [Bool.and_eq_true, Bool.and_eq_true, Bool.or_eq_true, List.all_eq_true, List.all_eq_true, List.all_eq_true] at h
  obtain ⟨⟨h1, h2⟩, h3⟩ := h
  refine ⟨fun d hd e he => List.all_eq_true.mp (h1 d hd) e he, ?_, fun d hd => of_decide_eq_true (List.all_eq_true.mp h3 d hd)⟩
  rcases h2 with h2 | h2
  · refine .inl fun d hd => ?_
    have := h2 d hd
    cases d with
    | tuple xs =>
      cases xs with
      | nil => cases this
      | cons x r => exact ⟨x, r, rfl⟩
    | _ => cases this
  · refine .inr fun d hd => ?_
    have := h2 d hd
    cases d with
    | tuple xs => cases this
    | none => cases this
    | _ => exact ⟨(fun z => by cases z), (fun _ z => by cases z)⟩
theorem keysS : ∀ {kvs : List (D × D)} {ks : List (Key × V)} {ss : List Str}, RepK G O H ks kvs → D.strs (kvs.map (·.1)) = some ss → ks.map (·.1) = ss.map Sum.inr
  | [], _, _, h, e => by cases h; cases e; rfl
  | (kd, d) :: kvs, _, ss, h, e => by
    cases h with
    | cons e1 r t =>
      rw [List.map_cons] at e
      cases kd with
      | str x =>
        unfold D.strs at e
        obtain ⟨l, h1, h2⟩ := Option.map_eq_some_iff.mp e
        subst h2
        cases e1
        rw [List.map_cons, List.map_cons, keysS t h1]
      | _ => cases e
def rSortedA (K : PySem.W.Frag) : List V → Hp → VK → Prop := fun xs H Q => rSortedD K xs H Q ∨ (∃ (a : Addr) (kvs : List (Key × V)) (ks : List Str), xs = [.ref a] ∧ Rd H a (.dK kvs) ∧ kvs.map (·.1) = ks.map Sum.inr ∧ ks.length < 64 ∧
    ∀ ys p, ys.Perm ks → sortedS ys = true → H p = none → Q (.ref p) (upd H p (.lst (ys.map V.str))))
theorem oSorted : CallP G (rSortedA K) (g1 gSorted) := by
  refine c1 fun O F H x a d al e hb Q k => ?_
  have seqc : ∀ ds, a.seq = some ds → sortL ds = some d → rSortedA K [x] H Q := fun ds hs hd => by
    unfold sortL at hd
    split at hd
    · rename_i ps hp
      split at hd
      · rename_i hok
        cases hd
        obtain ⟨p, vs, e1, e2, e3⟩ := hb.seq hs
        subst e1
        obtain ⟨z1, z2, z3⟩ := reps_zip e3
        obtain ⟨m1, m2⟩ := pys_mem hp
        obtain ⟨o1, o2, o3⟩ := okSort_of hok
        have em : (vs.zip ds).map (fun b => b.2.pyd) = ps := by rw [← m2, ← z2, List.map_map]; rw [z2]; rfl
        refine .inl ⟨V × D, p, vs.zip ds, (·.1), fun b => b.2.pyd, rfl, by rw [z1]; exact e2, fun b hbm => ?_, by rw [em]; exact o1, by rw [em]; exact o2, fun b hbm => o3 _ (by rw [← em]; exact List.mem_map.mpr ⟨b, hbm, rfl⟩), fun q hq => ?_⟩
        · refine (z3 b hbm).dp (m1 b.2 ?_)
          rw [← z2]
          exact List.mem_map.mpr ⟨b, hbm, rfl⟩
        · have es : ((vs.zip ds).mergeSort (PySem.W.dataLe false fun b => b.2.pyd)).map (·.2) = sortD ds := by
            rw [sortD_eq, List.map_mergeSort (r := PySem.W.dataLe false fun b : V × D => b.2.pyd) (s := leD) (f := fun x : V × D => x.2) (fun a _ b _ => rfl), z2]
          have hr : Reps G O H (((vs.zip ds).mergeSort (PySem.W.dataLe false fun b => b.2.pyd)).map (·.1)) (sortD ds) := by
            rw [← es]
            exact reps_of_pairs fun b hbm => z3 b ((List.mergeSort_perm _ _).mem_iff.mp hbm)
          exact k _ _ (same_new hq) (.lst (.inl upd_same) (Al.no al hq) (hr.keep (Kept.same (same_new hq))))
      · cases hd
    · cases hd
  cases a with
  | dct kvs =>
    have e : sortK kvs = some d := e
    unfold sortK at e
    split at e
    · rename_i ks hk
      split at e
      · rename_i hl
        cases e
        obtain ⟨p, kvs', e1, e2, e3⟩ := hb.dct
        subst e1
        refine .inr ⟨p, kvs', ks, rfl, e2, keysS e3 hk, hl, fun ys q hp hs hq => ?_⟩
        have := sortS_uniq hp hs
        subst this
        exact k _ _ (same_new hq) (.lst (.inl upd_same) (Al.no al hq) (reps_str _))
      · cases e
    · cases e
  | lst xs => exact seqc xs rfl e
  | tup xs => exact seqc xs rfl e
  | ktp xs => exact seqc xs rfl e
  | _ => cases e
end
section
variable {K : PySem.W.Frag} {S : Sx K} {X : Cx} {e : Expr} {fs : Env → R (List D)} {p pos : Pos}
theorem CallR.or2 {v : Value} {r r' : List V → Hp → VK → Prop} (h : CallR X v r) (h' : CallR X v r') : CallR X v (fun xs H Q => r xs H Q ∨ r' xs H Q) := fun pins s σ H xs us Q I rv q => by
  rcases q with q | q
  · exact h pins s σ H xs us Q I rv q
  · exact h' pins s σ H xs us Q I rv q
theorem p_sorted (hK : X.K = K) (hu : X.A.units + 64 < cLine) (hcm : X.calm = true) (hm : X.mg "sorted" = none) (ha : PA X [e] (lBs S fs)) (hgl : Gl X "sorted") (he : starEach (e :: []) X.env = (false, eval e X.env) :: starEach [] X.env := by rfl) : PE X (.Call (.Name "sorted" p) [e] [] pos) (lE S (sAs (g1 gSorted) fs)) := by
  subst hK
  exact p_callB (CallR.or2 (cr_sortedD hu) (call_sortedD hcm)) oSorted hgl hm (by decide +kernel) ha (by decide) (by decide) he (by rfl)
end
end Pu
namespace Pu
open PySem L2 PySem.Spec PyProof.Rows Pw
section
variable {K : PySem.W.Frag} {S : Sx K} {X : Cx} {e : Expr} {es : List Expr} {fa : Env → R D} {fs : Env → R (List D)} {p pos : Pos} {t : Shp}
def sStar (fa : Env → R D) (fs : Env → R (List D)) : Env → R (List D) := fun ρ => (fa ρ).bind fun x ρ1 => match x.seq with
  | some xs => (fs ρ1).bind fun ys ρ2 => .ok (xs ++ ys) ρ2
  | none => .bad
theorem Reps.app {G : Gx K} {O : Addr → Prop} {H : Hp} : ∀ {ds es : List D} {vs us : List V}, Reps G O H vs ds → Reps G O H us es → Reps G O H (vs ++ us) (ds ++ es)
  | [], _, _, _, h, h' => by cases h; exact h'
  | d :: ds, _, _, _, h, h' => by
    cases h with
    | cons r t => exact .cons r (t.app h')
theorem ps_star (hK : X.K = K) (ha : PE X e (lB S fa)) (hr : PA X es (lEs S fs)) (hs : starEach (.Starred e p :: es) X.env = (true, eval e X.env) :: starEach es X.env := by rfl) : PA X (.Starred e p :: es) (lEs S (sStar fa fs)) := by
  subst hK
  refine PA.of (StX.pa_star ha hr hs) fun σ H Q ⟨B, O, Fs, ρ, w, run⟩ => ?_
  refine ⟨B, O, Fs, ρ, w, run.bind fun x ρ1 v O1 Fs1 H1 _ ev1 w1 r1 run1 => ?_⟩
  cases hx : x.seq with
  | none => rw [hx] at run1; exact run1.elim
  | some xs =>
    rw [hx] at run1
    obtain ⟨a, vs, e1, e2, e3⟩ := r1.seq hx
    refine ⟨a, vs, e1, e2.symm, B, O1, Fs1, ρ1, w1, run1.bind fun ys ρ2 us O2 Fs2 H2 _ ev2 w2 r2 run2 => ?_⟩
    exact run2.use w2 ((e3.keep (ev2.kept w1.sub)).app r2)
theorem f_of (h : PE X e (lE S fa)) : PE X e (lF S .sh fa) := PE.of h fun σ H Q ⟨B, O, Fs, ρ, w, run⟩ => by
  refine ⟨B, O, Fs, ρ, w, ?_⟩
  have run : RunF S .sh (fa ρ) B O Fs H σ ρ Q := run
  cases hf : fa ρ with
  | ok d ρ' =>
    rw [hf] at run
    exact fun v O' Fs' H' ev wd r => run v O' Fs' H' [] ev wd ⟨rfl, r⟩ ⟨.nil, (fun b hb => by cases hb), (fun b hb => by cases hb), (fun b hb => by cases hb)⟩
  | ex x ρ' => rw [hf] at run; exact run
  | bad => rw [hf] at run; exact run.elim
end
def Shp.mo : Shp → Md
  | .sh => .sh
  | t => .ow t
section
variable {K : PySem.W.Frag} {G : Gx K} {B O : Addr → Prop} {F : List Addr} {H : Hp} {v : V} {d : D} {Fv : List Addr}
theorem slOk_mo (t : Shp) (nb : ∀ a ∈ Fv, ¬ B a) (h : Own G O H t v d Fv) : SlOk G B O F H t.mo (some v) (some d) Fv := by
  cases t with
  | sh => exact ⟨h.1, v, d, rfl, rfl, h.2⟩
  | deal => exact ⟨nb, v, d, rfl, rfl, h⟩
  | tab => exact ⟨nb, v, d, rfl, rfl, h⟩
  | lst t => exact ⟨nb, v, d, rfl, rfl, h⟩
  | dct t => exact ⟨nb, v, d, rfl, rfl, h⟩
  | obj f => exact ⟨nb, v, d, rfl, rfl, h⟩
theorem nf_set {M : List Md} {i j : Nat} {m : Md} (h : nf M j = true) (hij : i ≠ j) : nf (M.set i m) j = true := by
  unfold nf at h ⊢
  rw [List.getElem?_set_ne hij]
  exact h
end
section
variable {K : PySem.W.Frag} {T : Tx K} {M : List Md} {X : Cx} {a b : Expr} {f1 f2 : Env → R D} {t1 t2 : Shp} {i j : Nat} {x y : Str} {px py pt pos : Pos} {kt k2} {pt2 : Pos}
def sPar (i j : Nat) (f1 f2 : Env → R D) : Env → RS := fun ρ => (f1 ρ).bindS fun d1 ρ1 => (f2 ρ1).bindS fun d2 ρ2 => .nx ((ρ2.set i (some d1)).set j (some d2))
theorem s_par (hc : X.calm = true) (hN : X.N.Nodup) (hi : X.N[i]? = some x) (hj : X.N[j]? = some y) (hij : i ≠ j) (hx : X.env.scope.names.lookup x = some .local) (hy : X.env.scope.names.lookup y = some .local)
    (hw : swappedStores [.Tuple [.Name x px, .Name y py] kt pt] (.Tuple [a, b] k2 pt2) X.env = pure (some [x, y])) (h1 : PE X a (lF (T.ex M) t1 f1)) (h2 : PE X b (lF (T.ex M) t2 f2)) (wx : Wk M T.Mx) (n1 : nf M i = true) (n2 : nf M j = true)
    (hs : swapsWithSole [.Tuple [.Name x px, .Name y py] kt pt] (.Tuple [a, b] k2 pt2) pos.line X.env = pure false := by rfl) (hsa : starEach [a, b] X.env = (false, eval a X.env) :: starEach [b] X.env := by rfl) (hsb : starEach [b] X.env = (false, eval b X.env) :: starEach [] X.env := by rfl) :
    PS X (.Assign [.Tuple [.Name x px, .Name y py] kt pt] (.Tuple [a, b] k2 pt2) pos) (lS T M ((M.set i t1.mo).set j t2.mo) (sPar i j f1 f2)) := by
  refine PS.of (ps_par hc hN hi hj hij hx hy (pa_cons h1 (pa_cons h2 pa_nil hsb) hsa) hw hs) fun E σ H ⟨B, O, Fs, ρ, w, run⟩ => ?_
  refine ⟨B, O, Fs, ρ, w, ?_⟩
  have run : RunS T M ((M.set i t1.mo).set j t2.mo) (sPar i j f1 f2 ρ) B O Fs H σ ρ E := run
  unfold sPar at run
  cases e1 : f1 ρ with
  | bad => rw [e1] at run; exact run.elim
  | ex z ρ1 =>
    rw [e1] at run
    intro cls dd O' Fs' H' e w x
    obtain ⟨O1, Fs1, w1, l⟩ := w.wk wx
    exact run cls dd O1 Fs1 H' σ (e.toS.less l) w1 (x.anti l.o)
  | ok d1 ρ1 =>
    rw [e1] at run
    have run : RunS T M ((M.set i t1.mo).set j t2.mo) ((f2 ρ1).bindS fun d2 ρ2 => .nx ((ρ2.set i (some d1)).set j (some d2))) B O Fs H σ ρ E := run
    intro v1 O1 Fs1 H1 Fv1 ev1 w1 ow1 nw1
    refine ⟨B, O1, Fs1, ρ1, w1, ?_⟩
    cases e2 : f2 ρ1 with
    | bad => rw [e2] at run; exact run.elim
    | ex z ρ2 =>
      rw [e2] at run
      intro cls dd O' Fs' H' e w x
      obtain ⟨O3, Fs3, w3, l⟩ := w.wk wx
      exact run cls dd O3 Fs3 H' σ ((ev1.trans e).toS.less l) w3 (x.anti l.o)
    | ok d2 ρ2 =>
      rw [e2] at run
      intro v2 O2 Fs2 H2 Fv2 ev2 w2 ow2 nw2
      refine ⟨v1, v2, rfl, ?_⟩
      have old1 : ∀ b ∈ Fv1, ∃ o, H1 b = some o := fun b hb => by
        obtain ⟨o, ho⟩ := w1.al b (nw1.sub b hb)
        exact ⟨o, ho⟩
      have k2 := ev2.kept w1.sub
      have st1 : ∀ b ∈ Fv1, H2 b = H1 b := fun b hb => by
        obtain ⟨o, ho⟩ := old1 b hb
        rw [ho]
        exact ev2.chg b o ho (nw1.dj b hb)
      have ow1' := Own.keep k2 _ st1 ow1
      have dj1 : ∀ b ∈ Fv1, b ∉ Fs2.flatten := fun b hb z => by
        rcases ev2.fgrow b z with z | z
        · exact nw1.dj b hb z
        · obtain ⟨o, ho⟩ := old1 b hb
          rw [ho] at z; cases z
      have d12 : ∀ b ∈ Fv2, b ∉ Fv1 := fun b hb z => by
        obtain ⟨o, ho⟩ := old1 b z
        rw [nw2.fr b hb] at ho
        cases ho
      have fr2 : ∀ b ∈ Fv2, H b = none := fun b hb => by
        cases q : H b with
        | none => rfl
        | some o => obtain ⟨o', h'⟩ := ev1.dom b o q; rw [nw2.fr b hb] at h'; cases h'
      have nbB : ∀ b, H b = none → ¬ B b := fun b hb z => by
        obtain ⟨o, ho⟩ := w.al b (w.bo b z)
        rw [hb] at ho
        cases ho
      have ev := ev1.trans ev2
      have brk : ∀ (Fz : List (List Addr)), (∀ b ∈ Fz.flatten, b ∈ Fs.flatten ∨ H b = none) → ∀ (q : Nat) (v' : V) (d' : D), M[q]? = some .br → σ[q]? = some (some v') → ρ2[q]? = some (some d') → BRep T.G O2 Fz.flatten H2 v' d' := fun Fz hz q v' d' g1 g2 g3 => by
        have hk := ev.keep q .br g1 rfl
        rw [g3] at hk
        obtain ⟨v, d, f, h1, h2, h3, _, v1, d1, q2, q3, r⟩ := w.get g1
        subst q2 q3
        rw [g2] at h1
        rw [h2] at hk
        cases h1
        cases hk
        have k := ev.kept w.sub
        rcases r with r | ⟨p, np, ⟨o, ho⟩, r⟩
        · exact .inl (r.keep k)
        · have kp : ∀ b ∈ [p], H2 b = H b := fun b hb => by
            rw [List.mem_singleton.mp hb, ho]
            exact ev.chg p o ho np
          refine .inr ⟨p, fun z => ?_, ⟨o, ev.chg p o ho np⟩, ?_⟩
          · rcases hz p z with z | z
            · exact np z
            · rw [ho] at z; cases z
          · rcases r with r | r | r
            · exact .inl (Own.keep k _ kp r)
            · exact .inr (.inl (Own.keep k _ kp r))
            · exact .inr (.inr (Own.keep k _ kp r))
      have z1 : ∀ b ∈ (Fs2.set i Fv1).flatten, b ∈ Fs.flatten ∨ H b = none := fun b hb => by
        rcases mem_set_flat hb with hb | ⟨q, F1, _, e, hb⟩
        · exact .inr (nw1.fr b hb)
        · exact ev.fgrow b (mem_flat (List.mem_of_getElem? e) hb)
      have z2 : ∀ b ∈ ((Fs2.set i Fv1).set j Fv2).flatten, b ∈ Fs.flatten ∨ H b = none := fun b hb => by
        rcases mem_set_flat hb with hb | ⟨q, F1, _, e, hb⟩
        · exact .inr (fr2 b hb)
        · exact z1 b (mem_flat (List.mem_of_getElem? e) hb)
      have wi := w2.set (i := i) (m := t1.mo) (v := v1) (d := d1) (F := Fv1) n1 nw1.nd (fun b hb => ev2.mono b (nw1.sub b hb)) dj1 (brk _ z1) (slOk_mo t1 (fun a ha => nbB a (nw1.fr a ha)) ow1')
      have hjl : j < M.length := nf_lt n2
      have wj := wi.set (i := j) (m := t2.mo) (v := v2) (d := d2) (F := Fv2) (nf_set n2 hij) nw2.nd nw2.sub (fun b hb z => by
        rcases mem_set_flat z with z | ⟨q, F1, _, e, hb1⟩
        · exact d12 b hb z
        · exact nw2.dj b hb (mem_flat (List.mem_of_getElem? e) hb1)) (fun q v' d' g1 g2 g3 => by
        have hq : q ≠ i := fun z => by
          subst z
          rw [List.getElem?_set_self (nf_lt n1)] at g1
          cases t1 <;> cases g1
        rw [List.getElem?_set_ne (Ne.symm hq)] at g1 g2 g3
        exact brk _ z2 q v' d' g1 g2 g3) (slOk_mo t2 (fun a ha => nbB a (fr2 a ha)) ow2)
      refine run O2 _ H2 _ ⟨ev.chg, ev.dom, ev.grow, z2, fun q m g1 g2 => ?_, fun q g1 => ?_⟩ wj
      · have hqi : q ≠ i := fun z => by
          subst z
          unfold nf at n1
          rw [g1] at n1
          simp only [g2] at n1
          cases n1
        have hqj : q ≠ j := fun z => by
          subst z
          unfold nf at n2
          rw [g1] at n2
          simp only [g2] at n2
          cases n2
        rw [List.getElem?_set_ne (Ne.symm hqj), List.getElem?_set_ne (Ne.symm hqi)]
      · have hqi : q ≠ i := fun z => by
          subst z
          unfold nf at n1
          rw [g1] at n1
          cases n1
        have hqj : q ≠ j := fun z => by
          subst z
          unfold nf at n2
          rw [g1] at n2
          cases n2
        rw [List.getElem?_set_ne (Ne.symm hqj), List.getElem?_set_ne (Ne.symm hqi)]
        exact ev.keep q .br g1 rfl
end
end Pu
namespace Pu
open PySem L2 PySem.Spec PyProof.Rows Pw
theorem passes0 {X : Cx} : Passes (L2.CX X.prog X.w) X (fun _ _ _ => False) := fun pins σ H s e s' I c => passAt (W := fun _ _ _ _ => False) takes0 σ pins H s e s' I c
section
variable {K : PySem.W.Frag} {G : Gx K} {xa : String → Option Addr}
theorem AReps.wd0 {O : Addr → Prop} {F : List Addr} {H : Hp} {ms : List Md} {vs : List V} {ds : List D} (h : AReps G O F H ms vs ds) (al : Al O H) :
    Wd G O O (List.replicate ms.length []) H (vs.map some) (ds.map some) ms := by
  refine ⟨by rw [flat_nil]; exact .nil, fun a ha => ?_, fun _ h => h, al, by rw [List.length_map]; exact h.len.1, by rw [List.length_map]; exact h.len.2, by simp, fun i m v d f e1 e2 e3 e4 => ?_⟩
  · rw [flat_nil] at ha; cases ha
  · have : f = [] := (List.mem_replicate.mp (List.mem_of_getElem? e4)).2
    subst this
    exact h.slot (by rw [flat_nil]; intro b hb; cases hb) e1 e2 e3
theorem sp_val {g : List D → RF} {O : Addr → Prop} {F : List Addr} {H : Hp} {ms : List Md} {vs : List V} {ds : List D} {d : D} {ds' : List D} {Q : VK} {E : XK} (h : AReps G O F H ms vs ds) (al : Al O H) (e : g ds = .ok d ds') (k : ∀ v H', Same H H' → Rep G O H' v d → Q v H') : SpF G xa ms g vs H Q E := by
  refine ⟨O, List.replicate ms.length [], ds, h.wd0 al, ?_⟩
  rw [e]
  intro v O' Fs' H' ev wd r
  exact k v H' (fun b o hb => ev.chg b o hb (by rw [flat_nil]; intro z; cases z)) (r.anti ev.mono)
def gStrO (c : String) (f : List D → RF) (d : D) : Option D := match d with
  | .obj c' _ => if c' = c then match f [d] with
      | .ok (.str t) _ => some (.str t)
      | _ => none
    else none
  | _ => none
theorem oStrO {c : String} {C : Addr} {f : List D → RF} (hC : G.ca c = some C) : CallP G (rStrOwn C (SpF G xa [.br] f) (fun _ _ _ => False)) (g1 (gStrO c f)) := by
  refine c1 fun O F H x a d al e hb Q k => ?_
  cases a with
  | obj c' fs =>
    unfold gStrO at e
    dsimp only at e
    split at e
    · rename_i hc
      subst hc
      split at e
      · rename_i t ds' hf
        cases e
        have hb0 := hb
        obtain ⟨p, C', dx, fvs, e1, e2, e3, e4, e5⟩ := hb.obj
        rw [hC] at e2
        cases e2
        subst e1
        refine ⟨p, dx, fvs, rfl, e3, sp_val (.br hb0 .nil) al hf fun v H' sm r => ?_⟩
        cases r
        exact ⟨t, rfl, k _ _ sm (.str t)⟩
      · cases e
    · cases e
  | _ => cases e
def sameK (c : String) : D → Bool
  | .dct _ => false
  | .dtt _ => false
  | .obj _ _ => true
  | .cls _ => false
  | .klt _ => false
  | _ => true
def gEqO (c : String) (f : List D → RF) (x y : D) : Option D := match x with
  | .obj c' _ => if c' = c ∧ sameK c y = true then match f [x, y] with
      | .ok (.bl b) _ => some (.bl b)
      | _ => none
    else none
  | _ => none
def gNeO (c : String) (f : List D → RF) (x y : D) : Option D := match gEqO c f x y with
  | some (.bl b) => some (.bl (!b))
  | _ => none
theorem notFirst_other {C C' : Addr} (o : OwnC K C) (h : PySem.W.kitOne K (.ref C') (.ref C) = some false) : PySem.W.notFirst K C (.ref C') = true := by
  unfold PySem.W.kitOne PySem.W.kitCls at h
  split at h
  · cases h
  · dsimp only at h
    rw [if_pos o.kc] at h
    unfold PySem.W.notFirst
    rw [h]
    simp
theorem kd_sameK {c : String} {C : Addr} {y : D} {O : Addr → Prop} {F : List Addr} {H : Hp} {v : V} (hC : G.ca c = some C) (hb : BRep G O F H v y) (h : sameK c y = true) : ∃ k, y.kd G = some k ∧ PySem.W.notFirst K C k.ty = true := by
  cases y with
  | obj c' fs =>
    obtain ⟨p, C', dx, fvs, e1, e2, e3, _⟩ := hb.obj
    refine ⟨.own C', ?_, ?_⟩
    · show (G.ca c').map Kd.own = _
      rw [e2]
      rfl
    · by_cases hc : c' = c
      · subst hc
        rw [hC] at e2
        cases e2
        exact notFirst_self
      · exact notFirst_other (G.oc hC) (G.di e2 hC hc)
  | non => exact ⟨_, rfl, Kd.notFirst rfl⟩
  | bl b => exact ⟨_, rfl, Kd.notFirst rfl⟩
  | int i => exact ⟨_, rfl, Kd.notFirst rfl⟩
  | str x => exact ⟨_, rfl, Kd.notFirst rfl⟩
  | lst xs => exact ⟨_, rfl, Kd.notFirst rfl⟩
  | tup xs => exact ⟨_, rfl, Kd.notFirst rfl⟩
  | ktp xs => exact ⟨_, rfl, Kd.notFirst rfl⟩
  | dct _ => cases h
  | dtt _ => cases h
  | cls _ => cases h
  | klt _ => cases h
theorem eqO_of {c : String} {C : Addr} {f : List D → RF} {O : Addr → Prop} {F : List Addr} {H : Hp} {x y : V} {a b : D} {r : Bool} (hC : G.ca c = some C) (al : Al O H) (e : gEqO c f a b = some (.bl r)) (ha : BRep G O F H x a) (hb : BRep G O F H y b) (Q : Bool → Hp → Prop) (k : ∀ H', Same H H' → Q r H') :
    ∃ p dx fs kd, x = .ref p ∧ H p = some (.ins C dx fs) ∧ Any K H y kd ∧ PySem.W.notFirst K C kd.ty = true ∧ SpF G xa [.br, .br] f [x, y] H (fun z H' => ∃ b, z = .bl b ∧ Q b H') (fun _ _ _ => False) := by
  cases a with
  | obj c' fs =>
    unfold gEqO at e
    dsimp only at e
    split at e
    · rename_i hc
      obtain ⟨rfl, hs⟩ := hc
      split at e
      · rename_i t ds' hf
        cases e
        obtain ⟨p, C', dx, fvs, e1, e2, e3, e4, e5⟩ := ha.obj
        rw [hC] at e2
        cases e2
        obtain ⟨kd, hk, hn⟩ := kd_sameK hC hb hs
        refine ⟨p, dx, fvs, kd, e1, e3, any_of hb hk, hn, sp_val (.br ha (.br hb .nil)) al hf fun v H' sm r => ?_⟩
        cases r
        exact ⟨_, rfl, k H' sm⟩
      · cases e
    · cases e
  | _ => cases e
theorem gEqO_bl {c : String} {f : List D → RF} {x y d : D} (h : gEqO c f x y = some d) : ∃ b, d = .bl b := by
  unfold gEqO at h
  split at h
  · split at h
    · split at h
      · cases h; exact ⟨_, rfl⟩
      · cases h
    · cases h
  · cases h
theorem oNeO {c : String} {C : Addr} {f : List D → RF} (hC : G.ca c = some C) : OpP G (rNeOwn K C (SpF G xa [.br, .br] f) (fun _ _ _ => False)) (gNeO c f) := fun O F H x y a b d al e ha hb Q k => by
  unfold gNeO at e
  cases he : gEqO c f a b with
  | none => rw [he] at e; cases e
  | some d' =>
    obtain ⟨r, rfl⟩ := gEqO_bl he
    rw [he] at e
    cases e
    exact eqO_of hC al he ha hb (fun b H' => Q (.bl (!b)) H') fun H' sm => k _ _ sm (.bl _)
end
section
variable {K : PySem.W.Frag} {S : Sx K} {X : Cx} {e a b : Expr} {fa fb : Env → R D} {fs : Env → R (List D)} {p pos : Pos} {c : String} {C g : Addr} {fd : FuncData} {ps : List Str} {n : Nat} {f : List D → RF}
theorem p_strO (hK : X.K = K) (hC : S.G.ca c = some C) (hs : Meth X.K C "__str__" g) (F : FnOkG X.prog X.w X.K X.mg X.base (L2.CX X.prog X.w) n g fd ps (SpF S.G S.xa [.br] f)) (hb : Binds X.K fd ps []) (hr : RoomG (n + 2) X.A) (hm : X.mg "str" = none) (ha : PA X [e] (lBs S fs)) (hgl : Gl X "str") (he : starEach (e :: []) X.env = (false, eval e X.env) :: starEach [] X.env := by rfl) :
    PE X (.Call (.Name "str" p) [e] [] pos) (lE S (sAs (g1 (gStrO c f)) fs)) := by
  subst hK
  exact p_callT (call_strOwn hs.at_ hs.fn F hb hr passes0) (oStrO hC) hgl hm (by decide +kernel) ha (by decide) (by decide) he (by rfl)
theorem r_neO (hK : X.K = K) (hC : S.G.ca c = some C) (hs : Meth X.K C "__eq__" g) (hob : PySem.W.mroIn X.K C (.type "object") = some true) (hne : PySem.W.findIn X.K (.ref C) "__ne__" = some (some (.builtin "object.__ne__"))) (F : FnOkG X.prog X.w X.K X.mg X.base (L2.CX X.prog X.w) n g fd ps (SpF S.G S.xa [.br, .br] f)) (hbd : Binds X.K fd ps []) (hr : RoomG (n + 1) X.A) (ha : PE X a (lB S fa)) (hb : PE X b (lB S fb)) : PT X (.Compare a [.NotEq] [b] pos) (lT S (sB (sOp (gNeO c f) fa fb))) := by
  subst hK
  exact t_cmp (op_neOwn hob hne hs.at_ hs.fn F hbd hr passes0) (oNeO hC) ha hb (nomark _)
end
end Pu
namespace Pu
open PySem L2 PySem.Spec PyProof.Rows Pw
def dPutN (a k v : D) : Option D := match a with
  | .dct kvs => if k.key.isSome ∧ kvs.length < line ∧ (kvs.any fun e => hkEq e.1 k) = false then some (.dct (kvs ++ [(k, v)])) else none
  | .dtt kvs => if k.tkey.isSome ∧ kvs.length < line ∧ (kvs.any fun e => hkEq e.1 k) = false then some (.dtt (kvs ++ [(k, v)])) else none
  | _ => none
def dcN (tg : D → Env → Option Env) (tt : Env → R Bool) (tk tv : Env → R D) (vs : List Nat) : List D → D → Env → R D
  | [], acc, ρ => .ok acc ρ
  | x :: xs, acc, ρ => match tg x ρ with
    | none => .bad
    | some ρ1 => (tt ρ1).noX.bind fun k ρ2 => if k then (tk ρ2).noX.bind fun kd ρ3 => (tv ρ3).noX.bind fun vd ρ4 => match dPutN acc kd vd with
        | some acc' => dcN tg tt tk tv vs xs acc' (wipeE ρ4 vs)
        | none => .bad
      else dcN tg tt tk tv vs xs acc (wipeE ρ2 vs)
def sDcN (b : Bool) (f : Env → R (List D)) (tg : D → Env → Option Env) (tt : Env → R Bool) (tk tv : Env → R D) (vs : List Nat) : Env → R D := fun ρ => (f ρ).bind fun xs ρ1 => dcN tg tt tk tv vs xs (d0 b) (wipeE ρ1 vs)
theorem All3.snoc {α β γ : Type} {P : α → β → γ → Prop} {a : α} {b : β} {c : γ} (h0 : P a b c) : ∀ {as : List α} {bs : List β} {cs : List γ}, All3 P as bs cs → All3 P (as ++ [a]) (bs ++ [b]) (cs ++ [c])
  | _, _, _, .nil => .cons h0 .nil
  | _, _, _, .cons h t => .cons h (t.snoc h0)
section
variable {K : PySem.W.Frag} {G : Gx K} {O : Addr → Prop} {H : Hp}
theorem any_K {k : Key} {kd : D} {t : Shp} (e : kd.key = some k) : ∀ {ks : List (Key × V)} {kvs : List (D × D)} {Fs : List (List Addr)}, All3 (fun (a : Key × V) (e : D × D) F => e.1.key = some a.1 ∧ Own G O H t a.2 e.2 F) ks kvs Fs → (ks.any fun kv => decide (kv.1 = k)) = (kvs.any fun e => hkEq e.1 kd)
  | _, _, _, .nil => rfl
  | (k1, v1) :: ks, (d1, e1) :: kvs, _, .cons h t => by
    have hb : hkEq d1 kd = decide (k1 = k) := by unfold hkEq; rw [show d1.key = some k1 from h.1, e]
    rw [List.any_cons, List.any_cons, any_K e t]
    show (decide (k1 = k) || _) = (hkEq d1 kd || _)
    rw [hb]
theorem any_T {k : List Key} {kd : D} {t : Shp} (e : kd.tkey = some k) : ∀ {ks : List (List Key × V)} {kvs : List (D × D)} {Fs : List (List Addr)}, All3 (fun (a : List Key × V) (e : D × D) F => e.1.tkey = some a.1 ∧ Own G O H t a.2 e.2 F) ks kvs Fs → (ks.any fun kv => decide (kv.1 = k)) = (kvs.any fun e => hkEq e.1 kd)
  | _, _, _, .nil => rfl
  | (k1, v1) :: ks, (d1, e1) :: kvs, _, .cons h t => by
    have h1 : d1.tkey = some k1 := h.1
    have hb : hkEq d1 kd = decide (k1 = k) := by unfold hkEq; rw [tkey_key h1, tkey_key e]; dsimp only; rw [h1, e]
    rw [List.any_cons, List.any_cons, any_T e t]
    show (decide (k1 = k) || _) = (hkEq d1 kd || _)
    rw [hb]
theorem own_dputN {p : Addr} {acc acc' kd vd : D} {y z : V} {F Fv : List Addr} {t : Shp} (h : Own G O H (.dct t) (.ref p) acc F) (nd : F.Nodup) (lO : O p) (pv : p ∉ Fv) (rk : Rep G O H y kd) (rv : Own G O H t z vd Fv) (e : dPutN acc kd vd = some acc') : ∃ u, (∀ vs, u ≠ .tup vs) ∧ DPut H p y z (upd H p u) ∧ Own G O (upd H p u) (.dct t) (.ref p) acc' (F ++ Fv) := by
  obtain ⟨q', kvs, Fs', e1, e2, e3⟩ := h
  cases e1
  subst e2
  have pn : ∀ b ∈ Fs'.flatten, b ≠ p := fun b hb z => (List.nodup_cons.mp nd).1 (by rw [← z]; exact hb)
  have fl : (p :: Fs'.flatten) ++ Fv = p :: (Fs' ++ [Fv]).flatten := by rw [List.flatten_append]; simp
  rcases e3 with ⟨ks, e4, e5, e6⟩ | ⟨ks, e4, e5, e6⟩
  · subst e4
    unfold dPutN at e
    dsimp only at e
    split at e
    · rename_i hc
      cases e
      obtain ⟨k, hk'⟩ := Option.isSome_iff_exists.mp hc.1
      have ey := key_kV rk hk'
      subst ey
      have hn : (ks.any fun kv => decide (kv.1 = k)) = false := by rw [any_K hk' e6]; exact hc.2.2
      have hput : putK ks k z = ks ++ [(k, z)] := by unfold putK; rw [hn]; rfl
      have kw : Kept O H O (upd H p (.dK (putK ks k z))) := kept_upd lO
      refine ⟨.dK (putK ks k z), (fun _ q => nomatch q), DPut.k e5 (by rw [all3_len e6]; exact lt_line hc.2.1), p, _, Fs' ++ [Fv], rfl, fl, .inl ⟨_, rfl, upd_same, ?_⟩⟩
      rw [hput]
      refine All3.snoc ⟨hk', Own.keep (by rw [← hput]; exact kw) _ (fun b hb => upd_ne fun z => pv (by rw [← z]; exact hb)) rv⟩ (e6.imp fun a b c hc h => ⟨h.1, Own.keep (by rw [← hput]; exact kw) _ (fun x hx => upd_ne (pn x (mem_flat hc hx))) h.2⟩)
    · cases e
  · subst e4
    unfold dPutN at e
    dsimp only at e
    split at e
    · rename_i hc
      cases e
      obtain ⟨k, hk'⟩ := Option.isSome_iff_exists.mp hc.1
      obtain ⟨b, eb, hb⟩ := tkey_kV rk hk'
      subst eb
      have hn : (ks.any fun kv => decide (kv.1 = k)) = false := by rw [any_T hk' e6]; exact hc.2.2
      have hput : putK ks k z = ks ++ [(k, z)] := by unfold putK; rw [hn]; rfl
      have kw : Kept O H O (upd H p (.dT (putK ks k z))) := kept_upd lO
      refine ⟨.dT (putK ks k z), (fun _ q => nomatch q), DPut.t e5 hb (by rw [all3_len e6]; exact lt_line hc.2.1), p, _, Fs' ++ [Fv], rfl, fl, .inr ⟨_, rfl, upd_same, ?_⟩⟩
      rw [hput]
      refine All3.snoc ⟨hk', Own.keep (by rw [← hput]; exact kw) _ (fun b hb => upd_ne fun z => pv (by rw [← z]; exact hb)) rv⟩ (e6.imp fun a b c hc h => ⟨h.1, Own.keep (by rw [← hput]; exact kw) _ (fun x hx => upd_ne (pn x (mem_flat hc hx))) h.2⟩)
    · cases e
end
section
variable {K : PySem.W.Frag} {S : Sx K} {X : Cx} {kx vx tg iter c : Expr} {ifs : List Expr} {scope : Scope} {own : List (Str × Nat)} {pos : Pos} {f : Env → R (List D)} {tgf : D → Env → Option Env} {tt : Env → R Bool} {tk tv : Env → R D} {Mt : List Md} {us : List Nat} {b : Bool}
theorem lDcN {vs : List Nat} {σ : L2.St} {H : Hp} {Q : VK} {wi : TI} {t : Shp} (hw : ∀ R, lI S f σ H R → wi σ H R) (hv : naAll S.M vs = true) (hu : ∀ t ∈ us, t ∈ vs) (wk : Nk Mt S.M) (h : lF S (.dct t) (sDcN b f tgf tt tk tv vs) σ H Q) : tDcP wi (lG S.tx S.M Mt us tgf) (lT (S.inn Mt) tt) (lE (S.inn Mt) tk) (lF (S.inn Mt) t tv) vs σ H Q := by
  obtain ⟨B, O, Fs, ρ, w, run⟩ := h
  refine hw _ ⟨B, O, Fs, ρ, w, run.bind fun xs ρ1 J O1 Fs1 H1 _ ev1 w1 r1 run1 p hp => ?_⟩
  have run1 : RunF S (.dct t) (dcN tgf tt tk tv vs xs (d0 b) (wipeE ρ1 vs)) B O1 Fs1 H1 σ ρ1 Q := run1
  have no0 : ∀ vs, o0 b ≠ .tup vs := fun vs z => by cases b <;> cases z
  obtain ⟨wp, evp, np, kp⟩ := w1.own1 (o := o0 b) hp no0
  have neqa : ∀ j, S.M[j]? ≠ some .na → j ∉ vs := fun j h z => h (naAll_na hv z)
  have own0 : Own S.G (fun a => O1 a ∨ a = p) (upd H1 p (o0 b)) (.dct t) (.ref p) (d0 b) [p] := by
    cases b with
    | true => exact ⟨p, [], [], rfl, rfl, .inr ⟨[], rfl, upd_same, .nil⟩⟩
    | false => exact ⟨p, [], [], rfl, rfl, .inl ⟨[], rfl, upd_same, .nil⟩⟩
  refine ⟨o0 b, by cases b; exact .inl rfl; exact .inr rfl, fun i m H => ∃ O Fs ρ acc F, m = xs.length - i ∧ Wd S.G B O Fs H σ ρ S.M ∧ Ev S.M O1 Fs1 H1 ρ1 O Fs H ρ ∧ p ∈ F ∧ New B O Fs F H1 ∧ Own S.G O H (.dct t) (.ref p) acc F ∧
      RunF S (.dct t) (dcN tgf tt tk tv vs (xs.drop i) acc (wipeE ρ vs)) B O1 Fs1 H1 σ ρ1 Q,
    ⟨_, _, Fs1, ρ1, d0 b, [p], rfl, wp, evp, List.mem_singleton.mpr rfl, np, own0, run1⟩, ?_⟩
  rintro i m H2 ⟨O2, Fs2, ρ2, acc, F2, rfl, w2, ev2, pF, nw2, ow2, run2⟩
  have op := nw2.sub p pF
  have pf := nw2.dj p pF
  have kp0 : Kp0 O1 Fs1.flatten H1 O2 H2 := ⟨ev2.chg, ev2.grow⟩
  by_cases hi : i < xs.length
  · refine .inr ⟨r1.go i O2 H2 kp0 hi, fun H => ∃ O Fs ρ acc F, Wd S.G B O Fs H σ ρ S.M ∧ Ev S.M O1 Fs1 H1 ρ1 O Fs H ρ ∧ p ∈ F ∧ New B O Fs F H1 ∧ Own S.G O H (.dct t) (.ref p) acc F ∧
      RunF S (.dct t) (dcN tgf tt tk tv vs (xs.drop (i + 1)) acc (wipeE ρ vs)) B O1 Fs1 H1 σ ρ1 Q, fun H' ⟨O', Fs', ρ', acc', F', h1, h2, h3, h4, h5, h6⟩ => ⟨xs.length - (i + 1), by omega, O', Fs', ρ', acc', F', rfl, h1, h2, h3, h4, h5, h6⟩, fun x H3 hy => ?_⟩
    have hd : xs[i]? = some (xs[i]'hi) := List.getElem?_eq_getElem hi
    obtain ⟨sm, rp⟩ := r1.yl i O2 H2 x H3 _ kp0 w2.al hy hd
    have dr : xs.drop i = xs[i]'hi :: xs.drop (i + 1) := List.drop_eq_getElem_cons hi
    rw [dr] at run2
    have ev3 : Ev S.M O1 Fs1 H1 ρ1 O2 Fs2 H3 ρ2 := ev2.trans (Ev.same sm)
    have w3 : Wd S.G B O2 Fs2 H3 (wipe σ vs) (wipeE ρ2 vs) S.M := (w2.same sm).emb hv
    obtain ⟨op0, hp0⟩ := w2.al p op
    have ow3 : Own S.G O2 H3 (.dct t) (.ref p) acc F2 := Own.keep (Kept.same (O := O2) sm) _ (fun c hc => by obtain ⟨o, ho⟩ := w2.al c (nw2.sub c hc); rw [ho]; exact sm _ _ ho) ow2
    have hp3 := sm _ _ hp0
    unfold dcN at run2
    cases et : tgf (xs[i]'hi) (wipeE ρ2 vs) with
    | none => rw [et] at run2; exact run2.elim
    | some ρ4 =>
      rw [et] at run2
      dsimp only at run2
      refine ⟨B, O2, Fs2, wipeE ρ2 vs, _, w3, rp, ρ4, et, fun σ4 Fs4 ev4 o4 w4 => ⟨wipe_eq o4.s hu, B, O2, Fs4, ρ4, w4, ?_⟩⟩
      have huv : ∀ j, j ∉ vs → j ∉ us := fun j h z => h (hu j z)
      have back : ∀ {O5 : Addr → Prop} {Fs5 : List (List Addr)} {H5 : Hp} {ρ5 : Env}, Ev Mt O2 Fs4 H3 ρ4 O5 Fs5 H5 ρ5 → Wd S.G B O5 Fs5 H5 σ4 ρ5 Mt → ∃ Fs6, Wd S.G B O5 Fs6 H5 σ (wipeE ρ5 vs) S.M ∧ Ev S.M O1 Fs1 H1 ρ1 O5 Fs6 H5 (wipeE ρ5 vs) ∧ New B O5 Fs6 F2 H1 ∧ Own S.G O5 H5 (.dct t) (.ref p) acc F2 ∧ (∀ b ∈ Fs6.flatten, b ∈ Fs5.flatten) := fun {O5 Fs5 H5 ρ5} ev5 w5 => by
        obtain ⟨Fs6, w6, l6⟩ := w5.nk wk
        have f4 : ∀ b ∈ Fs4.flatten, b ∈ Fs2.flatten ∨ H3 b = none := ev4.fgrow
        have n4 : ∀ b o, H3 b = some o → b ∉ Fs2.flatten → b ∉ Fs4.flatten := fun b o h n z => by
          rcases f4 b z with z | z
          · exact n z
          · rw [h] at z; cases z
        have e25 : Ev S.M O2 Fs2 H3 ρ2 O5 Fs6 H5 (wipeE ρ5 vs) := by
          refine ⟨fun b o h n => ev5.chg b o h (n4 b o h n), ev5.dom, ev5.mono, ev5.grow, fun b hb => ?_, fun j m hj ho => ?_⟩
          · rcases ev5.fgrow b (l6 b hb) with z | z
            · exact f4 b z
            · exact .inr z
          · have hjv : j ∉ vs := neqa j (by rw [hj]; intro z; cases z; cases ho)
            have hm : Mt[j]? = some m := (o4.m.2 j (huv j hjv)).trans hj
            rw [wipeE_out hjv, ev5.keep j m hm ho, o4.r.2 j (huv j hjv), wipeE_out hjv]
        have old3 : ∀ c ∈ F2, ∃ o, H3 c = some o := fun c hc => by
          obtain ⟨o, ho⟩ := w2.al c (nw2.sub c hc)
          exact ⟨o, sm _ _ ho⟩
        refine ⟨Fs6, w6.swap ?_ wipeE_len fun j h => ⟨?_, wipeE_out (neqa j h)⟩, ev3.trans e25, ⟨nw2.nd, fun c hc => ev5.mono c (nw2.sub c hc), fun c hc z => ?_, nw2.fr⟩, Own.keep (e25.kept w2.sub) _ (fun c hc => ?_) ow3, l6⟩
        · have := w6.ls
          rw [this, w2.ls]
        · rw [o4.s.2 j (huv j (neqa j h)), wipe_out (neqa j h)]
        · rcases e25.fgrow c z with z | z
          · exact nw2.dj c hc z
          · obtain ⟨o, ho⟩ := old3 c hc
            rw [ho] at z; cases z
        · obtain ⟨o, ho⟩ := old3 c hc
          rw [ho]
          exact e25.chg c o ho (nw2.dj c hc)
      cases ek : tt ρ4 with
      | ex x ρ5 => rw [ek] at run2; exact run2.elim
      | bad => rw [ek] at run2; exact run2.elim
      | ok k ρ5 =>
        rw [ek] at run2
        intro k' O5 Fs5 H5 ev5 w5 hk
        cases (show k' = k from hk)
        cases k with
        | false =>
          rw [if_neg (by decide)]
          obtain ⟨Fs6, w6, ev6, nw6, ow6, _⟩ := back ev5 w5
          exact ⟨O5, Fs6, wipeE ρ5 vs, acc, F2, w6, ev6, pF, nw6, ow6, by rw [wipeE_wipeE]; exact run2⟩
        | true =>
          rw [if_pos rfl]
          refine ⟨B, O5, Fs5, ρ5, w5, ?_⟩
          have run2 : RunF S (.dct t) ((tk ρ5).noX.bind fun kd ρ3 => (tv ρ3).noX.bind fun vd ρ4 => match dPutN acc kd vd with
            | some acc' => dcN tgf tt tk tv vs (xs.drop (i + 1)) acc' (wipeE ρ4 vs)
            | none => .bad) B O1 Fs1 H1 σ ρ1 Q := run2
          cases ey : tk ρ5 with
          | ex x ρ6 => rw [ey] at run2; exact run2.elim
          | bad => rw [ey] at run2; exact run2.elim
          | ok kd ρ6 =>
            rw [ey] at run2
            intro y O7 Fs7 H7 ev7 w7 rk
            refine ⟨B, O7, Fs7, ρ6, w7, ?_⟩
            have run2 : RunF S (.dct t) ((tv ρ6).noX.bind fun vd ρ4 => match dPutN acc kd vd with
              | some acc' => dcN tgf tt tk tv vs (xs.drop (i + 1)) acc' (wipeE ρ4 vs)
              | none => .bad) B O1 Fs1 H1 σ ρ1 Q := run2
            cases ez : tv ρ6 with
            | ex x ρ6 => rw [ez] at run2; exact run2.elim
            | bad => rw [ez] at run2; exact run2.elim
            | ok vd ρ8 =>
              rw [ez] at run2
              intro z O8 Fs8 H8 Fv ev8 w8 rv nv
              have run2 : RunF S (.dct t) (match dPutN acc kd vd with
                | some acc' => dcN tgf tt tk tv vs (xs.drop (i + 1)) acc' (wipeE ρ8 vs)
                | none => .bad) B O1 Fs1 H1 σ ρ1 Q := run2
              obtain ⟨Fs6, w6, ev6, nw6, ow6, l6⟩ := back (ev5.trans (ev7.trans ev8)) w8
              cases hq : dPutN acc kd vd with
              | none => rw [hq] at run2; exact run2.elim
              | some acc' =>
                rw [hq] at run2
                have old7 : ∀ c ∈ F2, ∃ o, H7 c = some o := fun c hc => by
                  obtain ⟨o, ho⟩ := w2.al c (nw2.sub c hc)
                  obtain ⟨o1, h1⟩ := ev5.dom c o (sm _ _ ho)
                  exact ev7.dom c o1 h1
                have dj7 : ∀ c ∈ Fv, c ∉ F2 := fun c hc z => by
                  obtain ⟨o, ho⟩ := old7 c z
                  rw [nv.fr c hc] at ho
                  cases ho
                have fr7 : ∀ c ∈ Fv, H1 c = none := fun c hc => by
                  cases q : H1 c with
                  | none => rfl
                  | some o =>
                    obtain ⟨o1, h1⟩ := ev3.dom c o q
                    obtain ⟨o2, h2⟩ := ev5.dom c o1 h1
                    obtain ⟨o3, h3⟩ := ev7.dom c o2 h2
                    rw [nv.fr c hc] at h3
                    cases h3
                have op6 := nw6.sub p pF
                obtain ⟨u, nu, dp, ow7⟩ := own_dputN ow6 nw6.nd op6 (fun z => dj7 p z pF) (rk.ev w7 ev8) rv hq
                obtain ⟨w9, ev9, k9⟩ := wd_grown hp w1 w6 ev6 op6 (nw6.dj p pF) nu
                refine ⟨_, dp, O8, Fs6, wipeE ρ8 vs, acc', F2 ++ Fv, w9, ev9, List.mem_append_left _ pF, ⟨?_, fun c hc => ?_, fun c hc z => ?_, fun c hc => ?_⟩, ow7, by rw [wipeE_wipeE]; exact run2⟩
                · rw [List.nodup_append]
                  exact ⟨nw6.nd, nv.nd, fun a ha c hc z => dj7 c hc (by rw [← z]; exact ha)⟩
                · rcases List.mem_append.mp hc with hc | hc
                  · exact nw6.sub c hc
                  · exact nv.sub c hc
                · rcases List.mem_append.mp hc with hc | hc
                  · exact nw6.dj c hc z
                  · exact nv.dj c hc (l6 c z)
                · rcases List.mem_append.mp hc with hc | hc
                  · exact nw6.fr c hc
                  · exact fr7 c hc
  · refine .inl ⟨r1.st i O2 H2 kp0 (by omega), ?_⟩
    rw [List.drop_eq_nil_of_le (by omega)] at run2
    have run2 : RunF S (.dct t) (.ok acc (wipeE ρ2 vs)) B O1 Fs1 H1 σ ρ1 Q := run2
    have e := (ev2.swap (ρ' := wipeE ρ2 vs) fun j h => wipeE_out (neqa j h))
    exact run2 (.ref p) O2 Fs2 H2 F2 e (w2.swap rfl wipeE_len fun j h => ⟨rfl, wipeE_out (neqa j h)⟩) ow2 nw2
theorem f_dcN {t : Shp} (hu0 : X.A.units + 1 < cLine) (hc : X.calm = true) (hN : X.N.Nodup) (hi : PI X tg iter (lI S f)) (ok : BlkOk X.N X.env.scope scope own) (hv : naAll S.M (own.map (·.2)) = true) (hu : ∀ t ∈ us, t ∈ own.map (·.2)) (wk : Nk Mt S.M)
    (hg : ∀ (s : Shared) (H : Hp) (C : Addr) (cl : List (Str × Addr)) (fp : List Addr), PG (X.blk s H scope (compEnvC scope cl C X.env) fp) tg (lG S.tx S.M Mt us tgf)) (ht : ∀ (s : Shared) (H : Hp) (C : Addr) (cl : List (Str × Addr)) (fp : List Addr), PTs (X.blk s H scope (compEnvC scope cl C X.env) fp) ifs (lT (S.inn Mt) tt))
    (hk : ∀ (s : Shared) (H : Hp) (C : Addr) (cl : List (Str × Addr)) (fp : List Addr), PE (X.blk s H scope (compEnvC scope cl C X.env) fp) kx (lE (S.inn Mt) tk)) (he : ∀ (s : Shared) (H : Hp) (C : Addr) (cl : List (Str × Addr)) (fp : List Addr), PE (X.blk s H scope (compEnvC scope cl C X.env) fp) vx (lF (S.inn Mt) t tv)) (hs : ∀ x, foldedSetIterable iter X.env x = pure x := by intro _; rfl) :
    PE X (.DictComp kx vx [⟨tg, iter, ifs, 0⟩] scope pos) (lF S (.dct t) (sDcN b f tgf tt tk tv (own.map (·.2)))) :=
  PE.of (pe_dcP hu0 hc hN hi ok hg ht hk he hs) fun σ H Q h => lDcN (fun R h => h) hv hu wk h
end
end Pu
namespace Pu
open PySem L2 PySem.Spec PyProof.Rows Pw
def isDt : D → Bool
  | .dct _ => true
  | .dtt _ => true
  | _ => false
def sGet1 (fa fk : Env → R D) : Env → R D := fun ρ => (fa ρ).bind fun a ρ1 => if isDt a then (fk ρ1).bind fun k ρ2 => match dGet? a k with
    | some o => .ok (o.getD .non) ρ2
    | none => .bad
  else .bad
section
variable {K : PySem.W.Frag} {S : Sx K} {X : Cx} {o e f : Expr} {fa fk fx : Env → R D} {apos cpos : Pos}
theorem isD_of {G : Gx K} {O : Addr → Prop} {F : List Addr} {H : Hp} {v : V} {d : D} (h : BRep G O F H v d) (e : isDt d = true) : ∃ a, v = .ref a ∧ IsD H a := by
  cases d with
  | dct kvs => obtain ⟨a, ks, e1, e2, _⟩ := h.dct; exact ⟨a, e1, .inl ⟨ks, e2⟩⟩
  | dtt kvs => obtain ⟨a, ks, e1, e2, _⟩ := h.dtt; exact ⟨a, e1, .inr ⟨ks, e2⟩⟩
  | _ => cases e
theorem optRep {G : Gx K} {O : Addr → Prop} {H : Hp} {r : Option V} {o : Option D} {z : V} {x : D} (h : OptRep G O H r o) (hx : Rep G O H z x) : Rep G O H (r.getD z) (o.getD x) := by
  cases r <;> cases o <;> first | exact hx | exact h | cases h
theorem p_get1 (hu : X.A.units + 1 < cLine) (ho : PE X o (lB S fa)) (he : PE X e (lB S fk)) (m : M1 X o "get" apos e cpos) : PE X (.Call (.Attribute o "get" apos) [e] [] cpos) (lE S (sGet1 fa fk)) := by
  refine PE.of (pe_dget1 hu ho he m) fun σ H Q ⟨B, O, Fs, ρ, w, run⟩ => ?_
  refine ⟨B, O, Fs, ρ, w, run.bind fun a ρ1 v O1 Fs1 H1 _ ev1 w1 r1 run1 => ?_⟩
  by_cases hd : isDt a = true
  case neg => rw [if_neg hd] at run1; exact run1.elim
  rw [if_pos hd] at run1
  obtain ⟨p, rfl, hp⟩ := isD_of r1 hd
  refine ⟨p, rfl, hp, B, O1, Fs1, ρ1, w1, run1.bind fun k ρ2 y O2 Fs2 H2 _ ev2 w2 r2 run2 => ?_⟩
  cases hg : dGet? a k with
  | none => rw [hg] at run2; exact run2.elim
  | some od =>
    rw [hg] at run2
    obtain ⟨p', r, ep, g, rr⟩ := dget_of (r1.ev w1 ev2) r2 hg
    cases ep
    exact ⟨r, g, run2.use w2 (optRep rr .non)⟩
end
end Pu
namespace Pu
open PySem L2 PySem.Spec PyProof.Rows Pw
section
variable {K : PySem.W.Frag} {T : Tx K} {M M1 Mn Mt : List Md} {X : Cx} {e : Expr} {fa : Env → R D} {pos : Pos}
def sRaise (c : String) (f : Str) (fa : Env → R D) : Env → RS := fun ρ => (fa ρ).bindS fun d ρ1 => .ex ⟨c, [(f, d)]⟩ ρ1
end
end Pu
namespace Pu
open PySem L2 PySem.Spec PyProof.Rows Pw
def reprOk (p : PyData) : Bool := p.showable && !p.hasDict && decide (p.depth ≤ 90) && decide (p.shown.length ≤ line)
def rRepr (K : PySem.W.Frag) : List V → Hp → VK → Prop := fun xs H Q => ∃ v p, xs = [v] ∧ Dp K H v p ∧ reprOk p = true ∧ Q (.str p.shown) H
theorem cr_repr {X : Cx} {k : Nat} (hr : RoomG k X.A) : CallR X (.builtin "repr") (rRepr X.K) := by
  intro pins s σ H xs us Q I r h
  obtain ⟨v, p, rfl, dp, ok, q⟩ := h
  obtain ⟨u, rfl, ru⟩ := vals1 r
  unfold reprOk at ok
  simp only [Bool.and_eq_true, Bool.not_eq_true', decide_eq_true_eq] at ok
  obtain ⟨⟨⟨sh, nd⟩, dpt⟩, len⟩ := ok
  have un := hr.un
  have hz : p.shown.length ≤ sizeLine := Nat.le_trans len line_lt
  have far : ∀ {a : Addr}, v = .ref a → wpAny (model X.prog X.w) X.A (call (.builtin "repr") [u]) (EP X pins σ Q) X.xe s := fun {a} ev => by
    obtain ⟨as, rd⟩ := Dp.reads I p v u dp ru
    subst ev
    obtain rfl : u = Value.ref a := ru
    exact PySem.repr_of_reads' rd sh (PyData.noDict_hsm nd) hr.gd (by omega) (fun _ _ e => e) (fun h' w tk kk => ⟨.str p.shown, H, I.kept kk, ⟨_, rfl⟩, q⟩) hz
  cases dp with
  | non =>
    obtain rfl : u = Value.none := ru
    exact PySem.P.repr_of_none ⟨.str _, H, I.tok _, ⟨_, rfl⟩, q⟩
  | bl b =>
    obtain rfl : u = Value.bool b := ru
    exact PySem.P.repr_of_bool ⟨.str _, H, I.tok _, ⟨_, rfl⟩, q⟩
  | int i =>
    obtain ⟨t, rfl⟩ := ru
    exact PySem.P.repr_of_int (of_decide_eq_true sh) ⟨.str _, H, I.tok _, ⟨_, rfl⟩, q⟩
  | str x =>
    obtain ⟨t, rfl⟩ := ru
    exact PySem.P.repr_of_str ⟨.str _, H, I.tok _, ⟨_, rfl⟩, q⟩ hz
  | lst h1 h2 => exact far rfl
  | tup h1 h2 => exact far rfl
def gRepr (d : D) : Option D := match d.py with
  | some p => if reprOk p then some (.str p.shown) else none
  | none => none
section
variable {K : PySem.W.Frag} {S : Sx K} {X : Cx} {e : Expr} {fs : Env → R (List D)} {pos p : Pos}
theorem oRepr {G : Gx K} : CallP G (rRepr K) (g1 gRepr) := by
  refine c1 fun O F H x a d al e hb Q k => ?_
  unfold gRepr at e
  split at e
  · rename_i p hp
    split at e
    · rename_i ho
      cases e
      exact ⟨x, p, rfl, hb.dp hp, ho, k _ _ (Same.refl H) (.str _)⟩
    · cases e
  · cases e
theorem p_repr {k : Nat} (hK : X.K = K) (hr : RoomG k X.A) (hm : X.mg "repr" = none) (ha : PA X [e] (lBs S fs)) (hgl : Gl X "repr") (he : starEach (e :: []) X.env = (false, eval e X.env) :: starEach [] X.env := by rfl) : PE X (.Call (.Name "repr" p) [e] [] pos) (lE S (sAs (g1 gRepr) fs)) := by
  subst hK
  exact p_callB (cr_repr hr) oRepr hgl hm (by decide +kernel) ha (by decide) (by decide) he (by rfl)
end
end Pu
namespace Pu
open PySem L2 PySem.Spec PyProof.Rows Pw
section
variable {K : PySem.W.Frag} {G : Gx K} {B O O' : Addr → Prop} {Fs Fs' : List (List Addr)} {H H' : Hp} {σ : L2.St} {ρ ρ' : Env} {M : List Md}
theorem nils_flat : ∀ (Fs : List (List Addr)), (Fs.map fun _ => ([] : List Addr)).flatten = []
  | [] => rfl
  | _ :: Fs => by rw [List.map_cons, List.flatten_cons, nils_flat Fs]; rfl
end
end Pu
namespace Pu
open PySem L2 PySem.Spec PyProof.Rows Pw
structure UFn (K : PySem.W.Frag) (mg : Str → Option Value) (x qual : Str) (st : Stmt) (ps : List Str) where
  a : Addr
  d : FuncData
  F : L2.Fun K x qual st a d
  n : Binds K d ps []
  m : mg x = some (.ref a)
structure UMe (K : PySem.W.Frag) (x qual : Str) (st : Stmt) (ps : List Str) where
  a : Addr
  d : FuncData
  F : L2.Fun K x qual st a d
  n : Binds K d ps []
structure UCl (K : PySem.W.Frag) (mg : Str → Option Value) (x : Str) where
  a : Addr
  m : mg x = some (.ref a)
  c : Cls K a
  o : OwnC K a
  ne : PySem.W.findIn K (.ref a) "__ne__" = some (some (.builtin "object.__ne__"))
structure UEx (mg : Str → Option Value) (x : Str) where
  a : Addr
  m : mg x = some (.ref a)
end Pu
namespace Pu
open PySem L2 PySem.Spec PyProof.Rows Pw
section
variable {K : PySem.W.Frag} {S : Sx K} {X : Cx} {e o : Expr} {es : List Expr} {fa : Env → R D} {fs : Env → R (List D)} {pos p apos : Pos} {ms ms2 : List Md} {t : Shp}
theorem isC_obj {G : Gx K} {O : Addr → Prop} {H : Hp} {c : String} {m : Str} {C : Addr} {x : D} {v : V} (hC : G.ca c = some C) (hx : isC c m x = true) (r : Rep G O H v x) : ∃ a dx fvs, v = .ref a ∧ H a = some (.ins C dx fvs) ∧ fvs.lookup m = none := by
  cases x with
  | obj c' fs' =>
    have hx : (c' == c && (fs'.lookup m).isNone) = true := hx
    rw [Bool.and_eq_true, beq_iff_eq, Option.isNone_iff_eq_none] at hx
    obtain ⟨rfl, hn⟩ := hx
    cases r with
    | obj e r n q t =>
      rw [hC] at e
      cases e
      exact ⟨_, _, _, rfl, r, repF_none t hn⟩
  | _ => cases hx
theorem p_methE {pl : Sem Bool} {k : Nat} {f C : Addr} {fd : FuncData} {ps : List Str} {m : Str} {c : String} {g : List D → RF} {dvs : List V} {dds : List D} {dvl : List Value} (hK : X.K = K) (hC : S.G.ca c = some C) (hm : Meth X.K C m f) (F : FnOkG X.prog X.w X.K X.mg X.base (L2.CX X.prog X.w) k f fd ps (SpF S.G S.xa (.sh :: (ms ++ ms2)) g)) (hr : RoomG k X.A) (hb : Binds X.K fd ps dvl) (hd : Vals dvs dvl) (hdd : DReps S.G ms2 dvs dds) (tk : Takes X S.W)
    (ho : PE X o (lE S fa)) (ha : PA X (e :: es) (lAs S ms fs)) (hst : starEach (e :: es) X.env = (false, eval e X.env) :: starEach es X.env := by rfl) (hpl : (backTo pos (starEach es X.env)).any (·.1) = false := by rfl)
    (ht : eval (.Call (.Attribute o m apos) (e :: es) [] pos) X.env = (do
      let ov ← eval o X.env
      standAt apos.atName
      let (f, first) ← holding [ov] (getMethod ov m pl)
      callWith pos f first (backTo pos (starEach (e :: es) X.env)) (backToKw pos (keywordEach [] X.env))) := by rfl) : PE X (.Call (.Attribute o m apos) (e :: es) [] pos) (lE S (sMeth c m dds g fa fs)) := by
  subst hK
  refine PE.of (pe_methS2 (E := WE S.W) ho (S.G.oc hC).cl hm F hr hb hd (fun σ => passAt tk σ) ha hst hpl ht) fun σ H Q ⟨B, O, Fs, ρ, w, run⟩ => ?_
  refine ⟨B, O, Fs, ρ, w, run.bind fun x ρ1 v O1 Fs1 H1 _ ev1 w1 r1 run1 => ?_⟩
  cases hx : isC c m x with
  | false => rw [hx] at run1; exact run1.elim
  | true =>
    rw [hx, if_pos rfl] at run1
    obtain ⟨a, dx, fvs, rfl, e3, hn⟩ := isC_obj hC hx r1
    refine ⟨a, dx, fvs, rfl, e3, hn, B, O1, Fs1, ρ1, w1, run1.bind fun ds ρ2 vs O2 Fs2 H2 _ ev2 w2 r2 run2 => ?_⟩
    exact sp_of w2 (.sh (r1.ev w1 ev2) (r2.app hdd.a)) run2
end
end Pu
namespace Pu
open PySem L2 PySem.Spec PyProof.Rows Pw PySem.Builtin.Str
def appF (a b : Str) : Str := ⟨(a.cps.toList ++ b.cps.toList).toArray⟩
theorem app_F (a b : Str) : a ++ b = appF a b := by
  show Str.append a b = appF a b
  unfold Str.append appF
  rw [← Array.toArray_toList (xs := a.cps ++ b.cps), Array.toList_append]
def joinL (sep : List Nat) : List Str → List Nat
  | [] => []
  | [x] => x.cps.toList
  | x :: r => x.cps.toList ++ (sep ++ joinL sep r)
theorem joinL_eq (sep : Str) : ∀ ys : List Str, (Str.join sep ys).cps.toList = joinL sep.cps.toList ys
  | [] => rfl
  | [x] => rfl
  | x :: y :: r => by
    have ih := joinL_eq sep (y :: r)
    show (x ++ sep ++ Str.join sep (y :: r)).cps.toList = x.cps.toList ++ (sep.cps.toList ++ joinL sep.cps.toList (y :: r))
    rw [← ih, app_F, app_F]
    simp [appF]
def joinF (sep : Str) (ys : List Str) : Str := ⟨(joinL sep.cps.toList ys).toArray⟩
theorem join_F (sep : Str) (ys : List Str) : Txt.join sep ys = joinF sep ys := by
  show glued sep ys = joinF sep ys
  rw [StrLaws.glued_eq_join]
  unfold joinF
  rw [← joinL_eq]
def gAddF (a b : D) : Option D := match a, b with
  | .int i, .int j => some (.int (i + j))
  | .str i, .str j => if i.length + j.length ≤ line then some (.str (appF i j)) else none
  | .lst xs, .lst ys => if xs.length + ys.length ≤ line then some (.lst (xs ++ ys)) else none
  | a, b => match a.tpl, b.tpl with
    | some xs, some ys => if xs.length + ys.length ≤ line then (if xs.isEmpty then some b else if ys.isEmpty then some a else some (.tup (xs ++ ys))) else none
    | _, _ => none
theorem gAdd_F : gAdd = gAddF := by
  funext a b
  unfold gAdd gAddF
  cases a with
  | int i => cases b <;> rfl
  | lst i => cases b <;> rfl
  | str i => cases b with
    | str j => dsimp only; rw [app_F]
    | _ => rfl
  | _ => rfl
def gJoinF (z : Str) (b : D) : Option D := match b.seq with
  | some ds => match D.strs ds with
    | some ys => if Nat.ble (sumLen ys + ys.length * z.length) line then some (.str (joinF z ys)) else none
    | none => none
  | none => none
theorem gJoin_F : gJoin = gJoinF := by
  funext z b
  unfold gJoin gJoinF
  cases b.seq with
  | none => rfl
  | some ds =>
    dsimp only
    cases D.strs ds with
    | none => rfl
    | some ys =>
      dsimp only
      rw [join_F]
      by_cases h : sumLen ys + ys.length * z.length ≤ line
      · rw [if_pos h, if_pos (Nat.ble_eq.mpr h)]
      · rw [if_neg h, if_neg (fun q => h (Nat.ble_eq.mp q))]
section
variable {K : PySem.W.Frag} {S : Sx K} {X : Cx} {a b : Expr} {fa fb : Env → R D} {pos apos : Pos}
theorem p_joinF (hK : X.K = K) (ha : PE X a (lB S fa)) (hb : PE X b (lB S fb)) (hs : starEach [b] X.env = [(false, eval b X.env)] := by rfl) (hbase : attributeBase a "join" X.env (eval a X.env) = eval a X.env := by rfl) (hline : (apos.endLine == pos.line) = true := by rfl) : PE X (.Call (.Attribute a "join" apos) [b] [] pos) (lE S (sM1 gJoinF fa fb)) := gJoin_F ▸ p_join hK ha hb hs hbase hline
theorem q_addF (hK : X.K = K) (ha : PE X a (lB S fa)) (hb : PE X b (lB S fb)) : PE X (.BinOp a .Add b pos) (lE S (sOp gAddF fa fb)) := gAdd_F ▸ q_add hK ha hb
end
end Pu
namespace Pw
open PySem L2 PySem.Spec PyProof.Rows
section
variable {P : Program} {w : World} {K : PySem.W.Frag} {mg mb : Str → Option Value} {CX : CXT} {k : Nat} {fa a : Addr} {fd : FuncData} {x : Str} {sp : Sp} {s : Shared} {vs : List Value} {ns : List Int}
def Ended (s : Shared) (r : Result) (s' : Shared) : Prop := r = .ok (.ret (.bool true)) ∧ OldK s.heap s'.heap ∧ s'.os = s.os ∧ AllBare s'.gens
theorem law_run {H : Hp} (KX : K.In s.heap) (hns : s.heap.Ns mainGlobals mg) (hb : s.heap.Ns builtinsNs mb) (hbb : ∀ x : Str, x ≠ "__name__" → mb x = bootBuiltins x) (hlim : s.heap.NoLimit) (hg : s.gens = #[])
    (ha : s.heap.get? a = some { cls := .type "list", data := .seq vs.toArray }) (hr : RoomG k callerA) (F : ∀ base : Heap, K.In base → base.Ns mainGlobals mg → FnOkG P w K mg base CX k fa fd [x] sp)
    (hbind : ∀ (s : Shared) (u : Value), BindsTo s fd ⟨[u], []⟩ [(x, u)]) (want : sp [.ref a] H (fun v _ => v = .bl true) fun _ _ _ => False) (hCX : ∀ H e s', CX [] H s (fun _ _ _ => False) e s' → False)
    (only : Only H) (hok : HOk P w H s.heap) (at_ : ∀ b u, H b = some u → b = a ∧ K.lookup a = none) : codeAny (model P w) callerA (.call (.ref fa) ⟨[.ref a], []⟩) (Ended s) s := by
  have low : ∀ {b : Addr} {o : Obj}, s.heap.get? b = some o → H b = none → (hidT s.heap H).get? b = some o := fun e n => hidT_get e n
  have free : ∀ {b : Addr} {o : Obj}, K.lookup b = some o → H b = none := fun {b o} e => by
    cases q : H b with
    | none => rfl
    | some u =>
      obtain ⟨rfl, z⟩ := at_ b u q
      rw [z] at e
      cases e
  have names : ∀ {b : Addr} {m : Str → Option Value}, s.heap.Ns b m → (hidT s.heap H).Ns b m := by
    rintro b m ⟨o, es, ep, e, d, r⟩
    refine ⟨o, es, ep, low e ?_, d, r⟩
    cases q : H b with
    | none => rfl
    | some u =>
      obtain ⟨rfl, _⟩ := at_ b u q
      rw [ha] at e
      cases e
      exact absurd (show Data.seq vs.toArray _ = Data.dict es ep from d) (fun z => nomatch z)
  have KB : K.In (hidT s.heap H) := fun b o e => low (KX b o e) (free e)
  obtain ⟨mc, l1, l2⟩ := hlim
  have md : Mod K mg (hidT s.heap H) := { kin := KB, glob := names hns, blt := ⟨mb, names hb, hbb⟩, nolimit := ⟨mc, names l1, l2⟩ }
  have e0 : Env0 P w K mg (hidT s.heap H) callerA [] s H := { frames := rfl, mod := md, bs := fun b o e => of_hidT e, bsz := Nat.le_of_eq (hidT_size _ _), funs := trivial, frf := (fun b z => nomatch z), hok := hok, bare := .of_eq hg }
  refine codeAny_mono ((F _ KB (names hns)).run callerA [] s H _ [.ref a] [.ref a] _ _ hr e0 (hbind s _) (.cons rfl .nil) want) fun out s' h => ?_
  rcases out with e | fl
  · exact (hCX H e s' h).elim
  · cases fl with
    | ret u =>
      obtain ⟨v, H', os, bare, un, hok', ru, q⟩ := h
      cases (show v = .bl true from q)
      cases (show u = Value.bool true from ru)
      refine ⟨rfl, OldK.of_keep fun b o e => ?_, os, bare⟩
      rcases only b with z | ⟨ob, xs, z⟩
      · exact un.keep b o e z (fun y => nomatch y) (fun y => nomatch y)
      · have c1 := (hok b _ z).1
        have c2 := (hok' b _ (un.frzs b ob _ z)).1
        rw [e] at c1
        cases c1
        exact c2
    | next => exact h.elim
    | brk => exact h.elim
    | cont => exact h.elim
end
end Pw
namespace Pu
open PySem L2 PySem.Spec PyProof.Rows Pw
def spLaw (K : PySem.W.Frag) : Sp := fun vs H Q _ => ∃ (a : Addr) (ns : List Int), vs = [.ref a] ∧ SqL K H a (ns.map V.int) ∧ ns.length ≤ 63 ∧ ∀ H', Q (.bl true) H'
section
variable {K : PySem.W.Frag} {G : Gx K} {xa : String → Option Addr} {f : List D → RF} {vs : List V} {H : Hp} {Q : VK} {E : XK}
theorem reps_of_ints {O : Addr → Prop} : ∀ ns : List Int, Reps G O H (ns.map V.int) (ns.map .int)
  | [] => .nil
  | n :: ns => .cons (.int n) (reps_of_ints ns)
theorem sp_law (hf : ∀ (x : D) (ns : List Int), x = .lst (ns.map .int) ∨ x = .klt ns → ns.length ≤ 63 → ∃ ds, f [x] = .ok (.bl true) ds) (h : spLaw K vs H Q E) : SpF G xa [.sh] f vs H Q E := by
  obtain ⟨a, ns, rfl, hs, hl, k⟩ := h
  obtain ⟨x, hx, r⟩ : ∃ x, (x = D.lst (ns.map .int) ∨ x = .klt ns) ∧ Rep G (fun _ => False) H (.ref a) x := by
    rcases hs with hs | hs
    · exact ⟨_, .inl rfl, .lst hs (fun z => z) (reps_of_ints ns)⟩
    · exact ⟨_, .inr rfl, .klt hs⟩
  obtain ⟨ds, e⟩ := hf x ns hx hl
  have w0 : Wd G (fun _ => False) (fun _ => False) [] H [] [] [] := ⟨.nil, fun a h => (nomatch h), fun _ z => z, fun a z => z.elim, rfl, rfl, rfl, fun i m v d f e => (nomatch e)⟩
  refine ⟨_, _, [x], AReps.wd (.sh r .nil) w0, ?_⟩
  rw [e]
  intro v O' Fs' H' _ _ rv
  cases rv
  exact k H'
end
theorem noCX {prog : World → Program} (w : World) (H : Hp) (s : Shared) (e : Value) (s' : Shared) (h : L2.CX (prog w) w [] H s (fun _ _ _ => False) e s') : False := by
  obtain ⟨_, _, _, _, _, _, _, _, _, _, _, _, z⟩ := h
  exact z
end Pu
namespace Pu
open PySem L2 PySem.Spec PyProof.Rows Pw PySem.Builtin.Str
section
variable {α : Type}
/- a list or a tuple written down: its length is below the line -/
end
end Pu
namespace Pu
open PySem L2 PySem.Spec PyProof.Rows Pw
def gLenK (d : D) : Option D := match d with
  | .klt ns => some (.int ns.length)
  | d => gLen d
section
variable {K : PySem.W.Frag} {G : Gx K}
theorem oLenK : CallP G (rLen K) (g1 gLenK) := by
  refine c1 fun O F H x a d al e hb Q k => ?_
  cases a with
  | klt ns =>
    cases e
    obtain ⟨p, rfl, r⟩ : ∃ p, x = .ref p ∧ KLst K p (ns.map V.int) := by
      rcases hb with hb | ⟨p, _, _, hb | hb | hb⟩
      · cases hb with
        | klt r => exact ⟨_, rfl, r⟩
      · obtain ⟨_, _, _, _, _, z, _⟩ := hb
        cases z
      · obtain ⟨_, _, _, _, _, ⟨_, z, _⟩ | ⟨_, z, _⟩⟩ := hb
        · cases z
        · cases z
      · obtain ⟨_, _, _, _, _, _, _, _, z, _⟩ := hb
        cases z
    refine .inl ⟨p, ns.map V.int, rfl, .inl (.inr r), ?_⟩
    rw [List.length_map]
    exact k _ _ (Same.refl H) (.int _)
  | _ => exact oLen (G := G) O F H [x] [_] d al e (.cons hb .nil) Q k
end
section
variable {K : PySem.W.Frag} {S : Sx K} {X : Cx} {e : Expr} {fs : Env → R (List D)} {p pos : Pos}
theorem p_lenK (hK : X.K = K) (hm : X.mg "len" = none) (ha : PA X [e] (lBs S fs)) (hgl : Gl X "len") (he : starEach (e :: []) X.env = (false, eval e X.env) :: starEach [] X.env := by rfl) : PE X (.Call (.Name "len" p) [e] [] pos) (lE S (sAs (g1 gLenK) fs)) := by
  subst hK
  exact p_callB call_lenA oLenK hgl hm (by decide +kernel) ha (by decide) (by decide) he (by rfl)
end
end Pu
namespace Pu
open PySem PySem.W PySem.Calls PyProof.Rows L2
def ArgE (xp : Str) (ae : Expr) : Prop := (∃ x k p, ae = .Constant (.str x) k p) ∨ ∃ p, ae = .Name xp p
theorem ev_super {xp : Str} {ae : Expr} {p0 p1 p2 p3 : Pos} (hp : (p2.endLine == p3.line) = true) (h : ArgE xp ae) (env : PySem.Env) : ∃ pl : Sem Bool, eval (.Call (.Attribute (.Call (.Name "super" p0) [] [] p1) "__init__" p2) [ae] [] p3) env = (do
      let ov ← attributeBase (.Call (.Name "super" p0) [] [] p1) "__init__" env (eval (.Call (.Name "super" p0) [] [] p1) env)
      standAt p2.atName
      let (f, first) ← holding [ov] (getMethod ov "__init__" pl)
      callWith p3 f first (backTo p3 (starEach [ae] env)) []) := by
  have key : ∀ o few, methodCallPos few o env p2 p3 = pure p3 := fun o few => by
    unfold methodCallPos
    rw [hp, Bool.or_true, if_pos rfl]
  rcases h with ⟨x, k, p, rfl⟩ | ⟨p, rfl⟩
  all_goals
    refine ⟨(do return (← importBound (.Call (.Name "super" p0) [] [] p1) env).getD true), ?_⟩
    show (do
      let ov ← attributeBase (.Call (.Name "super" p0) [] [] p1) "__init__" env (eval (.Call (.Name "super" p0) [] [] p1) env)
      standAt p2.atName
      methodCall (.Call (.Name "super" p0) [] [] p1) "__init__" p2 p3 env ov 1 _ _) = _
    unfold methodCall
    simp only [key, pure_bind]
    rfl
abbrev initB (ae : Expr) (xs xp f : Str) (p0 p1 p2 p3 p4 p5 p6 p7 p8 : Pos) : List Stmt :=
  [.Expr (.Call (.Attribute (.Call (.Name "super" p0) [] [] p1) "__init__" p2) [ae] [] p3) p4, .Assign [.Attribute (.Name xs p5) f p6] (.Name xp p7) p8]
structure BaseF (B newId initId : String) (bmB : List Value) : Prop where
  made : ∀ {prog : Program} {w : World} {A : Around} {R : Result → Shared → Prop} {h : Heap} {g : Array GenState} {d : Drawn} {t : Nat} {os : OsState} {nm q : Str} {C N : Addr} {bs bm : List Value} {hdct : Bool} {sn : List Str} {sub : List Value} {ab : Bool} {col : Option Bool} {dd : Option Addr} {k0 k1 k2 k3 k5 : Option Value} {rest : List Value} {fI : Addr},
    (∀ X : String, bm.contains (.type X) = bmB.contains (.type X)) → h.get? C = some (excClassObj nm q C N bs bm hdct sn sub ab col dd k0 k1 k2 k3 k5 newId) →
    PySem.W.Looks (model prog w) h (typeLookup (.ref C) "__init__") (some (.ref fI)) → (∀ self, PySem.W.Looks (model prog w) h (bindSpecial (.ref fI) self) (.ref fI, [self])) → rest.length ≤ sizeLine →
    codeAny (model prog w) (A.under (.builtin "type.__call__" ⟨.ref C :: rest, []⟩)) (.call (.ref fI) ⟨.ref (h.objs.size + 1) :: rest, []⟩) (PySem.W.InitBack (h.objs.size + 1) R) ⟨(h.push (PySem.W.kdv_tup rest)).push (PySem.HandSPX.excO C h.objs.size), g, d, t, os⟩ →
    codeAny (model prog w) A (.call (.ref C) ⟨rest, []⟩) R ⟨h, g, d, t, os⟩
  sup : ∀ {prog : Program} {w : World} {A : Around} {E : Value → Shared → Prop} {s : Shared} {h₀ : Heap} {L : Addr} {m : Str → Option Value} {news : List (Addr × Obj)} {K : Frag} {x C u : Addr} {t : Addr} {dv : Option Addr} {c2 : Value} {rest : List Value} {nw : Obj → List (Addr × Obj)} {Q : Value → Shared → Prop},
    Fr h₀ L s.heap m → K.In h₀ → News h₀ L s.heap news → excInitIn K C bmB newId = true → (u, kxs_mw initId x) ∈ news → UpdF x (excObj C t dv c2) news nw → rest.length ≤ sizeLine →
    (∀ t' h', Fr h₀ L h' m → News h₀ L h' ((t', excTup rest) :: nw (excObj C t' dv c2)) → (∀ p ∈ news, p.1 < t') → Q .none { s with heap := h' }) → wpAny (model prog w) A (call (.ref u) rest) Q E s
  KF : KxsFacts B initId
  SF : StoreFacts B bmB "object.__setattr__" "object"
theorem BaseF.of {B newId initId : String} {bmB : List Value} (F : ExcBaseFacts B newId initId bmB) (KF : KxsFacts B initId) (SF : StoreFacts B bmB "object.__setattr__" "object") : BaseF B newId initId bmB where
  made := fun hT hC hi hb hr hq => PySem.HandSPX.call_own F hT hC hi hb hr hq
  sup := fun Fr X N q hm U hz h => kxs_call Fr X N F q hm U hz h
  KF := KF
  SF := SF
structure InitK (P : Program) (K : Frag) (B newId initId : String) (bmB : List Value) (C fI : Addr) (f : Str) : Prop where
  ex : ∃ (oc : Value) (od : Option Addr) (name qual : Str) (params : Arguments) (ae : Expr) (xs xp : Str) (p0 p1 p2 p3 p4 p5 p6 p7 p8 : Pos) (scope : Scope) (dV kV doc pm : Value) (an : Option Addr) (cda : Addr) (ct : Value) (cc : Addr) (osl : Array (Option Value))
      (ccl : Value) (cdd : Option Addr) (vs : Array Value) (ccs : Array (Option Value)) (file : Str) (tf : Tok) (cl : Value) (cld : Option Addr) (csl : Array (Option Value)) (ar : Arg),
    K.lookup fI = some ⟨oc, od, .func (ksFn name qual params (initB ae xs xp f p0 p1 p2 p3 p4 p5 p6 p7 p8) scope dV kV doc pm an (.ref cda) ct cc), osl⟩ ∧ ArgE xp ae ∧ (p2.endLine == p3.line) = true ∧ codeIn K (.ref cda) qual = true ∧
    K.lookup cda = some ⟨ccl, cdd, .fields vs, ccs⟩ ∧ vs[2]? = some (.str file tf) ∧ ((P.main.file : Str) == file) = true ∧ K.lookup cc = some ⟨cl, cld, .cell (some (.ref C)), csl⟩ ∧
    (params.posonlyargs ++ params.args).head? = some ar ∧ ar.arg = xs ∧ (∀ (e u : Value), bindArgs (ksFn name qual params (initB ae xs xp f p0 p1 p2 p3 p4 p5 p6 p7 p8) scope dV kV doc pm an (.ref cda) ct cc) ⟨[e, u], []⟩ = pure [(xs, e), (xp, u)]) ∧
    scope.names.lookup ("super" : Str) = some .globalImplicit ∧ scope.names.lookup ("__class__" : Str) = some .free ∧ scope.names.lookup xs = some .local ∧ scope.names.lookup xp = some .local ∧ xs ≠ xp ∧ (xs == ("__debug__" : Str)) = false ∧ (xp == ("__debug__" : Str)) = false ∧
    (∀ x ∈ scope.names, x.2 ≠ .cell) ∧ scope.isCoroutine = false ∧ scope.isGenerator = false ∧ scope.kind = .function
  sup : nsIn K mainGlobals "super" = some none
  opq : nsIn K cStatics "thirdparty.any" = some none
  htop : (P.main.scope.names.lookup ("super" : Str)).isSome = false
  cd : ∃ cd, clsIn K C = some cd
  cc : mroIn K C (.ref C) = some true
  si : ks_superIn K C C "__init__" = some (some (.builtin initId))
  cB : subIn K (.ref C) (.type B) = some true
  xi : excInitIn K C bmB newId = true
  ov : excOver K C bmB = true
  ini : findIn K (.ref C) "__init__" = some (some (.ref fI))
  tyI : typeIn K (.ref fI) = some (.type "function")
  sa : findIn K (.ref C) "__setattr__" = some (some (.builtin "object.__setattr__"))
  tk : takerIn K C f = some none
  hd : hasDictIn K C = true
  kC : keepIn K (.ref C) = true
  exC : subIn K (.ref C) (.type "BaseException") = some true
  tyC : typeIn K (.ref C) = some (.type "type")
section
variable {prog : Program} {w : World} {A : Around} {E : Value → Shared → Prop} {R : Result → Shared → Prop} {hp : Heap} {g : Array GenState} {d : Drawn} {t : Nat} {os : OsState} {K : Frag} {C x t1 : Addr} {B newId initId : String} {bmB : List Value}
theorem xs_store {name : Str} {v : Value} {Q : Unit → Shared → Prop} (SF : StoreFacts B bmB "object.__setattr__" "object") (X : K.In hp) (hx : hp.get? x = some (excObj C t1 none .none)) (hs : findIn K (.ref C) "__setattr__" = some (some (.builtin "object.__setattr__")))
    (ho : excOver K C bmB = true) (ht : takerIn K C name = some none) (hh : hasDictIn K C = true)
    (h : ∀ h' tk' dx, (∀ b o, b ≠ x → hp.get? b = some o → h'.get? b = some o) → hp.objs.size ≤ dx → dx ≠ x → h'.get? x = some (excObj C t1 (some dx) .none) → h'.Ns1 dx (fun y => if y = name then some v else none) → Q () ⟨h', g, d, tk', os⟩) :
    wpAny (model prog w) A (setAttr (.ref x) name v) Q E ⟨hp, g, d, t, os⟩ := by
  have hxs : x ≠ hp.objs.size := Nat.ne_of_lt (Heap.lt_size hx)
  refine set_plain (od := none) X ⟨hx, rfl, rfl, trivial⟩ hs (osa_openX (od := none) SF X ⟨hx, rfl, rfl, trivial⟩ ho ht fun b => ?_)
  obtain ⟨cd, hc, hd'⟩ := any_some hh
  refine wpAny_bind (wpAny_pure (wpAny_bind (instanceDict_exc (s := ⟨hp, g, d, t + 1, os⟩) hx (looks_clsIn X hc) hd' ?_)))
  have hx1 : (hp.push (dictOf [] 0)).get? x = some (excObj C t1 none .none) := Heap.get?_push_of_some _ hx
  refine HandSPX.store_in_new ?_ fun h' tk' hn' hs' => ?_
  · exact ⟨_, #[], _, (Heap.get?_update_ne _ _ _ _ hxs.symm).trans (Heap.get?_push_at rfl rfl), rfl, fun e he => absurd he (by simp), fun _ => rfl⟩
  · refine h h' tk' hp.objs.size (fun b o hb ho => (hs'.2 b (Nat.ne_of_lt (Heap.lt_size ho))).trans ((Heap.get?_update_ne _ _ _ _ hb).trans (Heap.get?_push_of_some _ ho))) (Nat.le_refl _) hxs.symm ?_ hn'
    exact (hs'.2 x hxs).trans (Heap.get?_update_self _ hx1 rfl)
theorem xs_super {h₀ : Heap} {L : Addr} {m : Str → Option Value} {news : List (Addr × Obj)} {mg mb : Str → Option Value} {s : Shared} {ox : Obj} {odx : Option Obj} {fI cda cc : Addr} {body : List Stmt} {qual : Str} {scope : Scope} {p0 p1 : Pos} {attr : Str} {whole : Sem Value} {fd : FuncData} {ar : Arg} {vs : Array Value} {file : Str} {tf : Tok}
    {oc ccl cl : Value} {od cdd cld : Option Addr} {osl ccs csl : Array (Option Value)} {cdD : ClassData} {Q : Value → Shared → Prop}
    (F : Fr h₀ L s.heap m) (X₀ : K.In h₀) (N : News h₀ L s.heap news) (G : h₀.Ns mainGlobals mg) (Bn : h₀.Ns builtinsNs mb) (bb : ∀ x : Str, x ≠ "__name__" → mb x = bootBuiltins x)
    (hf : K.lookup fI = some ⟨oc, od, .func fd, osl⟩) (hpar : (fd.params.posonlyargs ++ fd.params.args).head? = some ar) (hv : m ar.arg = some (.ref x)) (I : InstAt s.heap x ox C odx)
    (hcode : K.lookup cda = some ⟨ccl, cdd, .fields vs, ccs⟩) (hvs : vs[2]? = some (.str file tf)) (hfile : ((prog.main.file : Str) == file) = true) (hcell : K.lookup cc = some ⟨cl, cld, .cell (some (.ref C)), csl⟩) (hD : clsIn K C = some cdD)
    (hsub : mroIn K C (.ref C) = some true) (hsuper : nsIn K mainGlobals "super" = some none) (hat : (attr == ("__class__" : Str)) = false) (hks : scope.names.lookup ("super" : Str) = some .globalImplicit) (hkc : scope.names.lookup ("__class__" : Str) = some .free)
    (hka : scope.names.lookup ar.arg = some .local) (hk : scope.kind = .function) (htop : (prog.main.scope.names.lookup ("super" : Str)).isSome = false)
    (h : ∀ so h', Fr h₀ L h' m → News h₀ L h' ((so, ks_superObj C x C) :: news) → (∀ p ∈ news, p.1 < so) → Q (.ref so) { s with heap := h' }) :
    _root_.PySem.wpAt (model prog w) A (.func body (ksEnv qual scope L fI (.ref cda) cc)) (attributeBase (.Call (.Name "super" p0) [] [] p1) attr (ksEnv qual scope L fI (.ref cda) cc) whole) Q E s := by
  have X : K.In s.heap := X₀.keeps F.keep
  obtain ⟨hh, g, d, t, os⟩ := s
  obtain ⟨oD, hD1, hD2⟩ : ∃ oD, hh.get? C = some oD ∧ oD.data = .cls cdD := by
    unfold clsIn at hD
    split at hD
    · rename_i c d cd' sl ho; cases hD; exact ⟨_, X _ _ ho, rfl⟩
    · cases hD
  refine ks_wpAt_super_base (env := ksEnv qual scope L fI (.ref cda) cc) hks hkc hat rfl (X _ _ hf) rfl hpar rfl (X _ _ hcode) rfl hvs hfile htop ?_
  refine ks_loadName_global hk hks (loadGlobal_builtin (env := ksEnv qual scope L fI (.ref cda) cc) (G.keeps F.keep) (mg_none_of X₀ G hsuper) (Bn.keeps F.keep) ((bb _ (by decide +kernel)).trans (by first | boot_by_name | rfl | kernel_rfl)) ⟨rfl, ?_⟩)
  refine wpAny_loadName_free hk hkc rfl ⟨_, X _ _ hcell, rfl⟩ (wpAny_loadName_local hk hka F.ns hv (ks_wpAny_isType_cls hD1 hD2 ⟨rfl, ?_⟩))
  refine ks_wpAny_call_super hD1 hD2 I.at_ I.cls (fun c e => ?_) (looks_mroIn X hsub) (fun h' e k => ?_)
  · have := I.no
    unfold notCls at this
    rw [e] at this
    exact Bool.noConfusion this
  · obtain ⟨F', N', l'⟩ := ks_newsPush (s := ⟨hh, g, d, t, os⟩) F N rfl e k
    exact h _ _ F' N' l'
end
section
variable {P : Program} {w : World} {A : Around} {R : Result → Shared → Prop} {hp h1 : Heap} {g : Array GenState} {d : Drawn} {t : Nat} {os : OsState} {K : Frag} {C fI x t0 : Addr} {B newId initId : String} {bmB : List Value} {f : Str} {u : Value}
theorem xs_run (T : InitK P K B newId initId bmB C fI f) (BF : BaseF B newId initId bmB) {mg mb : Str → Option Value} (X₀ : K.In hp) (G : hp.Ns mainGlobals mg) (Bn : hp.Ns builtinsNs mb) (bb : ∀ x : Str, x ≠ "__name__" → mb x = bootBuiltins x) (lim : hp.NoLimit)
    (k1 : ∀ b o, hp.get? b = some o → h1.get? b = some o) (hx : h1.get? x = some (excObj C t0 none .none)) (hxn : hp.get? x = none) (hxs : hp.objs.size ≤ x) (hroom : A.depth < recursionLimit)
    (h : ∀ h' tk' dx t1, (∀ b o, hp.get? b = some o → h'.get? b = some o) → hp.objs.size ≤ dx → dx ≠ x → h'.get? x = some (excObj C t1 (some dx) .none) → h'.Ns1 dx (fun y => if y = f then some u else none) → R (.ok (.ret .none)) ⟨h', g, d, tk', os⟩) :
    codeAny (model P w) A (.call (.ref fI) ⟨[.ref x, u], []⟩) R ⟨h1, g, d, t, os⟩ := by
  obtain ⟨oc, od, name, qual, params, ae, xs, xp, p0, p1, p2, p3, p4, p5, p6, p7, p8, scope, dV, kV, doc, pm, an, cda, ct, cc, osl, ccl, cdd, vs, ccs, file, tf, cl, cld, csl, ar, hf, hae, hpos, hcd, hcode, hvs, hfile, hcell, har, earg, hbind, hks, hkc, hlx, hlp, hne, hdx, hdp, hncell, hco, hgen, hkind⟩ := T.ex
  obtain ⟨cdD, hD⟩ := T.cd
  obtain ⟨sk, sn, sg, sco, sm⟩ := scope
  dsimp only at hks hkc hlx hlp hncell hco hgen hkind
  subst hco hgen hkind
  have hae0 := hae
  rcases hae with ⟨lit, lk, lp, eae⟩ | ⟨np, eae⟩
  all_goals (
    have X1 : K.In h1 := X₀.keeps k1
    refine ks_codeAny_call_defAt (fd := ksFn name qual params (initB ae xs xp f p0 p1 p2 p3 p4 p5 p6 p7 p8) ⟨.function, sn, false, false, sm⟩ dV kV doc pm an (.ref cda) ct cc) (body := initB ae xs xp f p0 p1 p2 p3 p4 p5 p6 p7 p8) (binds := [(xs, .ref x), (xp, u)])
      hroom (X1 _ _ hf) rfl (lim.keeps k1) (codeRec_of X1 hcd) rfl (.of_eq (hbind _ _)) hncell (fun y hy => ?_) (fun h₂ hns hk₂ => ?_) rfl rfl rfl
    · rcases List.mem_cons.mp hy with rfl | hy
      · exact hlx
      · rcases List.mem_cons.mp hy with rfl | hy
        · exact hlp
        · cases hy
    have hL : hp.objs.size ≤ h1.objs.size := Nat.le_trans hxs (Nat.le_of_lt (Heap.lt_size hx))
    have F2 : Fr hp h1.objs.size h₂ (fun y => [(xs, Value.ref x), (xp, u)].reverse.lookup y) := ⟨hns, fun b o e => hk₂ b o (k1 b o e), hL⟩
    have mx : (fun y => [(xs, Value.ref x), (xp, u)].reverse.lookup y) xs = some (Value.ref x) := by
      show List.lookup xs [(xp, u), (xs, Value.ref x)] = _
      have e : (xs == xp) = false := by simpa using hne
      simp [List.lookup, e]
    have mp : (fun y => [(xs, Value.ref x), (xp, u)].reverse.lookup y) xp = some u := by
      show List.lookup xp [(xp, u), (xs, Value.ref x)] = _
      simp [List.lookup]
    have N2 : News hp h1.objs.size h₂ [(x, excObj C t0 none .none)] := fun p hp' => by
      rcases List.mem_cons.mp hp' with rfl | hp'
      · exact ⟨hk₂ _ _ hx, Nat.ne_of_lt (Heap.lt_size hx), hxn⟩
      · cases hp'
    have I2 : InstAt h₂ x (excObj C t0 none .none) C none := ⟨(N2 (x, excObj C t0 none .none) (by simp)).1, rfl, rfl, trivial⟩
    refine ks_wpAt_execs_cons (ks_wpAt_Expr_any (ks_wpAt_MethodCall (xs_super F2 X₀ N2 G Bn bb hf har (by rw [earg]; exact mx) I2 hcode hvs hfile hcell hD T.cc T.sup (by decide) hks hkc (by rw [earg]; exact hlx) rfl T.htop fun so h3 F3 N3 l3 => ?_) (ev_super hpos hae0 _).choose_spec) rfl (by subst eae; rfl))
    have I3 : InstAt h3 x (excObj C t0 none .none) C none := ⟨(N3 (x, excObj C t0 none .none) (by simp)).1, rfl, rfl, trivial⟩
    refine kxs_method (s := ⟨h3, g, d, _, os⟩) BF.KF F3 X₀ N3 (List.mem_cons_self ..) I3 T.opq T.si T.cB (by decide) fun q h4 F4 N4 l4 => ?_
    have key : ∀ (u' : Value) (tk' : Nat) (Q' : Value → Shared → Prop) (E' : Value → Shared → Prop), (∀ h5 tk5, Fr hp h1.objs.size h5 (fun y => [(xs, Value.ref x), (xp, u)].reverse.lookup y) → h5.get? x = some (excObj C h5.objs.size none .none) ∨ (∃ t5, h5.get? x = some (excObj C t5 none .none)) → Q' .none ⟨h5, g, d, tk5, os⟩) →
        wpAny (model P w) (A.deeper (callEnv (ksFn name qual params (initB ae xs xp f p0 p1 p2 p3 p4 p5 p6 p7 p8) ⟨.function, sn, false, false, sm⟩ dV kV doc pm an (.ref cda) ct cc) h1.objs.size fI)) (call (.ref q) [u']) Q' E' ⟨h4, g, d, tk', os⟩ := fun u' tk' Q' E' hq => by
      have c4 : x ≠ so := fun z => by
        have := l3 (x, excObj C t0 none .none) (by simp)
        rw [z] at this
        exact Nat.lt_irrefl _ this
      have c5 : ∀ p ∈ [(so, ks_superObj C x C), (x, excObj C t0 none .none)], p.1 < q := l4
      refine BF.sup (s := ⟨h4, g, d, tk', os⟩) (rest := [u']) (x := x) (t := t0) (dv := none) (c2 := .none) F4 X₀ N4 T.xi (List.mem_cons_self ..)
        (UpdF.tail (fun z => ?_) (UpdF.tail (fun z => c4 z.symm) (UpdF.head (fun _ z => nomatch z)))) (by show 1 ≤ sizeLine; rw [sizeLine_eq]; omega) fun t5 h5 F5 N5 _ => hq h5 _ F5 (.inr ⟨t5, (N5 (x, excObj C t5 none .none) (by simp)).1⟩)
      have := c5 (x, excObj C t0 none .none) (by simp)
      rw [← show q = x from z] at this
      exact Nat.lt_irrefl _ this
    refine kxs_callWith1 (i := initId) (x := x) N4 (List.mem_cons_self ..) (spliced_more ?_ (by subst eae; rfl)) (by subst eae; rfl) (by rfl)
    subst eae
    first
      | refine wpAny_Constant_str (spliced_none ⟨(N4 (q, kxs_mw initId x) (List.mem_cons_self ..)).1, key _ _ _ _ fun h5 tk5 F5 e5 => ?_⟩)
      | refine wpAny_Name (wpAny_loadName_local rfl hlp F4.ns mp (spliced_none ⟨(N4 (q, kxs_mw initId x) (List.mem_cons_self ..)).1, key _ _ _ _ fun h5 tk5 F5 e5 => ?_⟩)) hdp
    obtain ⟨t5, e5⟩ : ∃ t5, h5.get? x = some (excObj C t5 none .none) := e5.elim (fun z => ⟨_, z⟩) id
    refine ks_wpAt_execs_cons (wpAt_of_wpAny (plainObj_wpAny_Assign_Attribute (wpAny_Name (wpAny_loadName_local rfl hlp F5.ns mp (wpAny_Name (wpAny_loadName_local rfl hlx F5.ns mx ?_) hdx)) hdp)))
    refine xs_store BF.SF (X₀.keeps F5.keep) e5 T.sa T.ov T.tk T.hd fun h6 tk6 dx kp lt ne ex en => wpAt_of_wpAny (wpAny_execs_nil ?_)
    refine h h6 tk6 dx t5 (fun b o e => kp b o (fun z => ?_) (F5.keep b o e)) ?_ ne ex en
    · rw [z, hxn] at e
      cases e
    · exact Nat.le_trans hxs (Nat.le_trans (Nat.le_of_lt (Heap.lt_size e5)) lt))
end
end Pu
namespace Pu
open PySem L2 PySem.Spec PyProof.Rows Pw
section
variable {X : Cx} {B newId initId : String} {bmB : List Value} {x f : Str} {C fI : Addr} {p pos : Pos} {e : Expr} {es : List Expr} {ta : TA}
def tMkX (C : Addr) (f : Str) (ta : TA) : L2.St → Hp → XK → Prop := fun σ H Q => ta σ H fun vs H1 => ∃ v, vs = [v] ∧ ∀ d, H1 d = none → Q (.ref C) (some d) (upd H1 d (.xd [(f, v)]))
theorem pmk_x {k : Nat} (T : InitK X.prog X.K B newId initId bmB C fI f) (BF : BaseF B newId initId bmB) (hr : Room (k + 1) X.A) (hg : Gl X x) (hm : X.mg x = some (.ref C)) (ha : PA X (e :: es) ta)
    (hdb : (x == ("__debug__" : Str)) = false := by decide) (he : starEach (e :: es) X.env = (false, eval e X.env) :: starEach es X.env := by rfl) (hpl : (backTo pos (starEach es X.env)).any (·.1) = false := by rfl) :
    PMk X (.Call (.Name x p) (e :: es) [] pos) (tMkX C f ta) := by
  intro pins s σ H Q I h
  refine wpAny_Call_Name_kw (ld_glob I hg hm ?_ hdb)
  refine PySem.W.callWith_K (h₀ := X.base) I.ok.mod.kin T.kC (thn (ha.run pos pins s σ H _ I h) fun us s1 ⟨vs, H1, I1, r1, v, ev, q1⟩ => ⟨I1.kIn, ?_⟩) he hpl
  subst ev
  obtain ⟨u, rfl, ru⟩ := vals1 r1
  show wpAny _ _ (call (.ref C) [u]) _ _ _
  obtain ⟨hp, g, dr, tk, os⟩ := s1
  obtain ⟨nm, N, qn, bs, bm, hdct, sn, sub, ab, col, dd, k0, k1, k2, k3, k5, hC, hT⟩ := PySem.W.excInit_of I1.kIn T.xi
  obtain ⟨mb, hb1, hb2⟩ := I1.ok.mod.blt
  have hsz : hp.objs.size ≤ hp.objs.size + 1 := Nat.le_succ _
  have hn : hp.get? (hp.objs.size + 1) = none := by
    cases z : hp.get? (hp.objs.size + 1) with
    | none => rfl
    | some o => exact absurd (Heap.lt_size z) (Nat.not_lt.mpr (Nat.le_succ _))
  have kk : ∀ b o, hp.get? b = some o → ((hp.push (PySem.W.kdv_tup [u])).push (PySem.HandSPX.excO C hp.objs.size)).get? b = some o := fun b o e => Heap.get?_push_of_some _ (Heap.get?_push_of_some _ e)
  have hget : ((hp.push (PySem.W.kdv_tup [u])).push (PySem.HandSPX.excO C hp.objs.size)).get? (hp.objs.size + 1) = some (PySem.HandSPX.excO C hp.objs.size) := by heap_get
  refine wpAny_call (BF.made hT hC (PySem.W.looks_findIn I1.kIn T.ini) (fun self => PySem.W.bind_fn I1.kIn self T.tyI) (by show 1 ≤ sizeLine; rw [sizeLine_eq]; omega)
    (xs_run (t0 := hp.objs.size) T BF I1.kIn (I1.ok.mod.glob.keeps I1.bk) (hb1.keeps I1.bk) hb2 (I1.ok.mod.nolimit.keeps I1.bk) kk hget hn hsz (hr.make C [u] []).depth fun h' tk' dx t1 k4 lt ne ex en => ?_))
  refine ⟨rfl, ?_⟩
  have hdx : H1 dx = none := I1.hok.fresh lt
  have ha0 : H1 (hp.objs.size + 1) = none := I1.hok.fresh hsz
  obtain ⟨Gh, g1, g2⟩ := restrict h' fun b => decide (b ≠ hp.objs.size + 1)
  have gk : ∀ b, b ≠ hp.objs.size + 1 → Gh.get? b = h'.get? b := fun b hb => g1 b (decide_eq_true hb)
  have ge : Gh.get? (hp.objs.size + 1) = none := g2 _ (by simp)
  have J : Inv X pins σ (upd H1 dx (.xd [(f, v)])) ⟨Gh, g, dr, tk', os⟩ := I1.laid (t' := tk') (a := dx) (o := .xd [(f, v)]) (h' := Gh)
    (fun b o z => (gk b (fun q => by rw [q, hn] at z; cases z)).trans (k4 b o z)) lt ⟨_, en.at fun o y => (gk dx ne).trans y, relO_put (fs := []) ru fun _ => True.intro⟩
  refine ⟨hp.objs.size + 1, _, _, ⟨Gh, g, dr, tk', os⟩, _, .ref C, some dx, rfl, J, fun b o z => ?_, ge, ex, ⟨rfl, rfl⟩, rfl, rfl, ?_, rfl, I1.bare, raises_own T.exC T.tyC, q1 dx hdx⟩
  · by_cases hb : b = hp.objs.size + 1
    · rw [hb, ge] at z
      cases z
    · exact (gk b hb).symm.trans z
  · rw [upd_ne (Ne.symm ne)]
    exact ha0
end
end Pu
namespace Pu
open PySem PySem.W PySem.Calls PyProof.Rows L2
structure XTx (st : Stmt) (f : Str) : Prop where
  ex : ∃ (ae : Expr) (xs xp : Str) (p0 p1 p2 p3 p4 p5 p6 p7 p8 : Pos) (ar : Arg), defBody st = initB ae xs xp f p0 p1 p2 p3 p4 p5 p6 p7 p8 ∧ ArgE xp ae ∧ (p2.endLine == p3.line) = true ∧
    ((defArgs st).posonlyargs ++ (defArgs st).args).head? = some ar ∧ ar.arg = xs ∧ (∀ (name qual : Str) (kV doc pm : Value) (an : Option Addr) (cdv ct : Value) (cc : Addr) (e u : Value), bindArgs (ksFn name qual (defArgs st) (defBody st) (defScope st) .none kV doc pm an cdv ct cc) ⟨[e, u], []⟩ = pure [(xs, e), (xp, u)]) ∧
    (defScope st).names.lookup ("super" : Str) = some .globalImplicit ∧ (defScope st).names.lookup ("__class__" : Str) = some .free ∧ (defScope st).names.lookup xs = some .local ∧ (defScope st).names.lookup xp = some .local ∧ xs ≠ xp ∧ (xs == ("__debug__" : Str)) = false ∧ (xp == ("__debug__" : Str)) = false ∧
    (∀ x ∈ (defScope st).names, x.2 ≠ .cell) ∧ (defScope st).isCoroutine = false ∧ (defScope st).isGenerator = false ∧ (defScope st).kind = .function
theorem mk_init {P : Program} {K : Frag} {B newId initId : String} {bmB : List Value} {C fI cda cc : Addr} {f : Str} {st : Stmt} {oc cl ccl kV doc pm ct : Value} {od an cdd cld : Option Addr} {name qual file : Str} {tf : Tok} {vs : Array Value} {osl ccs csl : Array (Option Value)} {cd : ClassData} (Tx : XTx st f)
    (lk : K.lookup fI = some ⟨oc, od, .func (ksFn name qual (defArgs st) (defBody st) (defScope st) .none kV doc pm an (.ref cda) ct cc), osl⟩) (hcd : codeIn K (.ref cda) qual = true) (hcode : K.lookup cda = some ⟨ccl, cdd, .fields vs, ccs⟩) (hvs : vs[2]? = some (.str file tf)) (hfile : ((P.main.file : Str) == file) = true)
    (hcell : K.lookup cc = some ⟨cl, cld, .cell (some (.ref C)), csl⟩) (sup : nsIn K mainGlobals "super" = some none) (opq : nsIn K cStatics "thirdparty.any" = some none) (htop : (P.main.scope.names.lookup ("super" : Str)).isSome = false) (hc : clsIn K C = some cd) (hcc : mroIn K C (.ref C) = some true)
    (si : ks_superIn K C C "__init__" = some (some (.builtin initId))) (cB : subIn K (.ref C) (.type B) = some true) (xi : excInitIn K C bmB newId = true) (ov : excOver K C bmB = true) (ini : findIn K (.ref C) "__init__" = some (some (.ref fI))) (tyI : typeIn K (.ref fI) = some (.type "function"))
    (sa : findIn K (.ref C) "__setattr__" = some (some (.builtin "object.__setattr__"))) (tk : takerIn K C f = some none) (hd : hasDictIn K C = true) (kC : keepIn K (.ref C) = true) (exC : subIn K (.ref C) (.type "BaseException") = some true) (tyC : typeIn K (.ref C) = some (.type "type")) : InitK P K B newId initId bmB C fI f := by
  obtain ⟨ae, xs, xp, p0, p1, p2, p3, p4, p5, p6, p7, p8, ar, hb, h1, h2, h3, h4, h5, h6⟩ := Tx.ex
  have lk' := lk
  have h5' := h5
  rw [hb] at lk' h5'
  exact ⟨⟨oc, od, name, qual, defArgs st, ae, xs, xp, p0, p1, p2, p3, p4, p5, p6, p7, p8, defScope st, .none, kV, doc, pm, an, cda, ct, cc, osl, ccl, cdd, vs, ccs, file, tf, cl, cld, csl, ar, lk', h1, h2, hcd, hcode, hvs, hfile, hcell, h3, h4, h5' _ _ _ _ _ _ _ _ _, h6⟩,
    sup, opq, htop, ⟨cd, hc⟩, hcc, si, cB, xi, ov, ini, tyI, sa, tk, hd, kC, exC, tyC⟩
end Pu
namespace Pu
open PySem L2 PySem.Spec PyProof.Rows Pw
section
variable {K : PySem.W.Frag} {T : Tx K} {M M1 Mn Mt : List Md} {X : Cx} {e : Expr} {fa : Env → R D} {pos : Pos}
theorem s_raiseX {k : Nat} {B newId initId : String} {bmB : List Value} {c : String} {x f : Str} {C fI : Addr} {p1 p2 : Pos} (hK : X.K = K) (TI : InitK X.prog K B newId initId bmB C fI f) (BF : BaseF B newId initId bmB) (hxa : T.xa c = some C) (hr : RoomG (k + 1) X.A) (hcm : X.calm = true) (hg : Gl X x) (hm : X.mg x = some (.ref C)) (tk : Takes X T.W)
    (he : PE X e (lE (T.ex M) fa)) (wx : Wk M T.Mx) (hdb : (x == ("__debug__" : Str)) = false := by decide) (hs : starEach [e] X.env = [(false, eval e X.env)] := by rfl) : PS X (.Raise (some (.Call (.Name x p1) [e] [] p2)) none pos) (lS T M Mn (sRaise c f fa)) := by
  subst hK
  refine PS.of (ps_raise hcm tk (pmk_x TI BF hr.toRoom hg hm (pa_cons he pa_nil hs) hdb hs)) fun E σ H ⟨B, O, Fs, ρ, w, run⟩ => ?_
  refine ⟨B, O, Fs, ρ, w, run.bindE wx (fun d ρ1 v O1 Fs1 H1 _ ev w1 r1 run1 => ⟨v, rfl, fun dx nd => ?_⟩) (fxOk_refl M)⟩
  have sm : Same H1 (upd H1 dx (.xd [(f, v)])) := same_new nd
  obtain ⟨O2, Fs2, w2, l⟩ := (w1.same sm).wk wx
  exact run1 (.ref C) (some dx) O2 Fs2 _ σ ((Ev.same sm).toS.less l) w2 ⟨C, hxa, rfl, dx, [(f, v)], rfl, fun z => Al.no w1.al nd (l.o dx z), upd_same, .cons ((r1.keep (Kept.same sm)).anti l.o) .nil⟩
theorem Wd.setNa {G : Gx K} {B O : Addr → Prop} {Fs : List (List Addr)} {H : Hp} {σ : L2.St} {ρ : Env} {M : List Md} {i : Nat} (w : Wd G B O Fs H σ ρ M) (hm : M[i]? = some .na) (v : Option V) : Wd G B O Fs H (σ.set i v) ρ M :=
  ⟨w.nd, w.sub, w.bo, w.al, by rw [List.length_set]; exact w.ls, w.lr, w.lf, fun j m v' d f e1 e2 e3 e4 => by
    by_cases e : j = i
    · subst e
      rw [hm] at e1
      cases e1
      have hi : j < σ.length := by rw [w.ls]; exact (List.getElem?_eq_some_iff.mp hm).1
      have q : SlOk G B O Fs.flatten H .na σ[j] d f := w.sl j .na _ d f hm (List.getElem?_eq_getElem hi) e3 e4
      exact (show f = [] from q)
    · rw [List.getElem?_set_ne (Ne.symm e)] at e2
      exact w.sl j m v' d f e1 e2 e3 e4⟩
theorem EvS.setNa {M : List Md} {O O' : Addr → Prop} {Fs Fs' : List (List Addr)} {H H' : Hp} {σ σ' : L2.St} {ρ ρ' : Env} {i : Nat} (ev : EvS M O Fs H σ ρ O' Fs' H' σ' ρ') (hm : M[i]? = some .na) (v : Option V) : EvS M O Fs H σ ρ O' Fs' H' (σ'.set i v) ρ' :=
  ⟨ev.chg, ev.dom, ev.grow, ev.fgrow, fun j m e1 e2 => by
    have : j ≠ i := fun z => by
      subst z
      rw [hm] at e1
      cases e1
      cases e2
    rw [List.getElem?_set_ne (Ne.symm this)]
    exact ev.sig j m e1 e2, ev.keep⟩
def sTryAs (ok : String → Bool) (gb : Env → RS) (gx : Exn → Env → RS) : Env → RS := fun ρ => match gb ρ with
  | .ex x ρ1 => if ok x.c then gx x ρ1 else .ex x ρ1
  | r => r
def lSX (T : Tx K) (M Mn : List Md) (i : Nat) (a : Addr) (cls : Value) (d : Option Addr) (g : Exn → Env → RS) : TS := fun E σ H => ∃ B O Fs ρ x, Wd T.G B O Fs H σ ρ M ∧ σ[i]? = some (some (.ref a)) ∧ XRep T.G T.xa O H cls d x ∧ RunS T M Mn (g x ρ) B O Fs H σ ρ E
theorem s_tryAs {x n : Str} {C : Addr} {i : Nat} {ok : String → Bool} {body suite : List Stmt} {b₀ : Stmt} {np pos' : Pos} {gb : Env → RS} {gx : Exn → Env → RS} (hK : X.K = K) (hs : X.stack = X.env :: X.outer) (hf : X.env.frame = some X.env.locals) (hN : X.N.Nodup) (hi : X.N[i]? = some n) (hln : X.env.kindOf n = some .local) (hc : Names X x (.ref C)) (tk : Takes X T.W)
    (hok : ∀ n D, T.xa n = some D → PySem.W.exmOne K (.ref D) (.ref C) = some (ok n))
    (hb : ∀ (W : WX) (pn : List (Addr × Obj)) (xe : Value → Shared → Prop), Takes (X.tr pn xe) W → PassesOwn (model X.prog X.w) X.A X.env xe → PSs (X.tr pn xe) body (lS { T with W := W, Mx := Mt } M Mn gb))
    (hsu : ∀ (a : Addr) (oe : Obj) (cls : Value) (d : Option Addr) (pn : List (Addr × Obj)), Zc cls d oe → (∃ vs, oe.data = .fields vs) → PSs (X.suite a ((a, oe) :: pn)) (b₀ :: suite) (lSX T Mt Mn i a cls d gx)) (wx : Wk Mt T.Mx)
    (h0 : M[i]? = some .na) (h1 : Mt[i]? = some .na) (h2 : Mn[i]? = some .na) (h3 : T.Mb = [] ∨ T.Mb[i]? = some .na) (fx : fxOk M Mt = true := by rfl) :
    PS X (.Try body [.ExceptHandler (some (.Name x np)) (some n) (b₀ :: suite) pos'] [] [] pos) (lS T M Mn (sTryAs ok gb gx)) := by
  subst hK
  refine PS.of (ps_try_as (Wout := T.W) (i := i) (ts := fun a cls d => lSX T Mt Mn i a cls d gx) hs hf hN hi hln hc tk hb fun a oe cls d pn hz hv => hsu a oe cls d pn hz hv) fun E σ H ⟨B, O, Fs, ρ, w, run⟩ => ?_
  refine ⟨B, O, Fs, ρ, w, ?_⟩
  unfold sTryAs at run
  cases h : gb ρ with
  | ex x1 ρ1 =>
    rw [h] at run
    dsimp only at run
    intro cls dd O1 Fs1 H1 σ1 ev wd xr
    obtain ⟨D, hD, hcls, q⟩ := id xr
    subst hcls
    refine ⟨ok x1.c, hok _ _ hD, fun hy a ha => ?_, fun hn => ?_⟩
    · rw [if_pos hy] at run
      have li : i < σ1.length := by rw [wd.ls]; exact (List.getElem?_eq_some_iff.mp h1).1
      refine ⟨B, O1, Fs1, ρ1, x1, wd.setNa h1 _, List.getElem?_set_self li, xr, ?_⟩
      have run1 := RunS.shift run fx (ev.setNa h0 (some (.ref a)))
      cases e : gx x1 ρ1 with
      | nx ρ' => rw [e] at run1; exact fun O' Fs' H' σ' e2 w2 => run1 O' Fs' H' _ (e2.setNa h1 none) (w2.setNa h2 none)
      | rt d ρ' => rw [e] at run1; exact run1
      | bk ρ' =>
        rw [e] at run1
        intro O' Fs' H' σ' e2 w2
        refine run1 O' Fs' H' _ (e2.setNa h1 none) ?_
        rcases h3 with h3 | h3
        · have e3 := w2.ls
          rw [h3] at e3
          have : σ' = [] := List.eq_nil_of_length_eq_zero e3
          rw [this] at w2 ⊢
          exact w2
        · exact w2.setNa h3 none
      | ct ρ' =>
        rw [e] at run1
        intro O' Fs' H' σ' e2 w2
        refine run1 O' Fs' H' _ (e2.setNa h1 none) ?_
        rcases h3 with h3 | h3
        · have e3 := w2.ls
          rw [h3] at e3
          have : σ' = [] := List.eq_nil_of_length_eq_zero e3
          rw [this] at w2 ⊢
          exact w2
        · exact w2.setNa h3 none
      | ex x ρ' => rw [e] at run1; exact run1
      | bad => rw [e] at run1; exact run1
    · rw [if_neg (by rw [hn]; decide)] at run
      obtain ⟨O2, Fs2, w2, l⟩ := wd.wk wx
      exact run (.ref D) dd O2 Fs2 H1 σ1 (ev.less l) w2 (xr.anti l.o)
  | nx ρ1 => rw [h] at run; exact run
  | rt d ρ1 => rw [h] at run; exact run
  | bk ρ1 => rw [h] at run; exact run
  | ct ρ1 => rw [h] at run; exact run
  | bad => rw [h] at run; exact run
theorem x_one {i : Nat} {a : Addr} {cls : Value} {d : Option Addr} {st : Stmt} {g : Exn → Env → RS} (h : PS X st (lSX T M Mn i a cls d g)) : PSs X [st] (lSX T M Mn i a cls d g) := pss_one h
end
end Pu
namespace Pu
open PySem PySem.W PySem.Calls PyProof.Rows L2
abbrev bmVE : List Value := [.type "ValueError", .type "Exception", .type "BaseException", .type "object"]
theorem bf_VE : BaseF "ValueError" "ValueError.__new__" "ValueError.__init__" bmVE := .of F.excBase_ValueError kxs_ValueError F.store_ValueError
structure ExC (K : Frag) (C : Addr) : Prop where
  b : subIn K (.ref C) (.type "BaseException") = some true
  d : hasDictIn K C = true
  t : typeIn K (.ref C) = some (.type "type")
theorem ExC.exm {K : Frag} {C D : Addr} {b : Bool} (h : ExC K C) (s : subIn K (.ref D) (.ref C) = some b) : exmOne K (.ref D) (.ref C) = some b := exm_ref h.b h.d h.t s
end Pu
namespace Pu
open PySem L2 PySem.Spec PyProof.Rows Pw
def lamMd : Md → Md
  | .ow .tab => .sh
  | .op .tab => .sh
  | .ow _ => .hd
  | .op _ => .hd
  | .br => .hd
  | .th _ _ _ _ => .hd
  | .mb => .hd
  | m => m
section
variable {K : PySem.W.Frag} {G : Gx K} {B O O' : Addr → Prop} {Fs Fs' : List (List Addr)} {H H' : Hp} {σ : L2.St} {ρ ρ' : Env} {M : List Md}
def shL : L2.St → Env → List Md → List (V × D)
  | some v :: σ, some d :: ρ, .sh :: M => (v, d) :: shL σ ρ M
  | _ :: σ, _ :: ρ, _ :: M => shL σ ρ M
  | _, _, _ => []
theorem shL_mem : ∀ {σ : L2.St} {ρ : Env} {M : List Md} {i : Nat} {v : V} {d : D}, M[i]? = some .sh → σ[i]? = some (some v) → ρ[i]? = some (some d) → (v, d) ∈ shL σ ρ M
  | [], _, _, _, _, _, _, e, _ => by simp at e
  | _ :: _, [], _, _, _, _, _, _, e => by simp at e
  | _ :: _, _ :: _, [], _, _, _, e, _, _ => by simp at e
  | x :: σ, y :: ρ, m :: M, 0, v, d, e1, e2, e3 => by
    cases e1; cases e2; cases e3
    exact List.mem_cons_self ..
  | x :: σ, y :: ρ, m :: M, i + 1, v, d, e1, e2, e3 => by
    have ih := shL_mem (σ := σ) (ρ := ρ) (M := M) (i := i) (by simpa using e1) (by simpa using e2) (by simpa using e3)
    unfold shL
    split
    · rename_i a b c
      cases a; cases b; cases c
      exact List.mem_cons_of_mem _ ih
    · rename_i a b c
      cases a; cases b; cases c
      exact ih
    · rename_i n
      exact (n _ _ _ _ _ _ rfl rfl rfl).elim
theorem Wd.view (w : Wd G O O (Fs.map fun _ => []) H σ ρ (M.map lamMd)) (al : ∀ a, O' a → ∃ o : NTO, H' a = some o.1) (h : ∀ p ∈ shL σ ρ (M.map lamMd), Rep G O' H' p.1 p.2) : Wd G O' O' (Fs.map fun _ => []) H' σ ρ (M.map lamMd) := by
  refine ⟨w.nd, fun a ha => (by rw [nils_flat] at ha; cases ha), fun _ h => h, al, w.ls, w.lr, w.lf, fun i m v d f e1 e2 e3 e4 => ?_⟩
  have sl := w.sl i m v d f e1 e2 e3 e4
  have em := e1
  rw [List.getElem?_map] at em
  obtain ⟨m0, h0, rfl⟩ := Option.map_eq_some_iff.mp em
  have ff : f = [] := by
    rw [List.getElem?_map] at e4
    obtain ⟨f0, hf, rfl⟩ := Option.map_eq_some_iff.mp e4
    rfl
  have key : lamMd m0 = .sh → SlOk G O' O' (Fs.map fun _ => ([] : List Addr)).flatten H' (lamMd m0) v d f := fun z => by
    rw [z] at sl e1 ⊢
    obtain ⟨_, v', d', q1, q2, _⟩ := sl
    subst q1 q2
    exact ⟨ff, v', d', rfl, rfl, h _ (shL_mem e1 e2 e3)⟩
  cases m0 with
  | sh => exact key rfl
  | ow t => cases t <;> first | exact key rfl | exact ff
  | op t => cases t <;> first | exact key rfl | exact ff
  | _ => exact ff
end
end Pu
namespace Pu
open PySem L2
section
variable {ρ ρ1 ρ2 ρ3 : Env} {a b c d e : D} {ds es : List D} {fa fb fc f : Env → R D} {fs gs : Env → R (List D)} {k j : Bool} {t t2 : Env → R Bool}
theorem ev_V {i : Nat} (h : ρ[i]? = some (some d)) : sV i ρ = .ok d ρ := by unfold sV; rw [h]
theorem ev_Op {g : D → D → Option D} (ha : fa ρ = .ok a ρ1) (hb : fb ρ1 = .ok b ρ2) (hg : g a b = some d) : sOp g fa fb ρ = .ok d ρ2 := by
  unfold sOp; rw [ha]; show (fb ρ1).bind _ = _; rw [hb]; show R.of _ _ = _; rw [hg]; rfl
theorem ev_Un {g : D → Option D} (ha : fa ρ = .ok a ρ1) (hg : g a = some d) : sUn g fa ρ = .ok d ρ1 := by
  unfold sUn; rw [ha]; show R.of _ _ = _; rw [hg]; rfl
theorem ev_As {g : List D → Option D} (ha : fs ρ = .ok ds ρ1) (hg : g ds = some d) : sAs g fs ρ = .ok d ρ1 := by
  unfold sAs; rw [ha]; show R.of _ _ = _; rw [hg]; rfl
theorem ev_Nil : sNil ρ = .ok [] ρ := rfl
theorem ev_Cons (ha : fa ρ = .ok a ρ1) (hb : fs ρ1 = .ok ds ρ2) : sCons fa fs ρ = .ok (a :: ds) ρ2 := by
  unfold sCons; rw [ha]; show (fs ρ1).bind _ = _; rw [hb]; rfl
theorem ev_Call {g : List D → RF} {os : List D} (ha : fs ρ = .ok ds ρ1) (hg : g ds = .ok d os) : sCall g fs ρ = .ok d ρ1 := by
  unfold sCall; rw [ha]; show (g ds).toR ρ1 = _; rw [hg]; rfl
theorem ev_CallO {g : List D → RF} {i : Nat} {d' : D} {os : List D} (ha : fs ρ = .ok ds ρ1) (hi : ρ1[i]? = some (some a)) (hg : g (a :: ds) = .ok d (d' :: os)) : sCallO i g fs ρ = .ok d (ρ1.set i (some d')) := by
  unfold sCallO; rw [ha]; show callO i g ds ρ1 = _; unfold callO; rw [hi]; dsimp only; rw [hg]; rfl
theorem ev_B (ha : fa ρ = .ok (.bl k) ρ1) : sB fa ρ = .ok k ρ1 := by
  unfold sB; rw [ha]; rfl
theorem ev_AndF (h : t ρ = .ok false ρ1) : sAnd t t2 ρ = .ok false ρ1 := by unfold sAnd; rw [h]; rfl
theorem ev_AndT (h : t ρ = .ok true ρ1) (h2 : t2 ρ1 = .ok k ρ2) : sAnd t t2 ρ = .ok k ρ2 := by unfold sAnd; rw [h]; exact h2
theorem ev_OrT (h : t ρ = .ok true ρ1) : sOr t t2 ρ = .ok true ρ1 := by unfold sOr; rw [h]; rfl
theorem ev_OrF (h : t ρ = .ok false ρ1) (h2 : t2 ρ1 = .ok k ρ2) : sOr t t2 ρ = .ok k ρ2 := by unfold sOr; rw [h]; exact h2
theorem ev_IfT (h : t ρ = .ok true ρ1) (h2 : fa ρ1 = .ok d ρ2) : sIf t fa fb ρ = .ok d ρ2 := by unfold sIf; rw [h]; exact h2
theorem ev_IfF (h : t ρ = .ok false ρ1) (h2 : fb ρ1 = .ok d ρ2) : sIf t fa fb ρ = .ok d ρ2 := by unfold sIf; rw [h]; exact h2
theorem ev_It {g : D → Option (List D)} (ha : fa ρ = .ok a ρ1) (hg : g a = some ds) : sIt g fa ρ = .ok ds ρ1 := by
  unfold sIt; rw [ha]; show R.of _ _ = _; rw [hg]; rfl
theorem ev_ItA {g : List D → Option (List D)} (ha : fs ρ = .ok es ρ1) (hg : g es = some ds) : sItA g fs ρ = .ok ds ρ1 := by
  unfold sItA; rw [ha]; show R.of _ _ = _; rw [hg]; rfl
theorem ev_Make {g : List D → RF} {cn : String} {dd : List D} {os : List D} (ha : fs ρ = .ok ds ρ1) (hg : g (.obj cn [] :: (ds ++ dd)) = .ok .non (d :: os)) : sMake cn dd g fs ρ = .ok d ρ1 := by
  unfold sMake; rw [ha]; show RF.toNew _ _ = _; rw [hg]; rfl
/- statements -/
variable {g g2 g3 : Env → RS} {r : RS}
theorem st_Seq (h : g ρ = .nx ρ1) (h2 : g2 ρ1 = r) : sSeq g g2 ρ = r := by unfold sSeq; rw [h]; exact h2
theorem st_Set {i : Nat} (h : f ρ = .ok d ρ1) : sSet i f ρ = .nx (ρ1.set i (some d)) := by unfold sSet; rw [h]; rfl
theorem st_Do (h : f ρ = .ok d ρ1) : sDo f ρ = .nx ρ1 := by unfold sDo; rw [h]; rfl
theorem st_Ret (h : f ρ = .ok d ρ1) : sRet f ρ = .rt d ρ1 := by unfold sRet; rw [h]; rfl
theorem st_IfT (h : t ρ = .ok true ρ1) (h2 : g ρ1 = r) : sIfS t g g2 ρ = r := by unfold sIfS; rw [h]; exact h2
theorem st_IfF (h : t ρ = .ok false ρ1) (h2 : g2 ρ1 = r) : sIfS t g g2 ρ = r := by unfold sIfS; rw [h]; exact h2
theorem st_pass (h : t ρ = .ok false ρ1) (h2 : g2 ρ1 = r) : sSeq (sIfS t g sNx) g2 ρ = r := by unfold sSeq sIfS; rw [h]; exact h2
theorem st_Par {i j : Nat} (h : fa ρ = .ok a ρ1) (h2 : fb ρ1 = .ok b ρ2) : sPar i j fa fb ρ = .nx ((ρ2.set i (some a)).set j (some b)) := by unfold sPar; rw [h]; show (fb ρ1).bindS _ = _; rw [h2]; rfl
theorem st_For {tg : D → Env → Option Env} (h : fs ρ = .ok ds ρ1) (h2 : sFor tg g ds ρ1 = r) : sForS fs tg g ρ = r := by unfold sForS; rw [h]; exact h2
theorem df_rt {pm : List Md} {n : Nat} (h : g (ds.map some ++ List.replicate n none) = .rt d ρ) : defF pm n g ds = .ok d (outs pm ds ρ) := by unfold defF; rw [h]
theorem df_nx {pm : List Md} {n : Nat} (h : g (ds.map some ++ List.replicate n none) = .nx ρ) : defF pm n g ds = .ok .non (outs pm ds ρ) := by unfold defF; rw [h]
end
theorem for_fold {σ : Type} {tg : D → Env → Option Env} {g : Env → RS} (E : σ → Env) (F : σ → D → σ) : ∀ (xs : List D) (s : σ) (_ : ∀ x ∈ xs, ∀ s, ∃ ρ1, tg x (E s) = some ρ1 ∧ (g ρ1 = .nx (E (F s x)) ∨ g ρ1 = .ct (E (F s x)))), sFor tg g xs (E s) = .nx (E (xs.foldl F s))
  | [], s, _ => rfl
  | x :: xs, s, h => by
    obtain ⟨ρ1, h1, h2⟩ := h x (List.mem_cons_self ..) s
    unfold sFor
    rw [h1]
    show (g ρ1).loop _ = _
    have := for_fold E F xs (F s x) fun y hy => h y (List.mem_cons_of_mem _ hy)
    rcases h2 with h2 | h2
    · rw [h2]; exact this
    · rw [h2]; exact this
theorem for_inv {tg : D → Env → Option Env} {g : Env → RS} {I : List D → Env → Prop} : ∀ (xs pre : List D) (ρ : Env) (_ : I pre ρ) (_ : ∀ p x q ρ, pre ++ xs = p ++ x :: q → I p ρ → ∃ ρ1, tg x ρ = some ρ1 ∧ ∃ ρ2, (g ρ1 = .nx ρ2 ∨ g ρ1 = .ct ρ2) ∧ I (p ++ [x]) ρ2), ∃ ρ', sFor tg g xs ρ = .nx ρ' ∧ I (pre ++ xs) ρ'
  | [], pre, ρ, h0, _ => ⟨ρ, rfl, by rw [List.append_nil]; exact h0⟩
  | x :: xs, pre, ρ, h0, h => by
    obtain ⟨ρ1, h1, ρ2, h2, h3⟩ := h pre x xs ρ rfl h0
    obtain ⟨ρ', e, hI⟩ := for_inv xs (pre ++ [x]) ρ2 h3 fun p y q ρ hpq => h p y q ρ (by rw [← hpq, List.append_assoc]; rfl)
    refine ⟨ρ', ?_, by rw [List.append_assoc] at hI; exact hI⟩
    unfold sFor
    rw [h1]
    show (g ρ1).loop _ = _
    rcases h2 with h2 | h2
    · rw [h2]; exact e
    · rw [h2]; exact e
theorem lc_map {tg : D → Env → Option Env} {tt : Env → R Bool} {te : Env → R D} {vs : List Nat} {ρ0 : Env} (c : D → Bool) (h : D → D) : ∀ (xs : List D) (_ : ∀ x ∈ xs, ∃ ρ1 ρ2, tg x ρ0 = some ρ1 ∧ tt ρ1 = .ok (c x) ρ2 ∧ wipeE ρ2 vs = ρ0 ∧ (c x = true → ∃ ρ3, te ρ2 = .ok (h x) ρ3 ∧ wipeE ρ3 vs = ρ0)),
    lcL tg tt te vs xs ρ0 = .ok ((xs.filter c).map h) ρ0
  | [], _ => rfl
  | x :: xs, H => by
    obtain ⟨ρ1, ρ2, h1, h2, h3, h4⟩ := H x (List.mem_cons_self ..)
    have ih := lc_map c h xs fun y hy => H y (List.mem_cons_of_mem _ hy)
    unfold lcL
    rw [h1]
    dsimp only
    rw [h2]
    cases hc : c x with
    | false =>
      rw [List.filter_cons_of_neg (by rw [hc]; decide)]
      show lcL tg tt te vs xs (wipeE ρ2 vs) = _
      rw [h3, ih]
    | true =>
      obtain ⟨ρ3, h5, h6⟩ := h4 hc
      rw [List.filter_cons_of_pos hc]
      show ((te ρ2).noX.bind fun y ρ3 => (lcL tg tt te vs xs (wipeE ρ3 vs)).bind fun ys ρ4 => .ok (y :: ys) ρ4) = _
      rw [h5]
      show ((lcL tg tt te vs xs (wipeE ρ3 vs)).bind fun ys ρ4 => .ok (h x :: ys) ρ4) = _
      rw [h6, ih]
      rfl
theorem ev_Lc {f : Env → R (List D)} {tg : D → Env → Option Env} {tt : Env → R Bool} {te : Env → R D} {vs : List Nat} {ρ ρ1 ρ2 : Env} {xs ys : List D} (h : f ρ = .ok xs ρ1) (hl : xs.length ≤ line) (h2 : lcL tg tt te vs xs (wipeE ρ1 vs) = .ok ys ρ2) : sLc f tg tt te vs ρ = .ok (.lst ys) ρ2 := by
  unfold sLc
  rw [h]
  show (if xs.length ≤ line then _ else _) = _
  rw [if_pos hl, h2]
  rfl
end Pu
namespace Pu
open PySem L2
section
variable {ρ ρ1 ρ2 ρ3 : Env} {a b c d e : D} {ds es : List D} {fa fb fc f : Env → R D} {fs gs : Env → R (List D)} {k j : Bool} {t t2 : Env → R Bool}
theorem ev_C : sC d ρ = .ok d ρ := rfl
theorem ev_True : sTrue ρ = .ok true ρ := rfl
theorem ev_NotT (h : t ρ = .ok true ρ1) : sNot t ρ = .ok false ρ1 := by unfold sNot; rw [h]; rfl
theorem ev_NotF (h : t ρ = .ok false ρ1) : sNot t ρ = .ok true ρ1 := by unfold sNot; rw [h]; rfl
theorem ev_AndVT (h : fa ρ = .ok (.bl true) ρ1) (h2 : fb ρ1 = .ok d ρ2) : sAndV fa fb ρ = .ok d ρ2 := by unfold sAndV; rw [h]; exact h2
theorem ev_Star (ha : fa ρ = .ok a ρ1) (hs : a.seq = some ds) (hb : fs ρ1 = .ok es ρ2) : sStar fa fs ρ = .ok (ds ++ es) ρ2 := by
  unfold sStar; rw [ha]; show (match a.seq with | some xs => _ | none => _) = _; rw [hs]; show (fs ρ1).bind _ = _; rw [hb]; rfl
theorem ev_M1 {g : Str → D → Option D} {z : Str} (ha : fa ρ = .ok (.str z) ρ1) (hb : fb ρ1 = .ok b ρ2) (hg : g z b = some d) : sM1 g fa fb ρ = .ok d ρ2 := by
  unfold sM1; rw [ha]; show (fb ρ1).bind _ = _; rw [hb]; show R.of _ _ = _; rw [hg]; rfl
theorem ev_Slice {fl fh : Env → R (Option Int)} {lo hi : Option Int} (ha : fa ρ = .ok a ρ1) (hl : fl ρ1 = .ok lo ρ2) (hh : fh ρ2 = .ok hi ρ3) (hg : gCut a lo hi = some d) : sSlice fa fl fh ρ = .ok d ρ3 := by
  unfold sSlice; rw [ha]; show (fl ρ1).bind _ = _; rw [hl]; show (fh ρ2).bind _ = _; rw [hh]; show R.of _ _ = _; rw [hg]; rfl
theorem ev_oNone : oNone ρ = .ok none ρ := rfl
theorem ev_oSome {i : Int} (ha : fa ρ = .ok (.int i) ρ1) : oSome fa ρ = .ok (some i) ρ1 := by unfold oSome; rw [ha]; rfl
theorem ev_Pth {i : Nat} {L : Ln} (h : ρ[i]? = some (some a)) (hs : L.sel ρ a = some d) : sPth i L ρ = .ok d ρ := by unfold sPth; rw [h]; show R.of _ _ = _; rw [hs]; rfl
end
theorem lc_pure {tg : D → Env → Option Env} {tt : Env → R Bool} {te : Env → R D} {vs : List Nat} {ρ0 : Env} (c : D → Bool) (h : D → D) : ∀ (xs : List D) (_ : ∀ x ∈ xs, ∃ ρ1, tg x ρ0 = some ρ1 ∧ wipeE ρ1 vs = ρ0 ∧ tt ρ1 = .ok (c x) ρ1 ∧ (c x = true → te ρ1 = .ok (h x) ρ1)),
    lcL tg tt te vs xs ρ0 = .ok ((xs.filter c).map h) ρ0 := fun xs H => lc_map c h xs fun x hx => by
  obtain ⟨ρ1, h1, h2, h3, h4⟩ := H x hx
  exact ⟨ρ1, ρ1, h1, h3, h2, fun hc => ⟨ρ1, h4 hc, h2⟩⟩
theorem ev_Lc1 {f : Env → R (List D)} {tg : D → Env → Option Env} {te : Env → R D} {vs : List Nat} {ρ ρ1 : Env} {xs : List D} (h : D → D) (hf : f ρ = .ok xs ρ1) (hw : wipeE ρ1 vs = ρ1) (hl : xs.length ≤ line)
    (H : ∀ x ∈ xs, ∃ ρ2, tg x ρ1 = some ρ2 ∧ wipeE ρ2 vs = ρ1 ∧ te ρ2 = .ok (h x) ρ2) : sLc f tg sTrue te vs ρ = .ok (.lst (xs.map h)) ρ1 := by
  refine ev_Lc hf hl ?_
  rw [hw, lc_pure (fun _ => true) h xs fun x hx => ?_]
  · rw [List.filter_eq_self.mpr (fun _ _ => rfl)]
  · obtain ⟨ρ2, h1, h2, h3⟩ := H x hx
    exact ⟨ρ2, h1, h2, rfl, fun _ => h3⟩
theorem ev_LcC {f : Env → R (List D)} {tg : D → Env → Option Env} {tt : Env → R Bool} {te : Env → R D} {vs : List Nat} {ρ ρ1 : Env} {xs : List D} (c : D → Bool) (h : D → D) (hf : f ρ = .ok xs ρ1) (hw : wipeE ρ1 vs = ρ1) (hl : xs.length ≤ line)
    (H : ∀ x ∈ xs, ∃ ρ2, tg x ρ1 = some ρ2 ∧ wipeE ρ2 vs = ρ1 ∧ tt ρ2 = .ok (c x) ρ2 ∧ (c x = true → te ρ2 = .ok (h x) ρ2)) : sLc f tg tt te vs ρ = .ok (.lst ((xs.filter c).map h)) ρ1 := by
  refine ev_Lc hf hl ?_
  rw [hw, lc_pure c h xs H]
end Pu
namespace Pu
open PySem L2
def mkD : Bool → List (D × D) → D
  | false, kvs => .dct kvs
  | true, kvs => .dtt kvs
def okKey : Bool → D → Bool
  | false, d => d.key.isSome
  | true, d => d.tkey.isSome
theorem dPut_mk {b : Bool} {kvs : List (D × D)} {k v : D} (h : okKey b k = true) (hl : kvs.length < line) : dPut (mkD b kvs) k v = some (mkD b (putD kvs k v)) := by
  cases b with
  | false => exact if_pos ⟨h, hl⟩
  | true => exact if_pos ⟨h, hl⟩
theorem putD_len (kvs : List (D × D)) (k v : D) : (putD kvs k v).length ≤ kvs.length + 1 := by
  unfold putD
  split
  · rw [List.length_map]; omega
  · rw [List.length_append]; exact Nat.le_refl _
theorem putD_fresh {kvs : List (D × D)} {k v : D} (h : ∀ e ∈ kvs, hkEq e.1 k = false) : putD kvs k v = kvs ++ [(k, v)] := by
  unfold putD
  rw [if_neg]
  rw [Bool.not_eq_true, List.any_eq_false]
  intro e he
  rw [h e he]
  decide
theorem dc_pure {tg : D → Env → Option Env} {tt : Env → R Bool} {tk tv : Env → R D} {vs : List Nat} {ρ0 : Env} (b : Bool) (c : D → Bool) (k v : D → D) : ∀ (xs : List D) (kvs : List (D × D)) (_ : ∀ x ∈ xs, ∃ ρ1, tg x ρ0 = some ρ1 ∧ wipeE ρ1 vs = ρ0 ∧ tt ρ1 = .ok (c x) ρ1 ∧ (c x = true → tk ρ1 = .ok (k x) ρ1 ∧ tv ρ1 = .ok (v x) ρ1 ∧ okKey b (k x) = true)) (_ : kvs.length + xs.length ≤ line),
    dcL tg tt tk tv vs xs (mkD b kvs) ρ0 = .ok (mkD b ((xs.filter c).foldl (fun a x => putD a (k x) (v x)) kvs)) ρ0
  | [], _, _, _ => rfl
  | x :: xs, kvs, H, hl => by
    rw [List.length_cons] at hl
    obtain ⟨ρ1, h1, h2, h3, h4⟩ := H x (List.mem_cons_self ..)
    unfold dcL
    rw [h1]
    dsimp only
    rw [h3]
    cases hc : c x with
    | false =>
      rw [List.filter_cons_of_neg (by rw [hc]; decide)]
      show dcL tg tt tk tv vs xs (mkD b kvs) (wipeE ρ1 vs) = _
      rw [h2]
      exact dc_pure b c k v xs kvs (fun y hy => H y (List.mem_cons_of_mem _ hy)) (by omega)
    | true =>
      obtain ⟨h5, h6, h7⟩ := h4 hc
      rw [List.filter_cons_of_pos hc]
      show ((tk ρ1).noX.bind _) = _
      rw [h5]
      show ((tv ρ1).noX.bind _) = _
      rw [h6]
      show (match dPut (mkD b kvs) (k x) (v x) with | some acc' => dcL tg tt tk tv vs xs acc' (wipeE ρ1 vs) | none => .bad) = _
      rw [dPut_mk h7 (by omega)]
      show dcL tg tt tk tv vs xs (mkD b (putD kvs (k x) (v x))) (wipeE ρ1 vs) = _
      have := putD_len kvs (k x) (v x)
      rw [h2]
      exact dc_pure b c k v xs _ (fun y hy => H y (List.mem_cons_of_mem _ hy)) (by omega)
theorem fold_fresh {k v : D → D} : ∀ (xs : List D) (kvs : List (D × D)) (_ : ∀ e ∈ kvs, ∀ x ∈ xs, hkEq e.1 (k x) = false) (_ : xs.Pairwise fun x y => hkEq (k x) (k y) = false), xs.foldl (fun a x => putD a (k x) (v x)) kvs = kvs ++ xs.map fun x => (k x, v x)
  | [], kvs, _, _ => (List.append_nil _).symm
  | x :: xs, kvs, h, hp => by
    rw [List.pairwise_cons] at hp
    rw [List.foldl_cons, putD_fresh fun e he => h e he x (List.mem_cons_self ..)]
    rw [fold_fresh xs _ (fun e he y hy => ?_) hp.2, List.append_assoc]
    · rfl
    · rcases List.mem_append.mp he with he | he
      · exact h e he y (List.mem_cons_of_mem _ hy)
      · cases List.mem_singleton.mp he
        exact hp.1 y hy
theorem hk_str (a b : Str) : hkEq (.str a) (.str b) = decide (a = b) := by
  show decide ((Sum.inr a : Key) = .inr b) = _
  by_cases h : a = b
  · rw [h]; simp
  · rw [decide_eq_false h, decide_eq_false fun e => h (Sum.inr.inj e)]
def tpr (p : Str × Str) : D := .tup [.str p.1, .str p.2]
theorem hk_tpr (p q : Str × Str) : hkEq (tpr p) (tpr q) = decide (p = q) := by
  show decide (([.inr p.1, .inr p.2] : List Key) = [.inr q.1, .inr q.2]) = _
  by_cases h : p = q
  · rw [h]; simp
  · rw [decide_eq_false h, decide_eq_false fun e => h ?_]
    have e1 := List.cons.inj e
    have e2 := List.cons.inj e1.2
    exact Prod.ext (Sum.inr.inj e1.1) (Sum.inr.inj e2.1)
theorem nodup_hk {α : Type} [DecidableEq α] {g : α → D} (hg : ∀ a b, hkEq (g a) (g b) = decide (a = b)) {xs : List α} (h : xs.Nodup) : (xs.map g).Pairwise fun x y => hkEq x y = false := by
  rw [List.pairwise_map]
  refine h.imp fun {a b} hab => ?_
  rw [hg, decide_eq_false hab]
theorem ev_Dc {f : Env → R (List D)} {tg : D → Env → Option Env} {tt : Env → R Bool} {tk tv : Env → R D} {vs : List Nat} {ρ ρ1 : Env} {xs : List D} {bf : List D → Env → Bool} (b : Bool) (c : D → Bool) (k v : D → D) (hf : f ρ = .ok xs ρ1) (hb : bf xs ρ1 = b) (hw : wipeE ρ1 vs = ρ1)
    (H : ∀ x ∈ xs, ∃ ρ2, tg x ρ1 = some ρ2 ∧ wipeE ρ2 vs = ρ1 ∧ tt ρ2 = .ok (c x) ρ2 ∧ (c x = true → tk ρ2 = .ok (k x) ρ2 ∧ tv ρ2 = .ok (v x) ρ2 ∧ okKey b (k x) = true)) (hl : xs.length ≤ line) :
    sDc bf f tg tt tk tv vs ρ = .ok (mkD b ((xs.filter c).foldl (fun a x => putD a (k x) (v x)) [])) ρ1 := by
  unfold sDc
  rw [hf]
  show dcL tg tt tk tv vs xs (d0 (bf xs ρ1)) (wipeE ρ1 vs) = _
  rw [hb, hw, show d0 b = mkD b [] by cases b <;> rfl]
  exact dc_pure b c k v xs [] H (by simpa using hl)
theorem dyn_false {tg : D → Env → Option Env} {tt : Env → R Bool} {tk tv : Env → R D} {vs : List Nat} {ρ1 : Env} {xs : List D} {d : D} {ρ2 : Env} (h : dcL tg tt tk tv vs xs (.dct []) (wipeE ρ1 vs) = .ok d ρ2) : dynB tg tt tk tv vs xs ρ1 = false := by unfold dynB; rw [h]
theorem dyn_true {tg : D → Env → Option Env} {tt : Env → R Bool} {tk tv : Env → R D} {vs : List Nat} {ρ1 : Env} {xs : List D} (h : dcL tg tt tk tv vs xs (.dct []) (wipeE ρ1 vs) = .bad) : dynB tg tt tk tv vs xs ρ1 = true := by unfold dynB; rw [h]
end Pu
namespace Pu
open PySem L2
abbrev okS (x : Str) : Prop := PyData.strOk x = true
theorem pys_str : ∀ xs : List Str, D.pys (xs.map .str) = some (xs.map .str)
  | [] => rfl
  | x :: xs => by
    show (match D.py (.str x), D.pys (xs.map .str) with | some p, some ps => some (p :: ps) | _, _ => none) = _
    rw [pys_str xs]
    rfl
theorem shp_str (x : Str) : shp (.str x) = PyData.strOk x := by
  show (PyData.strOk x && decide (PyData.depth (.str x) ≤ 64)) = _
  rw [show decide (PyData.depth (.str x) ≤ 64) = true from rfl, Bool.and_true]
theorem lay_strs : ∀ {xs : List Str}, (∀ x ∈ xs, okS x) → PyData.canLayAll0 (xs.map .str) = true ∧ PyData.depthAll (xs.map .str) = 0
  | [], _ => ⟨rfl, rfl⟩
  | x :: xs, h => by
    obtain ⟨h1, h2⟩ := lay_strs fun y hy => h y (List.mem_cons_of_mem _ hy)
    refine ⟨?_, ?_⟩
    · show (PyData.strOk x && PyData.canLayAll0 (xs.map .str)) = true
      rw [h1, h x (List.mem_cons_self ..)]
      rfl
    · show max (PyData.depth (.str x)) (PyData.depthAll (xs.map .str)) = 0
      rw [h2]
      rfl
theorem shp_strs {xs : List Str} (h : ∀ x ∈ xs, okS x) : shp (.list (xs.map .str)) = true := by
  obtain ⟨h1, h2⟩ := lay_strs h
  show (PyData.canLayAll0 (xs.map .str) && decide (PyData.depth (.list (xs.map .str)) ≤ 64)) = true
  rw [h1]
  unfold PyData.depth
  rw [h2]
  rfl
theorem eqv_str (a b : Str) : PyData.eqv (.str a) (.str b) = decide (a = b) := by
  have : PyData.eqv (.str a) (.str b) = (a == b) := by unfold PyData.eqv; rfl
  rw [this]
  by_cases h : a = b
  · rw [h]; simp
  · rw [decide_eq_false h]; simp [h]
theorem any_str (x : Str) : ∀ xs : List Str, ((xs.map PyData.str).any fun z => PyData.eqv z (.str x)) = decide (x ∈ xs)
  | [] => rfl
  | y :: xs => by
    rw [List.map_cons, List.any_cons, any_str x xs, eqv_str]
    by_cases h : y = x
    · rw [h]; simp
    · have : ¬ x = y := fun e => h e.symm
      simp [h, this]
theorem gIn_strs {neg : Bool} {x : Str} {xs : List Str} {d : D} (hd : d.seq = some (xs.map .str)) (hk : ∀ kvs, d ≠ .dct kvs) (hk2 : ∀ kvs, d ≠ .dtt kvs) (hs : ∀ z, d ≠ .str z) (hx : okS x) (h : ∀ y ∈ xs, okS y) : gIn neg (.str x) d = some (.bl (if neg then !decide (x ∈ xs) else decide (x ∈ xs))) := by
  have e1 : gIn neg (.str x) d = gInS neg (.str x) d := by
    unfold gIn
    split
    · rename_i kvs; exact (hk kvs rfl).elim
    · rename_i kvs; exact (hk2 kvs rfl).elim
    · rfl
  rw [e1]
  unfold gInS
  split
  · rename_i z; exact (hs z rfl).elim
  · rw [hd]
    show (match D.py (.str x), D.pys (xs.map .str) with | some p, some ps => _ | _, _ => none) = _
    rw [pys_str]
    show (if shp (.str x) && shp (.list (xs.map .str)) then some (D.bl (if neg then !((xs.map PyData.str).any fun z => PyData.eqv z (.str x)) else (xs.map PyData.str).any fun z => PyData.eqv z (.str x))) else none) = _
    rw [shp_str, hx, shp_strs h, any_str]
    rfl
theorem gIn_lst {neg : Bool} {x : Str} {xs : List Str} (hx : okS x) (h : ∀ y ∈ xs, okS y) : gIn neg (.str x) (.lst (xs.map .str)) = some (.bl (if neg then !decide (x ∈ xs) else decide (x ∈ xs))) := gIn_strs rfl (fun _ e => by cases e) (fun _ e => by cases e) (fun _ e => by cases e) hx h
theorem gIn_tup {neg : Bool} {x : Str} {xs : List Str} (hx : okS x) (h : ∀ y ∈ xs, okS y) : gIn neg (.str x) (.tup (xs.map .str)) = some (.bl (if neg then !decide (x ∈ xs) else decide (x ∈ xs))) := gIn_strs rfl (fun _ e => by cases e) (fun _ e => by cases e) (fun _ e => by cases e) hx h
theorem gEq_str {a b : Str} (ha : okS a) (hb : okS b) : gEq (.str a) (.str b) = some (.bl (decide (a = b))) := by
  unfold gEq
  show (if shp (.str a) && shp (.str b) then some (D.bl (PyData.eqv (.str a) (.str b))) else none) = _
  rw [shp_str, shp_str, ha, hb, eqv_str]
  rfl
theorem gNe_str {a b : Str} (ha : okS a) (hb : okS b) : gNe (.str a) (.str b) = some (.bl (!decide (a = b))) := by
  unfold gNe
  show (if shp (.str a) && shp (.str b) then some (D.bl (!PyData.eqv (.str a) (.str b))) else none) = _
  rw [shp_str, shp_str, ha, hb, eqv_str]
  rfl
theorem gEq_int (i j : Int) : gEq (.int i) (.int j) = some (.bl (decide (i = j))) := by
  unfold gEq
  show (if shp (.int i) && shp (.int j) then some (D.bl (PyData.eqv (.int i) (.int j))) else none) = _
  rw [show shp (.int i) = true from rfl, show shp (.int j) = true from rfl]
  rfl
theorem gNe_int (i j : Int) : gNe (.int i) (.int j) = some (.bl (!decide (i = j))) := by
  unfold gNe
  show (if shp (.int i) && shp (.int j) then some (D.bl (!PyData.eqv (.int i) (.int j))) else none) = _
  rw [show shp (.int i) = true from rfl, show shp (.int j) = true from rfl]
  rfl
end Pu
namespace Pu
open PySem L2 PySem.Spec PyProof.Rows Pw
def stripZ (xs : List Int) : List Int := (xs.reverse.dropWhile fun y => y == 0).reverse
def drawZ (xs : List Int) (s m : Int) : Int × List Int × Int := match (stripZ xs).getLast? with
  | some y => (y % m, (stripZ xs).dropLast ++ [y / m], s)
  | none => ((s * 44485 + 31) % 2147483647 / 16 % m, [], (s * 44485 + 31) % 2147483647)
theorem strip_zero (ys : List Int) : stripZ (ys ++ [0]) = stripZ ys := by unfold stripZ; simp
theorem strip_one (ys : List Int) {y : Int} (h : y ≠ 0) : stripZ (ys ++ [y]) = ys ++ [y] := by
  unfold stripZ
  rw [List.reverse_append]
  simp [h]
theorem draw_zero (ys : List Int) (s m : Int) : drawZ (ys ++ [0]) s m = drawZ ys s m := by unfold drawZ; rw [strip_zero]
theorem draw_nil (s m : Int) : drawZ [] s m = ((s * 44485 + 31) % 2147483647 / 16 % m, [], (s * 44485 + 31) % 2147483647) := rfl
theorem draw_one (ys : List Int) {y : Int} (h : y ≠ 0) (s m : Int) : drawZ (ys ++ [y]) s m = (y % m, ys ++ [y / m], s) := by unfold drawZ; rw [strip_one ys h]; simp
theorem draw_range (xs : List Int) (s : Int) {m : Int} (h : 0 < m) : 0 ≤ (drawZ xs s m).1 ∧ (drawZ xs s m).1 < m := by
  unfold drawZ
  cases (stripZ xs).getLast? with
  | none => exact ⟨Int.emod_nonneg _ (by omega), Int.emod_lt_of_pos _ h⟩
  | some y => exact ⟨Int.emod_nonneg _ (by omega), Int.emod_lt_of_pos _ h⟩
theorem strip_len (xs : List Int) : (stripZ xs).length ≤ xs.length := by
  unfold stripZ
  rw [List.length_reverse]
  refine Nat.le_trans (List.dropWhile_sublist _).length_le ?_
  rw [List.length_reverse]
  exact Nat.le_refl _
theorem draw_len (xs : List Int) (s m : Int) : (drawZ xs s m).2.1.length ≤ xs.length := by
  unfold drawZ
  cases h : (stripZ xs).getLast? with
  | none => exact Nat.zero_le _
  | some y =>
    have h1 : 0 < (stripZ xs).length := by
      cases hs : stripZ xs with
      | nil => rw [hs] at h; cases h
      | cons a b => simp
    have := strip_len xs
    simp only [List.length_append, List.length_dropLast, List.length_cons, List.length_nil]
    omega
def absZ (z : Int) : Int := if z < 0 then -z else z
def stir (z y : Int) : Int := (z * 44485 + y % 2147483497 + 19) % 2147483647
def cellsZ (ns : List Int) (b : Int) : List Int := (cutL ns (some b) (some 60)).map absZ
def big (c : Int) : Bool := decide (10 ^ 18 ≤ c)
def dealZ (ns : List Int) (b : Int) : List Int × Int := (((cellsZ ns b).filter big).reverse, (cellsZ ns b).foldl stir (86028157 + 37 * b))
theorem ints_map : ∀ ns : List Int, D.ints (ns.map .int) = some ns
  | [] => rfl
  | n :: ns => by
    rw [List.map_cons]
    unfold D.ints
    rw [ints_map ns]
    rfl
def dealD (xs : List Int) (s : Int) : D := .lst [.lst (xs.map .int), .int s]
def f__law_draw (ds : List D) : RF := match ds with
  | [.lst [.lst xs, .int s], .int m] => match D.ints xs with
    | some ns => if 0 < m ∧ m < 1073741824 ∧ ns.length ≤ 1000 then .ok (.int (drawZ ns s m).1) [dealD (drawZ ns s m).2.1 (drawZ ns s m).2.2, .int m] else .bad
    | none => .bad
  | _ => .bad
theorem f_draw_eq {xs : List Int} {s m : Int} (h1 : 0 < m) (h2 : m < 1073741824) (h3 : xs.length ≤ 1000) : f__law_draw [dealD xs s, .int m] = .ok (.int (drawZ xs s m).1) [dealD (drawZ xs s m).2.1 (drawZ xs s m).2.2, .int m] := by
  unfold f__law_draw dealD
  dsimp only
  rw [ints_map]
  exact if_pos ⟨h1, h2, h3⟩
def spDrawX : Sp := fun vs H Q _ => ∃ (d l : Addr) (m s0 : Int) (xs0 : List Int), vs = [.ref d, .int m] ∧ H d = some (.lst [.ref l, .int s0]) ∧ H l = some (.lst (xs0.map V.int)) ∧ d ≠ l ∧ xs0.length ≤ 1000 ∧ 0 < m ∧ m < 1073741824 ∧
  ∀ H' : Hp, H' d = some (.lst [.ref l, .int (drawZ xs0 s0 m).2.2]) → H' l = some (.lst ((drawZ xs0 s0 m).2.1.map V.int)) → Kp d l H H' → Q (.int (drawZ xs0 s0 m).1) H'
section
variable {K : PySem.W.Frag} {G : Gx K} {xa : String → Option Addr}
theorem sp_draw {vs : List V} {H : Hp} {Q : VK} {E : XK} (h : SpF G xa [.op .deal, .sh] f__law_draw vs H Q E) : spDrawX vs H Q E := by
  obtain ⟨O, Fs, ds, w, run⟩ := h
  obtain ⟨v0, d0, F, h1, h2, h3, ow⟩ := w.own (j := 0) (t := .deal) (m := .op .deal) rfl (.inr rfl)
  obtain ⟨v1, d1, F1, k1, k2, k3, _, v1', d1', e1, e2, r1⟩ := w.get (i := 1) (m := .sh) rfl
  subst e1 e2
  have lv := w.ls
  have ld := w.lr
  match vs, lv with
  | [a, b], _ =>
    match ds, ld with
    | [x, y], _ =>
      cases h1; cases h2; cases k1; cases k2
      obtain ⟨p, l, xs, s, q1, q2, q3, q4, q5⟩ := ow
      subst q1 q2 q5
      unfold f__law_draw at run
      cases d1' with
      | int m =>
        cases r1
        dsimp only at run
        rw [ints_map] at run
        dsimp only at run
        by_cases hc : 0 < m ∧ m < 1073741824 ∧ xs.length ≤ 1000
        · rw [if_pos hc] at run
          have nd := nodup_part w.nd h3
          have ne : p ≠ l := fun z => by rw [z] at nd; simp at nd
          refine ⟨p, l, m, s, xs, rfl, q3, q4, ne, hc.2.2, hc.1, hc.2.1, fun H' g1 g2 kp => ?_⟩
          have inF : ∀ b, b ∈ [p, l] ↔ b = p ∨ b = l := fun b => by simp
          have chg : ∀ b o, H b = some o → b ∉ [p, l] → H' b = some o := fun b o h n => by
            rw [inF] at n
            exact kp.stay b o h (fun z => n (.inl z)) (fun z => n (.inr z))
          have dom : ∀ b o, H b = some o → ∃ o', H' b = some o' := fun b o h => by
            by_cases z : b ∈ [p, l]
            · rw [inF] at z
              rcases z with rfl | rfl
              · exact ⟨_, g1⟩
              · exact ⟨_, g2⟩
            · exact ⟨o, chg b o h z⟩
          obtain ⟨w3, ev3⟩ := w.put (j := 0) rfl (.inr rfl) rfl h3 (O' := O) (F' := [p, l]) (H' := H') (d' := dealD (drawZ xs s m).2.1 (drawZ xs s m).2.2) ⟨chg, dom, fun _ h => h, fun _ h => .inl h, fun a ha => by
            obtain ⟨o, ho⟩ := w.al a ha
            by_cases z : a ∈ [p, l]
            · rw [inF] at z
              rcases z with rfl | rfl
              · exact ⟨⟨.lst _, fun _ z => nomatch z⟩, g1⟩
              · exact ⟨⟨.lst _, fun _ z => nomatch z⟩, g2⟩
            · exact ⟨o, chg a o ho z⟩, fun b hb => .inl hb, fun b hb => w.sub b (mem_flat (List.mem_of_getElem? h3) hb), nd⟩ ⟨p, l, _, _, rfl, rfl, g1, g2, rfl⟩
          exact run (.int _) O _ H' ev3 w3 (.int _)
        · rw [if_neg hc] at run
          exact run.elim
      | _ => exact run.elim
end
section
variable {K : PySem.W.Frag} {G : Gx K} {xa : String → Option Addr}
def scr : D → Option (List Int)
  | .lst xs => D.ints xs
  | .klt ns => some ns
  | _ => none
def f__law_deal (ds : List D) : RF := match ds with
  | [x, .int b] => match scr x with
    | some ns => if ns.length ≤ 63 then .ok (dealD (dealZ ns b).1 (dealZ ns b).2) ds else .bad
    | none => .bad
  | _ => .bad
theorem f_deal_eq {x : D} {xs : List Int} {b : Int} (hx : scr x = some xs) (h : xs.length ≤ 63) : f__law_deal [x, .int b] = .ok (dealD (dealZ xs b).1 (dealZ xs b).2) [x, .int b] := by
  unfold f__law_deal
  dsimp only
  rw [hx]
  exact if_pos h
theorem scr_lst (ns : List Int) : scr (.lst (ns.map .int)) = some ns := ints_map ns
def spDealX (K : PySem.W.Frag) : Sp := fun vs H Q _ => ∃ (a : Addr) (ns : List Int) (b : Int), vs = [.ref a, .int b] ∧ SqL K H a (ns.map V.int) ∧ ns.length ≤ 63 ∧
  ∀ (d l : Addr) (H' : Hp), H d = none → H l = none → d ≠ l → H' d = some (.lst [.ref l, .int (dealZ ns b).2]) → H' l = some (.lst ((dealZ ns b).1.map V.int)) → Same H H' → Q (.ref d) H'
theorem sp_deal {vs : List V} {H : Hp} {Q : VK} {E : XK} (h : SpFo G xa .deal [.sh, .sh] f__law_deal vs H Q E) : spDealX K vs H Q E := by
  obtain ⟨O, Fs, ds, w, run⟩ := h
  obtain ⟨v0, d0, F0, h1, h2, h3, _, v0', d0', a1, a2, r0⟩ := w.get (i := 0) (m := .sh) rfl
  obtain ⟨v1, d1, F1, k1, k2, k3, _, v1', d1', e1, e2, r1⟩ := w.get (i := 1) (m := .sh) rfl
  subst e1 e2 a1 a2
  have lv := w.ls
  have ld := w.lr
  match vs, lv with
  | [a, b], _ =>
    match ds, ld with
    | [x, y], _ =>
      cases h1; cases h2; cases k1; cases k2
      unfold f__law_deal at run
      cases d1' with
      | int m =>
          cases r1
          dsimp only at run
          cases hi : scr d0' with
          | none => rw [hi] at run; exact run.elim
          | some ns =>
            rw [hi] at run
            dsimp only at run
            by_cases hc : ns.length ≤ 63
            · rw [if_pos hc] at run
              obtain ⟨p, q1, q2⟩ : ∃ p, v0' = V.ref p ∧ SqL K H p (ns.map V.int) := by
                cases d0' with
                | lst xs =>
                  cases r0 with
                  | lst r n t =>
                    have := reps_ints t hi
                    subst this
                    exact ⟨_, rfl, .inl r⟩
                | klt zs =>
                  cases r0 with
                  | klt r => cases hi; exact ⟨_, rfl, .inr r⟩
                | _ => cases hi
              subst q1
              refine ⟨p, ns, m, rfl, q2, hc, fun d l H' g1 g2 g3 g4 g5 sm => ?_⟩
              have al : ∀ b ∈ [d, l], ∃ o : NTO, H' b = some o.1 := fun b hb => by
                rcases (by simpa using hb : b = d ∨ b = l) with rfl | rfl
                · exact ⟨⟨.lst _, fun _ z => nomatch z⟩, g4⟩
                · exact ⟨⟨.lst _, fun _ z => nomatch z⟩, g5⟩
              have nw : ∀ b ∈ [d, l], H b = none := fun b hb => by
                rcases (by simpa using hb : b = d ∨ b = l) with rfl | rfl
                · exact g1
                · exact g2
              obtain ⟨w2, ev2⟩ := w.grow sm al nw
              refine run (.ref d) _ Fs H' [d, l] ev2 w2 ⟨d, l, _, _, rfl, rfl, g4, g5, rfl⟩ ⟨by simp [g3], fun b hb => .inr hb, fun b hb z => ?_, nw⟩
              obtain ⟨o, ho⟩ := w.al b (w.sub b z)
              rw [nw b hb] at ho
              cases ho
            · rw [if_neg hc] at run
              exact run.elim
      | _ => exact run.elim
end
end Pu
namespace PySem
namespace HandSPX
open PySem PySem.W PySem.Calls PyProof.Rows PySem.Spec
section
variable {prog : Program} {w : World} {M : Model} {A : Around} {E : Value → Shared → Prop} {R : Result → Shared → Prop} {h : Heap} {g : Array GenState} {d : Drawn} {t : Nat} {os : OsState}
variable {nm q : Str} {C N : Addr} {bs bm bmL : List Value} {hdct : Bool} {sn : List Str} {sub : List Value} {ab : Bool} {col : Option Bool} {dd : Option Addr} {k0 k1 k2 k3 k5 : Option Value} {BL newId iL : String}
structure Has (BL : String) (bm : List Value) : Prop where
  b : bm.contains (.type BL) = true
  a : bm.contains (.type "AttributeError") = false
  n : bm.contains (.type "NameError") = false
theorem Has.in_ {bm : List Value} (T : Has BL bm) (C : Addr) : (Value.ref C :: bm).contains (.type BL) = true ∧ (Value.ref C :: bm).contains (.type "AttributeError") = false ∧ (Value.ref C :: bm).contains (.type "NameError") = false :=
  ⟨by rw [List.contains_cons, T.b, Bool.or_true], by rw [List.contains_cons, T.a]; rfl, by rw [List.contains_cons, T.n]; rfl⟩
theorem n_check (F : ExcBaseFacts BL newId iL bmL) (T : Has BL bm) {args : List Value} {Q : Unit → Shared → Prop} (hC : h.get? C = some (excClassObj nm q C N bs bm hdct sn sub ab col dd k0 k1 k2 k3 k5 newId)) (z : Q () ⟨h, g, d, t, os⟩) : wpAny M A (checkBuiltinCall newId ⟨.ref C :: args, []⟩) Q E ⟨h, g, d, t, os⟩ := by
  obtain ⟨isB, _, _⟩ := T.in_ C
  have star := F.noStar
  simp only [checkBuiltinCall, F.newKind, F.newSplit, F.newRow]
  repeat (first | (refine wpAny_isSubtype_exc hC ?_; rw [isB]) | refine wpAny_loadPart_at hC ?_ | refine wpAny_staticBase_exc hC ?_ | refine wpAny_madeBy_exc hC ?_ | simp only [bne_self_eq_false, Bool.false_eq_true, if_false] | wp_step)
  exact z
theorem n_new (F : ExcBaseFacts BL newId iL bmL) (T : Has BL bm) {args : List Value} (hC : h.get? C = some (excClassObj nm q C N bs bm hdct sn sub ab col dd k0 k1 k2 k3 k5 newId)) (few : args.length ≤ sizeLine)
    (z : R (.ok (.ret (.ref (h.objs.size + 1)))) ⟨(h.push (kdv_tup args)).push (excO C h.objs.size), g, d, t, os⟩) : codeAny (model prog w) A (.builtin newId ⟨.ref C :: args, []⟩) R ⟨h, g, d, t, os⟩ := by
  obtain ⟨isB, isA, isN⟩ := T.in_ C
  have tail := F.ends
  refine codeAny_builtinAt F.entry ?_
  unfold Builtin.«BaseException.__new__»
  refine wpAt_bind ?_
  show wpAt _ _ _ (stack >>= _) _ _ _
  refine wpAt_bind (wpAt_stack fun p below => wpAt_of_wpAny ?_)
  wp_walk
  refine wpAt_of_wpAny ?_
  rw [F.owner]
  repeat (first | (with_reducible refine wpAny_isSubtype_exc hC ?_; first | rw [isB] | rw [isA] | rw [isN]) | with_reducible refine wpAny_madeHere_exc F.canon hC ?_ | with_reducible refine wpAny_loadPart_at hC ?_ | wp_step)
  show R _ _
  rw [Heap.size_push]
  exact z
theorem n_type (F : ExcBaseFacts BL newId iL bmL) (T : Has BL bm) {args : List Value} {f : Addr} {Q : Fin → Shared → Prop} (hC : h.get? C = some (excClassObj nm q C N bs bm hdct sn sub ab col dd k0 k1 k2 k3 k5 newId)) (few : args.length ≤ sizeLine)
    (hi : W.Looks (model prog w) h (typeLookup (.ref C) "__init__") (some (.ref f))) (hb : ∀ self, W.Looks (model prog w) h (bindSpecial (.ref f) self) (.ref f, [self]))
    (z : codeAny (model prog w) A (.call (.ref f) ⟨.ref (h.objs.size + 1) :: args, []⟩) (fun r s' => match r with | .ok (.ret v) => v = .none ∧ Q (.done (.ret (.ref (h.objs.size + 1)))) s' | .ok _ => False | .error e => E e s') ⟨(h.push (kdv_tup args)).push (excO C h.objs.size), g, d, t, os⟩) :
    wpAny (model prog w) A (Builtin.«type.__call__» ⟨.ref C :: args, []⟩) Q E ⟨h, g, d, t, os⟩ := by
  repeat (first | with_reducible refine wpAny_madeBy_exc hC ?_ | with_reducible refine wpAny_loadPart_at hC ?_ | wp_step)
  refine codeAny_call_builtin_code (Code.quiet_builtin _ F.quiet) (n_check F T hC (n_new F T hC few ?_))
  show wpAny _ _ _ _ _ _
  have grown : ∀ b o, h.get? b = some o → ((h.push (kdv_tup args)).push (excO C h.objs.size)).get? b = some o := fun b o e => Heap.get?_push_of_some _ (Heap.get?_push_of_some _ e)
  have cl := grown _ _ hC
  have new : ((h.push (kdv_tup args)).push (excO C h.objs.size)).get? (h.objs.size + 1) = some (excO C h.objs.size) := by heap_get
  have own : (Value.ref C :: bm).contains (.ref C) = true := by simp
  have look := hi.keeps grown
  have bound := (hb (.ref (h.objs.size + 1))).keeps grown
  unfold isInstance
  repeat (first | (with_reducible refine wpAny_isSubtype_exc cl ?_; rw [own]) | with_reducible refine wpAny_loadPart_at new ?_ | wp_step)
  show wpAny _ _ (typeLookup (.ref C) _) _ _ _
  refine look.at (wpAny_holding (wpAny_bind (bound.at (wpAny_bind (wpAny_call (codeAny_mono z fun r s' y => ?_))))))
  rcases r with e | (v | _ | _ | _) <;> first | exact y | exact y.elim | skip
  obtain ⟨rfl, y⟩ := y
  first
    | exact wpAny_pure (wpAny_pure y)
    | (wp_walk; exact y)
theorem n_call (F : ExcBaseFacts BL newId iL bmL) (T : Has BL bm) {args : List Value} {f : Addr} (hC : h.get? C = some (excClassObj nm q C N bs bm hdct sn sub ab col dd k0 k1 k2 k3 k5 newId))
    (hi : W.Looks (model prog w) h (typeLookup (.ref C) "__init__") (some (.ref f))) (hb : ∀ self, W.Looks (model prog w) h (bindSpecial (.ref f) self) (.ref f, [self])) (few : args.length ≤ sizeLine)
    (z : codeAny (model prog w) (A.under (.builtin "type.__call__" ⟨.ref C :: args, []⟩)) (.call (.ref f) ⟨.ref (h.objs.size + 1) :: args, []⟩) (W.InitBack (h.objs.size + 1) R) ⟨(h.push (kdv_tup args)).push (excO C h.objs.size), g, d, t, os⟩) :
    codeAny (model prog w) A (.call (.ref C) ⟨args, []⟩) R ⟨h, g, d, t, os⟩ := by
  have look := tc_lookup
  have bound := tc_bind (.ref C)
  have ty : (⟨h, g, d, t, os⟩ : Shared).TypeIs (.ref C) "type" := ⟨_, hC, rfl⟩
  refine codeAny_of_tree ?_
  show wpAny _ _ (callAny (.ref C) _) _ _ _
  repeat (any_goals (first | with_reducible refine wpAny_loadPart_at hC ?_ | assumption | wp_step))
  refine ⟨rfl, codeAny_call_builtin_at (Code.quiet_builtin _ (by decide +kernel)) entry_typeCall (wpAny_check_type_call_sub hC (n_type F T hC few hi hb (codeAny_mono z fun r s' y => ?_)))⟩
  rcases r with e | (v | _ | _ | _) <;> exact y
end
end HandSPX
end PySem
namespace PySem.W
open PySem PySem.Calls PyProof.Rows PyProof.V PySem.Spec
structure IniF (B i : String) : Prop where
  plain : plainId i = true
  entry : entryFor table i = some Builtin.«BaseException.__init__»
  kind : builtinKind i = some .slot
  row : Manifest.signature? i = some ⟨.positional, "*", B, .self, [⟨"args", .varPos, false⟩]⟩
  star : (B != "*") = true
section
variable {prog : Program} {w : World} {M : Model} {A : Around} {E : Value → Shared → Prop} {h : Heap} {g : Array GenState} {d : Drawn} {t : Nat} {os : OsState} {s : Shared} {h₀ : Heap} {L : Addr} {m : Str → Option Value} {news : List (Addr × Obj)} {K : Frag} {x u : Addr} {B i newId : String} {bmB : List Value}
theorem i_bound (F : IniF B i) {nm q : Str} {C N e : Addr} {oe : Obj} {bs bm : List Value} {hdct : Bool} {sn : List Str} {sub : List Value} {ab : Bool} {col : Option Bool} {dd : Option Addr} {k0 k1 k2 k3 k5 : Option Value} {args : List Value} {Q : Unit → Shared → Prop}
    (hC : h.get? C = some (excClassObj nm q C N bs bm hdct sn sub ab col dd k0 k1 k2 k3 k5 newId)) (he : h.get? e = some oe) (cls : oe.cls = .ref C) (z : Q () ⟨h, g, d, t, os⟩) : wpAny M A (checkBoundCall i ⟨.ref e :: args, []⟩) Q E ⟨h, g, d, t, os⟩ := by
  have star := F.star
  simp only [checkBoundCall, F.kind, F.row]
  repeat (first | with_reducible refine wpAny_loadPart_at hC ?_ | (with_reducible refine wpAny_loadPart_at he ?_; rw [cls]) | wp_step)
  refine wpAny_onRaise ?_
  rw [show ∀ (a b : String) (n : Nat), Bind.check ⟨.positional, "*", B, .self, [⟨"args", .varPos, false⟩]⟩ a b n (List.map (fun y => y.fst) ({ pos := Value.ref e :: args } : Args).kw) = pure () from fun a b n => check_star_args _ _ _ _ _ _]
  exact wpAny_pure z
theorem i_call {C : Addr} {t1 : Addr} {dv : Option Addr} {c2 : Value} {args : List Value} {nw : Obj → List (Addr × Obj)} {Q : Value → Shared → Prop} (F : Fr h₀ L s.heap m) (X₀ : K.In h₀) (N : News h₀ L s.heap news) (I : IniF B i) (q : excInitIn K C bmB newId = true) (hm : (u, kxs_mw i x) ∈ news)
    (U : UpdF x (excObj C t1 dv c2) news nw) (few : args.length ≤ sizeLine)
    (z : ∀ t' h', Fr h₀ L h' m → News h₀ L h' ((t', excTup args) :: nw (excObj C t' dv c2)) → (∀ p ∈ news, p.1 < t') → Q .none { s with heap := h' }) : wpAny (model prog w) A (call (.ref u) args) Q E s := by
  obtain ⟨nm, N', qn, bs, bm, hdct, sn, sub, ab, col, dd, k0, k1, k2, k3, k5, hC, _⟩ := excInit_of (X₀.keeps F.keep) q
  have at_u := (N _ hm).1
  obtain ⟨pre, post, rfl, hg, a, b⟩ := U.split
  obtain ⟨at_x, xL, xn⟩ := N (x, excObj C t1 dv c2) (by simp)
  have below : ∀ p ∈ pre ++ (x, excObj C t1 dv c2) :: post, p.1 < s.heap.objs.size := fun p hp => Heap.lt_size (N p hp).1
  have after : ∀ h', (∀ b o, b ≠ x → s.heap.get? b = some o → h'.get? b = some o) → h'.get? x = some (excObj C s.heap.objs.size dv c2) → h'.get? s.heap.objs.size = some (excTup args) → Q .none { s with heap := h' } := fun h' kp ex et => by
    obtain ⟨oL, es, ep, eL, r⟩ := F.ns
    have base : ∀ b o, h₀.get? b = some o → h'.get? b = some o := fun b o y => kp b o (fun e => by rw [e, xn] at y; cases y) (F.keep b o y)
    refine z s.heap.objs.size h' ⟨⟨oL, es, ep, kp _ _ (fun e => xL e.symm) eL, r⟩, base, F.above⟩ ?_ below
    rw [hg]
    intro p hp
    rcases List.mem_cons.mp hp with rfl | hp
    · refine ⟨et, fun e => ?_, ?_⟩
      · have lt := Heap.lt_size (show s.heap.get? L = some oL from eL)
        rw [← e] at lt
        exact Nat.lt_irrefl _ lt
      · cases y : h₀.get? s.heap.objs.size with
        | none => rfl
        | some o => exact absurd (Heap.lt_size (F.keep _ _ y)) (Nat.lt_irrefl _)
    · rcases List.mem_append.mp hp with hp | hp
      · have y := N p (List.mem_append_left _ hp)
        exact ⟨kp _ _ (a p hp) y.1, y.2⟩
      · rcases List.mem_cons.mp hp with rfl | hp
        · exact ⟨ex, xL, xn⟩
        · have y := N p (List.mem_append_right _ (.tail _ hp))
          exact ⟨kp _ _ (b p hp) y.1, y.2⟩
  obtain ⟨hh, g, d, tk, os⟩ := s
  refine wpAny_call (codeAny_of_tree ?_)
  show wpAny _ A.in1 (callAny (.ref u) ⟨args, []⟩) _ _ _
  simp only [callAny]
  refine wpAny_bind (wpAny_load at_u ?_)
  simp only [kxs_mw, show (Value.type "method-wrapper" == Value.type "method" || Value.type "method-wrapper" == Value.type "builtin_function_or_method" || Value.type "method-wrapper" == Value.type "method-wrapper") = true by decide, if_true]
  refine KFB.if_so (by decide) (wpAny_bind (i_bound I hC at_x rfl (wpAny_bind (wpAny_pure (wpAny_pure ?_)))))
  exact ⟨plainId_quiet I.plain _, codeAny_builtin I.entry (exc_init_tree (cls := .ref C) (t0 := t1) (dv := dv) (c2 := c2) (c3 := .none) (b4 := .bool false) at_x few after)⟩
end
end PySem.W
namespace Pu
open PySem PySem.W PySem.Calls PyProof.Rows L2 PySem.F
theorem ini_KE : IniF "KeyError" "KeyError.__init__" where
  plain := by decide +kernel
  entry := entryFor_alias (id' := "BaseException.__init__") (by rw [fastTable_eq_tree]; kernel_rfl) (by first | rfl | decide +kernel) (by decide +kernel) (by rw [fastTable_eq_tree]; kernel_rfl)
  kind := by kernel_rfl
  row := by kernel_rfl
  star := by decide +kernel
abbrev bmKE : List Value := [.type "KeyError", .type "LookupError", .type "Exception", .type "BaseException", .type "object"]
theorem has_KE : HandSPX.Has "LookupError" bmKE := ⟨by decide +kernel, by decide +kernel, by decide +kernel⟩
theorem store_KE : StoreFacts "KeyError" bmKE "object.__setattr__" "object" where
  mro := by kernel_rfl
  slot := .of (owner := "object") (n := "__setattr__") (by rw [typeLookup_type, builtinLookup_eq_fast]; kernel_rfl) (by decide +kernel) (by decide +kernel) (by decide +kernel)
    (by first | exact .inl (by decide +kernel) | exact .inr (by decide +kernel)) (by rw [isSubtype_type]; kernel_rfl)
  entry := entry_object_sa
  kind := by decide +kernel
  split := by decide +kernel
  hasOwner := by decide +kernel
  args := fun a b c => by unfold argsOk; kernel_rfl
  passes := fun self => by kernel_rfl
theorem kxs_KE : KxsFacts "KeyError" "KeyError.__init__" := ⟨by show builtinType _ = _; rw [builtinType_eq_fast]; kernel_rfl, by first | kernel_rfl | rfl⟩
theorem bf_KE : BaseF "KeyError" "LookupError.__new__" "KeyError.__init__" bmKE where
  made := fun {_ _ _ _ _ _ _ _ _ _ _ _ _ _ bm _ _ _ _ _ _ _ _ _ _ _ _ _} hT hC hi hb hr hq => HandSPX.n_call F.excBase_LookupError (show HandSPX.Has "LookupError" bm from ⟨(hT _).trans has_KE.b, (hT _).trans has_KE.a, (hT _).trans has_KE.n⟩) hC hi hb hr hq
  sup := fun F X N q hm U hz h => i_call F X N ini_KE q hm U hz h
  KF := kxs_KE
  SF := store_KE
end Pu
namespace Pu
open PySem L2 PySem.Spec PyProof.Rows Pw
section
variable {K : PySem.W.Frag} {T : Tx K} {M Mt Mn : List Md} {X : Cx} {pos : Pos}
theorem XRep.ev {B O O' : Addr → Prop} {Fs Fs' : List (List Addr)} {H H' : Hp} {σ : L2.St} {ρ ρ' : Env} {cls : Value} {d : Option Addr} {x : Exn} (h : XRep T.G T.xa O H cls d x) (w : Wd T.G B O Fs H σ ρ M) (ev : Ev M O Fs H ρ O' Fs' H' ρ') : XRep T.G T.xa O' H' cls d x := by
  obtain ⟨D, e1, e2, dx, fvs, e3, n, e4, e5⟩ := h
  exact ⟨D, e1, e2, dx, fvs, e3, fun z => (ev.grow dx z).elim n (fun q => by rw [e4] at q; cases q), ev.chg dx _ e4 (fun z => n (w.sub dx z)), e5.keep (ev.kept w.sub)⟩
section
variable {i : Nat} {a : Addr} {oe : Obj} {cls : Value} {d : Option Addr} {pn : List (Addr × Obj)} {e : Expr} {es : List Expr}
def lXg (T : Tx K) (M : List Md) {α β : Type} (VR : VRel α β) (i : Nat) (a : Addr) (cls : Value) (d : Option Addr) (f : Exn → Env → R α) : L2.St → Hp → (β → Hp → Prop) → Prop := fun σ H Q => ∃ B O Fs ρ x, Wd T.G B O Fs H σ ρ M ∧ σ[i]? = some (some (.ref a)) ∧ XRep T.G T.xa O H cls d x ∧ Run (T.ex M) VR (f x ρ) B O Fs H σ ρ Q
abbrev lXE (T : Tx K) (M : List Md) (i : Nat) (a : Addr) (cls : Value) (d : Option Addr) (f : Exn → Env → R D) : TE := lXg T M (vE (T.ex M)) i a cls d f
abbrev lXEs (T : Tx K) (M : List Md) (i : Nat) (a : Addr) (cls : Value) (d : Option Addr) (f : Exn → Env → R (List D)) : TA := lXg T M (vEs (T.ex M)) i a cls d f
variable {f : Exn → Env → R D} {fs : Exn → Env → R (List D)}
theorem xe_in {g : Env → R D} (h : PE X e (lE (T.ex M) g)) : PE X e (lXE T M i a cls d fun _ => g) := PE.of h fun _ _ _ ⟨B, O, Fs, ρ, _, w, _, _, run⟩ => ⟨B, O, Fs, ρ, w, run⟩
def xFld (f : Str) : Exn → Env → R D := fun x ρ => R.of (x.fs.lookup f) ρ
theorem xe_fld {n f : Str} {p1 p2 : Pos} (hK : X.K = K) (hz : Zc cls d oe) (hv : ∃ vs, oe.data = .fields vs) (hx : ∀ n D, T.xa n = some D → XfC K D ∧ PySem.W.findIn K (.ref D) f = some none) (he : PE (X.suite a ((a, oe) :: pn)) (.Name n p1) (tVar i))
    (hb : attributeBase (.Name n p1) f X.env (eval (.Name n p1) X.env) = eval (.Name n p1) X.env := by rfl) : PE (X.suite a ((a, oe) :: pn)) (.Attribute (.Name n p1) f p2) (lXE T M i a cls d (xFld f)) := by
  subst hK
  refine ⟨fun pins s σ H Q I ⟨B, O, Fs, ρ, x, w, hσ, xr, run⟩ => ?_⟩
  obtain ⟨D, hD, hcls, dx, fvs, rfl, no, hdx, rf⟩ := xr
  obtain ⟨h1, h2⟩ := hx _ _ hD
  refine (pe_xf (X := X) h1 h2 hz hv he hb).run pins s σ H Q I ?_
  unfold xFld at run
  cases e : x.fs.lookup f with
  | none => rw [e] at run; exact run.elim
  | some dv =>
    rw [e] at run
    obtain ⟨v, hv1, rv, _⟩ := repF_look rf e
    exact ⟨_, hσ, rfl, hcls, dx, fvs, v, rfl, hdx, hv1, run.use w rv⟩
theorem xs_nil : PA X [] (lXEs T M i a cls d fun _ => sNil) := PA.of L2.pa_nil fun _ _ _ ⟨_, _, _, _, _, w, _, _, r⟩ => r.use w .nil
theorem xs_cons (ha : PE X e (lXE T M i a cls d f)) (hr : PA X es (lXEs T M i a cls d fs)) (hs : starEach (e :: es) X.env = (false, eval e X.env) :: starEach es X.env := by rfl) : PA X (e :: es) (lXEs T M i a cls d fun x => sCons (f x) (fs x)) := by
  refine PA.of (L2.pa_cons ha hr hs) fun σ H Q ⟨B, O, Fs, ρ, x, w, hσ, xr, run⟩ => ?_
  refine ⟨B, O, Fs, ρ, x, w, hσ, xr, run.bind fun y ρ1 v O1 Fs1 H1 _ ev1 w1 r1 run1 => ⟨B, O1, Fs1, ρ1, x, w1, hσ, xr.ev w ev1, run1.bind fun z ρ2 u O2 Fs2 H2 _ ev2 w2 r2 run2 => ?_⟩⟩
  exact run2.use w2 (.cons (r1.ev w1 ev2) r2)
theorem xe_tup {x1} (h : PA X es (lXEs T M i a cls d fs)) : PE X (.Tuple es x1 pos) (lXE T M i a cls d fun x => sAs gTupl (fs x)) := by
  refine PE.of (pe_tup h) fun σ H Q ⟨B, O, Fs, ρ, x, w, hσ, xr, run⟩ => ?_
  refine ⟨B, O, Fs, ρ, x, w, hσ, xr, run.bind fun xs ρ1 vs O1 Fs1 H1 _ ev1 w1 r1 run1 => ?_⟩
  refine run1.of (r := fun Q => vs.length ≤ sizeLine ∧ ∀ p, H1 p = none → Q (.ref p) (upd H1 p (.tup vs))) w1 fun d e k => ?_
  unfold gTupl at e
  split at e
  · rename_i hl
    cases e
    refine ⟨by rw [Reps.length r1]; exact Nat.le_trans hl line_lt, fun p hp => k _ _ (same_new hp) (.tup upd_same (Al.no w1.al hp) (r1.keep (Kept.same (same_new hp))))⟩
  · cases e
theorem x_setE {j : Nat} {y : Str} {p3 : Pos} (hN : X.N.Nodup) (hj : X.N[j]? = some y) (hy : Loc X.env.scope y) (he : PE (X.suite a ((a, oe) :: pn)) e (lXE T M i a cls d f)) (wx : Wk M T.Mx) (hn : nf M j = true)
    (hs : swapsWith e (some (.Name y p3)) pos.line X.env = pure false := by rfl) (hf : X.fn y = true ∨ X.env.scope.names.lookup y = some .local := by first | exact .inl rfl | exact .inr rfl | assumption) :
    PS (X.suite a ((a, oe) :: pn)) (.Assign [.Name y p3] e pos) (lSX T M (M.set j .sh) i a cls d fun x => sSet j (f x)) :=
  PS.of (ps_set (X := X.suite a ((a, oe) :: pn)) hN hj hy he hs hf) fun E σ H ⟨B, O, Fs, ρ, x, w, hσ, xr, run⟩ => ⟨B, O, Fs, ρ, x, w, hσ, xr, RunS.bindE run wx (fun a ρ1 v O1 Fs1 H1 _ ev w1 r1 run1 =>
    run1 O1 (Fs1.set j []) H1 _ (EvS.set EvS.refl hn (fun b hb => by cases hb)) (w1.setSh hn r1)) (fxOk_refl M)⟩
end
end
end Pu
namespace Pu
open PySem L2 PySem.Spec PyProof.Rows Pw
section
variable {K : PySem.W.Frag} {S : Sx K} {X : Cx} {e : Expr}
def sBadE {α : Type} : Env → R α := fun _ => .bad
theorem p_bad : PE X e (lE S sBadE) := ⟨fun _ _ _ _ _ _ ⟨_, _, _, _, _, run⟩ => run.elim⟩
end
end Pu
namespace Pu
open PySem L2 PySem.Spec PyProof.Rows Pw
section
variable {K : PySem.W.Frag} {T : Tx K} {M Mn : List Md} {X : Cx} {i : Nat} {a : Addr} {oe : Obj} {cls : Value} {d : Option Addr} {pn : List (Addr × Obj)} {e : Expr} {es : List Expr} {pos p p1 p3 : Pos}
variable {f fa fb : Exn → Env → R D} {fs : Exn → Env → R (List D)} {ta tb : Exn → Env → R Bool}
theorem breps_of {G : Gx K} {O : Addr → Prop} {F : List Addr} {H : Hp} : ∀ {vs : List V} {ds : List D}, Reps G O H vs ds → BReps G O F H vs ds
  | _, _, .nil => .nil
  | _, _, .cons h t => .cons (.inl h) (breps_of t)
theorem xe_callB {id : String} {x : Str} {r : List V → Hp → VK → Prop} {g : List D → Option D} (hc : CallR (X.suite a ((a, oe) :: pn)) (.builtin id) r) (hg : CallP T.G r g) (hgl : Gl X x) (hm : X.mg x = none) (hv : bootBuiltins x = some (.builtin id)) (ha : PA (X.suite a ((a, oe) :: pn)) (e :: es) (lXEs T M i a cls d fs)) (hn : x ≠ "__name__" := by decide) (hdb : (x == ("__debug__" : Str)) = false := by decide)
    (he : starEach (e :: es) X.env = (false, eval e X.env) :: starEach es X.env := by rfl) (hpl : (backTo pos (starEach es X.env)).any (·.1) = false := by rfl) : PE (X.suite a ((a, oe) :: pn)) (.Call (.Name x p) (e :: es) [] pos) (lXE T M i a cls d fun x => sAs g (fs x)) := by
  refine PE.of (pe_callB (X := X.suite a ((a, oe) :: pn)) hc hgl hm hv ha hn hdb he hpl) fun σ H Q ⟨B, O, Fs, ρ, x, w, hσ, xr, run⟩ => ?_
  refine ⟨B, O, Fs, ρ, x, w, hσ, xr, run.bind fun xs ρ1 vs O1 Fs1 H1 _ ev1 w1 r1 run1 => ?_⟩
  exact run1.of (r := fun Q => r vs H1 Q) w1 fun d e k => hg O1 Fs1.flatten H1 vs xs d w1.al e (breps_of r1) Q k
theorem cr_reprU {X : Cx} (un : X.A.units + 200 < cLine) (gd : X.A.guards = some []) : CallR X (.builtin "repr") (rRepr X.K) := by
  intro pins s σ H xs us Q I r h
  obtain ⟨v, p, rfl, dp, ok, q⟩ := h
  obtain ⟨u, rfl, ru⟩ := vals1 r
  unfold reprOk at ok
  simp only [Bool.and_eq_true, Bool.not_eq_true', decide_eq_true_eq] at ok
  obtain ⟨⟨⟨sh, nd⟩, dpt⟩, len⟩ := ok
  have hz : p.shown.length ≤ sizeLine := Nat.le_trans len line_lt
  have far : ∀ {a : Addr}, v = .ref a → wpAny (model X.prog X.w) X.A (call (.builtin "repr") [u]) (EP X pins σ Q) X.xe s := fun {a} ev => by
    obtain ⟨as, rd⟩ := Dp.reads I p v u dp ru
    subst ev
    obtain rfl : u = Value.ref a := ru
    exact PySem.repr_of_reads' rd sh (PyData.noDict_hsm nd) gd (by omega) (fun _ _ e => e) (fun h' w tk kk => ⟨.str p.shown, H, I.kept kk, ⟨_, rfl⟩, q⟩) hz
  cases dp with
  | non =>
    obtain rfl : u = Value.none := ru
    exact PySem.P.repr_of_none ⟨.str _, H, I.tok _, ⟨_, rfl⟩, q⟩
  | bl b =>
    obtain rfl : u = Value.bool b := ru
    exact PySem.P.repr_of_bool ⟨.str _, H, I.tok _, ⟨_, rfl⟩, q⟩
  | int i =>
    obtain ⟨t, rfl⟩ := ru
    exact PySem.P.repr_of_int (of_decide_eq_true sh) ⟨.str _, H, I.tok _, ⟨_, rfl⟩, q⟩
  | str x =>
    obtain ⟨t, rfl⟩ := ru
    exact PySem.P.repr_of_str ⟨.str _, H, I.tok _, ⟨_, rfl⟩, q⟩ hz
  | lst h1 h2 => exact far rfl
  | tup h1 h2 => exact far rfl
theorem xe_repr {k : Nat} (hK : X.K = K) (hr : RoomG k X.A) (hm : X.mg "repr" = none) (ha : PA (X.suite a ((a, oe) :: pn)) [e] (lXEs T M i a cls d fs)) (hgl : Gl X "repr") (he : starEach (e :: []) X.env = (false, eval e X.env) :: starEach [] X.env := by rfl) : PE (X.suite a ((a, oe) :: pn)) (.Call (.Name "repr" p) [e] [] pos) (lXE T M i a cls d fun x => sAs (g1 gRepr) (fs x)) := by
  subst hK
  exact xe_callB (cr_reprU (X := X.suite a ((a, oe) :: pn)) (show X.A.units + 200 < cLine by have := hr.un; omega) (show X.A.guards = some [] from hr.gd)) oRepr hgl hm (by decide +kernel) ha (by decide) (by decide) he (by rfl)
end
end Pu
namespace Pu
open PySem L2 PySem.Spec PyProof.Rows Pw
section
variable {K : PySem.W.Frag} {S : Sx K} {X : Cx} {e a b : Expr} {fa fb : Env → R D} {pos : Pos} {c : String} {C g : Addr} {fd : FuncData} {ps : List Str} {n : Nat} {f : List D → RF}
theorem pt_two {f f1 f2 : Env → R Bool} (h : ∀ ρ, f ρ = f1 ρ ∨ f ρ = f2 ρ) (h1 : PT X e (lT S f1)) (h2 : PT X e (lT S f2)) : PT X e (lT S f) := by
  refine ⟨fun pins s σ H Q I ⟨B, O, Fs, ρ, w, r⟩ => ?_⟩
  rcases h ρ with z | z
  · exact h1.run pins s σ H Q I ⟨B, O, Fs, ρ, w, z ▸ r⟩
  · exact h2.run pins s σ H Q I ⟨B, O, Fs, ρ, w, z ▸ r⟩
def isObj : D → Bool
  | .obj _ _ => true
  | _ => false
theorem op_two {h : D → Bool} {g1 g2 : D → D → Option D} (ρ : Env) : sOp (fun x y => if h x then g1 x y else g2 x y) fa fb ρ = sOp g1 fa fb ρ ∨ sOp (fun x y => if h x then g1 x y else g2 x y) fa fb ρ = sOp g2 fa fb ρ := by
  unfold sOp
  cases fa ρ with
  | ok x ρ1 =>
    show ((fb ρ1).bind fun y ρ2 => R.of (if h x then g1 x y else g2 x y) ρ2) = ((fb ρ1).bind fun y ρ2 => R.of (g1 x y) ρ2) ∨ ((fb ρ1).bind fun y ρ2 => R.of (if h x then g1 x y else g2 x y) ρ2) = ((fb ρ1).bind fun y ρ2 => R.of (g2 x y) ρ2)
    cases h x with
    | true => exact .inl rfl
    | false => exact .inr rfl
  | ex x ρ1 => exact .inl rfl
  | bad => exact .inl rfl
theorem sB_two {f f1 f2 : Env → R D} {ρ : Env} (h : f ρ = f1 ρ ∨ f ρ = f2 ρ) : sB f ρ = sB f1 ρ ∨ sB f ρ = sB f2 ρ := by
  unfold sB
  rcases h with h | h
  · exact .inl (by rw [h])
  · exact .inr (by rw [h])
end
end Pu
set_option maxHeartbeats 400000
namespace Pu
open PySem L2 PySem.Spec PyProof.Rows Pw
open AutoSeq1 (wpAny_loadPart')
open MeetsSeq MeetsSeq2 MeetsSeq3
section
theorem int_ne_plain (b : Int) (u : Tok) (l C dx : Addr) :
    Meets (Builtin.«int.__ne__» ⟨[.int b u, .ref l], []⟩) (fun _ R s => s.heap.get? l = some (PySem.W.instObj C dx) ∧ R (.ok (.ret .notImplemented)) s) :=
  .of_wp fun prog w A R s h => by obtain ⟨hp, g, d, tk, os⟩ := s; obtain ⟨hl, h⟩ := h; wp_walk using wpAny_loadPart' hl, wpAny_load hl; exact ⟨_, rfl, h⟩
theorem bool_ne_plain (b : Bool) (l C dx : Addr) :
    Meets (Builtin.«int.__ne__» ⟨[.bool b, .ref l], []⟩) (fun _ R s => s.heap.get? l = some (PySem.W.instObj C dx) ∧ R (.ok (.ret .notImplemented)) s) :=
  .of_wp fun prog w A R s h => by obtain ⟨hp, g, d, tk, os⟩ := s; obtain ⟨hl, h⟩ := h; wp_walk using wpAny_loadPart' hl, wpAny_load hl; exact ⟨_, rfl, h⟩
theorem str_ne_plain (b : Str) (u : Tok) (l C dx : Addr) :
    Meets (Builtin.«str.__ne__» ⟨[.str b u, .ref l], []⟩) (fun _ R s => s.heap.get? l = some (PySem.W.instObj C dx) ∧ R (.ok (.ret .notImplemented)) s) :=
  .of_wp fun prog w A R s h => by obtain ⟨hp, g, d, tk, os⟩ := s; obtain ⟨hl, h⟩ := h; wp_walk using wpAny_loadPart' hl, wpAny_load hl; exact ⟨_, rfl, h⟩
theorem list_ne_plain (l x C dx : Addr) (items : Array Value) (n : Nat) (dd : Option Addr) (sl : Array (Option Value)) :
    Meets (Builtin.«list.__ne__» ⟨[.ref l, .ref x], []⟩) (fun A R s => s.heap.get? l = some { cls := .type "list", dict := dd, data := .seq items n, slots := sl } ∧ s.heap.get? x = some (PySem.W.instObj C dx) ∧ (∀ M : Model, PySem.W.Looks M s.heap (isSubtype (.ref C) (.type "list")) false) ∧ R (.ok (.ret .notImplemented)) s) :=
  .of_wp fun prog w A R s h => by
    obtain ⟨hp, g, d, tk, os⟩ := s
    obtain ⟨hl, hx, hi, h⟩ := h
    have hi : ∀ {M : Model} {A : Around} {Q : Bool → Shared → Prop} {E : Value → Shared → Prop}, Q false ⟨hp, g, d, tk, os⟩ → wpAny M A (isSubtype (.ref C) (.type "list")) Q E ⟨hp, g, d, tk, os⟩ := fun {M A Q E} q => (hi M).here q
    wp_walk using wpAny_loadPart' hl, wpAny_loadPart' hx, hi
    exact ⟨_, rfl, h⟩
theorem tuple_ne_plain (l x C dx : Addr) (items : Array Value) (n : Nat) (dd : Option Addr) (sl : Array (Option Value)) :
    Meets (Builtin.«tuple.__ne__» ⟨[.ref l, .ref x], []⟩) (fun A R s => s.heap.get? l = some { cls := .type "tuple", dict := dd, data := .seq items n, slots := sl } ∧ s.heap.get? x = some (PySem.W.instObj C dx) ∧ (∀ M : Model, PySem.W.Looks M s.heap (isSubtype (.ref C) (.type "tuple")) false) ∧ R (.ok (.ret .notImplemented)) s) :=
  .of_wp fun prog w A R s h => by
    obtain ⟨hp, g, d, tk, os⟩ := s
    obtain ⟨hl, hx, hi, h⟩ := h
    have hi : ∀ {M : Model} {A : Around} {Q : Bool → Shared → Prop} {E : Value → Shared → Prop}, Q false ⟨hp, g, d, tk, os⟩ → wpAny M A (isSubtype (.ref C) (.type "tuple")) Q E ⟨hp, g, d, tk, os⟩ := fun {M A Q E} q => (hi M).here q
    wp_walk using wpAny_loadPart' hl, wpAny_loadPart' hx, hi
    exact ⟨_, rfl, h⟩
end
section
variable {prog : Program} {w : World} {A : Around} {E : Value → Shared → Prop} {s : Shared} {K : PySem.W.Frag} {x C f : Addr} {ox : Obj} {od : Option Obj} {a ta : Value}
theorem ne_RK {Q : Value → Shared → Prop} (hu : A.units + 1 < cLine) (X : K.In s.heap) (I : PySem.W.InstAt s.heap x ox C od) (hm : PySem.W.mroIn K C (.type "object") = some true) (ha : PySem.W.Looks (model prog w) s.heap (typeOf a) ta) (hno : oneThing? .NotEq a (.ref x) = none) (hd : (ta != .ref C) = true)
    (hsub : PySem.W.subIn K (.ref C) ta = some false) (dec : ∀ Q' : Option Value → Shared → Prop, Q' none s → wpAny (model prog w) A (tryCompare a (cmpInfo .NotEq).2.1 (.ref x)) Q' E s)
    (hne : PySem.W.findIn K (.ref C) "__ne__" = some (some (.builtin "object.__ne__"))) (hs : PySem.W.findIn K (.ref C) "__eq__" = some (some (.ref f))) (hf : PySem.W.isFn K (.ref f) = true)
    (h : wpAny (model prog w) A.in1 (call (.ref f) [.ref x, a]) (fun v s' => ∃ k, v = .bool k ∧ Q (.bool (!k)) s') E s) : wpAny (model prog w) A (richCompare .NotEq a (.ref x)) Q E s := by
  have hu1 : A.in1.units < cLine := hu
  have one : wpAny (model prog w) A (tryCompare (.ref x) (cmpInfo .NotEq).2.2 a) (fun r s' => ∃ v, r = some v ∧ Q v s') E s := by
    unfold tryCompare
    refine wpAny_bind (ifBound_B X I hne (fun self => by kernel_rfl) (objNe_call hu1 X I hm hs hf (wpAny_mono h (fun v s' hv => ?_) fun _ _ e => e)))
    obtain ⟨k, rfl, q⟩ := hv
    exact ⟨k, rfl, wpAny_pure ⟨_, rfl, q⟩⟩
  unfold richCompare
  simp only [hno]
  refine wpAny_holding (wpAny_bind (wpAny_cRoomFor (by omega) ?_))
  refine wpAny_bind (ha.here (wpAny_bind (I.type.here ?_)))
  rw [if_pos hd]
  refine wpAny_bind ((PySem.W.looks_subIn X hsub).here ?_)
  simp only [Bool.false_eq_true, if_false, Bool.not_false, if_true]
  refine wpAny_bind (dec _ ?_)
  dsimp only
  refine wpAny_bind (wpAny_mono one (fun r s' z => ?_) fun _ _ e => e)
  obtain ⟨v, rfl, hq⟩ := z
  exact wpAny_pure hq
end
def plainKd : Kd → Bool
  | .own _ => false
  | _ => true
theorem own_sub {K : PySem.W.Frag} {C : Addr} {n : String} (h : PySem.W.kitOne K (.ref C) (.type n) = some false) : PySem.W.subIn K (.ref C) (.type n) = some false := by
  unfold PySem.W.kitOne PySem.W.kitCls at h
  split at h
  · cases h
  · dsimp only at h
    split at h
    · exact h
    · cases h
section
variable {X : Cx} {C g : Addr} {CX : CXT} {n : Nat} {fd : FuncData} {ps : List Str} {sp : Sp} {E : XK}
def rNeR (K : PySem.W.Frag) (C : Addr) (sp : Sp) (E : XK) : R2 := fun x y H Q => ∃ a dx fs k, y = .ref a ∧ H a = some (.ins C dx fs) ∧ Any K H x k ∧ plainKd k = true ∧ sp [y, x] H (fun z H' => ∃ b, z = .bl b ∧ Q (.bl (!b)) H') E
theorem op_neR (o : OwnC X.K C) (hz : PySem.W.subIn X.K (.ref C) (.type "NoneType") = some false) (hne : PySem.W.findIn X.K (.ref C) "__ne__" = some (some (.builtin "object.__ne__"))) (hs : PySem.W.findIn X.K (.ref C) "__eq__" = some (some (.ref g))) (hf : PySem.W.isFn X.K (.ref g) = true)
    (FO : FnOkG X.prog X.w X.K X.mg X.base CX n g fd ps sp) (hb : Binds X.K fd ps []) (hr : RoomG (n + 1) X.A) (hx : Passes CX X E) : OpR X (compareOp .NotEq) (rNeR X.K C sp E) := by
  intro pins s σ H x y v u Q I rx ry h
  obtain ⟨a, dx, fs, k, rfl, ha, hk, hp, q⟩ := h
  cases (show u = Value.ref a from ry)
  obtain ⟨mA, O, _⟩ := ins_get I.hok ha
  obtain ⟨od, J, _⟩ := O.look
  have hu : X.A.units + 1 < cLine := hu_of hr.toRoom
  have hob := O.obj
  have fin : ∀ (hno : oneThing? .NotEq v (.ref a) = none) (hd : (k.ty != .ref C) = true) (hsub : PySem.W.subIn X.K (.ref C) k.ty = some false) (dec : ∀ Q' : Option Value → Shared → Prop, Q' none s → wpAny (model X.prog X.w) X.A (tryCompare v (cmpInfo .NotEq).2.1 (.ref a)) Q' X.xe s),
      wpAny (model X.prog X.w) X.A (richCompare .NotEq v (.ref a)) (fun r s' => ∃ z H', Inv X pins σ H' s' ∧ RelV z r ∧ Q z H') X.xe s := fun hno hd hsub dec => by
    refine ne_RK hu I.kIn J o.hm (any_type I hk rx) hno hd hsub dec hne hs hf ?_
    refine wpAny_mono (run_fnA (us := [.ref a, v]) (vs := [.ref a, x]) FO hr.in1 I.env0.in1 hb hx I (.cons ry (.cons rx .nil)) q) (fun w s' z => ?_) fun _ _ x => x
    obtain ⟨z', H', I', rz, b, rfl, qz⟩ := z
    cases (show w = Value.bool b from rz)
    exact ⟨b, rfl, .bl (!b), H', I', rfl, qz⟩
  have hsubs : ∀ (n : String), PySem.W.subIn X.K (.ref C) (.type n) = some false → ∀ M : Model, PySem.W.Looks M s.heap (isSubtype (.ref C) (.type n)) false := fun n e M => PySem.W.looks_subIn I.kIn e
  cases hk with
  | non =>
    cases (show v = Value.none from rx)
    exact fin rfl rfl hz fun Q' hq => wpAny_tryCompare_declines (T := "NoneType") rfl F.slot_NoneType_ne (call_gives F.slot_NoneType_ne rfl F.entry_NoneType_ne (F.args_NoneType_ne_2 _ _) (PySem.SeqAt.NoneType___ne___none_ref_0 a) ⟨rfl, hq⟩)
  | bl b =>
    cases (show v = Value.bool b from rx)
    exact fin rfl rfl (own_sub o.kb) fun Q' hq => wpAny_tryCompare_declines (T := "bool") rfl F.slot_bool_ne (call_meets F.slot_bool_ne rfl F.entry_int_ne (F.args_int_ne_2 _ _) (bool_ne_plain b a C dx) ⟨hob, rfl, hq⟩)
  | int i =>
    obtain ⟨t, rfl⟩ := (show ∃ t, v = Value.int i t from rx)
    exact fin rfl rfl (own_sub o.ki) fun Q' hq => wpAny_tryCompare_declines (T := "int") (typeIs_int s i t) F.slot_int_ne (call_meets F.slot_int_ne (typeIs_int s i t) F.entry_int_ne (F.args_int_ne_2 _ _) (int_ne_plain i t a C dx) ⟨hob, rfl, hq⟩)
  | str z =>
    obtain ⟨t, rfl⟩ := (show ∃ t, v = Value.str z t from rx)
    exact fin rfl rfl (own_sub o.ks) fun Q' hq => wpAny_tryCompare_declines (T := "str") (typeIs_str s z t) F.slot_str_ne (call_meets F.slot_str_ne (typeIs_str s z t) F.entry_str_ne (F.args_str_ne_2 _ _) (str_ne_plain z t a C dx) ⟨hob, rfl, hq⟩)
  | @lst p xs hl =>
    obtain ⟨its, _, ⟨⟨oc, od', dt, sl⟩, m, e1, e2, e3, e4⟩, _⟩ := I.list hl
    cases e2
    cases e4
    cases (show v = Value.ref p from rx)
    have ht : s.TypeIs (.ref p) "list" := ⟨_, e1, rfl⟩
    exact fin (by first | rfl | exact oneThing_ref .. | simp only [oneThing_ref]) rfl (own_sub o.kl) fun Q' hq => wpAny_tryCompare_declines ht F.slot_list_ne (call_meets F.slot_list_ne ht F.entry_list_ne (F.args_list_ne_2 _ _) (list_ne_plain p a C dx its.toArray m od' sl) ⟨e1, hob, hsubs _ (own_sub o.kl), rfl, hq⟩)
  | @tup p xs hl =>
    obtain ⟨its, _, ⟨⟨oc, od', dt, sl⟩, e1, e2, m, e4⟩, _⟩ := I.tuple hl
    cases e2
    cases e4
    cases (show v = Value.ref p from rx)
    have ht : s.TypeIs (.ref p) "tuple" := ⟨_, e1, rfl⟩
    exact fin (by first | rfl | exact oneThing_ref .. | simp only [oneThing_ref]) rfl (own_sub o.kt) fun Q' hq => wpAny_tryCompare_declines ht F.slot_tuple_ne (call_meets F.slot_tuple_ne ht F.entry_tuple_ne (F.args_tuple_ne_2 _ _) (tuple_ne_plain p a C dx its.toArray m od' sl) ⟨e1, hob, hsubs _ (own_sub o.kt), rfl, hq⟩)
  | own _ _ => cases hp
end
def plainR : D → Bool
  | .non => true
  | .bl _ => true
  | .int _ => true
  | .str _ => true
  | .lst _ => true
  | .tup _ => true
  | .ktp _ => true
  | _ => false
def gNeR (c : String) (f : List D → RF) (x y : D) : Option D := match y with
  | .obj c' _ => if c' = c ∧ plainR x = true then match f [y, x] with
      | .ok (.bl b) _ => some (.bl (!b))
      | _ => none
    else none
  | _ => none
def gNeXR (c : String) (f : List D → RF) (x y : D) : Option D := if isObj x then gNeO c f x y else gNeR c f x y
section
variable {K : PySem.W.Frag} {G : Gx K} {xa : String → Option Addr}
theorem kd_plainR {O : Addr → Prop} {F : List Addr} {H : Hp} {v : V} {x : D} (hb : BRep G O F H v x) (h : plainR x = true) : ∃ k, x.kd G = some k ∧ plainKd k = true := by
  cases x with
  | non => exact ⟨_, rfl, rfl⟩
  | bl b => exact ⟨_, rfl, rfl⟩
  | int i => exact ⟨_, rfl, rfl⟩
  | str x => exact ⟨_, rfl, rfl⟩
  | lst xs => exact ⟨_, rfl, rfl⟩
  | tup xs => exact ⟨_, rfl, rfl⟩
  | ktp xs => exact ⟨_, rfl, rfl⟩
  | _ => cases h
theorem oNeR {c : String} {C : Addr} {f : List D → RF} (hC : G.ca c = some C) : OpP G (rNeR K C (SpF G xa [.br, .br] f) (fun _ _ _ => False)) (gNeR c f) := fun O F H x y a b d al e ha hb Q k => by
  cases b with
  | obj c' fs =>
    unfold gNeR at e
    dsimp only at e
    split at e
    · rename_i hc
      obtain ⟨rfl, hp⟩ := hc
      split at e
      · rename_i t ds' hf
        cases e
        obtain ⟨p, C', dx, fvs, e1, e2, e3, e4, e5⟩ := hb.obj
        rw [hC] at e2
        cases e2
        obtain ⟨kd, hk, hn⟩ := kd_plainR ha hp
        refine ⟨p, dx, fvs, kd, e1, e3, any_of ha hk, hn, sp_val (.br hb (.br ha .nil)) al hf fun v H' sm r => ?_⟩
        cases r
        exact ⟨_, rfl, k _ _ sm (.bl _)⟩
      · cases e
    · cases e
  | _ => cases e
end
section
variable {K : PySem.W.Frag} {S : Sx K} {X : Cx} {e a b : Expr} {fa fb : Env → R D} {pos : Pos} {c : String} {C g : Addr} {fd : FuncData} {ps : List Str} {n : Nat} {f : List D → RF}
theorem r_neXR (hK : X.K = K) (hC : S.G.ca c = some C) (hs : Meth X.K C "__eq__" g) (o : OwnC X.K C) (hz : PySem.W.subIn X.K (.ref C) (.type "NoneType") = some false) (hne : PySem.W.findIn X.K (.ref C) "__ne__" = some (some (.builtin "object.__ne__"))) (F : FnOkG X.prog X.w X.K X.mg X.base (L2.CX X.prog X.w) n g fd ps (SpF S.G S.xa [.br, .br] f)) (hbd : Binds X.K fd ps []) (hr : RoomG (n + 1) X.A) (ha : PE X a (lB S fa)) (hb : PE X b (lB S fb)) : PT X (.Compare a [.NotEq] [b] pos) (lT S (sB (sOp (gNeXR c f) fa fb))) :=
  pt_two (fun ρ => sB_two (op_two (h := isObj) ρ)) (r_neO hK hC hs o.hm hne F hbd hr ha hb) (by
    subst hK
    exact t_cmp (op_neR o hz hne hs.at_ hs.fn F hbd hr passes0) (oNeR hC) ha hb (nomark _))
end
end Pu
namespace Pu
open PySem L2 Pw
def top (i : Nat) : Stmt := PySem.Challenge.pw_plateways_k05_arrows_asked_and_washed.main.body.getD i (.Pass ⟨0, 0, 0, 0⟩)
abbrev s__law_deal : Stmt := top 24
abbrev n__law_deal : List Str := ["_law_script", "_law_base", "_law_stirred", "_law_cells", "_law_cell"]
theorem sc__law_deal : FnScope n__law_deal ["_law_script", "_law_base"] (defScope s__law_deal) := ⟨by decide +kernel, by decide +kernel, by decide +kernel, by decide +kernel, by decide +kernel, by decide +kernel, by decide +kernel⟩
abbrev s__law_draw : Stmt := top 25
abbrev n__law_draw : List Str := ["_law_deal_here", "_law_many", "_law_left"]
theorem sc__law_draw : FnScope n__law_draw ["_law_deal_here", "_law_many"] (defScope s__law_draw) := ⟨by decide +kernel, by decide +kernel, by decide +kernel, by decide +kernel, by decide +kernel, by decide +kernel, by decide +kernel⟩
abbrev s_is_integer : Stmt := top 9
abbrev n_is_integer : List Str := ["value"]
theorem sc_is_integer : FnScope n_is_integer ["value"] (defScope s_is_integer) := ⟨by decide +kernel, by decide +kernel, by decide +kernel, by decide +kernel, by decide +kernel, by decide +kernel, by decide +kernel⟩
abbrev s_is_number : Stmt := top 10
abbrev n_is_number : List Str := ["value"]
theorem sc_is_number : FnScope n_is_number ["value"] (defScope s_is_number) := ⟨by decide +kernel, by decide +kernel, by decide +kernel, by decide +kernel, by decide +kernel, by decide +kernel, by decide +kernel⟩
abbrev s_is_sequence : Stmt := top 11
abbrev n_is_sequence : List Str := ["value"]
theorem sc_is_sequence : FnScope n_is_sequence ["value"] (defScope s_is_sequence) := ⟨by decide +kernel, by decide +kernel, by decide +kernel, by decide +kernel, by decide +kernel, by decide +kernel, by decide +kernel⟩
abbrev s_is_name : Stmt := top 12
abbrev n_is_name : List Str := ["value", "sign"]
theorem sc_is_name : FnScope n_is_name ["value"] (defScope s_is_name) := ⟨by decide +kernel, by decide +kernel, by decide +kernel, by decide +kernel, by decide +kernel, by decide +kernel, by decide +kernel⟩
abbrev s_is_row_of_names : Stmt := top 13
abbrev n_is_row_of_names : List Str := ["value", "one"]
theorem sc_is_row_of_names : FnScope n_is_row_of_names ["value"] (defScope s_is_row_of_names) := ⟨by decide +kernel, by decide +kernel, by decide +kernel, by decide +kernel, by decide +kernel, by decide +kernel, by decide +kernel⟩
abbrev s_are_unlike : Stmt := top 14
abbrev n_are_unlike : List Str := ["values", "value"]
theorem sc_are_unlike : FnScope n_are_unlike ["values"] (defScope s_are_unlike) := ⟨by decide +kernel, by decide +kernel, by decide +kernel, by decide +kernel, by decide +kernel, by decide +kernel, by decide +kernel⟩
abbrev s_is_arrow : Stmt := top 18
abbrev n_is_arrow : List Str := ["places", "value"]
theorem sc_is_arrow : FnScope n_is_arrow ["places", "value"] (defScope s_is_arrow) := ⟨by decide +kernel, by decide +kernel, by decide +kernel, by decide +kernel, by decide +kernel, by decide +kernel, by decide +kernel⟩
abbrev s_are_arrows : Stmt := top 19
abbrev n_are_arrows : List Str := ["places", "value", "one", "start", "end", "lost"]
theorem sc_are_arrows : FnScope n_are_arrows ["places", "value"] (defScope s_are_arrows) := ⟨by decide +kernel, by decide +kernel, by decide +kernel, by decide +kernel, by decide +kernel, by decide +kernel, by decide +kernel⟩
abbrev s_Step___init__ : Stmt := inClass (top 20) 0
abbrev n_Step___init__ : List Str := ["self", "name", "places", "arrows", "start", "end", "lost", "place"]
theorem sc_Step___init__ : FnScope n_Step___init__ ["self", "name", "places", "arrows"] (defScope s_Step___init__) := ⟨by decide +kernel, by decide +kernel, by decide +kernel, by decide +kernel, by decide +kernel, by decide +kernel, by decide +kernel⟩
abbrev s_Step___str__ : Stmt := inClass (top 20) 7
abbrev n_Step___str__ : List Str := ["self", "head", "lines", "tail", "start", "end", "lost"]
theorem sc_Step___str__ : FnScope n_Step___str__ ["self"] (defScope s_Step___str__) := ⟨by decide +kernel, by decide +kernel, by decide +kernel, by decide +kernel, by decide +kernel, by decide +kernel, by decide +kernel⟩
abbrev s_Step___eq__ : Stmt := inClass (top 20) 6
abbrev n_Step___eq__ : List Str := ["self", "other"]
theorem sc_Step___eq__ : FnScope n_Step___eq__ ["self", "other"] (defScope s_Step___eq__) := ⟨by decide +kernel, by decide +kernel, by decide +kernel, by decide +kernel, by decide +kernel, by decide +kernel, by decide +kernel⟩
abbrev s_Step_is_touched : Stmt := inClass (top 20) 3
abbrev n_Step_is_touched : List Str := ["self", "place"]
theorem sc_Step_is_touched : FnScope n_Step_is_touched ["self", "place"] (defScope s_Step_is_touched) := ⟨by decide +kernel, by decide +kernel, by decide +kernel, by decide +kernel, by decide +kernel, by decide +kernel, by decide +kernel⟩
abbrev s_Step_washed : Stmt := inClass (top 20) 4
abbrev n_Step_washed : List Str := ["self", "place", "arrow"]
theorem sc_Step_washed : FnScope n_Step_washed ["self", "place"] (defScope s_Step_washed) := ⟨by decide +kernel, by decide +kernel, by decide +kernel, by decide +kernel, by decide +kernel, by decide +kernel, by decide +kernel⟩
abbrev s_Step_loss : Stmt := inClass (top 20) 2
abbrev n_Step_loss : List Str := ["self", "start", "end"]
theorem sc_Step_loss : FnScope n_Step_loss ["self", "start", "end"] (defScope s_Step_loss) := ⟨by decide +kernel, by decide +kernel, by decide +kernel, by decide +kernel, by decide +kernel, by decide +kernel, by decide +kernel⟩
abbrev s__law_pick : Stmt := top 26
abbrev n__law_pick : List Str := ["_law_deal_here", "_law_some"]
theorem sc__law_pick : FnScope n__law_pick ["_law_deal_here", "_law_some"] (defScope s__law_pick) := ⟨by decide +kernel, by decide +kernel, by decide +kernel, by decide +kernel, by decide +kernel, by decide +kernel, by decide +kernel⟩
abbrev s__law_mixed : Stmt := top 27
abbrev n__law_mixed : List Str := ["_law_deal_here", "_law_some", "_law_left", "_law_found"]
theorem sc__law_mixed : FnScope n__law_mixed ["_law_deal_here", "_law_some"] (defScope s__law_mixed) := ⟨by decide +kernel, by decide +kernel, by decide +kernel, by decide +kernel, by decide +kernel, by decide +kernel, by decide +kernel⟩
abbrev s__law_thing : Stmt := top 28
abbrev n__law_thing : List Str := ["_law_deal_here", "_law_deep", "_law_some", "_law_inner", "_law_turn"]
theorem sc__law_thing : FnScope n__law_thing ["_law_deal_here", "_law_deep"] (defScope s__law_thing) := ⟨by decide +kernel, by decide +kernel, by decide +kernel, by decide +kernel, by decide +kernel, by decide +kernel, by decide +kernel⟩
abbrev s__law_spots : Stmt := top 29
abbrev n__law_spots : List Str := ["_law_deal_here", "_law_many"]
theorem sc__law_spots : FnScope n__law_spots ["_law_deal_here", "_law_many"] (defScope s__law_spots) := ⟨by decide +kernel, by decide +kernel, by decide +kernel, by decide +kernel, by decide +kernel, by decide +kernel, by decide +kernel⟩
abbrev s__law_stage : Stmt := top 30
abbrev n__law_stage : List Str := ["_law_deal_here", "_law_title", "_law_spots_here", "_law_touched", "_law_marks", "_law_turn", "_law_rows", "_law_first", "_law_second"]
theorem sc__law_stage : FnScope n__law_stage ["_law_deal_here", "_law_title", "_law_spots_here"] (defScope s__law_stage) := ⟨by decide +kernel, by decide +kernel, by decide +kernel, by decide +kernel, by decide +kernel, by decide +kernel, by decide +kernel⟩
abbrev s__law_stage_text : Stmt := top 32
abbrev n__law_stage_text : List Str := ["_law_stage_here", "_law_tail", "_law_first", "_law_second", "_law_cost"]
theorem sc__law_stage_text : FnScope n__law_stage_text ["_law_stage_here"] (defScope s__law_stage_text) := ⟨by decide +kernel, by decide +kernel, by decide +kernel, by decide +kernel, by decide +kernel, by decide +kernel, by decide +kernel⟩
abbrev s__law_heard : Stmt := top 35
abbrev n__law_heard : List Str := ["_law_made", "_law_spot", "_law_found", "e"]
theorem sc__law_heard : FnScope n__law_heard ["_law_made", "_law_spot"] (defScope s__law_heard) := ⟨by decide +kernel, by decide +kernel, by decide +kernel, by decide +kernel, by decide +kernel, by decide +kernel, by decide +kernel⟩
abbrev s_law : Stmt := top 36
abbrev n_law : List Str := ["_law_script", "_law_turn", "_law_deal_here", "_law_more", "_law_stage_here", "_law_made", "_law_costs", "_law_first", "_law_second", "_law_cost", "_law_rest", "_law_due", "_law_clean", "_law_spot", "_law_thing_here", "_law_odd", "_law_mark"]
theorem sc_law : FnScope n_law ["_law_script"] (defScope s_law) := ⟨by decide +kernel, by decide +kernel, by decide +kernel, by decide +kernel, by decide +kernel, by decide +kernel, by decide +kernel⟩
abbrev s_InvalidStep___init__ : Stmt := inClass (top 2) 0
theorem tx_InvalidStep : XTx s_InvalidStep___init__ "word" := ⟨⟨_, _, _, _, _, _, _, _, _, _, _, _, _, rfl, .inl ⟨_, _, _, rfl⟩, by decide +kernel, rfl, rfl, fun _ _ _ _ _ _ _ _ _ _ _ => rfl, by decide +kernel, by decide +kernel, by decide +kernel, by decide +kernel, by decide +kernel, by decide +kernel, by decide +kernel, by decide +kernel, by decide +kernel, by decide +kernel, by decide +kernel⟩⟩
abbrev s_NoPlace___init__ : Stmt := inClass (top 4) 0
theorem tx_NoPlace : XTx s_NoPlace___init__ "name" := ⟨⟨_, _, _, _, _, _, _, _, _, _, _, _, _, rfl, .inr ⟨_, rfl⟩, by decide +kernel, rfl, rfl, fun _ _ _ _ _ _ _ _ _ _ _ => rfl, by decide +kernel, by decide +kernel, by decide +kernel, by decide +kernel, by decide +kernel, by decide +kernel, by decide +kernel, by decide +kernel, by decide +kernel, by decide +kernel, by decide +kernel⟩⟩
def shp_Step (n : Str) : Shp := if n = "leads" then .dct (.lst .sh) else .sh
structure Txt (P : Program) (K : PySem.W.Frag) (mg : Str → Option Value) where
  bl : ∀ x ∈ (["abs", "all", "bool", "int", "isinstance", "len", "list", "max", "min", "range", "repr", "sorted", "str", "tuple"] : List Str), mg x = none
  tk_LETTERS : Tok
  m_LETTERS : mg "LETTERS" = some (.str "abcdefghijklmnopqrstuvwxyz" tk_LETTERS)
  a_RESERVED : Addr
  m_RESERVED : mg "RESERVED" = some (.ref a_RESERVED)
  k_RESERVED : KTup K a_RESERVED [.str "at", .str "go", .str "ahead", .str "trace", .str "limit", .str "work"]
  u__law_deal : UFn K mg "_law_deal" "_law_deal" s__law_deal ["_law_script", "_law_base"]
  u__law_draw : UFn K mg "_law_draw" "_law_draw" s__law_draw ["_law_deal_here", "_law_many"]
  u_is_integer : UFn K mg "is_integer" "is_integer" s_is_integer ["value"]
  u_is_number : UFn K mg "is_number" "is_number" s_is_number ["value"]
  u_is_sequence : UFn K mg "is_sequence" "is_sequence" s_is_sequence ["value"]
  u_is_name : UFn K mg "is_name" "is_name" s_is_name ["value"]
  u_is_row_of_names : UFn K mg "is_row_of_names" "is_row_of_names" s_is_row_of_names ["value"]
  u_are_unlike : UFn K mg "are_unlike" "are_unlike" s_are_unlike ["values"]
  u_is_arrow : UFn K mg "is_arrow" "is_arrow" s_is_arrow ["places", "value"]
  u_are_arrows : UFn K mg "are_arrows" "are_arrows" s_are_arrows ["places", "value"]
  a_Step___init__ : Addr
  d_Step___init__ : FuncData
  e0_Step___init__ : Addr
  v0_Step___init__ : KTup K e0_Step___init__ []
  F_Step___init__ : FunD K "__init__" "Step.__init__" (defArgs s_Step___init__) (defBody s_Step___init__) (defScope s_Step___init__) [.ref e0_Step___init__] [] a_Step___init__ d_Step___init__
  n_Step___init__ : Binds K d_Step___init__ ["self", "name", "places", "arrows"] []
  nd1_Step___init__ : ∃ ds, Vals [.ref e0_Step___init__] ds ∧ Binds K d_Step___init__ ["self", "name", "places", "arrows"] ds
  u_Step___str__ : UMe K "__str__" "Step.__str__" s_Step___str__ ["self"]
  u_Step___eq__ : UMe K "__eq__" "Step.__eq__" s_Step___eq__ ["self", "other"]
  u_Step_is_touched : UMe K "is_touched" "Step.is_touched" s_Step_is_touched ["self", "place"]
  u_Step_washed : UMe K "washed" "Step.washed" s_Step_washed ["self", "place"]
  u_Step_loss : UMe K "loss" "Step.loss" s_Step_loss ["self", "start", "end"]
  u__law_pick : UFn K mg "_law_pick" "_law_pick" s__law_pick ["_law_deal_here", "_law_some"]
  u__law_mixed : UFn K mg "_law_mixed" "_law_mixed" s__law_mixed ["_law_deal_here", "_law_some"]
  u__law_thing : UFn K mg "_law_thing" "_law_thing" s__law_thing ["_law_deal_here", "_law_deep"]
  u__law_spots : UFn K mg "_law_spots" "_law_spots" s__law_spots ["_law_deal_here", "_law_many"]
  u__law_stage : UFn K mg "_law_stage" "_law_stage" s__law_stage ["_law_deal_here", "_law_title", "_law_spots_here"]
  u__law_stage_text : UFn K mg "_law_stage_text" "_law_stage_text" s__law_stage_text ["_law_stage_here"]
  u__law_heard : UFn K mg "_law_heard" "_law_heard" s__law_heard ["_law_made", "_law_spot"]
  u_law : UFn K mg "law" "law" s_law ["_law_script"]
  u_InvalidStep : UEx mg "InvalidStep"
  u_NoPlace : UEx mg "NoPlace"
  u_Step : UCl K mg "Step"
  nz_Step : PySem.W.subIn K (.ref u_Step.a) (.type "NoneType") = some false
  fi_InvalidStep : Addr
  i_InvalidStep : InitK P K "ValueError" "ValueError.__new__" "ValueError.__init__" bmVE u_InvalidStep.a fi_InvalidStep "word"
  fi_NoPlace : Addr
  i_NoPlace : InitK P K "KeyError" "LookupError.__new__" "KeyError.__init__" bmKE u_NoPlace.a fi_NoPlace "name"
  e_NoPlace : ExC K u_NoPlace.a
  sx_InvalidStep_NoPlace : PySem.W.subIn K (.ref u_InvalidStep.a) (.ref u_NoPlace.a) = some false
  sx_NoPlace_NoPlace : PySem.W.subIn K (.ref u_NoPlace.a) (.ref u_NoPlace.a) = some true
  xc_InvalidStep : XfC K u_InvalidStep.a
  xc_NoPlace : XfC K u_NoPlace.a
  nx_InvalidStep_name : PySem.W.findIn K (.ref u_InvalidStep.a) "name" = some none
  nx_NoPlace_name : PySem.W.findIn K (.ref u_NoPlace.a) "name" = some none
  k_Step : Mk K u_Step.a a_Step___init__
  t_Step___str__ : Meth K u_Step.a "__str__" u_Step___str__.a
  t_Step___eq__ : Meth K u_Step.a "__eq__" u_Step___eq__.a
  t_Step_is_touched : Meth K u_Step.a "is_touched" u_Step_is_touched.a
  t_Step_washed : Meth K u_Step.a "washed" u_Step_washed.a
  t_Step_loss : Meth K u_Step.a "loss" u_Step_loss.a
  x_Step : ∀ f ∈ (["name", "places", "arrows", "losses", "leads"] : List Str), NoAttr K u_Step.a f
  di_Step : ∀ e ∈ ([] : List Addr), PySem.W.kitOne K (.ref u_Step.a) (.ref e) = some false
end Pu
namespace Pv
open PySem L2 Pw
open Pu (Txt top s__law_draw n__law_draw sc__law_draw s__law_deal n__law_deal sc__law_deal spDrawX spDealX drawZ dealZ draw_zero draw_one draw_nil)
section
variable {P : Program} {w : World} {K : PySem.W.Frag} {mg : Str → Option Value} {base : Heap}
theorem ok_draw (T : Txt P K mg) : FnOk P w K mg base (L2.CX P w) 1 T.u__law_draw.a T.u__law_draw.d ["_law_deal_here", "_law_many"] spDrawX := by
  refine T.u__law_draw.F.okX sc__law_draw (fun vs H Q E h => ?_) (fun cdv A outer s H vs Q E hr h => ?_)
  · obtain ⟨d, l, m, _, _, rfl, _⟩ := h
    rfl
  · obtain ⟨d, l, m, s0, xs0, rfl, hd0, hl0, hdl, hn0, hm, hm2, k⟩ := h
    refine ⟨_, (Evl.pss_cut (ps_while (passes_of rfl) (PW.pt (pw_and (pt_cmpR (op_neNil hr.units) (pe_ix ix_list (pv 0) pe_int (fun _ _ => rfl)) (pe_lst pa_nil) (nomark _)) (pw_and1 (pt_cmpR op_eq (pe_ix ix_list (pe_ix ix_list (pv 0) pe_int (fun _ _ => rfl)) (pe_un un_neg pe_int) (fun _ _ => rfl)) pe_int (nomark _)))))
          (pss_one (ps_expr (pe_bm0 PySem.F.plainAttrs_list PySem.F.slot_list_pop PySem.F.type_list_pop mt_pop (pe_ix ix_list (pv 0) pe_int (fun _ _ => rfl))))))
        (pss_cons (ps_if (pt_cmpR (op_neNil hr.units) (pe_ix ix_list (pv 0) pe_int (fun _ _ => rfl)) (pe_lst pa_nil) (nomark _))
          (pss_cons (ps_set (i := 2) sc__law_draw.nd rfl (Or.inl rfl) (pe_bm0 PySem.F.plainAttrs_list PySem.F.slot_list_pop PySem.F.type_list_pop mt_pop (pe_ix ix_list (pv 0) pe_int (fun _ _ => rfl))))
          (pss_cons (ps_expr (pe_bm PySem.F.plainAttrs_list PySem.F.slot_list_append PySem.F.type_list_append mt_append (pe_ix ix_list (pv 0) pe_int (fun _ _ => rfl)) (pa_cons (pe_op op_fdiv (pv 2) (pv 1)) pa_nil)))
          (pss_one (ps_ret (pe_op op_mod (pe_callTy call_int1 (by rfl) (T.bl _ (.tail _ (.tail _ (.tail _ (.head _))))) (by decide +kernel) (pa_cons (pv 2) pa_nil)) (pv 1))))))
          pss_nil)
        (pss_cons (ps_asg (pe_op op_mod (pe_callTy call_int1 (by rfl) (T.bl _ (.tail _ (.tail _ (.tail _ (.head _))))) (by decide +kernel) (pa_cons (pe_op op_add (pe_op op_mul (pe_ix ix_list (pv 0) pe_int (fun _ _ => rfl)) pe_int) pe_int) pa_nil)) pe_int) (pg_sub (pv 0) pe_int set_list))
        (pss_one (ps_ret (pe_op op_mod (pe_callTy call_int1 (by rfl) (T.bl _ (.tail _ (.tail _ (.tail _ (.head _))))) (by decide +kernel) (pa_cons (pe_op op_fdiv (pe_ix ix_list (pv 0) pe_int (fun _ _ => rfl)) pe_int) pa_nil)) (pv 1))))))), ?_⟩
    refine ⟨fun σ H2 => ∃ (xs : List Int), σ = [some (.ref d), some (.int m), none] ∧ H2 d = some (.lst [.ref l, .int s0]) ∧ H2 l = some (.lst (xs.map V.int)) ∧ xs.length ≤ 1000 ∧ Kp d l H H2 ∧ drawZ xs s0 m = drawZ xs0 s0 m ∧ (xs = [] ∨ ∃ ys y, xs = ys ++ [y] ∧ y ≠ 0), ?_, ?_⟩
    · refine ⟨fun n σ H2 => ∃ (xs : List Int), n = xs.length ∧ σ = [some (.ref d), some (.int m), none] ∧ H2 d = some (.lst [.ref l, .int s0]) ∧ H2 l = some (.lst (xs.map V.int)) ∧ xs.length ≤ 1000 ∧ Kp d l H H2 ∧ drawZ xs s0 m = drawZ xs0 s0 m, ⟨_, xs0, rfl, rfl, hd0, hl0, hn0, Kp.refl d l H, rfl⟩, ?_⟩
      rintro n σ H2 ⟨xs, rfl, rfl, hd, hl, hn, kp, hz⟩
      refine ⟨_, rfl, d, _, 0, _, rfl, rfl, SqL.of hd, rfl, Nat.zero_le _, fun p hp => ?_⟩
      have e1 : ∀ {b o}, H2 b = some o → ∀ u, upd H2 p u b = some o := fun h u => by rw [upd_ne (ne_of_none h hp)]; exact h
      refine ⟨l, p, _, rfl, rfl, SqL.of (e1 hl _), SqL.of upd_same, _, rfl, ?_⟩
      rcases List.eq_nil_or_concat xs with rfl | ⟨ys, y, rfl⟩
      · refine iteF (iteF ?_)
        exact ⟨[], rfl, e1 hd _, e1 hl _, hn, kp.new hp, hz, .inl rfl⟩
      · have ee : (!(List.map V.int (ys.concat y)).isEmpty) = true := by simp
        rw [ee]
        refine iteT ?_
        have ea : List.map V.int (ys.concat y) = ys.map V.int ++ [V.int y] := by simp
        rw [ea] at hl
        refine ⟨_, rfl, d, _, 0, _, rfl, rfl, SqL.of (e1 hd _), rfl, _, rfl, l, _, -1, _, rfl, rfl, SqL.of (e1 hl _), atI_last _ _, rfl, _, rfl, ?_⟩
        refine ite2 (fun he => ?_) (fun he => ?_)
        · refine ⟨fun σ' H' => ∃ m', m' < (ys.concat y).length ∧ _, fun _ _ h => h, ?_⟩
          refine ⟨_, rfl, d, _, 0, _, rfl, rfl, SqL.of (e1 hd _), rfl, .inl ⟨rfl, _, SqL.of (e1 hl _)⟩, l, _, V.int y, rfl, rfl, e1 hl _, by simp, ?_⟩
          have hy : y = 0 := by simpa using he
          refine ⟨ys.length, by simp, ys, rfl, rfl, ?_, ?_, by simp at hn; omega, (kp.new hp).put (.inr rfl), ?_⟩
          · rw [upd_ne hdl]; exact e1 hd _
          · rw [upd_same]; simp
          · rw [← hz, hy, List.concat_eq_append, draw_zero]
        · have hy : y ≠ 0 := fun z => by rw [z] at he; simp at he
          exact ⟨ys.concat y, rfl, e1 hd _, by rw [ea]; exact e1 hl _, hn, kp.new hp, hz, .inr ⟨ys, y, List.concat_eq_append, hy⟩⟩
    · rintro σ H2 ⟨xs, rfl, hd, hl, hn, kp, hz, hlast⟩
      refine ⟨_, rfl, d, _, 0, _, rfl, rfl, SqL.of hd, rfl, Nat.zero_le _, fun p hp => ?_⟩
      have e1 : ∀ {b o}, H2 b = some o → ∀ u, upd H2 p u b = some o := fun h u => by rw [upd_ne (ne_of_none h hp)]; exact h
      refine ⟨l, p, _, rfl, rfl, SqL.of (e1 hl _), SqL.of upd_same, _, rfl, ?_⟩
      rcases hlast with rfl | ⟨ys, y, rfl, hy⟩
      · refine iteF ?_
        rw [draw_nil] at hz
        refine ⟨_, rfl, d, _, 1, _, rfl, rfl, SqL.of (e1 hd _), rfl, _, _, rfl, rfl, .inr ⟨by decide, by decide⟩, _, _, rfl, rfl, .inl ⟨_, rfl, _, _, rfl, rfl, (by show (0 : Int) < 2147483647; decide), ?_⟩⟩
        refine ⟨_, rfl, d, _, 1, 1, rfl, rfl, e1 hd _, rfl, ?_⟩
        refine ⟨_, rfl, d, _, 1, _, rfl, rfl, SqL.of upd_same, rfl, _, _, rfl, rfl, ⟨by decide, by decide⟩, .inl ⟨_, rfl, _, rfl, _, _, rfl, rfl, hm, ?_⟩⟩
        rw [← hz] at k
        exact k _ upd_same (by rw [upd_ne hdl.symm]; exact e1 hl _) ((kp.new hp).put (.inl rfl))
      · have ee : (!(List.map V.int (ys ++ [y])).isEmpty) = true := by simp
        rw [ee]
        refine iteT ?_
        have ea : List.map V.int (ys ++ [y]) = ys.map V.int ++ [V.int y] := by simp
        rw [ea] at hl
        have hn' : ys.length + 1 ≤ 1000 := by simpa using hn
        refine ⟨_, rfl, d, _, 0, _, rfl, rfl, SqL.of (e1 hd _), rfl, .inl ⟨rfl, _, SqL.of (e1 hl _)⟩, l, _, V.int y, rfl, rfl, e1 hl _, by simp, ?_⟩
        have hd2 : ∀ u, upd (upd H2 p (.lst [])) l u d = some (.lst [.ref l, .int s0]) := fun u => by rw [upd_ne hdl]; exact e1 hd _
        refine ⟨_, rfl, d, _, 0, _, rfl, rfl, SqL.of (hd2 _), rfl, .inl ⟨rfl, _, SqL.of upd_same⟩, _, rfl, _, rfl, _, _, rfl, rfl, ⟨hm, hm2⟩, l, _, _, rfl, rfl, upd_same, small1000 (by simp; omega), ?_⟩
        refine ⟨_, rfl, .inl ⟨_, rfl, _, rfl, _, _, rfl, rfl, hm, ?_⟩⟩
        rw [draw_one ys hy] at hz
        rw [← hz] at k
        refine k _ ?_ ?_ (((kp.new hp).put (.inr rfl)).put (.inr rfl))
        · rw [upd_ne hdl]; exact hd2 _
        · rw [upd_same]; simp
theorem cutV_ints {ns : List Int} {lo hi : Option Int} : cutV (ns.map V.int) lo hi = (Pu.cutL ns lo hi).map V.int := by
  unfold cutV Pu.cutL
  simp only [List.length_map, ← List.map_drop, ← List.map_take]
theorem cut_len {ns : List Int} {lo hi : Option Int} : (Pu.cutL ns lo hi).length ≤ ns.length := by
  unfold Pu.cutL
  simp only [List.length_take, List.length_drop]
  omega
theorem ints_at {ms : List Int} {i : Nat} {x : V} (h : (ms.map V.int)[i]? = some x) : ∃ z, x = V.int z ∧ ms[i]? = some z := by
  rw [List.getElem?_map] at h
  cases e : ms[i]? with
  | none => rw [e] at h; cases h
  | some z => rw [e] at h; exact ⟨z, (Option.some.inj h).symm, rfl⟩
theorem take_next {α : Type} {ms : List α} {i : Nat} {z : α} (h : ms[i]? = some z) : ms.take (i + 1) = ms.take i ++ [z] := by
  rw [List.take_succ, h]
  rfl
theorem ok_deal (T : Txt P K mg) : FnOk P w K mg base (L2.CX P w) 1 T.u__law_deal.a T.u__law_deal.d ["_law_script", "_law_base"] (spDealX K) := by
  refine T.u__law_deal.F.okX sc__law_deal (fun vs H Q E h => ?_) (fun cdv A outer s H vs Q E hr h => ?_)
  · obtain ⟨a, ns, b, rfl, _⟩ := h
    rfl
  · obtain ⟨a, ns, b, rfl, hs, hz, k⟩ := h
    refine ⟨_, (pss_cons (ps_set (i := 2) sc__law_deal.nd rfl (Or.inl rfl) (pe_op op_add pe_int (pe_op op_mul pe_int (pv 1))))
        (pss_cons (ps_setLc (i := 3) (own := [("_law_cell", 4)]) (g := (gName 4)) (by rfl) sc__law_deal.nd rfl rfl (sw_true rfl rfl rfl (by decide +kernel)) (pi_list (pe_slice sl_list (pv 0) (po_some (pv 1)) (po_some pe_int))) (blkOk_by (own := [("_law_cell", 4)]) (N := n__law_deal) (sc := defScope s__law_deal) (by decide +kernel)) (fun _ _ _ _ _ => (pg_name (i := 4) sc__law_deal.nd rfl (Or.inl rfl) (Or.inr rfl))) (fun _ _ _ _ _ => pts_nil) (fun _ _ _ _ _ => (pe_callB call_abs (by rfl) (T.bl _ (.head _)) (by decide +kernel) (pa_cons (pe_callTy call_int1 (by rfl) (T.bl _ (.tail _ (.tail _ (.tail _ (.head _))))) (by decide +kernel) (pa_cons (pv 4) pa_nil)) pa_nil))))
        (pss_cons (ps_for (passes_of rfl) rfl (pi_list (pv 3)) (pg_name (i := 4) sc__law_deal.nd rfl (Or.inl rfl))
          (pss_one (ps_set (i := 2) sc__law_deal.nd rfl (Or.inl rfl) (pe_op op_mod (pe_callTy call_int1 (by rfl) (T.bl _ (.tail _ (.tail _ (.tail _ (.head _))))) (by decide +kernel) (pa_cons (pe_op op_add (pe_op op_add (pe_op op_mul (pv 2) pe_int) (pe_op op_mod (pe_callTy call_int1 (by rfl) (T.bl _ (.tail _ (.tail _ (.tail _ (.head _))))) (by decide +kernel) (pa_cons (pv 4) pa_nil)) pe_int)) pe_int) pa_nil)) pe_int))))
        (pss_one (ps_ret (pe_lst (pa_cons (pe_revG (pe_lc (own := [("_law_cell", 4)]) (g := (gName 4)) (by rfl) sc__law_deal.nd (pi_list (pv 3)) (blkOk_by (own := [("_law_cell", 4)]) (N := n__law_deal) (sc := defScope s__law_deal) (by decide +kernel)) (fun _ _ _ _ _ => (pg_name (i := 4) sc__law_deal.nd rfl (Or.inl rfl) (Or.inr rfl))) (fun _ _ _ _ _ => (pts_one (pt_cmpR op_ge (pv 4) (pe_op op_pow pe_int pe_int) (nomark _)))) (fun _ _ _ _ _ => (pv 4))) (pe_op op_sub pe_int pe_int)) (pa_cons (pv 2) pa_nil)))))))), ?_⟩
    refine ⟨_, rfl, _, _, rfl, rfl, .inl ⟨by decide, by decide⟩, _, _, rfl, rfl, ?_⟩
    have hm : (Pu.cutL ns (some b) (some 60)).length ≤ ns.length := cut_len
    refine ⟨_, rfl, _, rfl, b, rfl, 60, rfl, a, _, rfl, hs, fun p hp => ⟨p, rfl, ⟨_, SqL.of upd_same⟩, fun D hD => ?_⟩⟩
    rw [cutV_ints] at hD ⊢
    have ec : Pu.cellsZ ns b = (Pu.cutL ns (some b) (some 60)).map Pu.absZ := rfl
    generalize Pu.cutL ns (some b) (some 60) = ms at hD hm ec ⊢
    have hpD : p ≠ D := fun e => by rw [← e, upd_same] at hD; cases hD
    have hD0 : H D = none := by rw [upd_ne hpD.symm] at hD; exact hD
    refine lc_list (K := K) (a := p) (xs := ms.map V.int) (fun i H2 => H2 D = some (.lst (((ms.take i).map Pu.absZ).map V.int)) ∧ H2 p = some (.lst (ms.map V.int)) ∧ Same H H2)
      ⟨upd_same, by rw [upd_ne hpD, upd_same], Same.mut (same_new hp) hD0⟩ (fun i H2 _ ⟨_, h, _⟩ => SqL.of h) ?_ ?_
    · rintro i x H2 hx ⟨h1, h2, sm⟩
      obtain ⟨z, rfl, hz'⟩ := ints_at hx
      have hi : i < ms.length := (List.getElem?_eq_some_iff.mp hz').1
      refine ⟨rfl, ?_⟩
      refine ⟨_, rfl, .inl ⟨_, rfl, _, rfl, _, h1, small1000 (by simp; omega), ?_⟩⟩
      refine ⟨?_, by rw [upd_ne hpD]; exact h2, Same.mut sm hD0⟩
      rw [upd_same, take_next hz', List.map_append, List.map_append]
      rfl
    · rintro H2 ⟨h1, h2, sm⟩
      rw [List.length_map, List.take_length] at h1
      rw [← ec] at h1
      have hm : (Pu.cellsZ ns b).length ≤ ns.length := by rw [ec, List.length_map]; exact hm
      refine ⟨_, rfl, D, rfl, ⟨_, SqL.of h1⟩, ?_⟩
      have ed : dealZ ns b = (((Pu.cellsZ ns b).filter Pu.big).reverse, (Pu.cellsZ ns b).foldl Pu.stir (86028157 + 37 * b)) := rfl
      generalize Pu.cellsZ ns b = acc at h1 hm ed ⊢
      refine for_list (K := K) (a := D) (xs := acc.map V.int) (fun i σ H3 => ∃ (c : Option V), H3 = H2 ∧ σ = [some (.ref a), some (.int b), some (.int ((acc.take i).foldl Pu.stir (86028157 + 37 * b))), some (.ref D), c]) ⟨_, rfl, rfl⟩ (fun i σ H3 _ ⟨_, e, _⟩ => by rw [e]; exact SqL.of h1) ?_ ?_
      · rintro i x σ H3 hx ⟨c, rfl, rfl⟩
        obtain ⟨y, rfl, hy⟩ := ints_at hx
        refine ⟨_, rfl, _, _, rfl, rfl, .inr ⟨by decide, by decide⟩, _, rfl, .inl ⟨_, rfl, _, _, rfl, rfl, (by show (0 : Int) < 2147483497; decide), _, _, rfl, rfl, _, _, rfl, rfl, .inl ⟨_, rfl, _, _, rfl, rfl, (by show (0 : Int) < 2147483647; decide), ?_⟩⟩⟩
        refine ⟨some (.int y), rfl, ?_⟩
        rw [take_next hy, List.foldl_append]
        rfl
      · rintro σ H3 ⟨c, rfl, rfl⟩
        refine ⟨_, rfl, D, rfl, ⟨_, SqL.of h1⟩, fun G hG => ?_⟩
        have hGD : G ≠ D := fun e => by rw [e, h1] at hG; cases hG
        have hG0 : H G = none := sm.free hG
        refine lc_list (K := K) (a := D) (xs := acc.map V.int) (fun i H4 => H4 G = some (.lst (((acc.take i).filter Pu.big).map V.int)) ∧ H4 D = some (.lst (acc.map V.int)) ∧ Same H H4)
          ⟨upd_same, by rw [upd_ne hGD.symm]; exact h1, Same.mut sm hG0⟩ (fun i H4 _ ⟨_, h, _⟩ => SqL.of h) ?_ ?_
        · rintro i x H4 hx ⟨g1, g2, sm4⟩
          obtain ⟨y, rfl, hy⟩ := ints_at hx
          have hi : i < acc.length := (List.getElem?_eq_some_iff.mp hy).1
          have hfl : ((acc.take i).filter Pu.big).length ≤ i := Nat.le_trans (List.length_filter_le _ _) (by simp; omega)
          refine ⟨rfl, ?_⟩
          refine ⟨_, rfl, _, _, rfl, rfl, ⟨by decide, by decide, by decide⟩, _, _, rfl, rfl, _, rfl, ?_⟩
          refine ite2 (fun he => ?_) (fun he => ?_)
          · refine ⟨_, rfl, _, g1, small1000 (by rw [List.length_map]; omega), ?_, by rw [upd_ne hGD.symm]; exact g2, Same.mut sm4 hG0⟩
            rw [upd_same, take_next hy, List.filter_append, List.map_append]
            have : Pu.big y = true := by unfold Pu.big; simpa using he
            rw [List.filter_cons_of_pos this]
            rfl
          · refine ⟨?_, g2, sm4⟩
            have : ¬ Pu.big y = true := by unfold Pu.big; simpa using he
            rw [take_next hy, List.filter_append, List.filter_cons_of_neg this, List.filter_nil, List.append_nil]
            exact g1
        · rintro H4 ⟨g1, g2, sm4⟩
          rw [List.length_map, List.take_length] at g1
          refine ⟨_, _, rfl, rfl, _, rfl, rfl, G, _, rfl, SqL.of g1, fun l hl => ?_⟩
          refine ⟨_, rfl, (by show 2 ≤ sizeLine; decide), fun d hd => ?_⟩
          have hld : l ≠ d := fun e => by rw [← e, upd_same] at hd; cases hd
          have hl0 : H l = none := sm4.free hl
          have hd0 : H d = none := by rw [upd_ne hld.symm] at hd; exact sm4.free hd
          rw [ed] at k
          refine k d l _ hd0 hl0 hld.symm ?_ ?_ (Same.mut (Same.mut sm4 hl0) hd0)
          · rw [upd_same, List.length_map, List.take_length]
          · rw [upd_ne hld, upd_same, List.map_reverse]
end
end Pv
namespace Pu
open PySem L2 Pw
section
variable {P : Program} {w : World} {K : PySem.W.Frag} {mg : Str → Option Value} {base : Heap}
def caF (T : Txt P K mg) (c : String) : Option Addr := if c = "Step" then some T.u_Step.a else none
def xaF (T : Txt P K mg) (c : String) : Option Addr := if c = "InvalidStep" then some T.u_InvalidStep.a else if c = "NoPlace" then some T.u_NoPlace.a else none
def gxF (T : Txt P K mg) : Gx K where
  ca := caF T
  oc := fun {c a} h => by
    unfold caF at h
    split at h
    · cases h; exact T.u_Step.o
    cases h
  di := fun {c c' a b} h h' hn => by
    unfold caF at h h'
    split at h
    · rename_i hc
      cases h
      split at h'
      · rename_i he
        cases h'
        exact absurd (hc.trans he.symm) hn
      cases h'
    cases h
def okx_NoPlace (n : String) : Bool := n == "NoPlace"
theorem hok_NoPlace (T : Txt P K mg) : ∀ n D, xaF T n = some D → PySem.W.exmOne K (.ref D) (.ref T.u_NoPlace.a) = some (okx_NoPlace n) := by
  intro n D h
  unfold xaF at h
  split at h
  · rename_i hc
    cases h
    subst hc
    exact T.e_NoPlace.exm T.sx_InvalidStep_NoPlace
  split at h
  · rename_i hc
    cases h
    subst hc
    exact T.e_NoPlace.exm T.sx_NoPlace_NoPlace
  cases h
theorem hx_name (T : Txt P K mg) : ∀ n D, xaF T n = some D → XfC K D ∧ PySem.W.findIn K (.ref D) "name" = some none := by
  intro n D h
  unfold xaF at h
  split at h
  · rename_i hc
    cases h
    subst hc
    exact ⟨T.xc_InvalidStep, T.nx_InvalidStep_name⟩
  split at h
  · rename_i hc
    cases h
    subst hc
    exact ⟨T.xc_NoPlace, T.nx_NoPlace_name⟩
  cases h
theorem ok__law_draw (T : Txt P K mg) : FnOkG P w K mg base (L2.CX P w) 1 T.u__law_draw.a T.u__law_draw.d ["_law_deal_here", "_law_many"] (SpF (gxF T) (xaF T) [.op .deal, .sh] f__law_draw) := .of ((Pv.ok_draw T).imp fun _ _ _ _ h => sp_draw h)
theorem ok__law_deal (T : Txt P K mg) : FnOkG P w K mg base (L2.CX P w) 1 T.u__law_deal.a T.u__law_deal.d ["_law_script", "_law_base"] (SpFo (gxF T) (xaF T) .deal [.sh, .sh] f__law_deal) := .of ((Pv.ok_deal T).imp fun _ _ _ _ h => sp_deal h)
end
end Pu
namespace Pu
open PySem L2 Pw
section
variable {P : Program} {w : World} {K : PySem.W.Frag} {mg : Str → Option Value} {base : Heap}
def g_is_integer : Env → RS := (sRet (sAndV (sUn (gIsi "int") (sV 0)) (sNotV (sUn (gIsi "bool") (sV 0)))))
def f_is_integer : List D → RF := defF [.br] 0 g_is_integer
theorem ok_is_integer (T : Txt P K mg) : FnOkG P w K mg base (L2.CX P w) 1 T.u_is_integer.a T.u_is_integer.d ["value"] (SpF (gxF T) (xaF T) [.br] f_is_integer) :=
  fn_ok (pm := [.br]) (n := 0) (g := g_is_integer) (k := 0) T.u_is_integer.F sc_is_integer rfl rfl rfl fun cdv A outer s H E hr =>
    (s_one (s_ret (p_and (q_isi rfl rfl (T.bl _ (.tail _ (.tail _ (.tail _ (.tail _ (.head _)))))) rfl (p_vb (pv 0) rfl) (pe_bltn (v := .ty "int") rfl (T.bl _ (.tail _ (.tail _ (.tail _ (.head _))))) (by decide +kernel) rfl)) (p_one (p_not (q_isi rfl rfl (T.bl _ (.tail _ (.tail _ (.tail _ (.tail _ (.head _)))))) rfl (p_vb (pv 0) rfl) (pe_bltn (v := .ty "bool") rfl (T.bl _ (.tail _ (.tail _ (.head _)))) (by decide +kernel) rfl))))) (wkR rfl) (wkR rfl)))
def g_is_number : Env → RS := (sRet (sAndV (sCall f_is_integer (sCons (sV 0) sNil)) (sOp gGe (sV 0) (sC (.int 0)))))
def f_is_number : List D → RF := defF [.br] 0 g_is_number
theorem ok_is_number (T : Txt P K mg) : FnOkG P w K mg base (L2.CX P w) 2 T.u_is_number.a T.u_is_number.d ["value"] (SpF (gxF T) (xaF T) [.br] f_is_number) :=
  fn_ok (pm := [.br]) (n := 0) (g := g_is_number) (k := 1) T.u_is_number.F sc_is_number rfl rfl rfl fun cdv A outer s H E hr =>
    (s_one (s_ret (p_and (p_call (CX := CX0) (ok_is_integer T) (hr.mono (by decide)) rfl T.u_is_integer.m T.u_is_integer.F.kp T.u_is_integer.n (takes_of rfl rfl rfl rfl) (pa_br (p_vb (pv 0) rfl) pa_nil')) (p_one (q_ge (p_vb (pv 0) rfl) (p_b p_int)))) (wkR rfl) (wkR rfl)))
def g_is_sequence : Env → RS := (sRet (sUn gIsSq (sV 0)))
def f_is_sequence : List D → RF := defF [.br] 0 g_is_sequence
theorem ok_is_sequence (T : Txt P K mg) : FnOkG P w K mg base (L2.CX P w) 1 T.u_is_sequence.a T.u_is_sequence.d ["value"] (SpF (gxF T) (xaF T) [.br] f_is_sequence) :=
  fn_ok (pm := [.br]) (n := 0) (g := g_is_sequence) (k := 0) T.u_is_sequence.F sc_is_sequence rfl rfl rfl fun cdv A outer s H E hr =>
    (s_one (s_ret (q_isSq rfl (T.bl _ (.tail _ (.tail _ (.tail _ (.tail _ (.head _)))))) rfl (p_vb (pv 0) rfl) (pe_bltn (v := .ty "list") rfl (T.bl _ (.tail _ (.tail _ (.tail _ (.tail _ (.tail _ (.tail _ (.head _)))))))) (by decide +kernel) rfl) (pe_bltn (v := .ty "tuple") rfl (T.bl _ (.tail _ (.tail _ (.tail _ (.tail _ (.tail _ (.tail _ (.tail _ (.tail _ (.tail _ (.tail _ (.tail _ (.tail _ (.tail _ (.head _))))))))))))))) (by decide +kernel) rfl)) (wkR rfl) (wkR rfl)))
def g_is_name : Env → RS := (sSeq (sIfS (sOr (sNot (sB (sUn (gIsi "str") (sV 0)))) (sOr (sNot (sB (sChain gLe gLe (sC (.int 1)) (sAs (g1 gLen) (sCons (sV 0) sNil)) (sC (.int 6))))) (sB (sOp (gIn false) (sV 0) (sC (.ktp [(.str "at"), (.str "go"), (.str "ahead"), (.str "trace"), (.str "limit"), (.str "work")]))))))
    (sRet (sC (.bl false)))
    sNx)
    (sRet (sAs (g1 gAll) (sCons (sLc (sIt signs (sV 0)) (tName 1) sTrue (sOp (gIn false) (sV 1) (sC (.str "abcdefghijklmnopqrstuvwxyz"))) [1]) sNil))))
def f_is_name : List D → RF := defF [.br] 1 g_is_name
theorem ok_is_name (T : Txt P K mg) : FnOkG P w K mg base (L2.CX P w) 1 T.u_is_name.a T.u_is_name.d ["value"] (SpF (gxF T) (xaF T) [.br] f_is_name) :=
  fn_ok (pm := [.br]) (n := 1) (g := g_is_name) (k := 0) T.u_is_name.F sc_is_name rfl rfl rfl fun cdv A outer s H E hr =>
    (s_cons (s_if (PW.pt (w_or (t_not (t_val (q_isi rfl rfl (T.bl _ (.tail _ (.tail _ (.tail _ (.tail _ (.head _)))))) rfl (p_vb (pv 0) rfl) (pe_bltn (v := .ty "str") rfl (T.bl _ (.tail _ (.tail _ (.tail _ (.tail _ (.tail _ (.tail _ (.tail _ (.tail _ (.tail _ (.tail _ (.tail _ (.tail _ (.head _)))))))))))))) (by decide +kernel) rfl)))) (w_or (t_not (t_chain (op_le.or op_le_str) (op_le.or op_le_str) oLe oLe (p_b p_int) (p_b (p_len rfl (T.bl _ (.tail _ (.tail _ (.tail _ (.tail _ (.tail _ (.head _))))))) (pb_cons (p_vb (pv 0) rfl) pb_nil) (by rfl))) (p_b p_int))) (w_or1 (t_in rfl (u65 hr) (p_vb (pv 0) rfl) (p_b (p_glT (pe_glob (v := .ref T.a_RESERVED) rfl T.m_RESERVED rfl) T.k_RESERVED (fun _ _ => (Reps.cons (Rep.str _) (Reps.cons (Rep.str _) (Reps.cons (Rep.str _) (Reps.cons (Rep.str _) (Reps.cons (Rep.str _) (Reps.cons (Rep.str _) Reps.nil))))))))) (by rfl)))))) (wkR rfl)
    (s_one (s_ret p_bl (wkR rfl) (wkR rfl)))
    s_nil)
    (s_one (s_ret (p_all rfl rfl (T.bl _ (.tail _ (.head _))) (pb_cons (p_b (p_new (f_lc (own := [("sign", 1)]) (us := [1]) (by rfl) sc_is_name.nd (i_str (p_vb (pv 0) rfl)) (blkOk_by (own := [("sign", 1)]) (N := n_is_name) (sc := defScope s_is_name) (by decide +kernel)) rfl (by decide) (Nk.na 1 (Nk.refl _)) (fun _ _ _ _ _ => (g_name (i := 1) sc_is_name.nd rfl (Or.inl rfl) rfl (Or.inr rfl))) (fun _ _ _ _ _ => if_none) (fun _ _ _ _ _ => (p_in rfl (u65 hr) (p_b (p_vs (pv 1) rfl)) (p_b (p_glI2 (pe_glob (v := .str "abcdefghijklmnopqrstuvwxyz") rfl T.m_LETTERS ⟨_, rfl⟩))) (by rfl)))))) pb_nil) (by rfl)) (wkR rfl) (wkR rfl))))
def g_is_row_of_names : Env → RS := (sRet (sAndV (sCall f_is_sequence (sCons (sV 0) sNil)) (sAs (g1 gAll) (sCons (sLc (sIt D.seq (sV 0)) (tName 1) sTrue (sCall f_is_name (sCons (sV 1) sNil)) [1]) sNil))))
def f_is_row_of_names : List D → RF := defF [.br] 1 g_is_row_of_names
theorem ok_is_row_of_names (T : Txt P K mg) : FnOkG P w K mg base (L2.CX P w) 2 T.u_is_row_of_names.a T.u_is_row_of_names.d ["value"] (SpF (gxF T) (xaF T) [.br] f_is_row_of_names) :=
  fn_ok (pm := [.br]) (n := 1) (g := g_is_row_of_names) (k := 1) T.u_is_row_of_names.F sc_is_row_of_names rfl rfl rfl fun cdv A outer s H E hr =>
    (s_one (s_ret (p_and (p_call (CX := CX0) (ok_is_sequence T) (hr.mono (by decide)) rfl T.u_is_sequence.m T.u_is_sequence.F.kp T.u_is_sequence.n (takes_of rfl rfl rfl rfl) (pa_br (p_vb (pv 0) rfl) pa_nil')) (p_one (p_all rfl rfl (T.bl _ (.tail _ (.head _))) (pb_cons (p_b (p_new (f_lc (own := [("one", 1)]) (us := [1]) (by rfl) sc_is_row_of_names.nd (i_seq rfl (p_vb (pv 0) rfl)) (blkOk_by (own := [("one", 1)]) (N := n_is_row_of_names) (sc := defScope s_is_row_of_names) (by decide +kernel)) rfl (by decide) (Nk.na 1 (Nk.refl _)) (fun _ _ _ _ _ => (g_name (i := 1) sc_is_row_of_names.nd rfl (Or.inl rfl) rfl (Or.inr rfl))) (fun _ _ _ _ _ => if_none) (fun _ _ _ _ _ => (p_call (CX := CX0) (ok_is_name T) (hr.mono (by decide)) rfl T.u_is_name.m T.u_is_name.F.kp T.u_is_name.n takes0 (pa_br (p_b (p_vs (pv 1) rfl)) pa_nil')))))) pb_nil) (by rfl)))) (wkR rfl) (wkR rfl)))
def g_are_unlike : Env → RS := (sRet (sOp gEq (sAs (g1 gLen) (sCons (sDc (dynB (tName 1) sTrue (sV 1) (sC (.bl true)) [1]) (sIt D.seq (sV 0)) (tName 1) sTrue (sV 1) (sC (.bl true)) [1]) sNil)) (sAs (g1 gLen) (sCons (sV 0) sNil))))
def f_are_unlike : List D → RF := defF [.br] 1 g_are_unlike
theorem ok_are_unlike (T : Txt P K mg) : FnOkG P w K mg base (L2.CX P w) 1 T.u_are_unlike.a T.u_are_unlike.d ["values"] (SpF (gxF T) (xaF T) [.br] f_are_unlike) :=
  fn_ok (pm := [.br]) (n := 1) (g := g_are_unlike) (k := 0) T.u_are_unlike.F sc_are_unlike rfl rfl rfl fun cdv A outer s H E hr =>
    (s_one (s_ret (q_eq rfl (u64 hr) (p_b (p_len rfl (T.bl _ (.tail _ (.tail _ (.tail _ (.tail _ (.tail _ (.head _))))))) (pb_cons (p_b (p_new (f_dc (b := (dynB (tName 1) sTrue (sV 1) (sC (.bl true)) [1])) (own := [("value", 1)]) (us := [1]) (u1 hr) (by rfl) sc_are_unlike.nd (i_seq rfl (p_vb (pv 0) rfl)) (blkOk_by (own := [("value", 1)]) (N := n_are_unlike) (sc := defScope s_are_unlike) (by decide +kernel)) rfl (by decide) (Nk.na 1 (Nk.refl _)) (fun _ _ _ _ _ => (g_name (i := 1) sc_are_unlike.nd rfl (Or.inl rfl) rfl (Or.inr rfl))) (fun _ _ _ _ _ => if_none) (fun _ _ _ _ _ => (p_vs (pv 1) rfl)) (fun _ _ _ _ _ => p_bl)))) pb_nil) (by rfl))) (p_b (p_len rfl (T.bl _ (.tail _ (.tail _ (.tail _ (.tail _ (.tail _ (.head _))))))) (pb_cons (p_vb (pv 0) rfl) pb_nil) (by rfl)))) (wkR rfl) (wkR rfl)))
def g_is_arrow : Env → RS := (sSeq (sIfS (sOr (sNot (sB (sUn (gIsi "tuple") (sV 1)))) (sOr (sB (sOp gNe (sAs (g1 gLen) (sCons (sV 1) sNil)) (sC (.int 3)))) (sOr (sNot (sB (sCall f_is_name (sCons (sOp gIx (sV 1) (sC (.int 0))) sNil)))) (sNot (sB (sCall f_is_name (sCons (sOp gIx (sV 1) (sC (.int 1))) sNil)))))))
    (sRet (sC (.bl false)))
    sNx)
    (sRet (sAndV (sOp (gIn false) (sOp gIx (sV 1) (sC (.int 0))) (sV 0)) (sAndV (sOp (gIn false) (sOp gIx (sV 1) (sC (.int 1))) (sV 0)) (sCall f_is_number (sCons (sOp gIx (sV 1) (sC (.int 2))) sNil))))))
def f_is_arrow : List D → RF := defF [.br, .br] 0 g_is_arrow
theorem ok_is_arrow (T : Txt P K mg) : FnOkG P w K mg base (L2.CX P w) 3 T.u_is_arrow.a T.u_is_arrow.d ["places", "value"] (SpF (gxF T) (xaF T) [.br, .br] f_is_arrow) :=
  fn_ok (pm := [.br, .br]) (n := 0) (g := g_is_arrow) (k := 2) T.u_is_arrow.F sc_is_arrow rfl rfl rfl fun cdv A outer s H E hr =>
    (s_cons (s_if (PW.pt (w_or (t_not (t_val (q_isi rfl rfl (T.bl _ (.tail _ (.tail _ (.tail _ (.tail _ (.head _)))))) rfl (p_vb (pv 1) rfl) (pe_bltn (v := .ty "tuple") rfl (T.bl _ (.tail _ (.tail _ (.tail _ (.tail _ (.tail _ (.tail _ (.tail _ (.tail _ (.tail _ (.tail _ (.tail _ (.tail _ (.tail _ (.head _))))))))))))))) (by decide +kernel) rfl)))) (w_or (r_ne rfl (u64 hr) (p_b (p_len rfl (T.bl _ (.tail _ (.tail _ (.tail _ (.tail _ (.tail _ (.head _))))))) (pb_cons (p_vb (pv 1) rfl) pb_nil) (by rfl))) (p_b p_int)) (w_or (t_not (t_val (p_call (CX := CX0) (ok_is_name T) (hr.mono (by decide)) rfl T.u_is_name.m T.u_is_name.F.kp T.u_is_name.n (takes_of rfl rfl rfl rfl) (pa_br (p_b (p_ix rfl (u1 hr) (p_vb (pv 1) rfl) (p_b p_int) (fun _ _ => rfl))) pa_nil')))) (w_or1 (t_not (t_val (p_call (CX := CX0) (ok_is_name T) (hr.mono (by decide)) rfl T.u_is_name.m T.u_is_name.F.kp T.u_is_name.n (takes_of rfl rfl rfl rfl) (pa_br (p_b (p_ix rfl (u1 hr) (p_vb (pv 1) rfl) (p_b p_int) (fun _ _ => rfl))) pa_nil'))))))))) (wkR rfl)
    (s_one (s_ret p_bl (wkR rfl) (wkR rfl)))
    s_nil)
    (s_one (s_ret (p_and (p_in rfl (u65 hr) (p_b (p_ix rfl (u1 hr) (p_vb (pv 1) rfl) (p_b p_int) (fun _ _ => rfl))) (p_vb (pv 0) rfl) (by rfl)) (p_and (p_in rfl (u65 hr) (p_b (p_ix rfl (u1 hr) (p_vb (pv 1) rfl) (p_b p_int) (fun _ _ => rfl))) (p_vb (pv 0) rfl) (by rfl)) (p_one (p_call (CX := CX0) (ok_is_number T) (hr.mono (by decide)) rfl T.u_is_number.m T.u_is_number.F.kp T.u_is_number.n (takes_of rfl rfl rfl rfl) (pa_br (p_b (p_ix rfl (u1 hr) (p_vb (pv 1) rfl) (p_b p_int) (fun _ _ => rfl))) pa_nil'))))) (wkR rfl) (wkR rfl))))
def g_are_arrows : Env → RS := (sSeq (sIfS (sOr (sNot (sB (sCall f_is_sequence (sCons (sV 1) sNil)))) (sNot (sB (sAs (g1 gAll) (sCons (sLc (sIt D.seq (sV 1)) (tName 2) sTrue (sCall f_is_arrow (sCons (sV 0) (sCons (sV 2) sNil))) [2]) sNil)))))
    (sRet (sC (.bl false)))
    sNx)
    (sRet (sCall f_are_unlike (sCons (sLc (sIt D.seq (sV 1)) (tTup 3 (Pu.tCons (tName 3) (Pu.tCons (tName 4) (Pu.tCons (tName 5) Pu.tNil)))) sTrue (sAs gTupl (sCons (sV 3) (sCons (sV 4) sNil))) [3, 4, 5]) sNil))))
def f_are_arrows : List D → RF := defF [.br, .br] 4 g_are_arrows
theorem ok_are_arrows (T : Txt P K mg) : FnOkG P w K mg base (L2.CX P w) 4 T.u_are_arrows.a T.u_are_arrows.d ["places", "value"] (SpF (gxF T) (xaF T) [.br, .br] f_are_arrows) :=
  fn_ok (pm := [.br, .br]) (n := 4) (g := g_are_arrows) (k := 3) T.u_are_arrows.F sc_are_arrows rfl rfl rfl fun cdv A outer s H E hr =>
    (s_cons (s_if (PW.pt (w_or (t_not (t_val (p_call (CX := CX0) (ok_is_sequence T) (hr.mono (by decide)) rfl T.u_is_sequence.m T.u_is_sequence.F.kp T.u_is_sequence.n (takes_of rfl rfl rfl rfl) (pa_br (p_vb (pv 1) rfl) pa_nil')))) (w_or1 (t_not (t_val (p_all rfl rfl (T.bl _ (.tail _ (.head _))) (pb_cons (p_b (p_new (f_lc (own := [("one", 2)]) (us := [2]) (by rfl) sc_are_arrows.nd (i_seq rfl (p_vb (pv 1) rfl)) (blkOk_by (own := [("one", 2)]) (N := n_are_arrows) (sc := defScope s_are_arrows) (by decide +kernel)) rfl (by decide) (Nk.na 2 (Nk.refl _)) (fun _ _ _ _ _ => (g_name (i := 2) sc_are_arrows.nd rfl (Or.inl rfl) rfl (Or.inr rfl))) (fun _ _ _ _ _ => if_none) (fun _ _ _ _ _ => (p_call (CX := CX0) (ok_is_arrow T) (hr.mono (by decide)) rfl T.u_is_arrow.m T.u_is_arrow.F.kp T.u_is_arrow.n takes0 (pa_br (p_vb (pv 0) rfl) (pa_br (p_b (p_vs (pv 2) rfl)) pa_nil'))))))) pb_nil) (by rfl))))))) (wkR rfl)
    (s_one (s_ret p_bl (wkR rfl) (wkR rfl)))
    s_nil)
    (s_one (s_ret (p_call (CX := CX0) (ok_are_unlike T) (hr.mono (by decide)) rfl T.u_are_unlike.m T.u_are_unlike.F.kp T.u_are_unlike.n (takes_of rfl rfl rfl rfl) (pa_br (p_b (p_new (f_lc (own := [("start", 3), ("end", 4), ("lost", 5)]) (us := [3, 4, 5]) (by rfl) sc_are_arrows.nd (i_seq rfl (p_vb (pv 1) rfl)) (blkOk_by (own := [("start", 3), ("end", 4), ("lost", 5)]) (N := n_are_arrows) (sc := defScope s_are_arrows) (by decide +kernel)) rfl (by decide) (Nk.na 3 (Nk.na 4 (Nk.na 5 (Nk.refl _)))) (fun _ _ _ _ _ => (g_tup rfl rfl (gs_cons (g_name (i := 3) sc_are_arrows.nd rfl (Or.inl rfl) rfl (Or.inr rfl)) (gs_cons (g_name (i := 4) sc_are_arrows.nd rfl (Or.inl rfl) rfl (Or.inr rfl)) (gs_cons (g_name (i := 5) sc_are_arrows.nd rfl (Or.inl rfl) rfl (Or.inr rfl)) gs_nil))))) (fun _ _ _ _ _ => if_none) (fun _ _ _ _ _ => (p_tup (Pu.ps_cons (p_vs (pv 3) rfl) (Pu.ps_cons (p_vs (pv 4) rfl) Pu.ps_nil))))))) pa_nil')) (wkR rfl) (wkR rfl))))
def g_Step___init__ : Env → RS := (sSeq (sIfS (sNot (sB (sCall f_is_name (sCons (sV 1) sNil))))
    (sRaise "InvalidStep" "word" (sC (.str "name")))
    sNx)
    (sSeq (sIfS (sOr (sNot (sB (sCall f_is_row_of_names (sCons (sV 2) sNil)))) (sOr (sB (sOp gEq (sAs (g1 gLen) (sCons (sV 2) sNil)) (sC (.int 0)))) (sNot (sB (sCall f_are_unlike (sCons (sV 2) sNil))))))
    (sRaise "InvalidStep" "word" (sC (.str "places")))
    sNx)
    (sSeq (sIfS (sNot (sB (sCall f_are_arrows (sCons (sV 2) (sCons (sV 3) sNil)))))
    (sRaise "InvalidStep" "word" (sC (.str "arrows")))
    sNx)
    (sSeq (sFldS 0 "Step" "name" (sV 1))
    (sSeq (sFldS 0 "Step" "places" (sAs (g1 gTupleOf) (sCons (sAs (g1 gSorted) (sCons (sV 2) sNil)) sNil)))
    (sSeq (sFldS 0 "Step" "arrows" (sAs (g1 gTupleOf) (sCons (sAs (g1 gSorted) (sCons (sV 3) sNil)) sNil)))
    (sSeq (sFldS 0 "Step" "losses" (sDc (fun _ _ => true) (sIt D.seq (sPth 0 (Ln.fld Ln.here "arrows"))) (tTup 3 (Pu.tCons (tName 4) (Pu.tCons (tName 5) (Pu.tCons (tName 6) Pu.tNil)))) sTrue (sAs gTupl (sCons (sV 4) (sCons (sV 5) sNil))) (sV 6) [4, 5, 6]))
    (sSeq (sFldF 0 "Step" "leads" (sDcN false (sIt D.seq (sPth 0 (Ln.fld Ln.here "places"))) (tName 7) sTrue (sV 7) (sAs gList sNil) [7]))
    (sForS (sIt D.seq (sPth 0 (Ln.fld Ln.here "arrows"))) (tTup 3 (Pu.tCons (tName 4) (Pu.tCons (tName 5) (Pu.tCons (tName 6) Pu.tNil))))
    (sDo (sMutP 0 (Ln.key (Ln.fld Ln.here "leads") 4) uApp (sCons (sAs gTupl (sCons (sV 5) (sCons (sV 6) sNil))) sNil))))))))))))
def f_Step___init__ : List D → RF := defF [(.op (.obj shp_Step)), .sh, .br, .br] 4 g_Step___init__
theorem ok_Step___init__ (T : Txt P K mg) : FnOkG P w K mg base (L2.CX P w) 5 T.a_Step___init__ T.d_Step___init__ ["self", "name", "places", "arrows"] (SpF (gxF T) (xaF T) [(.op (.obj shp_Step)), .sh, .br, .br] f_Step___init__) :=
  fn_okD (pm := [(.op (.obj shp_Step)), .sh, .br, .br]) (n := 4) (g := g_Step___init__) (k := 4) T.F_Step___init__ sc_Step___init__ rfl rfl rfl fun cdv A outer s H E hr =>
    (s_cons (s_if (t_not (t_val (p_call (CX := CX0) (ok_is_name T) (hr.mono (by decide)) rfl T.u_is_name.m T.u_is_name.F.kp T.u_is_name.n (takes_of rfl rfl rfl rfl) (pa_br (p_b (p_vs (pv 1) rfl)) pa_nil')))) (wkR rfl)
    (s_one (s_raiseX (k := 0) (c := "InvalidStep") rfl T.i_InvalidStep bf_VE rfl (hr.mono (by decide)) rfl rfl T.u_InvalidStep.m (takes_of rfl rfl rfl rfl) p_str (wkR rfl)))
    s_nil)
    (s_cons (s_if (PW.pt (w_or (t_not (t_val (p_call (CX := CX0) (ok_is_row_of_names T) (hr.mono (by decide)) rfl T.u_is_row_of_names.m T.u_is_row_of_names.F.kp T.u_is_row_of_names.n (takes_of rfl rfl rfl rfl) (pa_br (p_vb (pv 2) rfl) pa_nil')))) (w_or (r_eq rfl (u64 hr) (p_b (p_len rfl (T.bl _ (.tail _ (.tail _ (.tail _ (.tail _ (.tail _ (.head _))))))) (pb_cons (p_vb (pv 2) rfl) pb_nil) (by rfl))) (p_b p_int)) (w_or1 (t_not (t_val (p_call (CX := CX0) (ok_are_unlike T) (hr.mono (by decide)) rfl T.u_are_unlike.m T.u_are_unlike.F.kp T.u_are_unlike.n (takes_of rfl rfl rfl rfl) (pa_br (p_vb (pv 2) rfl) pa_nil')))))))) (wkR rfl)
    (s_one (s_raiseX (k := 0) (c := "InvalidStep") rfl T.i_InvalidStep bf_VE rfl (hr.mono (by decide)) rfl rfl T.u_InvalidStep.m (takes_of rfl rfl rfl rfl) p_str (wkR rfl)))
    s_nil)
    (s_cons (s_if (t_not (t_val (p_call (CX := CX0) (ok_are_arrows T) (hr.mono (by decide)) rfl T.u_are_arrows.m T.u_are_arrows.F.kp T.u_are_arrows.n (takes_of rfl rfl rfl rfl) (pa_br (p_vb (pv 2) rfl) (pa_br (p_vb (pv 3) rfl) pa_nil'))))) (wkR rfl)
    (s_one (s_raiseX (k := 0) (c := "InvalidStep") rfl T.i_InvalidStep bf_VE rfl (hr.mono (by decide)) rfl rfl T.u_InvalidStep.m (takes_of rfl rfl rfl rfl) p_str (wkR rfl)))
    s_nil)
    (s_cons (s_fld (c := "Step") (C := T.u_Step.a) (fsh := shp_Step) rfl (pv 0) rfl (Or.inr rfl) rfl rfl (T.x_Step _ (.head _)) (p_vs (pv 1) rfl) (wkR rfl))
    (s_cons (s_fld (c := "Step") (C := T.u_Step.a) (fsh := shp_Step) rfl (pv 0) rfl (Or.inr rfl) rfl rfl (T.x_Step _ (.tail _ (.head _))) (p_tupleOf rfl (T.bl _ (.tail _ (.tail _ (.tail _ (.tail _ (.tail _ (.tail _ (.tail _ (.tail _ (.tail _ (.tail _ (.tail _ (.tail _ (.tail _ (.head _))))))))))))))) (pb_cons (p_b (p_sorted rfl (u64 hr) rfl (T.bl _ (.tail _ (.tail _ (.tail _ (.tail _ (.tail _ (.tail _ (.tail _ (.tail _ (.tail _ (.tail _ (.tail _ (.head _))))))))))))) (pb_cons (p_vb (pv 2) rfl) pb_nil) (by rfl))) pb_nil) (by rfl)) (wkR rfl))
    (s_cons (s_fld (c := "Step") (C := T.u_Step.a) (fsh := shp_Step) rfl (pv 0) rfl (Or.inr rfl) rfl rfl (T.x_Step _ (.tail _ (.tail _ (.head _)))) (p_tupleOf rfl (T.bl _ (.tail _ (.tail _ (.tail _ (.tail _ (.tail _ (.tail _ (.tail _ (.tail _ (.tail _ (.tail _ (.tail _ (.tail _ (.tail _ (.head _))))))))))))))) (pb_cons (p_b (p_sorted rfl (u64 hr) rfl (T.bl _ (.tail _ (.tail _ (.tail _ (.tail _ (.tail _ (.tail _ (.tail _ (.tail _ (.tail _ (.tail _ (.tail _ (.head _))))))))))))) (pb_cons (p_vb (pv 3) rfl) pb_nil) (by rfl))) pb_nil) (by rfl)) (wkR rfl))
    (s_cons (s_fld (c := "Step") (C := T.u_Step.a) (fsh := shp_Step) rfl (pv 0) rfl (Or.inr rfl) rfl rfl (T.x_Step _ (.tail _ (.tail _ (.tail _ (.head _))))) (p_new (f_dc (b := (fun _ _ => true)) (own := [("start", 4), ("end", 5), ("lost", 6)]) (us := [4, 5, 6]) (u1 hr) (by rfl) sc_Step___init__.nd (i_seq rfl (p_b (l_sh (l_fld rfl (l_var (pv 0)) rfl) rfl (Or.inr rfl)))) (blkOk_by (own := [("start", 4), ("end", 5), ("lost", 6)]) (N := n_Step___init__) (sc := defScope s_Step___init__) (by decide +kernel)) rfl (by decide) (Nk.na 4 (Nk.na 5 (Nk.na 6 (Nk.refl _)))) (fun _ _ _ _ _ => (g_tup rfl rfl (gs_cons (g_name (i := 4) sc_Step___init__.nd rfl (Or.inl rfl) rfl (Or.inr rfl)) (gs_cons (g_name (i := 5) sc_Step___init__.nd rfl (Or.inl rfl) rfl (Or.inr rfl)) (gs_cons (g_name (i := 6) sc_Step___init__.nd rfl (Or.inl rfl) rfl (Or.inr rfl)) gs_nil))))) (fun _ _ _ _ _ => if_none) (fun _ _ _ _ _ => (p_tup (Pu.ps_cons (p_vs (pv 4) rfl) (Pu.ps_cons (p_vs (pv 5) rfl) Pu.ps_nil)))) (fun _ _ _ _ _ => (p_vs (pv 6) rfl)))) (wkR rfl))
    (s_cons (s_fldF (t := .dct (.lst .sh)) (c := "Step") (C := T.u_Step.a) (fsh := shp_Step) rfl (pv 0) rfl (Or.inr rfl) rfl rfl (T.x_Step _ (.tail _ (.tail _ (.tail _ (.tail _ (.head _)))))) (f_dcN (b := false) (own := [("place", 7)]) (us := [7]) (u1 hr) (by rfl) sc_Step___init__.nd (i_seq rfl (p_b (l_sh (l_fld rfl (l_var (pv 0)) rfl) rfl (Or.inr rfl)))) (blkOk_by (own := [("place", 7)]) (N := n_Step___init__) (sc := defScope s_Step___init__) (by decide +kernel)) rfl (by decide) (Nk.na 7 (Nk.refl _)) (fun _ _ _ _ _ => (g_name (i := 7) sc_Step___init__.nd rfl (Or.inl rfl) rfl (Or.inr rfl))) (fun _ _ _ _ _ => if_none) (fun _ _ _ _ _ => (p_vs (pv 7) rfl)) (fun _ _ _ _ _ => (f_lst Pu.ps_nil))) (wkR rfl))
    (s_one (s_post1 (Wk.na 1 (Wk.na 2 (Wk.na 3 (Wk.refl _)))) (s_for (passes_of rfl) rfl (i_seq rfl (p_b (l_sh (l_fld rfl (l_var (pv 0)) rfl) rfl (Or.inr rfl)))) (wkR rfl) (g_tup rfl rfl (gs_cons (g_name (i := 4) sc_Step___init__.nd rfl (Or.inl rfl) rfl) (gs_cons (g_name (i := 5) sc_Step___init__.nd rfl (Or.inl rfl) rfl) (gs_cons (g_name (i := 6) sc_Step___init__.nd rfl (Or.inl rfl) rfl) gs_nil)))) rfl rfl
    (s_one (s_post1 (Wk.na 4 (Wk.na 5 (Wk.na 6 (Wk.refl _)))) (s_expr (m_path mu_app rfl PySem.F.plainAttrs_list PySem.F.slot_list_append PySem.F.type_list_append mt_append rfl (l_key rfl (u1 hr) (l_fld rfl (l_var (pv 0)) rfl) (pv 4) rfl (fun _ _ => rfl)) rfl (Or.inr rfl) (ok_key (ok_fld ok_here) rfl rfl) (Pu.ps_cons (p_tup (Pu.ps_cons (p_vs (pv 5) rfl) (Pu.ps_cons (p_vs (pv 6) rfl) Pu.ps_nil))) Pu.ps_nil)) (wkR rfl)))))))))))))))
def g_Step___str__ : Env → RS := (sSeq (sSet 1 (sM1 gJoinF (sC (.str " ")) (sAs gList (sCons (sUn (gFld "name") (sV 0)) (sCons (sC (.str "at")) (sStar (sUn (gFld "places") (sV 0)) sNil))))))
    (sSeq (sSet 2 (sLc (sIt D.seq (sUn (gFld "arrows") (sV 0))) (tTup 3 (Pu.tCons (tName 4) (Pu.tCons (tName 5) (Pu.tCons (tName 6) Pu.tNil)))) sTrue (foldJ [(sUn gFmt (sV 4)), (sC (.str " ")), (sUn gFmt (sV 5)), (sC (.str " ")), (sUn gFmt (sV 6))] Str.empty) [4, 5, 6]))
    (sSeq (sSet 3 (sIf (sB (sOp gGt (sAs (g1 gLen) (sCons (sV 2) sNil)) (sC (.int 0)))) (sOp gAddF (sC (.str " go ")) (sM1 gJoinF (sC (.str ", ")) (sV 2))) (sC (.str ""))))
    (sRet (foldJ [(sUn gFmt (sV 1)), (sUn gFmt (sV 3))] Str.empty)))))
def f_Step___str__ : List D → RF := defF [.br] 6 g_Step___str__
theorem ok_Step___str__ (T : Txt P K mg) : FnOkG P w K mg base (L2.CX P w) 1 T.u_Step___str__.a T.u_Step___str__.d ["self"] (SpF (gxF T) (xaF T) [.br] f_Step___str__) :=
  fn_ok (pm := [.br]) (n := 6) (g := g_Step___str__) (k := 0) T.u_Step___str__.F sc_Step___str__ rfl rfl rfl fun cdv A outer s H E hr =>
    (s_cons (s_set (i := 1) sc_Step___str__.nd rfl (Or.inl rfl) (p_joinF rfl (p_b p_str) (p_b (Pu.p_lst (Pu.ps_cons (p_fld rfl (p_vb (pv 0) rfl) rfl) (Pu.ps_cons p_str (ps_star rfl (p_b (p_fld rfl (p_vb (pv 0) rfl) rfl)) Pu.ps_nil)))))) (wkR rfl) rfl)
    (s_cons (s_post1 (Wk.fr 2 _ rfl (Wk.refl _)) (s_setLc (i := 2) (own := [("start", 4), ("end", 5), ("lost", 6)]) (us := [4, 5, 6]) (by rfl) sc_Step___str__.nd rfl rfl (sw_true rfl rfl rfl (by decide +kernel)) (i_seq rfl (p_b (p_fld rfl (p_vb (pv 0) rfl) rfl))) (blkOk_by (own := [("start", 4), ("end", 5), ("lost", 6)]) (N := n_Step___str__) (sc := defScope s_Step___str__) (by decide +kernel)) rfl (by decide) (Nk.na 4 (Nk.na 5 (Nk.na 6 (Nk.refl _)))) (fun _ _ _ _ _ => (g_tup rfl rfl (gs_cons (g_name (i := 4) sc_Step___str__.nd rfl (Or.inl rfl) rfl (Or.inr rfl)) (gs_cons (g_name (i := 5) sc_Step___str__.nd rfl (Or.inl rfl) rfl (Or.inr rfl)) (gs_cons (g_name (i := 6) sc_Step___str__.nd rfl (Or.inl rfl) rfl (Or.inr rfl)) gs_nil))))) (fun _ _ _ _ _ => if_none) (fun _ _ _ _ _ => (p_joined [(sUn gFmt (sV 4)), (sC (.str " ")), (sUn gFmt (sV 5)), (sC (.str " ")), (sUn gFmt (sV 6))] (PJ.cons (j_fmt (p_b (p_vs (pv 4) rfl))) (PJ.cons j_str (PJ.cons (j_fmt (p_b (p_vs (pv 5) rfl))) (PJ.cons j_str (PJ.cons (j_fmt (p_b (p_vs (pv 6) rfl))) PJ.nil))))))) (wkR rfl) rfl))
    (s_cons (s_set (i := 3) sc_Step___str__.nd rfl (Or.inl rfl) (p_if (r_gt (p_b (p_len rfl (T.bl _ (.tail _ (.tail _ (.tail _ (.tail _ (.tail _ (.head _))))))) (pb_cons (p_b (p_vs (pv 2) rfl)) pb_nil) (by rfl))) (p_b p_int)) (q_addF rfl (p_b p_str) (p_b (p_joinF rfl (p_b p_str) (p_b (p_vs (pv 2) rfl))))) p_str) (wkR rfl) rfl)
    (s_one (s_ret (p_joined [(sUn gFmt (sV 1)), (sUn gFmt (sV 3))] (PJ.cons (j_fmt (p_b (p_vs (pv 1) rfl))) (PJ.cons (j_fmt (p_b (p_vs (pv 3) rfl))) PJ.nil))) (wkR rfl) (wkR rfl))))))
def g_Step___eq__ : Env → RS := (sRet (sAndV (sUn (gIsO "Step") (sV 1)) (sOp gEq (sAs (g1 (gStrO "Step" f_Step___str__)) (sCons (sV 0) sNil)) (sAs (g1 (gStrO "Step" f_Step___str__)) (sCons (sV 1) sNil)))))
def f_Step___eq__ : List D → RF := defF [.br, .br] 0 g_Step___eq__
theorem ok_Step___eq__ (T : Txt P K mg) : FnOkG P w K mg base (L2.CX P w) 4 T.u_Step___eq__.a T.u_Step___eq__.d ["self", "other"] (SpF (gxF T) (xaF T) [.br, .br] f_Step___eq__) :=
  fn_ok (pm := [.br, .br]) (n := 0) (g := g_Step___eq__) (k := 3) T.u_Step___eq__.F sc_Step___eq__ rfl rfl rfl fun cdv A outer s H E hr =>
    (s_one (s_ret (p_and (q_isO (c := "Step") rfl rfl (T.bl _ (.tail _ (.tail _ (.tail _ (.tail _ (.head _)))))) rfl (p_vb (pv 1) rfl) (pe_glob (v := .ref T.u_Step.a) rfl T.u_Step.m rfl)) (p_one (q_eq rfl (u64 hr) (p_b (p_strO (c := "Step") rfl rfl T.t_Step___str__ (ok_Step___str__ T) T.u_Step___str__.n (hr.mono (by decide)) (T.bl _ (.tail _ (.tail _ (.tail _ (.tail _ (.tail _ (.tail _ (.tail _ (.tail _ (.tail _ (.tail _ (.tail _ (.tail _ (.head _)))))))))))))) (pb_cons (p_vb (pv 0) rfl) pb_nil) (by rfl))) (p_b (p_strO (c := "Step") rfl rfl T.t_Step___str__ (ok_Step___str__ T) T.u_Step___str__.n (hr.mono (by decide)) (T.bl _ (.tail _ (.tail _ (.tail _ (.tail _ (.tail _ (.tail _ (.tail _ (.tail _ (.tail _ (.tail _ (.tail _ (.tail _ (.head _)))))))))))))) (pb_cons (p_vb (pv 1) rfl) pb_nil) (by rfl)))))) (wkR rfl) (wkR rfl)))
def g_Step_is_touched : Env → RS := (sRet (sAndV (sCall f_is_name (sCons (sV 1) sNil)) (sOp (gIn false) (sV 1) (sUn (gFld "leads") (sV 0)))))
def f_Step_is_touched : List D → RF := defF [.br, .br] 0 g_Step_is_touched
theorem ok_Step_is_touched (T : Txt P K mg) : FnOkG P w K mg base (L2.CX P w) 2 T.u_Step_is_touched.a T.u_Step_is_touched.d ["self", "place"] (SpF (gxF T) (xaF T) [.br, .br] f_Step_is_touched) :=
  fn_ok (pm := [.br, .br]) (n := 0) (g := g_Step_is_touched) (k := 1) T.u_Step_is_touched.F sc_Step_is_touched rfl rfl rfl fun cdv A outer s H E hr =>
    (s_one (s_ret (p_and (p_call (CX := CX0) (ok_is_name T) (hr.mono (by decide)) rfl T.u_is_name.m T.u_is_name.F.kp T.u_is_name.n (takes_of rfl rfl rfl rfl) (pa_br (p_vb (pv 1) rfl) pa_nil')) (p_one (p_in rfl (u65 hr) (p_vb (pv 1) rfl) (p_b (p_fld rfl (p_vb (pv 0) rfl) rfl)) (by rfl)))) (wkR rfl) (wkR rfl)))
def g_Step_washed : Env → RS := (sSeq (sIfS (sNot (sB (sMeth "Step" "is_touched" [] f_Step_is_touched (sV 0) (sCons (sV 1) sNil))))
    (sRaise "NoPlace" "name" (sV 1))
    sNx)
    (sRet (sMake "Step" [] f_Step___init__ (sCons (sUn (gFld "name") (sV 0)) (sCons (sUn (gFld "places") (sV 0)) (sCons (sLc (sIt D.seq (sUn (gFld "arrows") (sV 0))) (tName 2) (sB (sOp gNe (sOp gIx (sV 2) (sC (.int 0))) (sV 1))) (sV 2) [2]) sNil))))))
def f_Step_washed : List D → RF := defF [.sh, .sh] 1 g_Step_washed
theorem ok_Step_washed (T : Txt P K mg) : FnOkG P w K mg base (L2.CX P w) 7 T.u_Step_washed.a T.u_Step_washed.d ["self", "place"] (SpF (gxF T) (xaF T) [.sh, .sh] f_Step_washed) :=
  fn_ok (pm := [.sh, .sh]) (n := 1) (g := g_Step_washed) (k := 6) T.u_Step_washed.F sc_Step_washed rfl rfl rfl fun cdv A outer s H E hr =>
    (s_cons (s_if (t_not (t_val (p_meth (ms := [.br]) (c := "Step") (ms2 := []) rfl rfl T.t_Step_is_touched (ok_Step_is_touched T) (hr.mono (by decide)) T.u_Step_is_touched.n .nil DReps.nil (takes_of rfl rfl rfl rfl) (p_b (p_vs (pv 0) rfl)) (pa_br (p_b (p_vs (pv 1) rfl)) pa_nil')))) (wkR rfl)
    (s_one (s_raiseX (k := 0) (c := "NoPlace") rfl T.i_NoPlace bf_KE rfl (hr.mono (by decide)) rfl rfl T.u_NoPlace.m (takes_of rfl rfl rfl rfl) (p_vs (pv 1) rfl) (wkR rfl)))
    s_nil)
    (s_one (s_ret (p_make (c := "Step") (C := T.u_Step.a) (fsh := shp_Step) (ms := [.sh, .br, .br]) (ms2 := []) T.k_Step (ok_Step___init__ T) rfl (hr.mono (by decide)) rfl T.u_Step.m T.n_Step___init__ .nil DReps.nil (takes_of rfl rfl rfl rfl) (pa_sh (p_fld rfl (p_b (p_vs (pv 0) rfl)) rfl) (pa_br (p_b (p_fld rfl (p_b (p_vs (pv 0) rfl)) rfl)) (pa_br (p_b (p_new (f_lc (own := [("arrow", 2)]) (us := [2]) (by rfl) sc_Step_washed.nd (i_seq rfl (p_b (p_fld rfl (p_b (p_vs (pv 0) rfl)) rfl))) (blkOk_by (own := [("arrow", 2)]) (N := n_Step_washed) (sc := defScope s_Step_washed) (by decide +kernel)) rfl (by decide) (Nk.na 2 (Nk.refl _)) (fun _ _ _ _ _ => (g_name (i := 2) sc_Step_washed.nd rfl (Or.inl rfl) rfl (Or.inr rfl))) (fun _ _ _ _ _ => (if_one (r_ne rfl (u64 hr) (p_b (p_ix rfl (u1 hr) (p_b (p_vs (pv 2) rfl)) (p_b p_int) (fun _ _ => rfl))) (p_b (p_vs (pv 1) rfl))))) (fun _ _ _ _ _ => (p_vs (pv 2) rfl))))) pa_nil')))) (wkR rfl) (wkR rfl))))
def g_Step_loss : Env → RS := (sSeq (sIfS (sOr (sNot (sB (sCall f_is_name (sCons (sV 1) sNil)))) (sNot (sB (sCall f_is_name (sCons (sV 2) sNil)))))
    (sRet (sC .non))
    sNx)
    (sRet (sIf (sB (sOp (gIn false) (sAs gTupl (sCons (sV 1) (sCons (sV 2) sNil))) (sUn (gFld "losses") (sV 0)))) (sOp gIx (sUn (gFld "losses") (sV 0)) (sAs gTupl (sCons (sV 1) (sCons (sV 2) sNil)))) (sC .non))))
def f_Step_loss : List D → RF := defF [.sh, .sh, .sh] 0 g_Step_loss
theorem ok_Step_loss (T : Txt P K mg) : FnOkG P w K mg base (L2.CX P w) 2 T.u_Step_loss.a T.u_Step_loss.d ["self", "start", "end"] (SpF (gxF T) (xaF T) [.sh, .sh, .sh] f_Step_loss) :=
  fn_ok (pm := [.sh, .sh, .sh]) (n := 0) (g := g_Step_loss) (k := 1) T.u_Step_loss.F sc_Step_loss rfl rfl rfl fun cdv A outer s H E hr =>
    (s_cons (s_if (PW.pt (w_or (t_not (t_val (p_call (CX := CX0) (ok_is_name T) (hr.mono (by decide)) rfl T.u_is_name.m T.u_is_name.F.kp T.u_is_name.n (takes_of rfl rfl rfl rfl) (pa_br (p_b (p_vs (pv 1) rfl)) pa_nil')))) (w_or1 (t_not (t_val (p_call (CX := CX0) (ok_is_name T) (hr.mono (by decide)) rfl T.u_is_name.m T.u_is_name.F.kp T.u_is_name.n (takes_of rfl rfl rfl rfl) (pa_br (p_b (p_vs (pv 2) rfl)) pa_nil'))))))) (wkR rfl)
    (s_one (s_ret p_non (wkR rfl) (wkR rfl)))
    s_nil)
    (s_one (s_ret (p_if (t_in rfl (u65 hr) (p_b (p_tup (Pu.ps_cons (p_vs (pv 1) rfl) (Pu.ps_cons (p_vs (pv 2) rfl) Pu.ps_nil)))) (p_b (p_fld rfl (p_b (p_vs (pv 0) rfl)) rfl)) (by rfl)) (p_ix rfl (u1 hr) (p_b (p_fld rfl (p_b (p_vs (pv 0) rfl)) rfl)) (p_b (p_tup (Pu.ps_cons (p_vs (pv 1) rfl) (Pu.ps_cons (p_vs (pv 2) rfl) Pu.ps_nil)))) (fun _ _ => rfl)) p_non) (wkR rfl) (wkR rfl))))
end
end Pu
namespace Pu
open PySem L2 Pw
section
variable {P : Program} {w : World} {K : PySem.W.Frag} {mg : Str → Option Value} {base : Heap}
def g__law_pick : Env → RS := (sRet (sOp gIx (sV 1) (sCallO 0 f__law_draw (sCons (sAs (g1 gLen) (sCons (sV 1) sNil)) sNil))))
def f__law_pick : List D → RF := defF [(.op .deal), .sh] 0 g__law_pick
theorem ok__law_pick (T : Txt P K mg) : FnOkG P w K mg base (L2.CX P w) 2 T.u__law_pick.a T.u__law_pick.d ["_law_deal_here", "_law_some"] (SpF (gxF T) (xaF T) [(.op .deal), .sh] f__law_pick) :=
  fn_ok (pm := [(.op .deal), .sh]) (n := 0) (g := g__law_pick) (k := 1) T.u__law_pick.F sc__law_pick rfl rfl rfl fun cdv A outer s H E hr =>
    (s_one (s_ret (p_ix rfl (u1 hr) (p_b (p_vs (pv 1) rfl)) (p_b (p_callO (ok__law_draw T) (hr.mono (by decide)) rfl T.u__law_draw.m T.u__law_draw.F.kp T.u__law_draw.n (takes_of rfl rfl rfl rfl) (pv 0) rfl (Or.inr rfl) (pa_sh (p_len rfl (T.bl _ (.tail _ (.tail _ (.tail _ (.tail _ (.tail _ (.head _))))))) (pb_cons (p_b (p_vs (pv 1) rfl)) pb_nil) (by rfl)) pa_nil'))) (fun _ _ => rfl)) (wkR rfl) (wkR rfl)))
def g__law_mixed : Env → RS := (sSeq (sPar 2 3 (sAs (g1 gListOf) (sCons (sV 1) sNil)) (sAs gList sNil))
    (sSeq (sWhile (sB (sOp gNe (sV 2) (sAs gList sNil)))
    (sDo (sMut 3 uApp (sCons (sMut 2 uPopAt (sCons (sCallO 0 f__law_draw (sCons (sAs (g1 gLen) (sCons (sV 2) sNil)) sNil)) sNil)) sNil))) 100000)
    (sRet (sV 3))))
def f__law_mixed : List D → RF := defF [(.op .deal), .sh] 2 g__law_mixed
theorem ok__law_mixed (T : Txt P K mg) : FnOkG P w K mg base (L2.CX P w) 2 T.u__law_mixed.a T.u__law_mixed.d ["_law_deal_here", "_law_some"] (SpF (gxF T) (xaF T) [(.op .deal), .sh] f__law_mixed) :=
  fn_ok (pm := [(.op .deal), .sh]) (n := 2) (g := g__law_mixed) (k := 1) T.u__law_mixed.F sc__law_mixed rfl rfl rfl fun cdv A outer s H E hr =>
    (s_cons (s_par (i := 2) (j := 3) (t1 := .lst .sh) (t2 := .lst .sh) rfl sc__law_mixed.nd rfl rfl (by decide) rfl rfl (by rfl) (f_listOf rfl (T.bl _ (.tail _ (.tail _ (.tail _ (.tail _ (.tail _ (.tail _ (.head _)))))))) (p_b (p_vs (pv 1) rfl)) (by rfl)) (f_lst Pu.ps_nil) (wkR rfl) rfl rfl)
    (s_cons (s_while 100000 (passes_of rfl) (t_hide (j := 2) rfl (Or.inl rfl) (Or.inl rfl) (r_ne rfl (u64 hr) (p_vb (pv 2) rfl) (p_b (Pu.p_lst Pu.ps_nil)))) (wkR rfl)
    (s_one (s_expr (m_meth mu_app rfl PySem.F.plainAttrs_list PySem.F.slot_list_append PySem.F.type_list_append mt_append rfl (pv 3) rfl (Or.inl rfl) (Pu.ps_cons (m_meth mu_popAt rfl PySem.F.plainAttrs_list PySem.F.slot_list_pop PySem.F.type_list_pop mt_popAt rfl (pv 2) rfl (Or.inl rfl) (Pu.ps_cons (p_callO (ok__law_draw T) (hr.mono (by decide)) rfl T.u__law_draw.m T.u__law_draw.F.kp T.u__law_draw.n (takes_of rfl rfl rfl rfl) (pv 0) rfl (Or.inr rfl) (pa_sh (p_hide (j := 2) rfl (Or.inl rfl) (Or.inl rfl) (p_len rfl (T.bl _ (.tail _ (.tail _ (.tail _ (.tail _ (.tail _ (.head _))))))) (pb_cons (p_vb (pv 2) rfl) pb_nil) (by rfl))) pa_nil')) Pu.ps_nil)) Pu.ps_nil)) (wkR rfl))))
    (s_one (s_pre1 (Wk.fr 2 _ rfl (Wk.fr 3 _ rfl (Wk.refl _))) rfl (s_ret (p_vs (pv 3) rfl) (wkR rfl) (wkR rfl))))))
def g0__law_thing : Env → RS := (sSeq (sSet 2 (sAs gList (sCons (sC .non) (sCons (sC (.bl true)) (sCons (sC (.bl false)) (sCons (sC (.int 0)) (sCons (sC (.int 1)) (sCons (sOp gSub (sC (.int 0)) (sC (.int 2))) (sCons (sC (.str "")) (sCons (sC (.str "a")) sNil))))))))))
    (sSeq (sSet 2 (sOp gAddF (sV 2) (sAs gList (sCons (sC (.str "go")) (sCons (sC (.str "board")) (sCons (sC (.str "A")) (sCons (sC (.str "a\n")) (sCons (sAs gTupl sNil) (sCons (sAs gList sNil) (sCons (sAs gTupl (sCons (sC (.str "a")) (sCons (sC (.str "b")) (sCons (sC (.int 0)) sNil)))) (sCons (sAs gTupl (sCons (sC (.str "a")) (sCons (sC (.str "b")) sNil))) sNil)))))))))))
    (sSeq (sIfS (sAnd (sB (sOp gGt (sV 1) (sC (.int 0)))) (sB (sOp gEq (sCallO 0 f__law_draw (sCons (sC (.int 3)) sNil)) (sC (.int 0)))))
    (sSeq (sSet 3 (sLc (sItA gRng (sCons (sCallO 0 f__law_draw (sCons (sC (.int 4)) sNil)) sNil)) (tName 4) sTrue sBadE [4]))
    (sRet (sIf (sB (sOp gEq (sCallO 0 f__law_draw (sCons (sC (.int 2)) sNil)) (sC (.int 0)))) (sV 3) (sAs (g1 gTupleOf) (sCons (sV 3) sNil)))))
    sNx)
    (sRet (sCallO 0 f__law_pick (sCons (sV 2) sNil))))))
def g1__law_thing (f0 : List D → RF) : Env → RS := (sSeq (sSet 2 (sAs gList (sCons (sC .non) (sCons (sC (.bl true)) (sCons (sC (.bl false)) (sCons (sC (.int 0)) (sCons (sC (.int 1)) (sCons (sOp gSub (sC (.int 0)) (sC (.int 2))) (sCons (sC (.str "")) (sCons (sC (.str "a")) sNil))))))))))
    (sSeq (sSet 2 (sOp gAddF (sV 2) (sAs gList (sCons (sC (.str "go")) (sCons (sC (.str "board")) (sCons (sC (.str "A")) (sCons (sC (.str "a\n")) (sCons (sAs gTupl sNil) (sCons (sAs gList sNil) (sCons (sAs gTupl (sCons (sC (.str "a")) (sCons (sC (.str "b")) (sCons (sC (.int 0)) sNil)))) (sCons (sAs gTupl (sCons (sC (.str "a")) (sCons (sC (.str "b")) sNil))) sNil)))))))))))
    (sSeq (sIfS (sAnd (sB (sOp gGt (sV 1) (sC (.int 0)))) (sB (sOp gEq (sCallO 0 f__law_draw (sCons (sC (.int 3)) sNil)) (sC (.int 0)))))
    (sSeq (sSet 3 (sLc (sItA gRng (sCons (sCallO 0 f__law_draw (sCons (sC (.int 4)) sNil)) sNil)) (tName 4) sTrue (sCallO 0 f0 (sCons (sOp gSub (sV 1) (sC (.int 1))) sNil)) [4]))
    (sRet (sIf (sB (sOp gEq (sCallO 0 f__law_draw (sCons (sC (.int 2)) sNil)) (sC (.int 0)))) (sV 3) (sAs (g1 gTupleOf) (sCons (sV 3) sNil)))))
    sNx)
    (sRet (sCallO 0 f__law_pick (sCons (sV 2) sNil))))))
def fR__law_thing : Nat → List D → RF
  | 0 => defF [(.op .deal), .sh] 3 g0__law_thing
  | m + 1 => defF [(.op .deal), .sh] 3 (g1__law_thing (fR__law_thing m))
theorem okR__law_thing : ∀ (m : Nat) (T : Txt P K mg), FnOkG P w K mg base (L2.CX P w) (3 + m) T.u__law_thing.a T.u__law_thing.d ["_law_deal_here", "_law_deep"] (SpF (gxF T) (xaF T) [(.op .deal), .sh] (fR__law_thing m))
  | 0, T => fn_ok (pm := [(.op .deal), .sh]) (n := 3) (g := g0__law_thing) (k := 2) T.u__law_thing.F sc__law_thing rfl rfl rfl fun cdv A outer s H E hr =>
    (s_cons (s_set (i := 2) sc__law_thing.nd rfl (Or.inl rfl) (Pu.p_lst (Pu.ps_cons p_non (Pu.ps_cons p_bl (Pu.ps_cons p_bl (Pu.ps_cons p_int (Pu.ps_cons p_int (Pu.ps_cons (q_sub (p_b p_int) (p_b p_int)) (Pu.ps_cons p_str (Pu.ps_cons p_str Pu.ps_nil))))))))) (wkR rfl) rfl)
    (s_cons (s_set (i := 2) sc__law_thing.nd rfl (Or.inl rfl) (q_addF rfl (p_b (p_vs (pv 2) rfl)) (p_b (Pu.p_lst (Pu.ps_cons p_str (Pu.ps_cons p_str (Pu.ps_cons p_str (Pu.ps_cons p_str (Pu.ps_cons (p_tup Pu.ps_nil) (Pu.ps_cons (Pu.p_lst Pu.ps_nil) (Pu.ps_cons (p_tup (Pu.ps_cons p_str (Pu.ps_cons p_str (Pu.ps_cons p_int Pu.ps_nil)))) (Pu.ps_cons (p_tup (Pu.ps_cons p_str (Pu.ps_cons p_str Pu.ps_nil))) Pu.ps_nil))))))))))) (wkR rfl) rfl)
    (s_cons (s_if (PW.pt (w_and (r_gt (p_b (p_vs (pv 1) rfl)) (p_b p_int)) (w_and1 (r_eq rfl (u64 hr) (p_b (p_callO (ok__law_draw T) (hr.mono (by decide)) rfl T.u__law_draw.m T.u__law_draw.F.kp T.u__law_draw.n (takes_of rfl rfl rfl rfl) (pv 0) rfl (Or.inr rfl) (pa_sh p_int pa_nil'))) (p_b p_int))))) (wkR rfl)
    (s_cons (s_post1 (Wk.fr 3 _ rfl (Wk.refl _)) (s_setLc (i := 3) (own := [("_law_turn", 4)]) (us := [4]) (by rfl) sc__law_thing.nd rfl rfl (sw_true rfl rfl rfl (by decide +kernel)) (i_range1 rfl (T.bl _ (.tail _ (.tail _ (.tail _ (.tail _ (.tail _ (.tail _ (.tail _ (.tail _ (.tail _ (.head _))))))))))) (pb_cons (p_b (p_callO (ok__law_draw T) (hr.mono (by decide)) rfl T.u__law_draw.m T.u__law_draw.F.kp T.u__law_draw.n (takes_of rfl rfl rfl rfl) (pv 0) rfl (Or.inr rfl) (pa_sh p_int pa_nil'))) pb_nil) (h1 := (len_cons len_nil))) (blkOk_by (own := [("_law_turn", 4)]) (N := n__law_thing) (sc := defScope s__law_thing) (by decide +kernel)) rfl (by decide) (Nk.na 4 (Nk.refl _)) (fun _ _ _ _ _ => (g_name (i := 4) sc__law_thing.nd rfl (Or.inl rfl) rfl (Or.inr rfl))) (fun _ _ _ _ _ => if_none) (fun _ _ _ _ _ => p_bad) (wkR rfl) rfl))
    (s_one (s_ret (p_if (r_eq rfl (u64 hr) (p_b (p_callO (ok__law_draw T) (hr.mono (by decide)) rfl T.u__law_draw.m T.u__law_draw.F.kp T.u__law_draw.n (takes_of rfl rfl rfl rfl) (pv 0) rfl (Or.inr rfl) (pa_sh p_int pa_nil'))) (p_b p_int)) (p_vs (pv 3) rfl) (p_tupleOf rfl (T.bl _ (.tail _ (.tail _ (.tail _ (.tail _ (.tail _ (.tail _ (.tail _ (.tail _ (.tail _ (.tail _ (.tail _ (.tail _ (.tail _ (.head _))))))))))))))) (pb_cons (p_b (p_vs (pv 3) rfl)) pb_nil) (by rfl))) (wkR rfl) (wkR rfl))))
    s_nil)
    (s_one (s_ret (p_callO (ok__law_pick T) (hr.mono (by decide)) rfl T.u__law_pick.m T.u__law_pick.F.kp T.u__law_pick.n (takes_of rfl rfl rfl rfl) (pv 0) rfl (Or.inr rfl) (pa_sh (p_vs (pv 2) rfl) pa_nil')) (wkR rfl) (wkR rfl))))))
  | m + 1, T => fn_ok (pm := [(.op .deal), .sh]) (n := 3) (g := g1__law_thing (fR__law_thing m)) (k := 3 + m) T.u__law_thing.F sc__law_thing rfl rfl rfl fun cdv A outer s H E hr =>
    (s_cons (s_set (i := 2) sc__law_thing.nd rfl (Or.inl rfl) (Pu.p_lst (Pu.ps_cons p_non (Pu.ps_cons p_bl (Pu.ps_cons p_bl (Pu.ps_cons p_int (Pu.ps_cons p_int (Pu.ps_cons (q_sub (p_b p_int) (p_b p_int)) (Pu.ps_cons p_str (Pu.ps_cons p_str Pu.ps_nil))))))))) (wkR rfl) rfl)
    (s_cons (s_set (i := 2) sc__law_thing.nd rfl (Or.inl rfl) (q_addF rfl (p_b (p_vs (pv 2) rfl)) (p_b (Pu.p_lst (Pu.ps_cons p_str (Pu.ps_cons p_str (Pu.ps_cons p_str (Pu.ps_cons p_str (Pu.ps_cons (p_tup Pu.ps_nil) (Pu.ps_cons (Pu.p_lst Pu.ps_nil) (Pu.ps_cons (p_tup (Pu.ps_cons p_str (Pu.ps_cons p_str (Pu.ps_cons p_int Pu.ps_nil)))) (Pu.ps_cons (p_tup (Pu.ps_cons p_str (Pu.ps_cons p_str Pu.ps_nil))) Pu.ps_nil))))))))))) (wkR rfl) rfl)
    (s_cons (s_if (PW.pt (w_and (r_gt (p_b (p_vs (pv 1) rfl)) (p_b p_int)) (w_and1 (r_eq rfl (u64 hr) (p_b (p_callO (ok__law_draw T) (hr.mono (by first | decide | omega)) rfl T.u__law_draw.m T.u__law_draw.F.kp T.u__law_draw.n (takes_of rfl rfl rfl rfl) (pv 0) rfl (Or.inr rfl) (pa_sh p_int pa_nil'))) (p_b p_int))))) (wkR rfl)
    (s_cons (s_post1 (Wk.fr 3 _ rfl (Wk.refl _)) (s_setLc (i := 3) (own := [("_law_turn", 4)]) (us := [4]) (by rfl) sc__law_thing.nd rfl rfl (sw_true rfl rfl rfl (by decide +kernel)) (i_range1 rfl (T.bl _ (.tail _ (.tail _ (.tail _ (.tail _ (.tail _ (.tail _ (.tail _ (.tail _ (.tail _ (.head _))))))))))) (pb_cons (p_b (p_callO (ok__law_draw T) (hr.mono (by first | decide | omega)) rfl T.u__law_draw.m T.u__law_draw.F.kp T.u__law_draw.n (takes_of rfl rfl rfl rfl) (pv 0) rfl (Or.inr rfl) (pa_sh p_int pa_nil'))) pb_nil) (h1 := (len_cons len_nil))) (blkOk_by (own := [("_law_turn", 4)]) (N := n__law_thing) (sc := defScope s__law_thing) (by decide +kernel)) rfl (by first | decide | omega) (Nk.na 4 (Nk.refl _)) (fun _ _ _ _ _ => (g_name (i := 4) sc__law_thing.nd rfl (Or.inl rfl) rfl (Or.inr rfl))) (fun _ _ _ _ _ => if_none) (fun _ _ _ _ _ => (p_callO (okR__law_thing m T) (hr.mono (by first | decide | omega)) rfl T.u__law_thing.m T.u__law_thing.F.kp T.u__law_thing.n takes0 (pv 0) rfl (Or.inr rfl) (pa_sh (q_sub (p_b (p_vs (pv 1) rfl)) (p_b p_int)) pa_nil'))) (wkR rfl) rfl))
    (s_one (s_ret (p_if (r_eq rfl (u64 hr) (p_b (p_callO (ok__law_draw T) (hr.mono (by first | decide | omega)) rfl T.u__law_draw.m T.u__law_draw.F.kp T.u__law_draw.n (takes_of rfl rfl rfl rfl) (pv 0) rfl (Or.inr rfl) (pa_sh p_int pa_nil'))) (p_b p_int)) (p_vs (pv 3) rfl) (p_tupleOf rfl (T.bl _ (.tail _ (.tail _ (.tail _ (.tail _ (.tail _ (.tail _ (.tail _ (.tail _ (.tail _ (.tail _ (.tail _ (.tail _ (.tail _ (.head _))))))))))))))) (pb_cons (p_b (p_vs (pv 3) rfl)) pb_nil) (by rfl))) (wkR rfl) (wkR rfl))))
    s_nil)
    (s_one (s_ret (p_callO (ok__law_pick T) (hr.mono (by first | decide | omega)) rfl T.u__law_pick.m T.u__law_pick.F.kp T.u__law_pick.n (takes_of rfl rfl rfl rfl) (pv 0) rfl (Or.inr rfl) (pa_sh (p_vs (pv 2) rfl) pa_nil')) (wkR rfl) (wkR rfl))))))
def f__law_thing : List D → RF := fR__law_thing 8
theorem ok__law_thing (T : Txt P K mg) : FnOkG P w K mg base (L2.CX P w) 11 T.u__law_thing.a T.u__law_thing.d ["_law_deal_here", "_law_deep"] (SpF (gxF T) (xaF T) [(.op .deal), .sh] f__law_thing) := okR__law_thing 8 T
def g__law_spots : Env → RS := (sRet (sSlice (sCallO 0 f__law_mixed (sCons (sAs gList (sCons (sC (.str "pan")) (sCons (sC (.str "board")) (sCons (sC (.str "bowl")) (sCons (sC (.str "dish")) (sCons (sC (.str "a")) (sCons (sC (.str "zzzzzz")) sNil))))))) sNil)) oNone (oSome (sV 1))))
def f__law_spots : List D → RF := defF [(.op .deal), .sh] 0 g__law_spots
theorem ok__law_spots (T : Txt P K mg) : FnOkG P w K mg base (L2.CX P w) 3 T.u__law_spots.a T.u__law_spots.d ["_law_deal_here", "_law_many"] (SpF (gxF T) (xaF T) [(.op .deal), .sh] f__law_spots) :=
  fn_ok (pm := [(.op .deal), .sh]) (n := 0) (g := g__law_spots) (k := 2) T.u__law_spots.F sc__law_spots rfl rfl rfl fun cdv A outer s H E hr =>
    (s_one (s_ret (p_slice rfl (p_b (p_callO (ok__law_mixed T) (hr.mono (by decide)) rfl T.u__law_mixed.m T.u__law_mixed.F.kp T.u__law_mixed.n (takes_of rfl rfl rfl rfl) (pv 0) rfl (Or.inr rfl) (pa_sh (Pu.p_lst (Pu.ps_cons p_str (Pu.ps_cons p_str (Pu.ps_cons p_str (Pu.ps_cons p_str (Pu.ps_cons p_str (Pu.ps_cons p_str Pu.ps_nil))))))) pa_nil'))) o_none (o_some (p_b (p_vs (pv 1) rfl)))) (wkR rfl) (wkR rfl)))
def g__law_stage : Env → RS := (sSeq (sSet 3 (sSlice (sCallO 0 f__law_mixed (sCons (sV 2) sNil)) oNone (oSome (sOp gAddF (sC (.int 1)) (sCallO 0 f__law_draw (sCons (sAs (g2 gMin2) (sCons (sC (.int 4)) (sCons (sAs (g1 gLen) (sCons (sV 2) sNil)) sNil))) sNil))))))
    (sSeq (sSet 4 (sC (.dtt [])))
    (sSeq (sForS (sItA gRng (sCons (sCallO 0 f__law_draw (sCons (sC (.int 6)) sNil)) sNil)) (tName 5)
    (sPut 4 (sAs gTupl (sCons (sCallO 0 f__law_pick (sCons (sV 3) sNil)) (sCons (sCallO 0 f__law_pick (sCons (sV 3) sNil)) sNil))) (sCallO 0 f__law_pick (sCons (sAs gList (sCons (sC (.int 0)) (sCons (sC (.int 0)) (sCons (sC (.int 0)) (sCons (sC (.int 1)) (sCons (sC (.int 1)) (sCons (sC (.int 2)) (sCons (sC (.int 3)) sNil)))))))) sNil))))
    (sSeq (sSet 6 (sAs (g1 gSorted) (sCons (sLk 4 (sLc (sIt gKeys (sV 4)) (tTup 2 (Pu.tCons (tName 7) (Pu.tCons (tName 8) Pu.tNil))) sTrue (sAs gTupl (sCons (sV 7) (sCons (sV 8) (sCons (sOp gIx (sV 4) (sAs gTupl (sCons (sV 7) (sCons (sV 8) sNil)))) sNil)))) [7, 8])) sNil)))
    (sRet (sAs gTupl (sCons (sV 1) (sCons (sAs (g1 gSorted) (sCons (sV 3) sNil)) (sCons (sV 6) sNil)))))))))
def f__law_stage : List D → RF := defF [(.op .deal), .sh, .sh] 6 g__law_stage
theorem ok__law_stage (T : Txt P K mg) : FnOkG P w K mg base (L2.CX P w) 3 T.u__law_stage.a T.u__law_stage.d ["_law_deal_here", "_law_title", "_law_spots_here"] (SpF (gxF T) (xaF T) [(.op .deal), .sh, .sh] f__law_stage) :=
  fn_ok (pm := [(.op .deal), .sh, .sh]) (n := 6) (g := g__law_stage) (k := 2) T.u__law_stage.F sc__law_stage rfl rfl rfl fun cdv A outer s H E hr =>
    (s_cons (s_set (i := 3) sc__law_stage.nd rfl (Or.inl rfl) (p_slice rfl (p_b (p_callO (ok__law_mixed T) (hr.mono (by decide)) rfl T.u__law_mixed.m T.u__law_mixed.F.kp T.u__law_mixed.n (takes_of rfl rfl rfl rfl) (pv 0) rfl (Or.inr rfl) (pa_sh (p_vs (pv 2) rfl) pa_nil'))) o_none (o_some (p_b (q_addF rfl (p_b p_int) (p_b (p_callO (ok__law_draw T) (hr.mono (by decide)) rfl T.u__law_draw.m T.u__law_draw.F.kp T.u__law_draw.n (takes_of rfl rfl rfl rfl) (pv 0) rfl (Or.inr rfl) (pa_sh (p_min2 rfl (T.bl _ (.tail _ (.tail _ (.tail _ (.tail _ (.tail _ (.tail _ (.tail _ (.tail _ (.head _)))))))))) (pb_cons (p_b p_int) (pb_cons (p_b (p_len rfl (T.bl _ (.tail _ (.tail _ (.tail _ (.tail _ (.tail _ (.head _))))))) (pb_cons (p_b (p_vs (pv 2) rfl)) pb_nil) (by rfl))) pb_nil)) (by rfl)) pa_nil'))))))) (wkR rfl) rfl)
    (s_cons (s_setF (i := 4) sc__law_stage.nd rfl (Or.inr rfl) f_dT (wkR rfl) rfl)
    (s_cons (s_for (passes_of rfl) rfl (i_range1 rfl (T.bl _ (.tail _ (.tail _ (.tail _ (.tail _ (.tail _ (.tail _ (.tail _ (.tail _ (.tail _ (.head _))))))))))) (pb_cons (p_b (p_callO (ok__law_draw T) (hr.mono (by decide)) rfl T.u__law_draw.m T.u__law_draw.F.kp T.u__law_draw.n (takes_of rfl rfl rfl rfl) (pv 0) rfl (Or.inr rfl) (pa_sh p_int pa_nil'))) pb_nil) (h1 := (len_cons len_nil))) (wkR rfl) (g_name (i := 5) sc__law_stage.nd rfl (Or.inl rfl) rfl) rfl rfl
    (s_one (s_post1 (Wk.na 5 (Wk.refl _)) (s_put (u1 hr) (pv 4) rfl (Or.inl rfl) (p_tup (Pu.ps_cons (p_callO (ok__law_pick T) (hr.mono (by decide)) rfl T.u__law_pick.m T.u__law_pick.F.kp T.u__law_pick.n (takes_of rfl rfl rfl rfl) (pv 0) rfl (Or.inr rfl) (pa_sh (p_vs (pv 3) rfl) pa_nil')) (Pu.ps_cons (p_callO (ok__law_pick T) (hr.mono (by decide)) rfl T.u__law_pick.m T.u__law_pick.F.kp T.u__law_pick.n (takes_of rfl rfl rfl rfl) (pv 0) rfl (Or.inr rfl) (pa_sh (p_vs (pv 3) rfl) pa_nil')) Pu.ps_nil))) (p_callO (ok__law_pick T) (hr.mono (by decide)) rfl T.u__law_pick.m T.u__law_pick.F.kp T.u__law_pick.n (takes_of rfl rfl rfl rfl) (pv 0) rfl (Or.inr rfl) (pa_sh (Pu.p_lst (Pu.ps_cons p_int (Pu.ps_cons p_int (Pu.ps_cons p_int (Pu.ps_cons p_int (Pu.ps_cons p_int (Pu.ps_cons p_int (Pu.ps_cons p_int Pu.ps_nil)))))))) pa_nil')) (wkR rfl)))))
    (s_cons (s_pre1 (Wk.fr 4 _ rfl (Wk.refl _)) rfl (s_set (i := 6) sc__law_stage.nd rfl (Or.inl rfl) (p_sorted rfl (u64 hr) rfl (T.bl _ (.tail _ (.tail _ (.tail _ (.tail _ (.tail _ (.tail _ (.tail _ (.tail _ (.tail _ (.tail _ (.tail _ (.head _))))))))))))) (pb_cons (p_b (p_new (f_lcK (i := 4) (own := [("_law_first", 7), ("_law_second", 8)]) (us := [7, 8]) rfl (by rfl) sc__law_stage.nd (pv 4) (blkOk_by (own := [("_law_first", 7), ("_law_second", 8)]) (N := n__law_stage) (sc := defScope s__law_stage) (by decide +kernel)) rfl (by decide) (Nk.na 7 (Nk.na 8 (Nk.refl _))) (fun _ _ _ _ _ => (g_tup rfl rfl (gs_cons (g_name (i := 7) sc__law_stage.nd rfl (Or.inl rfl) rfl (Or.inr rfl)) (gs_cons (g_name (i := 8) sc__law_stage.nd rfl (Or.inl rfl) rfl (Or.inr rfl)) gs_nil)))) (fun _ _ _ _ _ => if_none) (fun _ _ _ _ _ => (p_tup (Pu.ps_cons (p_vs (pv 7) rfl) (Pu.ps_cons (p_vs (pv 8) rfl) (Pu.ps_cons (p_ix rfl (u1 hr) (p_b (p_vs (pv 4) rfl)) (p_b (p_tup (Pu.ps_cons (p_vs (pv 7) rfl) (Pu.ps_cons (p_vs (pv 8) rfl) Pu.ps_nil)))) (fun _ _ => rfl)) Pu.ps_nil)))))))) pb_nil) (by rfl)) (wkR rfl) rfl))
    (s_one (s_ret (p_tup (Pu.ps_cons (p_vs (pv 1) rfl) (Pu.ps_cons (p_sorted rfl (u64 hr) rfl (T.bl _ (.tail _ (.tail _ (.tail _ (.tail _ (.tail _ (.tail _ (.tail _ (.tail _ (.tail _ (.tail _ (.tail _ (.head _))))))))))))) (pb_cons (p_b (p_vs (pv 3) rfl)) pb_nil) (by rfl)) (Pu.ps_cons (p_vs (pv 6) rfl) Pu.ps_nil)))) (wkR rfl) (wkR rfl)))))))
def g__law_stage_text : Env → RS := (sSeq (sSet 1 (sM1 gJoinF (sC (.str ", ")) (sLc (sIt D.seq (sOp gIx (sV 0) (sC (.int 2)))) (tTup 3 (Pu.tCons (tName 2) (Pu.tCons (tName 3) (Pu.tCons (tName 4) Pu.tNil)))) sTrue (sM1 gJoinF (sC (.str " ")) (sAs gList (sCons (sV 2) (sCons (sV 3) (sCons (sAs (g1 gStr1) (sCons (sV 4) sNil)) sNil))))) [2, 3, 4])))
    (sRet (sOp gAddF (sOp gAddF (sOp gAddF (sOp gIx (sV 0) (sC (.int 0))) (sC (.str " at "))) (sM1 gJoinF (sC (.str " ")) (sOp gIx (sV 0) (sC (.int 1))))) (sIf (sB (sOp gNe (sV 1) (sC (.str "")))) (sOp gAddF (sC (.str " go ")) (sV 1)) (sC (.str ""))))))
def f__law_stage_text : List D → RF := defF [.sh] 4 g__law_stage_text
theorem ok__law_stage_text (T : Txt P K mg) : FnOkG P w K mg base (L2.CX P w) 1 T.u__law_stage_text.a T.u__law_stage_text.d ["_law_stage_here"] (SpF (gxF T) (xaF T) [.sh] f__law_stage_text) :=
  fn_ok (pm := [.sh]) (n := 4) (g := g__law_stage_text) (k := 0) T.u__law_stage_text.F sc__law_stage_text rfl rfl rfl fun cdv A outer s H E hr =>
    (s_cons (s_set (i := 1) sc__law_stage_text.nd rfl (Or.inl rfl) (p_joinF rfl (p_b p_str) (p_b (p_new (f_lc (own := [("_law_first", 2), ("_law_second", 3), ("_law_cost", 4)]) (us := [2, 3, 4]) (by rfl) sc__law_stage_text.nd (i_seq rfl (p_b (p_ix rfl (u1 hr) (p_b (p_vs (pv 0) rfl)) (p_b p_int) (fun _ _ => rfl)))) (blkOk_by (own := [("_law_first", 2), ("_law_second", 3), ("_law_cost", 4)]) (N := n__law_stage_text) (sc := defScope s__law_stage_text) (by decide +kernel)) rfl (by decide) (Nk.na 2 (Nk.na 3 (Nk.na 4 (Nk.refl _)))) (fun _ _ _ _ _ => (g_tup rfl rfl (gs_cons (g_name (i := 2) sc__law_stage_text.nd rfl (Or.inl rfl) rfl (Or.inr rfl)) (gs_cons (g_name (i := 3) sc__law_stage_text.nd rfl (Or.inl rfl) rfl (Or.inr rfl)) (gs_cons (g_name (i := 4) sc__law_stage_text.nd rfl (Or.inl rfl) rfl (Or.inr rfl)) gs_nil))))) (fun _ _ _ _ _ => if_none) (fun _ _ _ _ _ => (p_joinF rfl (p_b p_str) (p_b (Pu.p_lst (Pu.ps_cons (p_vs (pv 2) rfl) (Pu.ps_cons (p_vs (pv 3) rfl) (Pu.ps_cons (p_str1 (T.bl _ (.tail _ (.tail _ (.tail _ (.tail _ (.tail _ (.tail _ (.tail _ (.tail _ (.tail _ (.tail _ (.tail _ (.tail _ (.head _)))))))))))))) (pb_cons (p_b (p_vs (pv 4) rfl)) pb_nil) (by rfl)) Pu.ps_nil))))))))))) (wkR rfl) rfl)
    (s_one (s_ret (q_addF rfl (p_b (q_addF rfl (p_b (q_addF rfl (p_b (p_ix rfl (u1 hr) (p_b (p_vs (pv 0) rfl)) (p_b p_int) (fun _ _ => rfl))) (p_b p_str))) (p_b (p_joinF rfl (p_b p_str) (p_b (p_ix rfl (u1 hr) (p_b (p_vs (pv 0) rfl)) (p_b p_int) (fun _ _ => rfl))))))) (p_b (p_if (r_ne rfl (u64 hr) (p_b (p_vs (pv 1) rfl)) (p_b p_str)) (q_addF rfl (p_b p_str) (p_b (p_vs (pv 1) rfl))) p_str))) (wkR rfl) (wkR rfl))))
end
end Pu
namespace Pu
open PySem L2 Pw
section
variable {P : Program} {w : World} {K : PySem.W.Frag} {mg : Str → Option Value} {base : Heap}
def g__law_heard : Env → RS := (sSeq (sSet 2 (sC .non))
    (sSeq (sTryAs okx_NoPlace
    (sSet 2 (sAs gTupl (sCons (sC (.str "told")) (sCons (sAs (g1 (gStrO "Step" f_Step___str__)) (sCons (sMeth "Step" "washed" [] f_Step_washed (sV 0) (sCons (sV 1) sNil)) sNil)) sNil))))
    (fun x => sSet 2 ((fun x => sAs gTupl (sCons ((fun _ => (sC (.str "none"))) x) (sCons ((fun x => sAs (g1 gRepr) (sCons ((xFld "name") x) sNil)) x) sNil))) x)))
    (sRet (sV 2))))
def f__law_heard : List D → RF := defF [.sh, .sh] 2 g__law_heard
theorem ok__law_heard (T : Txt P K mg) : FnOkG P w K mg base (L2.CX P w) 8 T.u__law_heard.a T.u__law_heard.d ["_law_made", "_law_spot"] (SpF (gxF T) (xaF T) [.sh, .sh] f__law_heard) :=
  fn_ok (pm := [.sh, .sh]) (n := 2) (g := g__law_heard) (k := 7) T.u__law_heard.F sc__law_heard rfl rfl rfl fun cdv A outer s H E hr =>
    (s_cons (s_set (i := 2) sc__law_heard.nd rfl (Or.inl rfl) p_non (wkR rfl) rfl)
    (s_cons (s_tryAs (i := 3) (ok := okx_NoPlace) (Mt := [.sh, .sh, .na, .na]) rfl rfl rfl sc__law_heard.nd rfl rfl ⟨rfl, by decide, .inl T.u_NoPlace.m⟩ (takes_of rfl rfl rfl rfl) (hok_NoPlace T) (fun _ _ _ tk ps =>
    (s_one (s_set (i := 2) sc__law_heard.nd rfl (Or.inl rfl) (p_tup (Pu.ps_cons p_str (Pu.ps_cons (p_strO (c := "Step") rfl rfl T.t_Step___str__ (ok_Step___str__ T) T.u_Step___str__.n (hr.mono (by decide)) (T.bl _ (.tail _ (.tail _ (.tail _ (.tail _ (.tail _ (.tail _ (.tail _ (.tail _ (.tail _ (.tail _ (.tail _ (.tail _ (.head _)))))))))))))) (pb_cons (p_b (p_methE (ms := [.sh]) (c := "Step") (ms2 := []) rfl rfl T.t_Step_washed (ok_Step_washed T) (hr.mono (by decide)) T.u_Step_washed.n .nil DReps.nil tk (p_vs (pv 0) rfl) (pa_sh (p_vs (pv 1) rfl) pa_nil'))) pb_nil) (by rfl)) Pu.ps_nil))) (Wk.na 2 (Wk.refl _)) rfl))) (fun _ _ _ _ _ hz hv =>
    (x_one (x_setE (i := 3) (j := 2) sc__law_heard.nd rfl (Or.inl rfl) (xe_tup (xs_cons (xe_in p_str) (xs_cons (xe_repr (k := 0) rfl (hr.mono (by decide)) (T.bl _ (.tail _ (.tail _ (.tail _ (.tail _ (.tail _ (.tail _ (.tail _ (.tail _ (.tail _ (.tail _ (.head _)))))))))))) (xs_cons (xe_fld (i := 3) rfl hz hv (hx_name T) (pv 3)) xs_nil) rfl) xs_nil))) (wkR rfl) rfl))) (wkR rfl) rfl rfl rfl (Or.inl rfl))
    (s_one (s_ret (p_vs (pv 2) rfl) (wkR rfl) (wkR rfl)))))
def g_law : Env → RS := (sSeq (sForS (sItA gRng (sCons (sAs (g2 gMax2) (sCons (sC (.int 2)) (sCons (sAs (g2 gMin2) (sCons (sC (.int 5)) (sCons (sAs (g1 gLenK) (sCons (sV 0) sNil)) sNil))) sNil))) sNil)) (tName 1)
    (sSeq (sSet 2 (sCall f__law_deal (sCons (sV 0) (sCons (sV 1) sNil))))
    (sForS (sItA gRng (sCons (sC (.int 4)) sNil)) (tName 3)
    (sSeq (sSet 4 (sCallO 2 f__law_stage (sCons (sC (.str "chop")) (sCons (sCallO 2 f__law_spots (sCons (sC (.int 5)) sNil)) sNil))))
    (sSeq (sPar 5 6 (sMake "Step" [] f_Step___init__ (sCons (sOp gIx (sV 4) (sC (.int 0))) (sCons (sOp gIx (sV 4) (sC (.int 1))) (sCons (sOp gIx (sV 4) (sC (.int 2))) sNil)))) (sC (.dtt [])))
    (sSeq (sForS (sIt D.seq (sOp gIx (sV 4) (sC (.int 2)))) (tTup 3 (Pu.tCons (tName 7) (Pu.tCons (tName 8) (Pu.tCons (tName 9) Pu.tNil))))
    (sPut 6 (sAs gTupl (sCons (sV 7) (sCons (sV 8) sNil))) (sV 9)))
    (sSeq (sForS (sIt D.seq (sAs gList (sCons (sC (.str "pan")) (sCons (sC (.str "board")) (sCons (sC (.str "bowl")) (sCons (sC (.str "dish")) (sCons (sC (.str "a")) (sCons (sC (.str "zzzzzz")) sNil)))))))) (tName 7)
    (sSeq (sForS (sIt D.seq (sAs gList (sCons (sC (.str "pan")) (sCons (sC (.str "board")) (sCons (sC (.str "bowl")) (sCons (sC (.str "dish")) (sCons (sC (.str "a")) (sCons (sC (.str "zzzzzz")) sNil)))))))) (tName 8)
    (sIfS (sB (sOp gNe (sAs (g1 gRepr) (sCons (sMeth "Step" "loss" [] f_Step_loss (sV 5) (sCons (sV 7) (sCons (sV 8) sNil))) sNil)) (sAs (g1 gRepr) (sCons (sGet1 (sV 6) (sAs gTupl (sCons (sV 7) (sCons (sV 8) sNil)))) sNil))))
    (sRet (sC (.bl false)))
    sNx))
    (sSeq (sSet 10 (sLc (sIt D.seq (sOp gIx (sV 4) (sC (.int 2)))) (tName 16) (sB (sOp gNe (sOp gIx (sV 16) (sC (.int 0))) (sV 7))) (sV 16) [16]))
    (sSeq (sSet 11 (sAs gTupl (sCons (sC (.str "none")) (sCons (sAs (g1 gRepr) (sCons (sV 7) sNil)) sNil))))
    (sSeq (sIfS (sB (sOp (gIn false) (sV 7) (sOp gIx (sV 4) (sC (.int 1)))))
    (sSet 11 (sAs gTupl (sCons (sC (.str "told")) (sCons (sCall f__law_stage_text (sCons (sAs gTupl (sCons (sOp gIx (sV 4) (sC (.int 0))) (sCons (sOp gIx (sV 4) (sC (.int 1))) (sCons (sV 10) sNil)))) sNil)) sNil))))
    sNx)
    (sIfS (sB (sOp gNe (sCall f__law_heard (sCons (sV 5) (sCons (sV 7) sNil))) (sV 11)))
    (sRet (sC (.bl false)))
    sNx))))))
    (sSeq (sSet 12 (sV 5))
    (sSeq (sForS (sIt D.seq (sCallO 2 f__law_mixed (sCons (sOp gIx (sV 4) (sC (.int 1))) sNil))) (tName 13)
    (sSet 12 (sMeth "Step" "washed" [] f_Step_washed (sV 12) (sCons (sV 13) sNil))))
    (sSeq (sIfS (sOr (sB (sOp (gNeO "Step" f_Step___eq__) (sV 12) (sMake "Step" [.ktp []] f_Step___init__ (sCons (sOp gIx (sV 4) (sC (.int 0))) (sCons (sOp gIx (sV 4) (sC (.int 1))) sNil))))) (sB (sOp gNe (sAs (g1 (gStrO "Step" f_Step___str__)) (sCons (sV 5) sNil)) (sCall f__law_stage_text (sCons (sV 4) sNil)))))
    (sRet (sC (.bl false)))
    sNx)
    (sSeq (sSet 14 (sAs gList (sCons (sCallO 2 f__law_thing (sCons (sC (.int 6)) sNil)) sNil)))
    (sForS (sIt D.seq (sAs gTupl (sCons (sV 14) (sCons (sC .non) (sCons (sC (.int 3)) (sCons (sC (.str "")) (sCons (sAs gTupl (sCons (sC (.str "pan")) sNil)) (sCons (sC (.str "Pan")) (sCons (sV 5) sNil))))))))) (tName 15)
    (sSeq (sIfS (sOr (sB (sUn gNotN (sMeth "Step" "loss" [] f_Step_loss (sV 5) (sCons (sV 15) (sCons (sOp gIx (sOp gIx (sV 4) (sC (.int 1))) (sC (.int 0))) sNil))))) (sB (sUn gNotN (sMeth "Step" "loss" [] f_Step_loss (sV 5) (sCons (sOp gIx (sOp gIx (sV 4) (sC (.int 1))) (sC (.int 0))) (sCons (sV 15) sNil))))))
    (sRet (sC (.bl false)))
    sNx)
    (sIfS (sAnd (sB (sOp (gNeXR "Step" f_Step___eq__) (sV 15) (sV 5))) (sB (sOp gNe (sCall f__law_heard (sCons (sV 5) (sCons (sV 15) sNil))) (sAs gTupl (sCons (sC (.str "none")) (sCons (sAs (g1 gRepr) (sCons (sV 15) sNil)) sNil))))))
    (sRet (sC (.bl false)))
    sNx))))))))))))))
    (sRet (sC (.bl true))))
def f_law : List D → RF := defF [.sh] 16 g_law
theorem ok_law (T : Txt P K mg) : FnOkG P w K mg base (L2.CX P w) 12 T.u_law.a T.u_law.d ["_law_script"] (SpF (gxF T) (xaF T) [.sh] f_law) :=
  fn_ok (pm := [.sh]) (n := 16) (g := g_law) (k := 11) T.u_law.F sc_law rfl rfl rfl fun cdv A outer s H E hr =>
    (s_cons (s_for (passes_of rfl) rfl (i_range1 rfl (T.bl _ (.tail _ (.tail _ (.tail _ (.tail _ (.tail _ (.tail _ (.tail _ (.tail _ (.tail _ (.head _))))))))))) (pb_cons (p_b (p_max2 rfl (T.bl _ (.tail _ (.tail _ (.tail _ (.tail _ (.tail _ (.tail _ (.tail _ (.head _))))))))) (pb_cons (p_b p_int) (pb_cons (p_b (p_min2 rfl (T.bl _ (.tail _ (.tail _ (.tail _ (.tail _ (.tail _ (.tail _ (.tail _ (.tail _ (.head _)))))))))) (pb_cons (p_b p_int) (pb_cons (p_b (p_lenK rfl (T.bl _ (.tail _ (.tail _ (.tail _ (.tail _ (.tail _ (.head _))))))) (pb_cons (p_b (p_vs (pv 0) rfl)) pb_nil) (by rfl))) pb_nil)) (by rfl))) pb_nil)) (by rfl))) pb_nil) (h1 := (len_cons len_nil))) (wkR rfl) (g_name (i := 1) sc_law.nd rfl (Or.inl rfl) rfl) rfl rfl
    (s_cons (s_setF (i := 2) sc_law.nd rfl (Or.inl rfl) (f_call (ok__law_deal T) (hr.mono (by decide)) rfl T.u__law_deal.m T.u__law_deal.F.kp T.u__law_deal.n (takes_of rfl rfl rfl rfl) (pa_sh (p_vs (pv 0) rfl) (pa_sh (p_vs (pv 1) rfl) pa_nil'))) (wkR rfl) rfl)
    (s_one (s_post1 (Wk.na 1 (Wk.na 2 (Wk.refl _))) (s_for (passes_of rfl) rfl (i_range1 rfl (T.bl _ (.tail _ (.tail _ (.tail _ (.tail _ (.tail _ (.tail _ (.tail _ (.tail _ (.tail _ (.head _))))))))))) (pb_cons (p_b p_int) pb_nil) (h1 := (len_cons len_nil))) (wkR rfl) (g_name (i := 3) sc_law.nd rfl (Or.inl rfl) rfl) rfl rfl
    (s_cons (s_set (i := 4) sc_law.nd rfl (Or.inl rfl) (p_callO (ok__law_stage T) (hr.mono (by decide)) rfl T.u__law_stage.m T.u__law_stage.F.kp T.u__law_stage.n (takes_of rfl rfl rfl rfl) (pv 2) rfl (Or.inl rfl) (pa_sh p_str (pa_sh (p_callO (ok__law_spots T) (hr.mono (by decide)) rfl T.u__law_spots.m T.u__law_spots.F.kp T.u__law_spots.n (takes_of rfl rfl rfl rfl) (pv 2) rfl (Or.inl rfl) (pa_sh p_int pa_nil')) pa_nil'))) (wkR rfl) rfl)
    (s_cons (s_par (i := 5) (j := 6) (t1 := .sh) (t2 := .dct .sh) rfl sc_law.nd rfl rfl (by decide) rfl rfl (by rfl) (f_of (p_make (c := "Step") (C := T.u_Step.a) (fsh := shp_Step) (ms := [.sh, .br, .br]) (ms2 := []) T.k_Step (ok_Step___init__ T) rfl (hr.mono (by decide)) rfl T.u_Step.m T.n_Step___init__ .nil DReps.nil (takes_of rfl rfl rfl rfl) (pa_sh (p_ix rfl (u1 hr) (p_b (p_vs (pv 4) rfl)) (p_b p_int) (fun _ _ => rfl)) (pa_br (p_b (p_ix rfl (u1 hr) (p_b (p_vs (pv 4) rfl)) (p_b p_int) (fun _ _ => rfl))) (pa_br (p_b (p_ix rfl (u1 hr) (p_b (p_vs (pv 4) rfl)) (p_b p_int) (fun _ _ => rfl))) pa_nil'))))) f_dT (wkR rfl) rfl rfl)
    (s_cons (s_for (passes_of rfl) rfl (i_seq rfl (p_b (p_ix rfl (u1 hr) (p_b (p_vs (pv 4) rfl)) (p_b p_int) (fun _ _ => rfl)))) (wkR rfl) (g_tup rfl rfl (gs_cons (g_name (i := 7) sc_law.nd rfl (Or.inr rfl) rfl) (gs_cons (g_name (i := 8) sc_law.nd rfl (Or.inl rfl) rfl) (gs_cons (g_name (i := 9) sc_law.nd rfl (Or.inl rfl) rfl) gs_nil)))) rfl rfl
    (s_one (s_post1 (Wk.na 7 (Wk.na 8 (Wk.na 9 (Wk.refl _)))) (s_put (u1 hr) (pv 6) rfl (Or.inl rfl) (p_tup (Pu.ps_cons (p_vs (pv 7) rfl) (Pu.ps_cons (p_vs (pv 8) rfl) Pu.ps_nil))) (p_vs (pv 9) rfl) (wkR rfl)))))
    (s_cons (s_for (passes_of rfl) rfl (i_seq rfl (p_b (Pu.p_lst (Pu.ps_cons p_str (Pu.ps_cons p_str (Pu.ps_cons p_str (Pu.ps_cons p_str (Pu.ps_cons p_str (Pu.ps_cons p_str Pu.ps_nil))))))))) (wkR rfl) (g_name (i := 7) sc_law.nd rfl (Or.inr rfl) rfl) rfl rfl
    (s_cons (s_for (passes_of rfl) rfl (i_seq rfl (p_b (Pu.p_lst (Pu.ps_cons p_str (Pu.ps_cons p_str (Pu.ps_cons p_str (Pu.ps_cons p_str (Pu.ps_cons p_str (Pu.ps_cons p_str Pu.ps_nil))))))))) (wkR rfl) (g_name (i := 8) sc_law.nd rfl (Or.inl rfl) rfl) rfl rfl
    (s_one (s_if (r_ne rfl (u64 hr) (p_b (p_repr rfl hr (T.bl _ (.tail _ (.tail _ (.tail _ (.tail _ (.tail _ (.tail _ (.tail _ (.tail _ (.tail _ (.tail _ (.head _)))))))))))) (pb_cons (p_b (p_methE (ms := [.sh, .sh]) (c := "Step") (ms2 := []) rfl rfl T.t_Step_loss (ok_Step_loss T) (hr.mono (by decide)) T.u_Step_loss.n .nil DReps.nil (takes_of rfl rfl rfl rfl) (p_vs (pv 5) rfl) (pa_sh (p_vs (pv 7) rfl) (pa_sh (p_vs (pv 8) rfl) pa_nil')))) pb_nil) (by rfl))) (p_b (p_repr rfl hr (T.bl _ (.tail _ (.tail _ (.tail _ (.tail _ (.tail _ (.tail _ (.tail _ (.tail _ (.tail _ (.tail _ (.head _)))))))))))) (pb_cons (p_b (p_hide (j := 6) rfl (Or.inl rfl) (Or.inl rfl) (p_get1 (u1 hr) (p_vb (pv 6) rfl) (p_b (p_tup (Pu.ps_cons (p_vs (pv 7) rfl) (Pu.ps_cons (p_vs (pv 8) rfl) Pu.ps_nil)))) ⟨rfl, rfl, rfl, rfl⟩))) pb_nil) (by rfl)))) (wkR rfl)
    (s_one (s_ret p_bl (wkR rfl) (wkR rfl)))
    (s_post (Wk.na 8 (Wk.refl _)) s_nil))))
    (s_cons (s_post1 (Wk.fr 10 _ rfl (Wk.refl _)) (s_setLc (i := 10) (own := [("_law_mark", 16)]) (us := [16]) (by rfl) sc_law.nd rfl rfl (sw_true rfl rfl rfl (by decide +kernel)) (i_seq rfl (p_b (p_ix rfl (u1 hr) (p_b (p_vs (pv 4) rfl)) (p_b p_int) (fun _ _ => rfl)))) (blkOk_by (own := [("_law_mark", 16)]) (N := n_law) (sc := defScope s_law) (by decide +kernel)) rfl (by decide) (Nk.na 16 (Nk.refl _)) (fun _ _ _ _ _ => (g_name (i := 16) sc_law.nd rfl (Or.inl rfl) rfl (Or.inr rfl))) (fun _ _ _ _ _ => (if_one (r_ne rfl (u64 hr) (p_b (p_ix rfl (u1 hr) (p_b (p_vs (pv 16) rfl)) (p_b p_int) (fun _ _ => rfl))) (p_b (p_vs (pv 7) rfl))))) (fun _ _ _ _ _ => (p_vs (pv 16) rfl)) (wkR rfl) rfl))
    (s_cons (s_set (i := 11) sc_law.nd rfl (Or.inl rfl) (p_tup (Pu.ps_cons p_str (Pu.ps_cons (p_repr rfl hr (T.bl _ (.tail _ (.tail _ (.tail _ (.tail _ (.tail _ (.tail _ (.tail _ (.tail _ (.tail _ (.tail _ (.head _)))))))))))) (pb_cons (p_b (p_vs (pv 7) rfl)) pb_nil) (by rfl)) Pu.ps_nil))) (wkR rfl) rfl)
    (s_cons (s_if (t_in rfl (u65 hr) (p_b (p_vs (pv 7) rfl)) (p_b (p_ix rfl (u1 hr) (p_b (p_vs (pv 4) rfl)) (p_b p_int) (fun _ _ => rfl))) (by rfl)) (wkR rfl)
    (s_one (s_set (i := 11) sc_law.nd rfl (Or.inl rfl) (p_tup (Pu.ps_cons p_str (Pu.ps_cons (p_call (CX := CX0) (ok__law_stage_text T) (hr.mono (by decide)) rfl T.u__law_stage_text.m T.u__law_stage_text.F.kp T.u__law_stage_text.n (takes_of rfl rfl rfl rfl) (pa_sh (p_tup (Pu.ps_cons (p_ix rfl (u1 hr) (p_b (p_vs (pv 4) rfl)) (p_b p_int) (fun _ _ => rfl)) (Pu.ps_cons (p_ix rfl (u1 hr) (p_b (p_vs (pv 4) rfl)) (p_b p_int) (fun _ _ => rfl)) (Pu.ps_cons (p_vs (pv 10) rfl) Pu.ps_nil)))) pa_nil')) Pu.ps_nil))) (wkR rfl) rfl))
    s_nil)
    (s_one (s_if (r_ne rfl (u64 hr) (p_b (p_call (CX := CX0) (ok__law_heard T) (hr.mono (by decide)) rfl T.u__law_heard.m T.u__law_heard.F.kp T.u__law_heard.n (takes_of rfl rfl rfl rfl) (pa_sh (p_vs (pv 5) rfl) (pa_sh (p_vs (pv 7) rfl) pa_nil')))) (p_b (p_vs (pv 11) rfl))) (wkR rfl)
    (s_one (s_ret p_bl (wkR rfl) (wkR rfl)))
    (s_post (Wk.na 7 (Wk.na 10 (Wk.na 11 (Wk.refl _)))) s_nil))))))))
    (s_cons (s_set (i := 12) sc_law.nd rfl (Or.inl rfl) (p_vs (pv 5) rfl) (wkR rfl) rfl)
    (s_cons (s_for (passes_of rfl) rfl (i_seq rfl (p_b (p_callO (ok__law_mixed T) (hr.mono (by decide)) rfl T.u__law_mixed.m T.u__law_mixed.F.kp T.u__law_mixed.n (takes_of rfl rfl rfl rfl) (pv 2) rfl (Or.inl rfl) (pa_sh (p_ix rfl (u1 hr) (p_b (p_vs (pv 4) rfl)) (p_b p_int) (fun _ _ => rfl)) pa_nil')))) (wkR rfl) (g_name (i := 13) sc_law.nd rfl (Or.inl rfl) rfl) rfl rfl
    (s_one (s_post1 (Wk.na 13 (Wk.refl _)) (s_set (i := 12) sc_law.nd rfl (Or.inl rfl) (p_methE (ms := [.sh]) (c := "Step") (ms2 := []) rfl rfl T.t_Step_washed (ok_Step_washed T) (hr.mono (by decide)) T.u_Step_washed.n .nil DReps.nil (takes_of rfl rfl rfl rfl) (p_vs (pv 12) rfl) (pa_sh (p_vs (pv 13) rfl) pa_nil')) (wkR rfl) rfl))))
    (s_cons (s_if (PW.pt (w_or (r_neO (c := "Step") rfl rfl T.t_Step___eq__ T.u_Step.o.hm T.u_Step.ne (ok_Step___eq__ T) T.u_Step___eq__.n (hr.mono (by decide)) (p_b (p_vs (pv 12) rfl)) (p_b (Exists.elim T.nd1_Step___init__ fun _ hh => (p_make (c := "Step") (C := T.u_Step.a) (fsh := shp_Step) (ms := [.sh, .br]) (ms2 := [.br]) T.k_Step (ok_Step___init__ T) rfl (hr.mono (by decide)) rfl T.u_Step.m hh.2 hh.1 (DReps.consB (fun _ _ => Rep.ktp T.v0_Step___init__ Reps.nil) DReps.nil) (takes_of rfl rfl rfl rfl) (pa_sh (p_ix rfl (u1 hr) (p_b (p_vs (pv 4) rfl)) (p_b p_int) (fun _ _ => rfl)) (pa_br (p_b (p_ix rfl (u1 hr) (p_b (p_vs (pv 4) rfl)) (p_b p_int) (fun _ _ => rfl))) pa_nil')))))) (w_or1 (r_ne rfl (u64 hr) (p_b (p_strO (c := "Step") rfl rfl T.t_Step___str__ (ok_Step___str__ T) T.u_Step___str__.n (hr.mono (by decide)) (T.bl _ (.tail _ (.tail _ (.tail _ (.tail _ (.tail _ (.tail _ (.tail _ (.tail _ (.tail _ (.tail _ (.tail _ (.tail _ (.head _)))))))))))))) (pb_cons (p_b (p_vs (pv 5) rfl)) pb_nil) (by rfl))) (p_b (p_call (CX := CX0) (ok__law_stage_text T) (hr.mono (by decide)) rfl T.u__law_stage_text.m T.u__law_stage_text.F.kp T.u__law_stage_text.n (takes_of rfl rfl rfl rfl) (pa_sh (p_vs (pv 4) rfl) pa_nil'))))))) (wkR rfl)
    (s_one (s_ret p_bl (wkR rfl) (wkR rfl)))
    s_nil)
    (s_cons (s_set (i := 14) sc_law.nd rfl (Or.inl rfl) (Pu.p_lst (Pu.ps_cons (p_callO (ok__law_thing T) (hr.mono (by decide)) rfl T.u__law_thing.m T.u__law_thing.F.kp T.u__law_thing.n (takes_of rfl rfl rfl rfl) (pv 2) rfl (Or.inl rfl) (pa_sh p_int pa_nil')) Pu.ps_nil)) (wkR rfl) rfl)
    (s_one (s_post1 (Wk.na 3 (Wk.na 4 (Wk.na 5 (Wk.na 6 (Wk.na 12 (Wk.na 14 (Wk.refl _))))))) (s_for (passes_of rfl) rfl (i_seq rfl (p_b (p_tup (Pu.ps_cons (p_vs (pv 14) rfl) (Pu.ps_cons p_non (Pu.ps_cons p_int (Pu.ps_cons p_str (Pu.ps_cons (p_tup (Pu.ps_cons p_str Pu.ps_nil)) (Pu.ps_cons p_str (Pu.ps_cons (p_vs (pv 5) rfl) Pu.ps_nil)))))))))) (wkR rfl) (g_name (i := 15) sc_law.nd rfl (Or.inl rfl) rfl) rfl rfl
    (s_cons (s_if (PW.pt (w_or (t_notN (p_b (p_methE (ms := [.sh, .sh]) (c := "Step") (ms2 := []) rfl rfl T.t_Step_loss (ok_Step_loss T) (hr.mono (by decide)) T.u_Step_loss.n .nil DReps.nil (takes_of rfl rfl rfl rfl) (p_vs (pv 5) rfl) (pa_sh (p_vs (pv 15) rfl) (pa_sh (p_ix rfl (u1 hr) (p_b (p_ix rfl (u1 hr) (p_b (p_vs (pv 4) rfl)) (p_b p_int) (fun _ _ => rfl))) (p_b p_int) (fun _ _ => rfl)) pa_nil'))))) (w_or1 (t_notN (p_b (p_methE (ms := [.sh, .sh]) (c := "Step") (ms2 := []) rfl rfl T.t_Step_loss (ok_Step_loss T) (hr.mono (by decide)) T.u_Step_loss.n .nil DReps.nil (takes_of rfl rfl rfl rfl) (p_vs (pv 5) rfl) (pa_sh (p_ix rfl (u1 hr) (p_b (p_ix rfl (u1 hr) (p_b (p_vs (pv 4) rfl)) (p_b p_int) (fun _ _ => rfl))) (p_b p_int) (fun _ _ => rfl)) (pa_sh (p_vs (pv 15) rfl) pa_nil')))))))) (wkR rfl)
    (s_one (s_ret p_bl (wkR rfl) (wkR rfl)))
    s_nil)
    (s_one (s_if (PW.pt (w_and (r_neXR (c := "Step") rfl rfl T.t_Step___eq__ T.u_Step.o T.nz_Step T.u_Step.ne (ok_Step___eq__ T) T.u_Step___eq__.n (hr.mono (by decide)) (p_b (p_vs (pv 15) rfl)) (p_b (p_vs (pv 5) rfl))) (w_and1 (r_ne rfl (u64 hr) (p_b (p_call (CX := CX0) (ok__law_heard T) (hr.mono (by decide)) rfl T.u__law_heard.m T.u__law_heard.F.kp T.u__law_heard.n (takes_of rfl rfl rfl rfl) (pa_sh (p_vs (pv 5) rfl) (pa_sh (p_vs (pv 15) rfl) pa_nil')))) (p_b (p_tup (Pu.ps_cons p_str (Pu.ps_cons (p_repr rfl hr (T.bl _ (.tail _ (.tail _ (.tail _ (.tail _ (.tail _ (.tail _ (.tail _ (.tail _ (.tail _ (.tail _ (.head _)))))))))))) (pb_cons (p_b (p_vs (pv 15) rfl)) pb_nil) (by rfl)) Pu.ps_nil)))))))) (wkR rfl)
    (s_one (s_ret p_bl (wkR rfl) (wkR rfl)))
    (s_post (Wk.na 15 (Wk.refl _)) s_nil))))))))))))))))))))
    (s_one (s_ret p_bl (wkR rfl) (wkR rfl))))
end
end Pu
namespace Pu
open PySem L2
def chkT : RF → Bool
  | .ok (.bl true) _ => true
  | _ => false
theorem chkT_ok {r : RF} (h : chkT r = true) : ∃ o, r = .ok (.bl true) o := by
  unfold chkT at h
  split at h
  · exact ⟨_, rfl⟩
  · cases h
def SP : List Str := ["pan", "board", "bowl", "dish", "a", "zzzzzz"]
def TI : List Str := ["chop", "toss", "b", "cut", "serve", "rinse", "nn", "goes"]
def WX : List Str := ["knife", "plate", "rack", "oven", "box", "dip", "fry", "mix", "stir", "wash", "warm", "nut", "egg"]
def WSA : List Str := []
def WSB : List Str := []
def NM : List Str := SP ++ (TI ++ (WX ++ (WSA ++ WSB)))
theorem nm_all : (NM.all fun x => chkT (f_is_name [.str x])) = true := by decide +kernel
theorem is_name_nm {x : Str} (h : x ∈ NM) : ∃ o, f_is_name [.str x] = .ok (.bl true) o := chkT_ok (List.all_eq_true.mp nm_all x h)
theorem bls_true : ∀ n : Nat, D.bls (List.replicate n (.bl true)) = some (List.replicate n true)
  | 0 => rfl
  | n + 1 => by
    rw [List.replicate_succ, List.replicate_succ]
    show (D.bls (List.replicate n (.bl true))).map (true :: ·) = _
    rw [bls_true n]
    rfl
theorem all_true {l : List D} (h : ∀ d ∈ l, d = .bl true) : gAll (.lst l) = some (.bl true) := by
  rw [List.eq_replicate_of_mem h]
  show (D.bls (List.replicate l.length (.bl true))).map _ = _
  rw [bls_true]
  simp
abbrev Sq (d : D) (l : List D) : Prop := d = .lst l ∨ d = .tup l
theorem Sq.seq {d : D} {l : List D} (h : Sq d l) : d.seq = some l := by rcases h with rfl | rfl <;> rfl
theorem Sq.len {d : D} {l : List D} (h : Sq d l) : g1 gLen [d] = some (.int l.length) := by rcases h with rfl | rfl <;> rfl
theorem Sq.is {d : D} {l : List D} (h : Sq d l) : ∃ o, f_is_sequence [d] = .ok (.bl true) o := by rcases h with rfl | rfl <;> exact ⟨_, rfl⟩
theorem rowD_nm {d : D} {xs : List Str} (hd : Sq d (xs.map .str)) (h : ∀ x ∈ xs, x ∈ NM) (hl : xs.length ≤ line) : ∃ o, f_is_row_of_names [d] = .ok (.bl true) o := by
  refine ⟨_, df_rt (ρ := [some d, none]) ?_⟩
  obtain ⟨o1, h1⟩ := hd.is
  have h3 := ev_Lc1 (f := sIt D.seq (sV 0)) (tg := tName 1) (te := sCall f_is_name (sCons (sV 1) sNil)) (vs := [1]) (ρ := [some d, none]) (fun _ => .bl true) (ev_It (ev_V rfl) hd.seq) rfl (by rw [List.length_map]; exact hl) fun e he => by
    obtain ⟨x, hx, rfl⟩ := List.mem_map.mp he
    obtain ⟨o, e⟩ := is_name_nm (h x hx)
    exact ⟨[some d, some (.str x)], rfl, rfl, by repeat' (first | exact ev_V rfl | exact ev_C | exact ev_Nil | exact ev_True | assumption | apply ev_Cons | apply ev_Op | apply ev_Un | apply ev_As | apply ev_Call | apply ev_B | apply ev_NotT | apply ev_NotF | apply ev_OrF | apply ev_AndVT | apply ev_It | apply st_pass | apply st_Ret | exact (@rfl (Option _) _))⟩
  have h4 : g1 gAll [.lst ((xs.map D.str).map fun _ => .bl true)] = some (.bl true) := all_true fun d hd => by
    obtain ⟨_, _, rfl⟩ := List.mem_map.mp hd
    rfl
  show g_is_row_of_names [some d, none] = _
  unfold g_is_row_of_names
  repeat' (first | exact ev_V rfl | exact ev_C | exact ev_Nil | exact ev_True | assumption | apply ev_Cons | apply ev_Op | apply ev_Un | apply ev_As | apply ev_Call | apply ev_B | apply ev_NotT | apply ev_NotF | apply ev_OrF | apply ev_AndVT | apply ev_It | apply st_pass | apply st_Ret | exact (@rfl (Option _) _))
theorem unlikeD_ok {d : D} {α : Type} [DecidableEq α] {g : α → D} {b : Bool} (hg : ∀ a c, hkEq (g a) (g c) = decide (a = c)) (hk : ∀ a, okKey b (g a) = true) (hb : b = true → ∀ a, (g a).key = none) {xs : List α} (hd : Sq d (xs.map g)) (nd : xs.Nodup) (hl : xs.length ≤ line) : ∃ o, f_are_unlike [d] = .ok (.bl true) o := by
  refine ⟨_, df_rt (ρ := [some d, none]) ?_⟩
  have ll : (xs.map g).length ≤ line := by rw [List.length_map]; exact hl
  have H : ∀ b, (∀ a, okKey b (g a) = true) → ∀ x ∈ xs.map g, ∃ ρ2, tName 1 x [some d, none] = some ρ2 ∧ wipeE ρ2 [1] = [some d, none] ∧ sTrue ρ2 = .ok true ρ2 ∧ (true = true → sV 1 ρ2 = .ok x ρ2 ∧ sC (.bl true) ρ2 = .ok (.bl true) ρ2 ∧ okKey b x = true) := fun b hk x hx => by
    obtain ⟨a, _, rfl⟩ := List.mem_map.mp hx
    exact ⟨[some d, some (g a)], rfl, rfl, rfl, fun _ => ⟨rfl, rfl, hk a⟩⟩
  have fresh : ∀ b, mkD b (((xs.map g).filter fun _ => true).foldl (fun a x => putD a x (.bl true)) []) = mkD b ((xs.map g).map fun x => (x, .bl true)) := fun b => by
    rw [List.filter_eq_self.mpr (fun _ _ => rfl), fold_fresh (k := fun x => x) (v := fun _ => .bl true) (xs.map g) [] (fun e he => by cases he) (nodup_hk hg nd), List.nil_append]
  have dc : ∃ b', sDc (dynB (tName 1) sTrue (sV 1) (sC (.bl true)) [1]) (sIt D.seq (sV 0)) (tName 1) sTrue (sV 1) (sC (.bl true)) [1] [some d, none] = .ok (mkD b' ((xs.map g).map fun x => (x, .bl true))) [some d, none] := by
    cases b with
    | false =>
      refine ⟨false, ?_⟩
      rw [← fresh false]
      refine ev_Dc false (fun _ => true) (fun x => x) (fun _ => .bl true) (ev_It (ev_V rfl) hd.seq) ?_ rfl (H false hk) ll
      exact dyn_false (dc_pure false (fun _ => true) (fun x => x) (fun _ => .bl true) _ [] (H false hk) (by simpa using hl))
    | true =>
      cases xs with
      | nil => rcases hd with rfl | rfl <;> exact ⟨false, rfl⟩
      | cons a xs =>
        refine ⟨true, ?_⟩
        rw [← fresh true]
        refine ev_Dc true (fun _ => true) (fun x => x) (fun _ => .bl true) (ev_It (ev_V rfl) hd.seq) ?_ rfl (H true hk) ll
        refine dyn_true ?_
        have : dPut (.dct []) (g a) (.bl true) = none := by
          show (if (g a).key.isSome = true ∧ _ then _ else none) = none
          rw [if_neg]
          rw [hb rfl a]
          exact fun h => Bool.noConfusion h.1
        show (match dPut (.dct []) (g a) (.bl true) with | some acc' => _ | none => R.bad) = .bad
        rw [this]
  obtain ⟨b', hdc⟩ := dc
  have h1 : g1 gLen [mkD b' ((xs.map g).map fun x => (x, .bl true))] = some (.int xs.length) := by
    cases b' <;> (show some (D.int ((List.length _ : Nat) : Int)) = _; simp)
  have h2 : g1 gLen [d] = some (.int xs.length) := by
    rw [hd.len]
    simp
  have h3 : gEq (.int xs.length) (.int xs.length) = some (.bl true) := by rw [gEq_int]; simp
  show g_are_unlike [some d, none] = _
  unfold g_are_unlike
  repeat' (first | exact ev_V rfl | exact ev_C | exact ev_Nil | exact ev_True | assumption | apply ev_Cons | apply ev_Op | apply ev_Un | apply ev_As | apply ev_Call | apply ev_B | apply ev_NotT | apply ev_NotF | apply ev_OrF | apply ev_AndVT | apply ev_It | apply st_pass | apply st_Ret | exact (@rfl (Option _) _))
theorem unlike_ok {α : Type} [DecidableEq α] {g : α → D} {b : Bool} (hg : ∀ a c, hkEq (g a) (g c) = decide (a = c)) (hk : ∀ a, okKey b (g a) = true) (hb : b = true → ∀ a, (g a).key = none) {xs : List α} (nd : xs.Nodup) (hl : xs.length ≤ line) : ∃ o, f_are_unlike [.lst (xs.map g)] = .ok (.bl true) o := unlikeD_ok hg hk hb (.inl rfl) nd hl
theorem unlikeD_str {d : D} {xs : List Str} (hd : Sq d (xs.map .str)) (nd : xs.Nodup) (hl : xs.length ≤ line) : ∃ o, f_are_unlike [d] = .ok (.bl true) o := unlikeD_ok (b := false) hk_str (fun _ => rfl) (fun h => by cases h) hd nd hl
theorem unlike_tpr {xs : List (Str × Str)} (nd : xs.Nodup) (hl : xs.length ≤ line) : ∃ o, f_are_unlike [.lst (xs.map tpr)] = .ok (.bl true) o := unlike_ok (b := true) hk_tpr (fun _ => rfl) (fun _ _ => rfl) nd hl
end Pu
namespace Pu
open PySem L2
abbrev Row := Str × Str × Int
def tRow (r : Row) : D := .tup [.str r.1, .str r.2.1, .int r.2.2]
theorem ok_nm_all : (NM.all fun x => PyData.strOk x) = true := by decide +kernel
theorem ok_nm {x : Str} (h : x ∈ NM) : okS x := List.all_eq_true.mp ok_nm_all x h
structure RowOk (ts : List Str) (r : Row) : Prop where
  a : r.1 ∈ ts
  b : r.2.1 ∈ ts
  lo : 0 ≤ r.2.2
  hi : r.2.2 ≤ 3
theorem gIn_sq {neg : Bool} {x : Str} {xs : List Str} {d : D} (hd : Sq d (xs.map .str)) (hx : okS x) (h : ∀ y ∈ xs, okS y) : gIn neg (.str x) d = some (.bl (if neg then !decide (x ∈ xs) else decide (x ∈ xs))) := by
  rcases hd with rfl | rfl
  · exact gIn_lst hx h
  · exact gIn_tup hx h
theorem is_arrowD_ok {p : D} {ts : List Str} {r : Row} (hp : Sq p (ts.map .str)) (ht : ∀ x ∈ ts, x ∈ NM) (h : RowOk ts r) : ∃ o, f_is_arrow [p, tRow r] = .ok (.bl true) o := by
  obtain ⟨a, b, c⟩ := r
  refine ⟨_, df_rt (ρ := [some p, some (tRow (a, b, c))]) ?_⟩
  obtain ⟨o1, h1⟩ := is_name_nm (ht a h.a)
  obtain ⟨o2, h2⟩ := is_name_nm (ht b h.b)
  have h3 : gIn false (.str a) p = some (.bl true) := by
    rw [gIn_sq hp (ok_nm (ht a h.a)) fun y hy => ok_nm (ht y hy)]
    have := h.a
    simp [show a ∈ ts from this]
  have h4 : gIn false (.str b) p = some (.bl true) := by
    rw [gIn_sq hp (ok_nm (ht b h.b)) fun y hy => ok_nm (ht y hy)]
    have := h.b
    simp [show b ∈ ts from this]
  have h5 : gNe (.int 3) (.int 3) = some (.bl false) := by rw [gNe_int]; rfl
  have h6 : ∃ o, f_is_number [.int c] = .ok (.bl true) o := by
    have i1 : ∃ o, f_is_integer [.int c] = .ok (.bl true) o := ⟨_, rfl⟩
    obtain ⟨o, i1⟩ := i1
    refine ⟨_, df_rt (ρ := [some (.int c)]) ?_⟩
    have i2 : gGe (.int c) (.int 0) = some (.bl true) := by
      show some (D.bl (decide (0 ≤ c))) = _
      rw [decide_eq_true h.lo]
    show g_is_number [some (.int c)] = _
    unfold g_is_number
    repeat' (first | exact ev_V rfl | exact ev_C | exact ev_Nil | exact ev_True | assumption | apply ev_Cons | apply ev_Op | apply ev_Un | apply ev_As | apply ev_Call | apply ev_B | apply ev_NotT | apply ev_NotF | apply ev_OrF | apply ev_AndVT | apply ev_It | apply st_pass | apply st_Ret | exact (@rfl (Option _) _))
  obtain ⟨o6, h6⟩ := h6
  show g_is_arrow [some p, some (.tup [.str a, .str b, .int c])] = _
  unfold g_is_arrow
  repeat' (first | exact ev_V rfl | exact ev_C | exact ev_Nil | exact ev_True | assumption | apply ev_Cons | apply ev_Op | apply ev_Un | apply ev_As | apply ev_Call | apply ev_B | apply ev_NotT | apply ev_NotF | apply ev_OrF | apply ev_AndVT | apply ev_It | apply st_pass | apply st_Ret | exact (@rfl (Option _) _))
theorem are_arrowsD_ok {p q : D} {ts : List Str} {rs : List Row} (hp : Sq p (ts.map .str)) (hq : Sq q (rs.map tRow)) (ht : ∀ x ∈ ts, x ∈ NM) (hr : ∀ r ∈ rs, RowOk ts r) (nd : (rs.map fun r => (r.1, r.2.1)).Nodup) (hl : rs.length ≤ line) : ∃ o, f_are_arrows [p, q] = .ok (.bl true) o := by
  let e0 : Env := [some p, some q, none, none, none, none]
  refine ⟨_, df_rt (ρ := e0) ?_⟩
  obtain ⟨o1, h1⟩ := hq.is
  have hl' : (rs.map tRow).length ≤ line := by rw [List.length_map]; exact hl
  have h2 := ev_Lc1 (f := sIt D.seq (sV 1)) (tg := tName 2) (te := sCall f_is_arrow (sCons (sV 0) (sCons (sV 2) sNil))) (vs := [2]) (ρ := e0) (ρ1 := e0) (fun _ => .bl true) (ev_It (ev_V rfl) hq.seq) rfl hl' fun d hd => by
    obtain ⟨r, hr', rfl⟩ := List.mem_map.mp hd
    obtain ⟨o, e⟩ := is_arrowD_ok hp ht (hr r hr')
    exact ⟨[some p, some q, some (tRow r), none, none, none], rfl, rfl, by repeat' (first | exact ev_V rfl | exact ev_C | exact ev_Nil | exact ev_True | assumption | apply ev_Cons | apply ev_Op | apply ev_Un | apply ev_As | apply ev_Call | apply ev_B | apply ev_NotT | apply ev_NotF | apply ev_OrF | apply ev_AndVT | apply ev_It | apply st_pass | apply st_Ret | exact (@rfl (Option _) _))⟩
  have h3 : g1 gAll [.lst ((rs.map tRow).map fun _ => .bl true)] = some (.bl true) := all_true fun d hd => by
    obtain ⟨_, _, rfl⟩ := List.mem_map.mp hd
    rfl
  have h4 : sLc (sIt D.seq (sV 1)) (tTup 3 (Pu.tCons (tName 3) (Pu.tCons (tName 4) (Pu.tCons (tName 5) Pu.tNil)))) sTrue (sAs gTupl (sCons (sV 3) (sCons (sV 4) sNil))) [3, 4, 5] e0 = .ok (.lst ((rs.map fun r => (r.1, r.2.1)).map tpr)) e0 := by
    have := ev_Lc1 (f := sIt D.seq (sV 1)) (tg := tTup 3 (Pu.tCons (tName 3) (Pu.tCons (tName 4) (Pu.tCons (tName 5) Pu.tNil)))) (te := sAs gTupl (sCons (sV 3) (sCons (sV 4) sNil))) (vs := [3, 4, 5]) (ρ := e0) (ρ1 := e0) (fun d => match d with | .tup [a, b, _] => .tup [a, b] | _ => .non) (ev_It (ev_V rfl) hq.seq) rfl hl' fun d hd => by
      obtain ⟨r, hr', rfl⟩ := List.mem_map.mp hd
      exact ⟨[some p, some q, none, some (.str r.1), some (.str r.2.1), some (.int r.2.2)], rfl, rfl, rfl⟩
    rw [this, List.map_map, List.map_map]
    rfl
  obtain ⟨o5, h5⟩ := unlike_tpr nd (by rw [List.length_map]; exact hl)
  show g_are_arrows e0 = _
  unfold g_are_arrows
  repeat' (first | exact ev_V rfl | exact ev_C | exact ev_Nil | exact ev_True | assumption | apply ev_Cons | apply ev_Op | apply ev_Un | apply ev_As | apply ev_Call | apply ev_B | apply ev_NotT | apply ev_NotF | apply ev_OrF | apply ev_AndVT | apply ev_It | apply st_pass | apply st_Ret | exact (@rfl (Option _) _))
end Pu
namespace Pu
open PySem L2
theorem isrt_perm {α : Type} {le : α → α → Bool} (tr : ∀ a b c, le a b = true → le b c = true → le a c = true) (to : ∀ a b, (le a b || le b a) = true) (l : List α) : (isrt le l).Perm l := by rw [← ms_isrt tr to]; exact List.mergeSort_perm l le
theorem isrt_pw {α : Type} {le : α → α → Bool} (tr : ∀ a b c, le a b = true → le b c = true → le a c = true) (to : ∀ a b, (le a b || le b a) = true) (l : List α) : (isrt le l).Pairwise fun a b => le a b = true := by rw [← ms_isrt tr to]; exact List.pairwise_mergeSort tr to l
theorem isrt_id {α : Type} {le : α → α → Bool} : ∀ {l : List α}, (l.Pairwise fun a b => le a b = true) → isrt le l = l
  | [], _ => rfl
  | a :: l, h => by
    rw [List.pairwise_cons] at h
    show insL le a (isrt le l) = _
    rw [isrt_id h.2]
    exact insL_at (l1 := []) (fun b hb => by cases hb) h.1
theorem insL_map {α β : Type} {le : β → β → Bool} (f : α → β) (a : α) : ∀ l : List α, insL le (f a) (l.map f) = (insL (fun x y => le (f x) (f y)) a l).map f
  | [] => rfl
  | b :: l => by
    show (if le (f a) (f b) then f a :: f b :: l.map f else f b :: insL le (f a) (l.map f)) = (if le (f a) (f b) then a :: b :: l else b :: insL (fun x y => le (f x) (f y)) a l).map f
    split
    · rfl
    · rw [insL_map f a l]; rfl
theorem isrt_map {α β : Type} {le : β → β → Bool} (f : α → β) : ∀ l : List α, isrt le (l.map f) = (isrt (fun x y => le (f x) (f y)) l).map f
  | [] => rfl
  | a :: l => by
    show insL le (f a) (isrt le (l.map f)) = (insL _ a (isrt _ l)).map f
    rw [isrt_map f l, insL_map]
def sortBy {α : Type} (f : α → D) (l : List α) : List α := isrt (fun a b => leD (f a) (f b)) l
theorem sortBy_perm {α : Type} (f : α → D) (l : List α) : (sortBy f l).Perm l := isrt_perm (fun a b c => leD_trans (f a) (f b) (f c)) (fun a b => leD_total (f a) (f b)) l
theorem sortBy_idem {α : Type} (f : α → D) (l : List α) : sortBy f (sortBy f l) = sortBy f l := isrt_id (isrt_pw (fun a b c => leD_trans (f a) (f b) (f c)) (fun a b => leD_total (f a) (f b)) l)
theorem sortD_map {α : Type} (f : α → D) (l : List α) : sortD (l.map f) = (sortBy f l).map f := isrt_map f l
theorem okSort_perm {ps qs : List PyData} (h : ∀ x, x ∈ qs → x ∈ ps) (ok : okSort ps = true) : okSort qs = true := by
  unfold okSort at ok ⊢
  simp only [Bool.and_eq_true, Bool.or_eq_true, List.all_eq_true] at ok ⊢
  obtain ⟨⟨h1, h2⟩, h3⟩ := ok
  refine ⟨⟨fun d hd e he => h1 d (h d hd) e (h e he), ?_⟩, fun d hd => h3 d (h d hd)⟩
  rcases h2 with h2 | h2
  · exact .inl fun d hd => h2 d (h d hd)
  · exact .inr fun d hd => h2 d (h d hd)
theorem pys_map {α : Type} {f : α → D} {p : α → PyData} : ∀ {l : List α}, (∀ a ∈ l, (f a).py = some (p a)) → D.pys (l.map f) = some (l.map p)
  | [], _ => rfl
  | a :: l, h => by
    show (match D.py (f a), D.pys (l.map f) with | some p, some ps => some (p :: ps) | _, _ => none) = _
    rw [h a (List.mem_cons_self ..), pys_map fun b hb => h b (List.mem_cons_of_mem _ hb)]
    rfl
theorem sorted_by {α : Type} {f : α → D} {p : α → PyData} {l : List α} (hp : ∀ a, (f a).py = some (p a)) (ok : okSort (l.map p) = true) : gSorted (.lst (l.map f)) = some (.lst ((sortBy f l).map f)) := by
  show sortL (l.map f) = _
  unfold sortL
  rw [pys_map fun a _ => hp a]
  show (if okSort (l.map p) then some (D.lst (sortD (l.map f))) else none) = _
  rw [ok, sortD_map]
  rfl
theorem sorted_again {α : Type} {f : α → D} {p : α → PyData} {l : List α} (hp : ∀ a, (f a).py = some (p a)) (ok : okSort (l.map p) = true) : gSorted (.lst ((sortBy f l).map f)) = some (.lst ((sortBy f l).map f)) := by
  have := sorted_by (l := sortBy f l) hp (okSort_perm (fun x hx => by
    obtain ⟨a, ha, rfl⟩ := List.mem_map.mp hx
    exact List.mem_map_of_mem ((sortBy_perm f l).mem_iff.mp ha)) ok)
  rw [this, sortBy_idem]
section
variable {ρ ρ1 : Env} {d : D} {f : Env → R D} {j : Nat} {c : String} {n : Str} {fs : List (Str × D)}
theorem st_FldS (h : f ρ = .ok d ρ1) (hj : ρ1[j]? = some (some (.obj c fs))) (hl : fs.length < 1000) : sFldS j c n f ρ = .nx (ρ1.set j (some (.obj c (putFD n d fs)))) := by
  unfold sFldS
  rw [h]
  show fldR j c n d ρ1 = _
  unfold fldR
  rw [hj]
  show (if c = c ∧ fs.length < 1000 then _ else _) = _
  rw [if_pos ⟨rfl, hl⟩]
theorem st_FldF (h : f ρ = .ok d ρ1) (hj : ρ1[j]? = some (some (.obj c fs))) (hl : fs.length < 1000) (hn : fs.lookup n = none) : sFldF j c n f ρ = .nx (ρ1.set j (some (.obj c (putFD n d fs)))) := by
  unfold sFldF
  rw [h]
  show fldN j c n d ρ1 = _
  unfold fldN
  rw [hj]
  show (if c = c ∧ fs.length < 1000 ∧ fs.lookup n = none then _ else _) = _
  rw [if_pos ⟨rfl, hl, hn⟩]
end
theorem dcN_pure {tg : D → Env → Option Env} {tt : Env → R Bool} {tk tv : Env → R D} {vs : List Nat} {ρ0 : Env} (b : Bool) (k v : D → D) : ∀ (xs : List D) (kvs : List (D × D)) (_ : ∀ x ∈ xs, ∃ ρ1, tg x ρ0 = some ρ1 ∧ wipeE ρ1 vs = ρ0 ∧ tt ρ1 = .ok true ρ1 ∧ tk ρ1 = .ok (k x) ρ1 ∧ tv ρ1 = .ok (v x) ρ1 ∧ okKey b (k x) = true) (_ : kvs.length + xs.length ≤ line)
    (_ : ∀ e ∈ kvs, ∀ x ∈ xs, hkEq e.1 (k x) = false) (_ : xs.Pairwise fun x y => hkEq (k x) (k y) = false), dcN tg tt tk tv vs xs (mkD b kvs) ρ0 = .ok (mkD b (kvs ++ xs.map fun x => (k x, v x))) ρ0
  | [], kvs, _, _, _, _ => by rw [List.map_nil, List.append_nil]; rfl
  | x :: xs, kvs, H, hl, hf, hp => by
    rw [List.length_cons] at hl
    rw [List.pairwise_cons] at hp
    obtain ⟨ρ1, h1, h2, h3, h4, h5, h6⟩ := H x (List.mem_cons_self ..)
    have fr : (kvs.any fun e => hkEq e.1 (k x)) = false := by
      rw [List.any_eq_false]
      intro e he
      rw [hf e he x (List.mem_cons_self ..)]
      decide
    have put : dPutN (mkD b kvs) (k x) (v x) = some (mkD b (kvs ++ [(k x, v x)])) := by
      have hl' : kvs.length < line := by omega
      cases b with
      | false => exact if_pos ⟨h6, hl', fr⟩
      | true => exact if_pos ⟨h6, hl', fr⟩
    unfold dcN
    rw [h1]
    dsimp only
    rw [h3]
    show ((tk ρ1).noX.bind _) = _
    rw [h4]
    show ((tv ρ1).noX.bind _) = _
    rw [h5]
    show (match dPutN (mkD b kvs) (k x) (v x) with | some acc' => dcN tg tt tk tv vs xs acc' (wipeE ρ1 vs) | none => .bad) = _
    rw [put]
    show dcN tg tt tk tv vs xs (mkD b (kvs ++ [(k x, v x)])) (wipeE ρ1 vs) = _
    rw [h2, dcN_pure b k v xs _ (fun y hy => H y (List.mem_cons_of_mem _ hy)) (by rw [List.length_append]; simp; omega) (fun e he y hy => ?_) hp.2, List.append_assoc]
    · rfl
    · rcases List.mem_append.mp he with he | he
      · exact hf e he y (List.mem_cons_of_mem _ hy)
      · cases List.mem_singleton.mp he
        exact hp.1 y hy
theorem ev_DcN {f : Env → R (List D)} {tg : D → Env → Option Env} {tt : Env → R Bool} {tk tv : Env → R D} {vs : List Nat} {ρ ρ1 : Env} {xs : List D} (b : Bool) (k v : D → D) (hf : f ρ = .ok xs ρ1) (hw : wipeE ρ1 vs = ρ1)
    (H : ∀ x ∈ xs, ∃ ρ2, tg x ρ1 = some ρ2 ∧ wipeE ρ2 vs = ρ1 ∧ tt ρ2 = .ok true ρ2 ∧ tk ρ2 = .ok (k x) ρ2 ∧ tv ρ2 = .ok (v x) ρ2 ∧ okKey b (k x) = true) (hl : xs.length ≤ line) (hp : xs.Pairwise fun x y => hkEq (k x) (k y) = false) :
    sDcN b f tg tt tk tv vs ρ = .ok (mkD b (xs.map fun x => (k x, v x))) ρ1 := by
  unfold sDcN
  rw [hf]
  show dcN tg tt tk tv vs xs (d0 b) (wipeE ρ1 vs) = _
  rw [hw, show d0 b = mkD b [] by cases b <;> rfl, dcN_pure b k v xs [] H (by simpa using hl) (fun e he => by cases he) hp, List.nil_append]
end Pu
namespace Pu
open PySem L2
structure Stg (t : Str) (ts : List Str) (rs : List Row) : Prop where
  ht : t ∈ NM
  hts : ∀ x ∈ ts, x ∈ NM
  ne : ts ≠ []
  nd : ts.Nodup
  tl : ts.length ≤ 1000
  hrs : ∀ r ∈ rs, RowOk ts r
  rn : (rs.map fun r => (r.1, r.2.1)).Nodup
  rl : rs.length ≤ 1000
  few : rs.length ≤ 10
  st : gSorted (.lst (ts.map .str)) = some (.lst (ts.map .str))
  sr : gSorted (.lst (rs.map tRow)) = some (.lst (rs.map tRow))
def stepO (t : Str) (ts : List Str) (rs : List Row) (ls ld : D) : D := .obj "Step" [("name", .str t), ("places", .tup (ts.map .str)), ("arrows", .tup (rs.map tRow)), ("losses", ls), ("leads", ld)]
theorem line_big {n : Nat} (h : n ≤ 1000) : n ≤ line := Nat.le_trans h (by decide)
theorem ixK_lt {a : Str} {ts : List Str} {kvs : List (D × D)} (hk : kvs.map (·.1) = ts.map .str) (ha : a ∈ ts) : ixK (.str a) kvs < kvs.length := by
  unfold ixK
  rw [List.findIdx_lt_length]
  have : D.str a ∈ kvs.map (·.1) := by rw [hk]; exact List.mem_map_of_mem ha
  obtain ⟨e, he, e1⟩ := List.mem_map.mp this
  refine ⟨e, he, ?_⟩
  show hkEq e.1 (.str a) = true
  rw [e1, hk_str]
  simp
def key2 (r : Row) : Str × Str := (r.1, r.2.1)
def kvR (rows : List Row) : List (D × D) := rows.map fun r => (tpr (key2 r), .int r.2.2)
def leadK (kvs : List (D × D)) (a : Str) (s5 s6 : D) : List (D × D) := match kvs[ixK (.str a) kvs]? with
  | some (k, .lst l) => kvs.set (ixK (.str a) kvs) (k, .lst (l ++ [.tup [s5, s6]]))
  | _ => kvs
def leadL (ts : List Str) (rs : List Row) : List (D × D) := rs.foldl (fun k r => leadK k r.1 (.str r.2.1) (.int r.2.2)) ((ts.map D.str).map fun x => (x, .lst []))
def leadD (ts : List Str) (rs : List Row) : D := .dct (leadL ts rs)
theorem leads_turn {x0 x1 : D} {fs : List (Str × D)} {s5 s6 : D} {x2 x3 x7 : Option D} {a : Str} {ts : List Str} {kvs : List (D × D)} {n : Nat} {n0 n1 n2 n3 : D} (hk : kvs.map (·.1) = ts.map .str) (hv : ∀ e ∈ kvs, ∃ l, e.2 = D.lst l ∧ l.length ≤ n) (hn : n < 1000) (ha : a ∈ ts) :
    ∃ kvs', sDo (sMutP 0 (Ln.key (Ln.fld Ln.here "leads") 4) uApp (sCons (sAs gTupl (sCons (sV 5) (sCons (sV 6) sNil))) sNil)) [some (.obj "Step" [("name", n0), ("places", n1), ("arrows", n2), ("losses", n3), ("leads", .dct kvs)]), some x1, x2, x3, some (.str a), some s5, some s6, x7] = .nx [some (.obj "Step" [("name", n0), ("places", n1), ("arrows", n2), ("losses", n3), ("leads", .dct kvs')]), some x1, x2, x3, some (.str a), some s5, some s6, x7] ∧
      kvs'.map (·.1) = ts.map .str ∧ (∀ e ∈ kvs', ∃ l, e.2 = D.lst l ∧ l.length ≤ n + 1) ∧ kvs' = leadK kvs a s5 s6 := by
  have hi := ixK_lt hk ha
  obtain ⟨l, hl, hn2⟩ := hv _ (List.getElem_mem hi)
  let kvs' := kvs.set (ixK (.str a) kvs) ((kvs[ixK (.str a) kvs]).1, .lst (l ++ [.tup [s5, s6]]))
  refine ⟨kvs', ?_, ?_, ?_, ?_⟩
  · have ix : ixF "leads" [("name", n0), ("places", n1), ("arrows", n2), ("losses", n3), ("leads", D.dct kvs)] = 4 := by
      unfold ixF
      rfl
    let ρ : Env := [some (.obj "Step" [("name", n0), ("places", n1), ("arrows", n2), ("losses", n3), ("leads", .dct kvs)]), some x1, x2, x3, some (.str a), some s5, some s6, x7]
    let o : D := .obj "Step" [("name", n0), ("places", n1), ("arrows", n2), ("losses", n3), ("leads", .dct kvs)]
    have e1 : (Ln.fld Ln.here "leads").sel ρ o = some (.dct kvs) := by
      show (([("name", n0), ("places", n1), ("arrows", n2), ("losses", n3), ("leads", D.dct kvs)] : List (Str × D))[ixF "leads" [("name", n0), ("places", n1), ("arrows", n2), ("losses", n3), ("leads", D.dct kvs)]]?).map (·.2) = _
      rw [ix]
      rfl
    have gi : kvs[ixK (.str a) kvs]? = some (kvs[ixK (.str a) kvs]) := List.getElem?_eq_getElem hi
    have e2 : (Ln.key (Ln.fld Ln.here "leads") 4).sel ρ o = some (.lst l) := by
      have q : (Ln.key (Ln.fld Ln.here "leads") 4).sel ρ o = ((Ln.fld Ln.here "leads").sel ρ o).bind (fun x => match x, keyAt ρ 4 with
        | .dct kvs, some kd => (kvs[ixK kd kvs]?).map (·.2)
        | _, _ => none) := rfl
      rw [q, e1]
      show (kvs[ixK (.str a) kvs]?).map (·.2) = _
      rw [gi]
      exact congrArg some hl
    have e3 : (Ln.key (Ln.fld Ln.here "leads") 4).put ρ o (.lst (l ++ [.tup [s5, s6]])) = .obj "Step" [("name", n0), ("places", n1), ("arrows", n2), ("losses", n3), ("leads", .dct kvs')] := by
      have q : (Ln.fld Ln.here "leads").put ρ o (.dct kvs') = .obj "Step" [("name", n0), ("places", n1), ("arrows", n2), ("losses", n3), ("leads", .dct kvs')] := by
        show D.obj "Step" (([("name", n0), ("places", n1), ("arrows", n2), ("losses", n3), ("leads", D.dct kvs)] : List (Str × D)).set (ixF "leads" [("name", n0), ("places", n1), ("arrows", n2), ("losses", n3), ("leads", D.dct kvs)]) ("leads", .dct kvs')) = _
        rw [ix]
        rfl
      rw [← q]
      show (match (Ln.fld Ln.here "leads").sel ρ o, keyAt ρ 4 with
        | some (.dct kvs), some kd => (Ln.fld Ln.here "leads").put ρ o (.dct (kvs.set (ixK kd kvs) (((kvs[ixK kd kvs]?).map (fun (e : D × D) => e.1)).getD kd, .lst (l ++ [D.tup [s5, s6]]))))
        | _, _ => o) = _
      rw [e1]
      show (Ln.fld Ln.here "leads").put ρ o (.dct (kvs.set (ixK (.str a) kvs) (((kvs[ixK (.str a) kvs]?).map (fun (e : D × D) => e.1)).getD (.str a), .lst (l ++ [.tup [s5, s6]])))) = _
      rw [gi]
      rfl
    have e4 : selOk 0 (Ln.key (Ln.fld Ln.here "leads") 4) ρ = true := by
      show (match (Ln.key (Ln.fld Ln.here "leads") 4).sel ρ o with | some (.lst _) => true | _ => false) = true
      rw [e2]
    have e5 : sMutP 0 (Ln.key (Ln.fld Ln.here "leads") 4) uApp (sCons (sAs gTupl (sCons (sV 5) (sCons (sV 6) sNil))) sNil) ρ = .ok .non [some (.obj "Step" [("name", n0), ("places", n1), ("arrows", n2), ("losses", n3), ("leads", .dct kvs')]), some x1, x2, x3, some (.str a), some s5, some s6, x7] := by
      unfold sMutP
      rw [e4]
      show mutP 0 (Ln.key (Ln.fld Ln.here "leads") 4) uApp [.tup [s5, s6]] ρ = _
      show (match (Ln.key (Ln.fld Ln.here "leads") 4).sel ρ o with
        | some (.lst ds) => match uApp ds [D.tup [s5, s6]] with
          | some (r, ds') => R.ok (r : D) (ρ.set 0 (some ((Ln.key (Ln.fld Ln.here "leads") 4).put ρ o (.lst ds'))))
          | none => .bad
        | _ => .bad) = _
      rw [e2]
      show (match (if l.length < line then some (D.non, l ++ [D.tup [s5, s6]]) else none) with
          | some (r, ds') => R.ok (r : D) (ρ.set 0 (some ((Ln.key (Ln.fld Ln.here "leads") 4).put ρ o (.lst ds'))))
          | none => .bad) = _
      rw [if_pos (by have : (1000 : Nat) < line := by decide
                     omega)]
      show R.ok D.non (ρ.set 0 (some ((Ln.key (Ln.fld Ln.here "leads") 4).put ρ o (.lst (l ++ [.tup [s5, s6]]))))) = _
      rw [e3]
      rfl
    exact st_Do e5
  · rw [List.map_set]
    show (kvs.map (·.1)).set _ (kvs[ixK (.str a) kvs]).1 = _
    rw [← hk]
    have : (kvs[ixK (.str a) kvs]).1 = (kvs.map (·.1))[ixK (.str a) kvs]'(by rw [List.length_map]; exact hi) := by simp
    rw [this, List.set_getElem_self]
  · intro e he
    rcases List.mem_or_eq_of_mem_set he with he | rfl
    · obtain ⟨l', e1, e2⟩ := hv e he
      exact ⟨l', e1, by omega⟩
    · exact ⟨_, rfl, by rw [List.length_append]; simp; omega⟩
  · have gi : kvs[ixK (.str a) kvs]? = some ((kvs[ixK (.str a) kvs]).1, .lst l) := by rw [← hl]; exact List.getElem?_eq_getElem hi
    unfold leadK
    rw [gi]
end Pu
namespace Pu
open PySem L2
theorem putFD_new {n : Str} {d : D} : ∀ {fs : List (Str × D)}, (fs.map (·.1)).all (fun e => !decide (e = n)) = true → putFD n d fs = fs ++ [(n, d)]
  | [], _ => rfl
  | (g, x) :: fs, h => by
    rw [List.map_cons, List.all_cons, Bool.and_eq_true] at h
    have hn : ¬ g = n := by simpa using h.1
    show (if g = n then _ else (g, x) :: putFD n d fs) = _
    rw [if_neg hn, putFD_new h.2]
    rfl
theorem fldS0 {c : String} {n : Str} {d : D} {fs : List (Str × D)} {rest : Env} {f : Env → R D} (h : f (some (.obj c fs) :: rest) = .ok d (some (.obj c fs) :: rest)) (hl : fs.length < 1000) (hn : (fs.map (·.1)).all (fun e => !decide (e = n)) = true) : sFldS 0 c n f (some (.obj c fs) :: rest) = .nx (some (.obj c (fs ++ [(n, d)])) :: rest) := by
  rw [st_FldS (j := 0) h rfl hl, putFD_new hn]
  rfl
theorem fldF0 {c : String} {n : Str} {d : D} {fs : List (Str × D)} {rest : Env} {f : Env → R D} (h : f (some (.obj c fs) :: rest) = .ok d (some (.obj c fs) :: rest)) (hl : fs.length < 1000) (hn : (fs.map (·.1)).all (fun e => !decide (e = n)) = true) (hk : fs.lookup n = none) : sFldF 0 c n f (some (.obj c fs) :: rest) = .nx (some (.obj c (fs ++ [(n, d)])) :: rest) := by
  rw [st_FldF (j := 0) h rfl hl hk, putFD_new hn]
  rfl
theorem look_none {n : Str} : ∀ {fs : List (Str × D)}, (fs.map (·.1)).all (fun e => !decide (e = n)) = true → fs.lookup n = none
  | [], _ => rfl
  | (g, x) :: fs, h => by
    rw [List.map_cons, List.all_cons, Bool.and_eq_true] at h
    have hn : ¬ g = n := by simpa using h.1
    rw [List.lookup_cons]
    have : (n == g) = false := by simp; exact fun e => hn e.symm
    rw [this, look_none h.2]
theorem map_tRow : ∀ {a b : List Row}, a.map tRow = b.map tRow → a = b
  | [], [], _ => rfl
  | [], _ :: _, h => by cases h
  | _ :: _, [], h => by cases h
  | (x, y, z) :: a, (x', y', z') :: b, h => by
    rw [List.map_cons, List.map_cons] at h
    injection h with h1 h2
    have e := map_tRow h2
    unfold tRow at h1
    injection h1 with h1
    injection h1 with e1 h1
    injection h1 with e2 h1
    injection h1 with e3 h1
    injection e1 with e1
    injection e2 with e2
    injection e3 with e3
    dsimp only at e1 e2 e3
    rw [e, e1, e2, e3]
theorem Sq.sorted {d : D} {l m : List D} (h : Sq d l) (e : gSorted (.lst l) = some (.lst m)) : g1 gSorted [d] = some (.lst m) := by rcases h with rfl | rfl <;> exact e
theorem step_madeG {t : Str} {ts : List Str} {rs : List Row} {p q : D} (hp : Sq p (ts.map .str)) (h4 : ∃ o, f_are_arrows [p, q] = .ok (.bl true) o) (g6 : g1 gSorted [q] = some (.lst (rs.map tRow))) (S : Stg t ts rs) : ∃ os, f_Step___init__ [.obj "Step" [], .str t, p, q] = .ok .non (stepO t ts rs (.dtt (kvR rs)) (leadD ts rs) :: os) ∧ (leadL ts rs).map (·.1) = ts.map .str ∧ ∀ e ∈ leadL ts rs, ∃ l, e.2 = D.lst l ∧ l.length ≤ rs.length := by
  let T : Option D := some (.str t)
  let P : Option D := some p
  let A : Option D := some q
  let e0 : Env := [some (.obj "Step" []), T, P, A, none, none, none, none]
  obtain ⟨o1, h1⟩ := is_name_nm S.ht
  obtain ⟨o2, h2⟩ := rowD_nm hp S.hts (line_big S.tl)
  obtain ⟨o3, h3⟩ := unlikeD_str hp S.nd (line_big S.tl)
  obtain ⟨o4, h4⟩ := h4
  have h5 : gEq (.int ((ts.map D.str).length : Nat)) (.int 0) = some (.bl false) := by
    rw [gEq_int, decide_eq_false]
    have := S.ne
    cases ts with
    | nil => exact (this rfl).elim
    | cons x xs => simp; omega
  have k5 : g1 gLen [p] = some (.int ((ts.map D.str).length : Nat)) := hp.len
  have st := S.st
  have sr := S.sr
  have g5 : g1 gSorted [p] = some (.lst (ts.map .str)) := hp.sorted S.st
  have p1 : sNot (sB (sCall f_is_name (sCons (sV 1) sNil))) e0 = .ok false e0 := ev_NotT (ev_B (ev_Call (ev_Cons (ev_V rfl) ev_Nil) h1))
  have p2 : sOr (sNot (sB (sCall f_is_row_of_names (sCons (sV 2) sNil)))) (sOr (sB (sOp gEq (sAs (g1 gLen) (sCons (sV 2) sNil)) (sC (.int 0)))) (sNot (sB (sCall f_are_unlike (sCons (sV 2) sNil))))) e0 = .ok false e0 :=
    ev_OrF (ev_NotT (ev_B (ev_Call (ev_Cons (ev_V rfl) ev_Nil) h2))) (ev_OrF (ev_B (ev_Op (ev_As (ev_Cons (ev_V rfl) ev_Nil) k5) ev_C h5)) (ev_NotT (ev_B (ev_Call (ev_Cons (ev_V rfl) ev_Nil) h3))))
  have p3 : sNot (sB (sCall f_are_arrows (sCons (sV 2) (sCons (sV 3) sNil)))) e0 = .ok false e0 := ev_NotT (ev_B (ev_Call (ev_Cons (ev_V rfl) (ev_Cons (ev_V rfl) ev_Nil)) h4))
  have nms : ∀ (l : List Str) (n : Str), l.all (fun e => !decide (e = n)) = true → l.all (fun e => !decide (e = n)) = true := fun _ _ h => h
  let n0 : D := .str t
  let n1 : D := .tup (ts.map .str)
  let n2 : D := .tup (rs.map tRow)
  let e1 : Env := [some (.obj "Step" [("name", n0)]), T, P, A, none, none, none, none]
  let e2 : Env := [some (.obj "Step" [("name", n0), ("places", n1)]), T, P, A, none, none, none, none]
  let e3 : Env := [some (.obj "Step" [("name", n0), ("places", n1), ("arrows", n2)]), T, P, A, none, none, none, none]
  have s1 : sFldS 0 "Step" "name" (sV 1) e0 = .nx e1 := fldS0 (fs := []) (ev_V rfl) (by decide) (by decide +kernel)
  have s2 : sFldS 0 "Step" "places" (sAs (g1 gTupleOf) (sCons (sAs (g1 gSorted) (sCons (sV 2) sNil)) sNil)) e1 = .nx e2 := fldS0 (fs := [("name", n0)]) (ev_As (ev_Cons (ev_As (ev_Cons (ev_V rfl) ev_Nil) g5) ev_Nil) rfl) (by simp) (nms ["name"] "places" (by decide +kernel))
  have s3 : sFldS 0 "Step" "arrows" (sAs (g1 gTupleOf) (sCons (sAs (g1 gSorted) (sCons (sV 3) sNil)) sNil)) e2 = .nx e3 := fldS0 (fs := [("name", n0), ("places", n1)]) (ev_As (ev_Cons (ev_As (ev_Cons (ev_V rfl) ev_Nil) g6) ev_Nil) rfl) (by simp) (nms ["name", "places"] "arrows" (by decide +kernel))
  let kf : D → D := fun d => match d with | .tup [a, b, _] => .tup [a, b] | _ => .non
  let vf : D → D := fun d => match d with | .tup [_, _, c] => c | _ => .non
  let n3 : D := .dtt (kvR rs)
  have d3 : sDc (fun _ _ => true) (sIt D.seq (sPth 0 (Ln.fld Ln.here "arrows"))) (tTup 3 (Pu.tCons (tName 4) (Pu.tCons (tName 5) (Pu.tCons (tName 6) Pu.tNil)))) sTrue (sAs gTupl (sCons (sV 4) (sCons (sV 5) sNil))) (sV 6) [4, 5, 6] e3 = .ok n3 e3 := by
    have this := ev_Dc (f := sIt D.seq (sPth 0 (Ln.fld Ln.here "arrows"))) (tg := tTup 3 (Pu.tCons (tName 4) (Pu.tCons (tName 5) (Pu.tCons (tName 6) Pu.tNil)))) (tt := sTrue) (tk := sAs gTupl (sCons (sV 4) (sCons (sV 5) sNil))) (tv := sV 6) (vs := [4, 5, 6]) (ρ := e3) (ρ1 := e3) (bf := fun _ _ => true) (xs := rs.map tRow) true (fun _ => true) kf vf (ev_It (a := n2) (ev_Pth rfl rfl) rfl) rfl rfl (fun d hd => by
      obtain ⟨r, hr, rfl⟩ := List.mem_map.mp hd
      exact ⟨[some (.obj "Step" [("name", n0), ("places", n1), ("arrows", n2)]), T, P, A, some (.str r.1), some (.str r.2.1), some (.int r.2.2), none], rfl, rfl, rfl, fun _ => ⟨rfl, rfl, rfl⟩⟩) (by rw [List.length_map]; exact line_big S.rl)
    have ek : (rs.map tRow).map kf = (rs.map fun r => (r.1, r.2.1)).map tpr := by rw [List.map_map, List.map_map]; rfl
    rw [this, List.filter_eq_self.mpr (fun _ _ => rfl), fold_fresh (k := kf) (v := vf) _ [] (fun e he => by cases he) (List.pairwise_map.mp (by rw [ek]; exact nodup_hk hk_tpr S.rn)), List.nil_append, List.map_map]
    rfl
  let e4 : Env := [some (.obj "Step" [("name", n0), ("places", n1), ("arrows", n2), ("losses", n3)]), T, P, A, none, none, none, none]
  have s4 : sFldS 0 "Step" "losses" (sDc (fun _ _ => true) (sIt D.seq (sPth 0 (Ln.fld Ln.here "arrows"))) (tTup 3 (Pu.tCons (tName 4) (Pu.tCons (tName 5) (Pu.tCons (tName 6) Pu.tNil)))) sTrue (sAs gTupl (sCons (sV 4) (sCons (sV 5) sNil))) (sV 6) [4, 5, 6]) e3 = .nx e4 := fldS0 (fs := [("name", n0), ("places", n1), ("arrows", n2)]) d3 (by simp) (nms ["name", "places", "arrows"] "losses" (by decide +kernel))
  let k0 : List (D × D) := (ts.map D.str).map fun x => (x, .lst [])
  let e5 : Env := [some (.obj "Step" [("name", n0), ("places", n1), ("arrows", n2), ("losses", n3), ("leads", .dct k0)]), T, P, A, none, none, none, none]
  have d5 : sDcN false (sIt D.seq (sPth 0 (Ln.fld Ln.here "places"))) (tName 7) sTrue (sV 7) (sAs gList sNil) [7] e4 = .ok (.dct k0) e4 := by
    refine ev_DcN (xs := ts.map .str) false (fun x => x) (fun _ => .lst []) (ev_It (a := n1) (ev_Pth rfl rfl) rfl) rfl (fun d hd => ?_) (by rw [List.length_map]; exact line_big S.tl) (nodup_hk hk_str S.nd)
    obtain ⟨x, hx, rfl⟩ := List.mem_map.mp hd
    exact ⟨[some (.obj "Step" [("name", n0), ("places", n1), ("arrows", n2), ("losses", n3)]), T, P, A, none, none, none, some (.str x)], rfl, rfl, rfl, rfl, rfl, rfl⟩
  have s5 : sFldF 0 "Step" "leads" (sDcN false (sIt D.seq (sPth 0 (Ln.fld Ln.here "places"))) (tName 7) sTrue (sV 7) (sAs gList sNil) [7]) e4 = .nx e5 := fldF0 (fs := [("name", n0), ("places", n1), ("arrows", n2), ("losses", n3)]) d5 (by simp) (nms ["name", "places", "arrows", "losses"] "leads" (by decide +kernel)) (look_none (nms ["name", "places", "arrows", "losses"] "leads" (by decide +kernel)))
  let I : List D → Env → Prop := fun pre ρ => ∃ kvs x4 x5 x6, (∃ pr : List Row, pre = pr.map tRow ∧ kvs = pr.foldl (fun k r => leadK k r.1 (.str r.2.1) (.int r.2.2)) k0) ∧ ρ = [some (.obj "Step" [("name", n0), ("places", n1), ("arrows", n2), ("losses", n3), ("leads", .dct kvs)]), T, P, A, x4, x5, x6, none] ∧ kvs.map (·.1) = ts.map .str ∧ ∀ e ∈ kvs, ∃ l, e.2 = D.lst l ∧ l.length ≤ pre.length
  have lp : ∃ ρ', sFor (tTup 3 (Pu.tCons (tName 4) (Pu.tCons (tName 5) (Pu.tCons (tName 6) Pu.tNil)))) (sDo (sMutP 0 (Ln.key (Ln.fld Ln.here "leads") 4) uApp (sCons (sAs gTupl (sCons (sV 5) (sCons (sV 6) sNil))) sNil))) (rs.map tRow) e5 = .nx ρ' ∧ I ([] ++ rs.map tRow) ρ' := by
    refine for_inv (I := I) (rs.map tRow) [] e5 ⟨k0, none, none, none, ⟨[], rfl, rfl⟩, rfl, ?_, fun e he => ?_⟩ fun p x q ρ hq ⟨kvs, x4, x5, x6, ⟨pr, hp1, hp2⟩, hρ, hk, hv⟩ => ?_
    · show ((ts.map D.str).map fun x => (x, D.lst [])).map (·.1) = _
      rw [List.map_map]
      exact List.map_id _
    · obtain ⟨x, _, rfl⟩ := List.mem_map.mp he
      exact ⟨[], rfl, Nat.le_refl _⟩
    · have hx : x ∈ rs.map tRow := by
        rw [List.nil_append] at hq
        rw [hq]
        simp
      obtain ⟨r, hr, rfl⟩ := List.mem_map.mp hx
      have hl : p.length < 1000 := by
        have := congrArg List.length hq
        rw [List.nil_append, List.length_map, List.length_append, List.length_cons] at this
        have := S.rl
        omega
      subst hρ
      obtain ⟨kvs', e', hk', hv', hkk⟩ := leads_turn (fs := []) (n := p.length) (x0 := .non) (x1 := .str t) (x2 := P) (x3 := A) (x7 := none) (a := r.1) (s5 := .str r.2.1) (s6 := .int r.2.2) (n0 := n0) (n1 := n1) (n2 := n2) (n3 := n3) hk hv hl (S.hrs r hr).a
      refine ⟨[some (.obj "Step" [("name", n0), ("places", n1), ("arrows", n2), ("losses", n3), ("leads", .dct kvs)]), T, P, A, some (.str r.1), some (.str r.2.1), some (.int r.2.2), none], rfl, _, .inl e', kvs', _, _, _, ⟨pr ++ [r], by rw [hp1, List.map_append]; rfl, by rw [hkk, hp2, List.foldl_append]; rfl⟩, rfl, hk', fun e he => ?_⟩
      obtain ⟨l, e1, e2⟩ := hv' e he
      exact ⟨l, e1, by rw [List.length_append]; exact e2⟩
  obtain ⟨ρ', l1, kvs, x4, x5, x6, ⟨pr, hp1, hp2⟩, rfl, hk9, hv9⟩ := lp
  have epr : pr = rs := map_tRow (by rw [← hp1]; rfl)
  subst epr
  have ekv : kvs = leadL ts pr := hp2
  subst ekv
  rw [List.nil_append, List.length_map] at hv9
  have s6 : sForS (sIt D.seq (sPth 0 (Ln.fld Ln.here "arrows"))) (tTup 3 (Pu.tCons (tName 4) (Pu.tCons (tName 5) (Pu.tCons (tName 6) Pu.tNil)))) (sDo (sMutP 0 (Ln.key (Ln.fld Ln.here "leads") 4) uApp (sCons (sAs gTupl (sCons (sV 5) (sCons (sV 6) sNil))) sNil))) e5 = _ := st_For (ev_It (a := n2) (ev_Pth rfl rfl) rfl) l1
  refine ⟨_, df_nx (ρ := [some (.obj "Step" [("name", n0), ("places", n1), ("arrows", n2), ("losses", n3), ("leads", leadD ts pr)]), T, P, A, x4, x5, x6, none]) ?_, hk9, hv9⟩
  show g_Step___init__ e0 = _
  unfold g_Step___init__
  refine st_pass (ρ1 := e0) p1 (st_pass (ρ1 := e0) p2 (st_pass (ρ1 := e0) p3 (st_Seq s1 (st_Seq s2 (st_Seq s3 (st_Seq s4 (st_Seq s5 s6)))))))
theorem step_made {t : Str} {ts : List Str} {rs : List Row} {p q : D} (hp : Sq p (ts.map .str)) (hq : Sq q (rs.map tRow)) (S : Stg t ts rs) : ∃ os, f_Step___init__ [.obj "Step" [], .str t, p, q] = .ok .non (stepO t ts rs (.dtt (kvR rs)) (leadD ts rs) :: os) ∧ (leadL ts rs).map (·.1) = ts.map .str ∧ ∀ e ∈ leadL ts rs, ∃ l, e.2 = D.lst l ∧ l.length ≤ rs.length := step_madeG hp (are_arrowsD_ok hp hq S.hts S.hrs S.rn (line_big S.rl)) (hq.sorted S.sr) S
end Pu
namespace Pu
open PySem L2
abbrev cl (s : Str) : List Nat := s.cps.toList
theorem str_ext {a b : Str} (h : cl a = cl b) : a = b := by
  cases a; cases b
  congr 1
  exact Array.toList_inj.mp h
theorem cl_app (a b : Str) : cl (appF a b) = cl a ++ cl b := by unfold cl appF; simp
theorem cl_add (a b : Str) : cl (a ++ b) = cl a ++ cl b := by rw [app_F, cl_app]
theorem cl_join (z : Str) (ys : List Str) : cl (joinF z ys) = joinL (cl z) ys := by unfold cl joinF; simp
theorem joinL_cons {z : List Nat} {x : Str} {r : List Str} (h : r ≠ []) : joinL z (x :: r) = cl x ++ (z ++ joinL z r) := by
  cases r with
  | nil => exact (h rfl).elim
  | cons y r => rfl
theorem len_cl (s : Str) : s.length = (cl s).length := by unfold cl Str.length; simp
theorem len_app (a b : Str) : (appF a b).length = a.length + b.length := by rw [len_cl, cl_app, List.length_append, len_cl, len_cl]
theorem len_add (a b : Str) : (a ++ b).length = a.length + b.length := by rw [app_F, len_app]
theorem joinL_len (z : List Nat) (m : Nat) : ∀ ys : List Str, (∀ y ∈ ys, y.length ≤ m) → (joinL z ys).length ≤ ys.length * (m + z.length)
  | [], _ => Nat.zero_le _
  | [x], h => by
    have := h x (List.mem_cons_self ..)
    rw [len_cl] at this
    show (cl x).length ≤ 1 * (m + z.length)
    omega
  | x :: y :: r, h => by
    have ih := joinL_len z m (y :: r) fun w hw => h w (List.mem_cons_of_mem _ hw)
    have := h x (List.mem_cons_self ..)
    rw [len_cl] at this
    show (cl x ++ (z ++ joinL z (y :: r))).length ≤ _
    rw [List.length_append, List.length_append, List.length_cons (a := x), Nat.succ_mul]
    omega
theorem sum_len (m : Nat) : ∀ ys : List Str, (∀ y ∈ ys, y.length ≤ m) → sumLen ys ≤ ys.length * m
  | [], _ => Nat.zero_le _
  | x :: r, h => by
    have ih := sum_len m r fun w hw => h w (List.mem_cons_of_mem _ hw)
    have := h x (List.mem_cons_self ..)
    unfold sumLen at ih ⊢
    rw [List.map_cons, List.sum_cons, List.length_cons, Nat.succ_mul]
    omega
theorem strs_map : ∀ ys : List Str, D.strs (ys.map .str) = some ys
  | [] => rfl
  | y :: ys => by
    show (D.strs (ys.map .str)).map (y :: ·) = _
    rw [strs_map ys]
    rfl
theorem join_len {z : Str} {ys : List Str} (m : Nat) (h : ∀ y ∈ ys, y.length ≤ m) : (joinF z ys).length ≤ ys.length * (m + z.length) := by
  rw [len_cl, cl_join, len_cl z]
  exact joinL_len _ m ys h
theorem gJoin_ok {z : Str} {ys : List Str} {d : D} (m : Nat) (hd : d.seq = some (ys.map .str)) (h : ∀ y ∈ ys, y.length ≤ m) (hl : ys.length * (m + z.length) ≤ line) : gJoinF z d = some (.str (joinF z ys)) := by
  unfold gJoinF
  rw [hd]
  show (match D.strs (ys.map .str) with | some ys => _ | none => none) = _
  rw [strs_map]
  show (if Nat.ble (sumLen ys + ys.length * z.length) line then some (D.str (joinF z ys)) else none) = _
  have h1 := sum_len m ys h
  rw [Nat.mul_add] at hl
  rw [if_pos (Nat.ble_eq_true_of_le (by omega))]
theorem gAdd_ok {a b : Str} (h : a.length + b.length ≤ line) : gAddF (.str a) (.str b) = some (.str (appF a b)) := if_pos h
theorem gFmt_str {a : Str} (h : a.length ≤ line) : gFmt (.str a) = some (.str a) := if_pos h
theorem gFmt_int {i : Int} (h : i.natAbs.log2 < 1920) : gFmt (.int i) = some (.str (toString i)) := if_pos h
theorem ev_J0 {acc : Str} {ρ : Env} : foldJ [] acc ρ = .ok (.str acc) ρ := rfl
theorem ev_J {f : Env → R D} {fs : List (Env → R D)} {acc y : Str} {d : D} {ρ ρ1 ρ2 : Env} (h : f ρ = .ok (.str y) ρ1) (hl : acc.length + y.length ≤ line) (h2 : foldJ fs (acc ++ y) ρ1 = .ok d ρ2) : foldJ (f :: fs) acc ρ = .ok d ρ2 := by
  show (f ρ).bind (fun d ρ1 => joinK (foldJ fs) acc d ρ1) = _
  rw [h]
  show (if (acc ++ y).length ≤ line then foldJ fs (acc ++ y) ρ1 else .bad) = _
  rw [len_add, if_pos hl, h2]
theorem okS_iff {x : Str} : okS x ↔ ∀ c ∈ cl x, c < 0x110000 := by
  show PyData.strOk x = true ↔ _
  unfold PyData.strOk cl
  rw [Array.all_eq_true_iff_forall_mem]
  simp
theorem okS_app {a b : Str} (ha : okS a) (hb : okS b) : okS (appF a b) := by
  rw [okS_iff] at *
  intro c hc
  rw [cl_app] at hc
  rcases List.mem_append.mp hc with h | h
  · exact ha c h
  · exact hb c h
theorem joinL_mem {z : List Nat} {c : Nat} : ∀ {ys : List Str}, c ∈ joinL z ys → c ∈ z ∨ ∃ y ∈ ys, c ∈ cl y
  | [], h => by cases h
  | [x], h => .inr ⟨x, List.mem_cons_self .., h⟩
  | x :: y :: r, h => by
    have h : c ∈ cl x ++ (z ++ joinL z (y :: r)) := h
    rcases List.mem_append.mp h with h | h
    · exact .inr ⟨x, List.mem_cons_self .., h⟩
    · rcases List.mem_append.mp h with h | h
      · exact .inl h
      · rcases joinL_mem h with h | ⟨w, hw, h⟩
        · exact .inl h
        · exact .inr ⟨w, List.mem_cons_of_mem _ hw, h⟩
theorem okS_join {z : Str} {ys : List Str} (hz : okS z) (h : ∀ y ∈ ys, okS y) : okS (joinF z ys) := by
  rw [okS_iff] at *
  intro c hc
  rw [cl_join] at hc
  rcases joinL_mem hc with hc | ⟨y, hy, hc⟩
  · exact hz c hc
  · exact okS_iff.mp (h y hy) c hc
end Pu
namespace Pu
open PySem L2
def numT (c : Int) : Str := toString c
theorem nm_len_all : (NM.all fun x => decide (x.length ≤ 6)) = true := by decide +kernel
theorem nm_len {x : Str} (h : x ∈ NM) : x.length ≤ 6 := of_decide_eq_true (List.all_eq_true.mp nm_len_all x h)
theorem num_cases {c : Int} (h0 : 0 ≤ c) (h3 : c ≤ 3) : c = 0 ∨ c = 1 ∨ c = 2 ∨ c = 3 := by omega
theorem num_len {c : Int} (h0 : 0 ≤ c) (h3 : c ≤ 3) : (numT c).length ≤ 1 := by
  rcases num_cases h0 h3 with rfl | rfl | rfl | rfl <;> decide +kernel
theorem num_ok {c : Int} (h0 : 0 ≤ c) (h3 : c ≤ 3) : okS (numT c) := by
  rcases num_cases h0 h3 with rfl | rfl | rfl | rfl <;> decide +kernel
theorem num_log {c : Int} (h0 : 0 ≤ c) (h3 : c ≤ 3) : c.natAbs.log2 < 1920 := by
  rcases num_cases h0 h3 with rfl | rfl | rfl | rfl <;> decide
def rowT (r : Row) : Str := joinF " " [r.1, r.2.1, numT r.2.2]
def rowsT (rs : List Row) : Str := joinF ", " (rs.map rowT)
def stepT (t : Str) (ts : List Str) (rs : List Row) : Str := appF (appF (appF t " at ") (joinF " " ts)) (if rs = [] then "" else appF " go " (rowsT rs))
section
variable {t : Str} {ts : List Str} {rs : List Row} (S : Stg t ts rs)
include S
theorem Stg.a {r : Row} (h : r ∈ rs) : r.1 ∈ NM := S.hts _ (S.hrs r h).a
theorem Stg.b {r : Row} (h : r ∈ rs) : r.2.1 ∈ NM := S.hts _ (S.hrs r h).b
theorem row_len {r : Row} (h : r ∈ rs) : (rowT r).length ≤ 21 := by
  have h1 := nm_len (S.a h)
  have h2 := nm_len (S.b h)
  have h3 := num_len (S.hrs r h).lo (S.hrs r h).hi
  have := join_len (z := " ") (ys := [r.1, r.2.1, numT r.2.2]) 6 fun y hy => by
    rcases List.mem_cons.mp hy with rfl | hy
    · exact h1
    rcases List.mem_cons.mp hy with rfl | hy
    · exact h2
    cases List.mem_singleton.mp hy
    omega
  exact this
theorem rows_len : (rowsT rs).length ≤ 23000 := by
  have := join_len (z := ", ") (ys := rs.map rowT) 21 fun y hy => by
    obtain ⟨r, hr, rfl⟩ := List.mem_map.mp hy
    exact row_len S hr
  rw [List.length_map] at this
  have e : (", " : Str).length = 2 := by decide +kernel
  rw [e] at this
  have := S.rl
  show (joinF ", " (rs.map rowT)).length ≤ _
  omega
theorem row_ok {r : Row} (h : r ∈ rs) : okS (rowT r) := okS_join (by decide +kernel) fun y hy => by
  rcases List.mem_cons.mp hy with rfl | hy
  · exact ok_nm (S.a h)
  rcases List.mem_cons.mp hy with rfl | hy
  · exact ok_nm (S.b h)
  cases List.mem_singleton.mp hy
  exact num_ok (S.hrs r h).lo (S.hrs r h).hi
theorem rows_ok : okS (rowsT rs) := okS_join (by decide +kernel) fun y hy => by
  obtain ⟨r, hr, rfl⟩ := List.mem_map.mp hy
  exact row_ok S hr
theorem spots_len : (joinF " " ts).length ≤ 7000 := by
  have := join_len (z := " ") (ys := ts) 6 fun y hy => nm_len (S.hts y hy)
  have e : (" " : Str).length = 1 := by decide +kernel
  rw [e] at this
  have := S.tl
  omega
theorem step_ok : okS (stepT t ts rs) := by
  unfold stepT
  refine okS_app (okS_app (okS_app (ok_nm S.ht) (by decide +kernel)) (okS_join (by decide +kernel) fun y hy => ok_nm (S.hts y hy))) ?_
  split
  · decide +kernel
  · exact okS_app (by decide +kernel) (rows_ok S)
def stgD (t : Str) (ts : List Str) (rs : List Row) : D := .tup [.str t, .lst (ts.map .str), .lst (rs.map tRow)]
end
end Pu
namespace Pu
open PySem L2
def headT (t : Str) (ts : List Str) : Str := joinF " " (t :: "at" :: ts)
theorem cl_empty : cl Str.empty = [] := rfl
section
variable {t : Str} {ts : List Str} {rs : List Row} (S : Stg t ts rs)
include S
theorem head_eq : Str.empty ++ headT t ts = appF (appF t " at ") (joinF " " ts) := str_ext (by
  rw [cl_add, cl_app, cl_app, cl_empty]
  unfold headT
  rw [cl_join, cl_join, joinL_cons (by simp), joinL_cons S.ne]
  rw [show cl " at " = cl " " ++ (cl "at" ++ cl " ") by decide +kernel]
  simp)
theorem head_len : (headT t ts).length ≤ 8000 := by
  have := congrArg Str.length (head_eq S)
  rw [len_add, len_app, len_app] at this
  have h1 := nm_len S.ht
  have h2 := spots_len S
  have e : (" at " : Str).length = 4 := by decide +kernel
  rw [e, show Str.empty.length = 0 from rfl] at this
  omega
theorem line_eq (r : Row) : ((((Str.empty ++ r.1) ++ " ") ++ r.2.1) ++ " ") ++ numT r.2.2 = rowT r := str_ext (by
  unfold rowT
  rw [cl_add, cl_add, cl_add, cl_add, cl_add, cl_join, cl_empty, joinL_cons (by simp), joinL_cons (by simp)]
  show _ = cl r.1 ++ (cl " " ++ (cl r.2.1 ++ (cl " " ++ cl (numT r.2.2))))
  simp)
theorem str_step (ls ld : D) : ∃ o, f_Step___str__ [stepO t ts rs ls ld] = .ok (.str (stepT t ts rs)) o := by
  let O : Option D := some (stepO t ts rs ls ld)
  let e0 : Env := [O, none, none, none, none, none, none]
  let e1 : Env := [O, some (.str (headT t ts)), none, none, none, none, none]
  let e2 : Env := [O, some (.str (headT t ts)), some (.lst ((rs.map rowT).map .str)), none, none, none, none]
  let tail : Str := if rs = [] then "" else appF " go " (rowsT rs)
  let e3 : Env := [O, some (.str (headT t ts)), some (.lst ((rs.map rowT).map .str)), some (.str tail), none, none, none]
  have eL : line = 1000000 := rfl
  have el : (" " : Str).length = 1 := by decide +kernel
  have e4 : ("at" : Str).length = 2 := by decide +kernel
  have eg : (" go " : Str).length = 4 := by decide +kernel
  have ee : ("" : Str).length = 0 := by decide +kernel
  have es : Str.empty.length = 0 := rfl
  have b1 := nm_len S.ht
  have b2 := head_len S
  have b3 := rows_len S
  have tlE : tail = "" ∨ (rs ≠ [] ∧ tail = appF " go " (rowsT rs)) := by
    by_cases h : rs = []
    · exact .inl (if_pos h)
    · exact .inr ⟨h, if_neg h⟩
  have b4 : tail.length ≤ 24000 := by
    rcases tlE with h | ⟨_, h⟩
    · rw [h, ee]; omega
    · rw [h, len_app, eg]; omega
  refine ⟨_, df_rt (ρ := e3) ?_⟩
  have f1 : gFld "name" (stepO t ts rs ls ld) = some (.str t) := by
    show List.lookup _ _ = _
    rw [List.lookup_cons_self]
  have f2 : gFld "places" (stepO t ts rs ls ld) = some (.tup (ts.map .str)) := by
    show List.lookup _ _ = _
    rw [List.lookup_cons, show (("places" : Str) == "name") = false by decide +kernel]
    exact List.lookup_cons_self
  have f3 : gFld "arrows" (stepO t ts rs ls ld) = some (.tup (rs.map tRow)) := by
    show List.lookup _ _ = _
    rw [List.lookup_cons, show (("arrows" : Str) == "name") = false by decide +kernel, List.lookup_cons, show (("arrows" : Str) == "places") = false by decide +kernel]
    exact List.lookup_cons_self
  have j1 : gJoinF " " (.lst (.str t :: .str "at" :: (ts.map .str ++ []))) = some (.str (headT t ts)) := gJoin_ok (ys := t :: "at" :: ts) 6 (by rw [List.append_nil]; rfl) (fun y hy => by
    rcases List.mem_cons.mp hy with rfl | hy
    · exact b1
    rcases List.mem_cons.mp hy with rfl | hy
    · rw [e4]; omega
    · exact nm_len (S.hts y hy)) (by
      rw [List.length_cons, List.length_cons, el, eL]
      have := S.tl
      omega)
  have s1 : sSet 1 (sM1 gJoinF (sC (.str " ")) (sAs gList (sCons (sUn (gFld "name") (sV 0)) (sCons (sC (.str "at")) (sStar (sUn (gFld "places") (sV 0)) sNil))))) e0 = .nx e1 :=
    st_Set (ev_M1 ev_C (ev_As (ev_Cons (ev_Un (ev_V rfl) f1) (ev_Cons ev_C (ev_Star (ev_Un (ev_V rfl) f2) rfl ev_Nil))) (if_pos (by
      rw [List.length_cons, List.length_cons, List.length_append, List.length_map, eL]
      have := S.tl
      simp
      omega))) j1)
  have l2 : sLc (sIt D.seq (sUn (gFld "arrows") (sV 0))) (tTup 3 (Pu.tCons (tName 4) (Pu.tCons (tName 5) (Pu.tCons (tName 6) Pu.tNil)))) sTrue (foldJ [(sUn gFmt (sV 4)), (sC (.str " ")), (sUn gFmt (sV 5)), (sC (.str " ")), (sUn gFmt (sV 6))] Str.empty) [4, 5, 6] e1 = .ok (.lst ((rs.map rowT).map .str)) e1 := by
    have := ev_Lc1 (f := sIt D.seq (sUn (gFld "arrows") (sV 0))) (tg := tTup 3 (Pu.tCons (tName 4) (Pu.tCons (tName 5) (Pu.tCons (tName 6) Pu.tNil)))) (te := foldJ [(sUn gFmt (sV 4)), (sC (.str " ")), (sUn gFmt (sV 5)), (sC (.str " ")), (sUn gFmt (sV 6))] Str.empty) (vs := [4, 5, 6]) (ρ := e1) (ρ1 := e1) (xs := rs.map tRow)
      (fun d => match d with | .tup [.str a, .str b, .int c] => .str (rowT (a, b, c)) | _ => .non) (ev_It (ev_Un (ev_V rfl) f3) rfl) rfl (by rw [List.length_map]; exact line_big S.rl) fun d hd => by
        obtain ⟨r, hr, rfl⟩ := List.mem_map.mp hd
        have c1 := nm_len (S.a hr)
        have c2 := nm_len (S.b hr)
        have c3 := num_len (S.hrs r hr).lo (S.hrs r hr).hi
        refine ⟨[O, some (.str (headT t ts)), none, none, some (.str r.1), some (.str r.2.1), some (.int r.2.2)], rfl, rfl, ?_⟩
        show _ = R.ok (D.str (rowT r)) _
        rw [← line_eq S r]
        exact ev_J (ev_Un (ev_V rfl) (gFmt_str (by omega))) (by rw [es]; omega) (ev_J ev_C (by rw [len_add, es, el]; omega) (ev_J (ev_Un (ev_V rfl) (gFmt_str (by omega))) (by rw [len_add, len_add, es, el]; omega) (ev_J ev_C (by rw [len_add, len_add, len_add, es, el]; omega)
          (ev_J (ev_Un (ev_V rfl) (gFmt_int (num_log (S.hrs r hr).lo (S.hrs r hr).hi))) (by
            have : (numT r.2.2).length ≤ 1 := c3
            show _ + (numT r.2.2).length ≤ line
            rw [len_add, len_add, len_add, len_add, es, el]; omega) ev_J0))))
    rw [this, List.map_map, List.map_map]
    rfl
  have s2 : sSet 2 (sLc (sIt D.seq (sUn (gFld "arrows") (sV 0))) (tTup 3 (Pu.tCons (tName 4) (Pu.tCons (tName 5) (Pu.tCons (tName 6) Pu.tNil)))) sTrue (foldJ [(sUn gFmt (sV 4)), (sC (.str " ")), (sUn gFmt (sV 5)), (sC (.str " ")), (sUn gFmt (sV 6))] Str.empty) [4, 5, 6]) e1 = .nx e2 := st_Set l2
  have j3 : gJoinF ", " (.lst ((rs.map rowT).map .str)) = some (.str (rowsT rs)) := gJoin_ok 21 rfl (fun y hy => by
    obtain ⟨r, hr, rfl⟩ := List.mem_map.mp hy
    exact row_len S hr) (by
      have e : (", " : Str).length = 2 := by decide +kernel
      rw [e, List.length_map, eL]
      have := S.rl
      omega)
  have v3 : sIf (sB (sOp gGt (sAs (g1 gLen) (sCons (sV 2) sNil)) (sC (.int 0)))) (sOp gAddF (sC (.str " go ")) (sM1 gJoinF (sC (.str ", ")) (sV 2))) (sC (.str "")) e2 = .ok (.str tail) e2 := by
    have q : gGt (.int ((((rs.map rowT).map D.str).length : Nat) : Int)) (.int 0) = some (.bl (decide (0 < (((((rs.map rowT).map D.str).length : Nat)) : Int)))) := rfl
    rcases tlE with h | ⟨h1, h2⟩
    · have hr : rs = [] := by
        by_cases hr : rs = []
        · exact hr
        · have e := congrArg cl h
          rw [show tail = appF " go " (rowsT rs) from if_neg hr, cl_app, show cl " go " = [32, 103, 111, 32] by decide +kernel, show cl "" = [] by decide +kernel] at e
          simp at e
      rw [h]
      refine ev_IfF (ev_B (ev_Op (ev_As (ev_Cons (ev_V rfl) ev_Nil) rfl) ev_C ?_)) ev_C
      rw [hr]
      rfl
    · rw [h2]
      refine ev_IfT (ev_B (ev_Op (ev_As (ev_Cons (ev_V rfl) ev_Nil) rfl) ev_C ?_)) (ev_Op ev_C (ev_M1 ev_C (ev_V rfl) j3) (gAdd_ok (by rw [eg, eL]; omega)))
      show gGt (.int ((((rs.map rowT).map D.str).length : Nat) : Int)) (.int 0) = _
      rw [q, decide_eq_true]
      have : rs.length ≠ 0 := fun e => h1 (List.length_eq_zero_iff.mp e)
      simp
      omega
  have s3 : sSet 3 (sIf (sB (sOp gGt (sAs (g1 gLen) (sCons (sV 2) sNil)) (sC (.int 0)))) (sOp gAddF (sC (.str " go ")) (sM1 gJoinF (sC (.str ", ")) (sV 2))) (sC (.str ""))) e2 = .nx e3 := st_Set v3
  have fin : (Str.empty ++ headT t ts) ++ tail = stepT t ts rs := by rw [head_eq S, app_F]; rfl
  show g_Step___str__ e0 = _
  unfold g_Step___str__
  refine st_Seq s1 (st_Seq s2 (st_Seq s3 (st_Ret ?_)))
  rw [← fin]
  exact ev_J (ev_Un (ev_V rfl) (gFmt_str (by omega))) (by rw [es]; omega) (ev_J (ev_Un (ev_V rfl) (gFmt_str (by omega))) (by rw [len_add, es]; omega) ev_J0)
theorem gStr_step (ls ld : D) : gStrO "Step" f_Step___str__ (stepO t ts rs ls ld) = some (.str (stepT t ts rs)) := by
  obtain ⟨o, h⟩ := str_step S ls ld
  show (if ("Step" : String) = "Step" then match f_Step___str__ [stepO t ts rs ls ld] with | .ok (.str t) _ => some (D.str t) | _ => none else none) = _
  rw [if_pos rfl, h]
theorem eq_step (ls ld ls' ld' : D) : gEqO "Step" f_Step___eq__ (stepO t ts rs ls ld) (stepO t ts rs ls' ld') = some (.bl true) := by
  have h : ∃ o, f_Step___eq__ [stepO t ts rs ls ld, stepO t ts rs ls' ld'] = .ok (.bl true) o := by
    refine ⟨_, df_rt (ρ := [some (stepO t ts rs ls ld), some (stepO t ts rs ls' ld')]) ?_⟩
    have q : gEq (.str (stepT t ts rs)) (.str (stepT t ts rs)) = some (.bl true) := by rw [gEq_str (step_ok S) (step_ok S)]; simp
    show g_Step___eq__ [some (stepO t ts rs ls ld), some (stepO t ts rs ls' ld')] = _
    unfold g_Step___eq__
    exact st_Ret (ev_AndVT (ev_Un (ev_V rfl) rfl) (ev_Op (ev_As (ev_Cons (ev_V rfl) ev_Nil) (gStr_step S ls ld)) (ev_As (ev_Cons (ev_V rfl) ev_Nil) (gStr_step S ls' ld')) q))
  obtain ⟨o, h⟩ := h
  show (if ("Step" : String) = "Step" ∧ sameK "Step" (stepO t ts rs ls' ld') = true then match f_Step___eq__ [stepO t ts rs ls ld, stepO t ts rs ls' ld'] with | .ok (.bl b) _ => some (D.bl b) | _ => none else none) = _
  rw [if_pos ⟨rfl, rfl⟩, h]
end
end Pu
namespace Pu
open PySem L2
structure Prs0 (ns : List Str) (ps : List (Str × Str)) : Prop where
  nm : ∀ n ∈ ns, n ∈ NM
  nd : ns.Nodup
  nl : ns.length ≤ 100
  pl : ps.length ≤ 100
  a : ∀ p ∈ ps, p.1 ∈ ns
  b : ∀ p ∈ ps, p.2 ∈ ns
structure Prs (ns : List Str) (ps : List (Str × Str)) (rk : Str → Nat) : Prop where
  nm : ∀ n ∈ ns, n ∈ NM
  nd : ns.Nodup
  nl : ns.length ≤ 100
  pl : ps.length ≤ 100
  a : ∀ p ∈ ps, p.1 ∈ ns
  b : ∀ p ∈ ps, p.2 ∈ ns
  lt : ∀ p ∈ ps, rk p.1 < rk p.2
end Pu
namespace Pu
open PySem L2
abbrev J := Str × List Str × List Row
def jD (j : J) : D := stgD j.1 j.2.1 j.2.2
def stepOf (d : D) : D := match d with
  | .tup [a, b, c] => (match f_Step___init__ [.obj "Step" [], a, b, c] with
    | .ok _ (o :: _) => o
    | _ => .non)
  | _ => .non
def oj (j : J) : D := stepOf (jD j)
theorem oj_is {j : J} (S : Stg j.1 j.2.1 j.2.2) : oj j = stepO j.1 j.2.1 j.2.2 (.dtt (kvR j.2.2)) (leadD j.2.1 j.2.2) := by
  obtain ⟨os, h, _⟩ := step_made (.inl rfl) (.inl rfl) S
  show (match f_Step___init__ [.obj "Step" [], .str j.1, .lst (j.2.1.map .str), .lst (j.2.2.map tRow)] with | .ok _ (o :: _) => o | _ => D.non) = _
  rw [h]
theorem oj_made {j : J} (S : Stg j.1 j.2.1 j.2.2) {p q : D} (hp : Sq p (j.2.1.map .str)) (hq : Sq q (j.2.2.map tRow)) : ∃ os, f_Step___init__ [.obj "Step" [], .str j.1, p, q] = .ok .non (oj j :: os) := by
  obtain ⟨os, h, _⟩ := step_made hp hq S
  exact ⟨os, by rw [oj_is S]; exact h⟩
theorem leads_keys {j : J} (S : Stg j.1 j.2.1 j.2.2) : (leadL j.2.1 j.2.2).map (·.1) = j.2.1.map .str := by
  obtain ⟨os, h, k, _⟩ := step_made (.inl rfl) (.inl rfl) S
  exact k
theorem fld_name {t : Str} {ts : List Str} {rs : List Row} {ls ld : D} : gFld "name" (stepO t ts rs ls ld) = some (.str t) := by
  show List.lookup _ _ = _
  rw [List.lookup_cons_self]
theorem fld_places {t : Str} {ts : List Str} {rs : List Row} {ls ld : D} : gFld "places" (stepO t ts rs ls ld) = some (.tup (ts.map .str)) := by
  show List.lookup _ _ = _
  rw [List.lookup_cons, show (("places" : Str) == "name") = false by decide +kernel]
  exact List.lookup_cons_self
theorem gIn_keys {kvs : List (D × D)} {xs : List Str} (h : kvs.map (·.1) = xs.map .str) {m : Str} : gIn false (.str m) (.dct kvs) = some (.bl (decide (m ∈ xs))) := by
  show some (D.bl (dLook kvs (.str m)).isSome) = _
  have : (dLook kvs (.str m)).isSome = kvs.any fun e => hkEq e.1 (.str m) := by
    unfold dLook
    rw [Option.isSome_map, Bool.eq_iff_iff, List.find?_isSome, List.any_eq_true]
  rw [this, show (kvs.any fun e => hkEq e.1 (.str m)) = (kvs.map (·.1)).any fun d => hkEq d (.str m) by rw [List.any_map]; rfl, h, List.any_map]
  congr 2
  by_cases hm : m ∈ xs
  · rw [decide_eq_true hm, List.any_eq_true]
    exact ⟨m, hm, by show hkEq (.str m) (.str m) = true; rw [hk_str]; simp⟩
  · rw [decide_eq_false hm, List.any_eq_false]
    intro x hx
    show ¬ hkEq (.str x) (.str m) = true
    rw [hk_str]
    simp
    exact fun e => hm (by rw [← e]; exact hx)
end Pu
namespace Pu
open PySem L2
def plainD (d : D) : Bool := match d.py with
  | some p => p.canLay0 && decide (p.depth ≤ 60)
  | none => false
theorem pys_plain : ∀ {l : List D}, l.all plainD = true → ∃ ps, D.pys l = some ps ∧ ps.length = l.length ∧ PyData.canLayAll0 ps = true ∧ PyData.depthAll ps ≤ 60
  | [], _ => ⟨[], rfl, rfl, rfl, Nat.zero_le _⟩
  | d :: l, h => by
    rw [List.all_cons, Bool.and_eq_true] at h
    obtain ⟨ps, e, h1, h2, h3⟩ := pys_plain h.2
    have h0 := h.1
    unfold plainD at h0
    cases hd : d.py with
    | none => rw [hd] at h0; cases h0
    | some p =>
      rw [hd] at h0
      dsimp only at h0
      rw [Bool.and_eq_true, decide_eq_true_iff] at h0
      refine ⟨p :: ps, ?_, by simp [h1], ?_, ?_⟩
      · unfold D.pys
        rw [hd, e]
      · unfold PyData.canLayAll0
        rw [h0.1, h2]; rfl
      · unfold PyData.depthAll
        exact Nat.max_le.mpr ⟨h0.2, h3⟩
theorem gNe_nil {l : List D} (h : l.all plainD = true) : gNe (.lst l) (.lst []) = some (.bl (!l.isEmpty)) := by
  obtain ⟨ps, e, h1, h2, h3⟩ := pys_plain h
  have e1 : (D.lst l).py = some (.list ps) := by
    show (D.pys l).map PyData.list = _
    rw [e]; rfl
  have s1 : shp (.list ps) = true := by
    show (PyData.canLay0 (.list ps) && decide (PyData.depth (.list ps) ≤ 64)) = true
    unfold PyData.canLay0 PyData.depth
    rw [h2, Bool.true_and, decide_eq_true_iff]
    omega
  unfold gNe
  rw [e1, show (D.lst []).py = some (.list []) from rfl]
  dsimp only
  rw [s1, show shp (.list []) = true from rfl]
  cases ps with
  | nil =>
    cases l with
    | nil => rfl
    | cons _ _ => simp at h1
  | cons p ps =>
    cases l with
    | nil => simp at h1
    | cons _ _ =>
      simp only [Bool.and_self, if_true, List.isEmpty_cons, Bool.not_false]
      unfold PyData.eqv PyData.eqvAll
      rfl
def mixC : Env → R Bool := sB (sOp gNe (sV 2) (sAs gList sNil))
def mixB : Env → RS := sDo (sMut 3 uApp (sCons (sMut 2 uPopAt (sCons (sCallO 0 f__law_draw (sCons (sAs (g1 gLen) (sCons (sV 2) sNil)) sNil)) sNil)) sNil))
def mixG : Env → RS := (sSeq (sPar 2 3 (sAs (g1 gListOf) (sCons (sV 1) sNil)) (sAs gList sNil)) (sSeq (sWhile mixC mixB 100000) (sRet (sV 3))))
theorem mixC_eq {a y c : Option D} {l : List D} (h : l.all plainD = true) : mixC [a, y, some (.lst l), c] = .ok (!l.isEmpty) [a, y, some (.lst l), c] := by
  unfold mixC sB sOp
  show R.bind (R.bind (R.ok (D.lst l) [a, y, some (.lst l), c]) fun x ρ1 => R.bind (R.ok (D.lst []) ρ1) fun z ρ2 => R.of (gNe x z) ρ2) _ = _
  simp only [R.bind, gNe_nil h, R.of]
theorem mixB_eq {y : Option D} {l acc : List D} {xs : List Int} {s : Int} (hl : l ≠ []) (hn : l.length ≤ 1000) (ha : acc.length ≤ 1000) (hx : xs.length ≤ 1000) :
    ∃ (k : Nat) (hk : k < l.length) (xs' : List Int) (s' : Int), xs'.length ≤ xs.length ∧ mixB [some (dealD xs s), y, some (.lst l), some (.lst acc)] = .nx [some (dealD xs' s'), y, some (.lst (l.eraseIdx k)), some (.lst (acc ++ [l[k]]))] := by
  have h0 : 0 < l.length := List.length_pos_iff.mpr hl
  have hm : (0 : Int) < (l.length : Int) := by omega
  obtain ⟨r1, r2⟩ := draw_range xs s hm
  refine ⟨(drawZ xs s l.length).1.toNat, by omega, (drawZ xs s l.length).2.1, (drawZ xs s l.length).2.2, draw_len xs s _, ?_⟩
  have e1 := f_draw_eq (xs := xs) (s := s) (m := (l.length : Int)) hm (by omega) hx
  have e2 : uPopAt l [.int (drawZ xs s l.length).1] = some (l[(drawZ xs s l.length).1.toNat]'(by omega), l.eraseIdx (drawZ xs s l.length).1.toNat) := by
    unfold uPopAt
    dsimp only
    rw [if_pos ⟨by omega, by omega⟩]
    have : seqIndex? (drawZ xs s l.length).1 l.length = some (drawZ xs s l.length).1.toNat := by
      have hc : ¬ (drawZ xs s l.length).1 < 0 := by omega
      simp only [seqIndex?, if_neg hc]
      exact if_pos (by simp; omega)
    rw [this]
    dsimp only
    rw [List.getElem?_eq_getElem (by omega)]
    rfl
  have e3 : ∀ d, uApp acc [d] = some (.non, acc ++ [d]) := fun d => if_pos (Nat.lt_of_le_of_lt ha (by decide))
  unfold mixB
  simp only [sDo, sMut, sCons, sCallO, sAs, sNil, sV, R.bind, R.bindS, R.of, g1, gLen, D.seq, Option.map_some, callO, mutD, RF.toRO, List.getElem?_cons_zero, List.getElem?_cons_succ, e1, e2, e3, List.set_cons_zero, List.set_cons_succ]
theorem erase_perm : ∀ (l : List D) (k : Nat) (h : k < l.length), (l[k] :: l.eraseIdx k).Perm l
  | x :: l, 0, _ => .refl _
  | x :: l, k + 1, h => by
    have h' : k < l.length := by simpa using h
    rw [List.getElem_cons_succ, List.eraseIdx_cons_succ]
    exact (List.Perm.swap _ _ _).trans ((erase_perm l k h').cons x)
theorem erase_plain {l : List D} {k : Nat} (h : l.all plainD = true) : (l.eraseIdx k).all plainD = true := by
  rw [List.all_eq_true] at h ⊢
  exact fun d hd => h d (List.mem_of_mem_eraseIdx hd)
theorem mix_loop {y : Option D} : ∀ (n fuel : Nat) (l acc : List D) (xs : List Int) (s : Int), l.length = n → n < fuel → l.all plainD = true → acc.length + n ≤ 1000 → xs.length ≤ 1000 →
    ∃ (p : List D) (xs' : List Int) (s' : Int), p.Perm l ∧ xs'.length ≤ xs.length ∧ sWhile mixC mixB fuel [some (dealD xs s), y, some (.lst l), some (.lst acc)] = .nx [some (dealD xs' s'), y, some (.lst []), some (.lst (acc ++ p))]
  | 0, fuel + 1, l, acc, xs, s, hn, hf, hp, ha, hx => by
    have : l = [] := List.length_eq_zero_iff.mp hn
    subst this
    refine ⟨[], xs, s, .refl _, Nat.le_refl _, ?_⟩
    unfold sWhile
    rw [mixC_eq hp]
    simp [R.bindS]
  | n + 1, fuel + 1, l, acc, xs, s, hn, hf, hp, ha, hx => by
    have hl : l ≠ [] := fun z => by rw [z] at hn; cases hn
    obtain ⟨k, hk, xs1, s1, hx1, e⟩ := mixB_eq (y := y) (acc := acc) (xs := xs) (s := s) hl (by omega) (by omega) hx
    obtain ⟨p, xs2, s2, hp2, hx2, e2⟩ := mix_loop (y := y) n fuel (l.eraseIdx k) (acc ++ [l[k]]) xs1 s1 (by rw [List.length_eraseIdx_of_lt hk]; omega) (by omega) (erase_plain hp) (by rw [List.length_append]; simp; omega) (by omega)
    refine ⟨l[k] :: p, xs2, s2, ?_, by omega, ?_⟩
    · exact ((hp2.cons l[k])).trans (erase_perm l k hk)
    · unfold sWhile
      rw [mixC_eq hp]
      have : (!l.isEmpty) = true := by cases l with | nil => exact absurd rfl hl | cons _ _ => rfl
      rw [this]
      simp only [R.bindS, if_true]
      rw [e]
      unfold RS.loop
      dsimp only
      rw [e2]
      simp
theorem mix_eq {l : List D} {xs : List Int} {s : Int} (hp : l.all plainD = true) (hn : l.length ≤ 1000) (hx : xs.length ≤ 1000) :
    ∃ (p : List D) (xs' : List Int) (s' : Int), p.Perm l ∧ xs'.length ≤ xs.length ∧ defF [.op .deal, .sh] 2 mixG [dealD xs s, .lst l] = .ok (.lst p) [dealD xs' s', .lst l] := by
  obtain ⟨p, xs', s', h1, h2, e⟩ := mix_loop (y := some (.lst l)) l.length 100000 l [] xs s rfl (by omega) hp (by simpa using hn) hx
  refine ⟨p, xs', s', h1, h2, ?_⟩
  unfold defF mixG
  have e0 : sPar 2 3 (sAs (g1 gListOf) (sCons (sV 1) sNil)) (sAs gList sNil) ([dealD xs s, D.lst l].map some ++ List.replicate 2 none) = .nx [some (dealD xs s), some (.lst l), some (.lst l), some (.lst [])] := rfl
  unfold sSeq
  rw [e0]
  simp only [RS.bind]
  rw [e]
  rfl
end Pu
namespace Pu
open PySem L2
def IsDeal (d : D) : Prop := ∃ (xs : List Int) (s : Int), d = dealD xs s ∧ xs.length ≤ 1000
theorem draw_ok {d : D} (h : IsDeal d) {m : Int} (h1 : 0 < m) (h2 : m < 1073741824) : ∃ (i : Int) (d' : D), IsDeal d' ∧ 0 ≤ i ∧ i < m ∧ f__law_draw [d, .int m] = .ok (.int i) [d', .int m] := by
  obtain ⟨xs, s, rfl, hl⟩ := h
  obtain ⟨a, b⟩ := draw_range xs s h1
  exact ⟨_, _, ⟨_, _, rfl, Nat.le_trans (draw_len xs s m) hl⟩, a, b, f_draw_eq h1 h2 hl⟩
theorem mixed_ok {d : D} (h : IsDeal d) {l : List D} (hp : l.all plainD = true) (hn : l.length ≤ 1000) : ∃ (p : List D) (d' : D), IsDeal d' ∧ p.Perm l ∧ defF [.op .deal, .sh] 2 mixG [d, .lst l] = .ok (.lst p) [d', .lst l] := by
  obtain ⟨xs, s, rfl, hl⟩ := h
  obtain ⟨p, xs', s', h1, h2, e⟩ := mix_eq (l := l) (xs := xs) (s := s) hp hn hl
  exact ⟨p, _, ⟨_, _, rfl, Nat.le_trans h2 hl⟩, h1, e⟩
theorem perm_map_inv {α β : Type} {f : α → β} {p m : List β} (h : p.Perm m) : ∀ {l : List α}, m = l.map f → ∃ q : List α, q.Perm l ∧ p = q.map f := by
  induction h with
  | nil => intro l hl; exact ⟨[], by rw [List.map_eq_nil_iff.mp hl.symm], rfl⟩
  | cons x _ ih =>
    intro l hl
    cases l with
    | nil => cases hl
    | cons a l =>
      rw [List.map_cons] at hl
      obtain ⟨e1, e2⟩ := List.cons.inj hl
      obtain ⟨q, h1, h2⟩ := ih e2
      exact ⟨a :: q, h1.cons a, by rw [List.map_cons, h2, e1]⟩
  | swap x y t =>
    intro l hl
    cases l with
    | nil => cases hl
    | cons a l =>
      cases l with
      | nil => cases (List.cons.inj hl).2
      | cons b l =>
        rw [List.map_cons, List.map_cons] at hl
        obtain ⟨e1, e2⟩ := List.cons.inj hl
        obtain ⟨e2, e3⟩ := List.cons.inj e2
        exact ⟨b :: a :: l, .swap a b l, by rw [List.map_cons, List.map_cons, e1, e2, e3]⟩
  | trans _ _ ih1 ih2 =>
    intro l hl
    obtain ⟨q, h1, h2⟩ := ih2 hl
    obtain ⟨r, h3, h4⟩ := ih1 h2
    exact ⟨r, h3.trans h1, h4⟩
theorem cut_take {α : Type} (l : List α) (n : Nat) : cutL l none (some (n : Int)) = l.take n := by
  unfold cutL
  rw [HT.sIx_none, HT.sIx_nat]
  show (l.drop 0).take (min n l.length - 0) = _
  rw [List.drop_zero, Nat.sub_zero]
  rcases Nat.le_total n l.length with h | h
  · rw [Nat.min_eq_left h]
  · rw [Nat.min_eq_right h, List.take_of_length_le h, List.take_of_length_le (Nat.le_refl _)]
theorem at_ok {α : Type} {l : List α} {i : Int} (h0 : 0 ≤ i) (h1 : i < l.length) : ∃ (k : Nat) (h : k < l.length), i = k ∧ L2.atI l i = some l[k] := by
  refine ⟨i.toNat, by omega, by omega, ?_⟩
  unfold L2.atI L2.ixN
  rw [if_pos h0, if_pos h1]
  exact List.getElem?_eq_getElem _
theorem plain_str {x : Str} (h : okS x) : plainD (.str x) = true := by
  show (PyData.strOk x && decide (PyData.depth (.str x) ≤ 60)) = true
  rw [h]
  rfl
inductive AllT (R : D → D → Prop) : List D → List D → Prop
  | nil : AllT R [] []
  | cons {x y : D} {xs ys : List D} : R x y → AllT R xs ys → AllT R (x :: xs) (y :: ys)
theorem lc_rel {tg : D → Env → Option Env} {te : Env → R D} {vs : List Nat} {E : D → Env} (Rl : D → D → Prop) : ∀ (xs : List D) (d : D), IsDeal d → (∀ x ∈ xs, ∀ d, IsDeal d → ∃ ρ1 y ρ3 d', tg x (E d) = some ρ1 ∧ te ρ1 = .ok y ρ3 ∧ wipeE ρ3 vs = E d' ∧ IsDeal d' ∧ Rl x y) →
    ∃ ys d', lcL tg sTrue te vs xs (E d) = .ok ys (E d') ∧ IsDeal d' ∧ AllT Rl xs ys
  | [], d, hd, _ => ⟨[], d, rfl, hd, .nil⟩
  | x :: xs, d, hd, H => by
    obtain ⟨ρ1, y, ρ3, d1, h1, h2, h3, h4, h5⟩ := H x (List.mem_cons_self ..) d hd
    obtain ⟨ys, d', e, h6, h7⟩ := lc_rel Rl xs d1 h4 fun z hz => H z (List.mem_cons_of_mem _ hz)
    refine ⟨y :: ys, d', ?_, h6, .cons h5 h7⟩
    unfold lcL
    rw [h1]
    show (te ρ1).noX.bind _ = _
    rw [h2]
    show (lcL tg sTrue te vs xs (wipeE ρ3 vs)).bind _ = _
    rw [h3, e]
    rfl
end Pu
namespace Pu
open PySem L2
theorem pick_ok {d : D} (h : IsDeal d) {l : List D} (hn : l ≠ []) (hl : l.length ≤ 1000) : ∃ (x : D) (d' : D), IsDeal d' ∧ x ∈ l ∧ f__law_pick [d, .lst l] = .ok x [d', .lst l] := by
  have h0 : (0 : Int) < (l.length : Nat) := by
    have := List.length_pos_iff.mpr hn
    omega
  obtain ⟨i, d', h1, h2, h3, e⟩ := draw_ok h (m := (l.length : Nat)) h0 (by omega)
  obtain ⟨k, hk, rfl, a⟩ := at_ok (l := l) h2 h3
  refine ⟨l[k], d', h1, List.getElem_mem hk, ?_⟩
  have g : gIx (.lst l) (.int k) = some l[k] := a
  have : g__law_pick [some d, some (.lst l)] = .rt l[k] [some d', some (.lst l)] := by
    unfold g__law_pick
    exact st_Ret (ev_Op (ev_V rfl) (ev_CallO (ev_Cons (ev_As (ev_Cons (ev_V rfl) ev_Nil) rfl) ev_Nil) rfl e) g)
  exact df_rt (pm := [(.op .deal), .sh]) (n := 0) (ds := [d, .lst l]) this
theorem any_rows {k : Str × Str} : ∀ {rows : List Row}, ((kvR rows).any fun e => hkEq e.1 (tpr k)) = decide (k ∈ rows.map key2)
  | [] => rfl
  | r :: rows => by
    show (hkEq (tpr (key2 r)) (tpr k) || (kvR rows).any _) = _
    rw [hk_tpr, any_rows]
    by_cases h : key2 r = k
    · simp [h]
    · have : ¬ k = key2 r := fun e => h e.symm
      simp [h, this]
theorem put_rows {ts : List Str} {rows : List Row} {a b : Str} {c : Int} (nd : (rows.map key2).Nodup) (ok : ∀ r ∈ rows, RowOk ts r) (ha : a ∈ ts) (hb : b ∈ ts) (h0 : 0 ≤ c) (h3 : c ≤ 3) :
    ∃ rows', putD (kvR rows) (tpr (a, b)) (.int c) = kvR rows' ∧ (rows'.map key2).Nodup ∧ (∀ r ∈ rows', RowOk ts r) ∧ rows'.length ≤ rows.length + 1 := by
  unfold putD
  rw [any_rows]
  by_cases h : (a, b) ∈ rows.map key2
  · rw [if_pos (by simpa using h)]
    let g : Row → Row := fun r => if key2 r = (a, b) then (r.1, r.2.1, c) else r
    have kg : ∀ r, key2 (g r) = key2 r := fun r => by
      show key2 (if key2 r = (a, b) then (r.1, r.2.1, c) else r) = _
      split <;> rfl
    refine ⟨rows.map g, ?_, ?_, fun r hr => ?_, by rw [List.length_map]; omega⟩
    · unfold kvR
      rw [List.map_map, List.map_map]
      refine List.map_congr_left fun r _ => ?_
      show (if hkEq (tpr (key2 r)) (tpr (a, b)) = true then (tpr (key2 r), D.int c) else (tpr (key2 r), D.int r.2.2)) = (tpr (key2 (g r)), D.int (g r).2.2)
      rw [hk_tpr, kg]
      show _ = (tpr (key2 r), D.int (if key2 r = (a, b) then (r.1, r.2.1, c) else r).2.2)
      by_cases e : key2 r = (a, b)
      · simp [e]
      · simp [e]
    · rw [List.map_map, show key2 ∘ g = key2 from funext kg]
      exact nd
    · obtain ⟨r0, hr0, rfl⟩ := List.mem_map.mp hr
      have o := ok r0 hr0
      show RowOk ts (if key2 r0 = (a, b) then (r0.1, r0.2.1, c) else r0)
      split
      · exact ⟨o.a, o.b, h0, h3⟩
      · exact o
  · rw [if_neg (by simpa using h)]
    refine ⟨rows ++ [(a, b, c)], by unfold kvR; rw [List.map_append]; rfl, ?_, fun r hr => ?_, by rw [List.length_append]; exact Nat.le_refl _⟩
    · rw [List.map_append, List.nodup_append]
      refine ⟨nd, by simp, fun x hx y hy e => ?_⟩
      cases List.mem_singleton.mp hy
      exact h (by rw [← show x = (a, b) from e]; exact hx)
    · rcases List.mem_append.mp hr with hr | hr
      · exact ok r hr
      · cases List.mem_singleton.mp hr
        exact ⟨ha, hb, h0, h3⟩
theorem look_rows : ∀ {rows : List Row} {r : Row}, (rows.map key2).Nodup → r ∈ rows → dLook (kvR rows) (tpr (key2 r)) = some (.int r.2.2)
  | [], _, _, h => by cases h
  | s :: rows, r, nd, h => by
    rw [List.map_cons, List.nodup_cons] at nd
    show (List.find? _ ((tpr (key2 s), D.int s.2.2) :: kvR rows)).map (·.2) = _
    rw [List.find?_cons]
    rcases List.mem_cons.mp h with rfl | h
    · rw [show hkEq (tpr (key2 r)) (tpr (key2 r)) = true by rw [hk_tpr]; simp]
      rfl
    · have : key2 s ≠ key2 r := fun e => nd.1 (by rw [e]; exact List.mem_map_of_mem h)
      rw [show hkEq (tpr (key2 s)) (tpr (key2 r)) = false by rw [hk_tpr, decide_eq_false this]]
      exact look_rows nd.2 h
def pRow (r : Row) : PyData := .tuple [.str r.1, .str r.2.1, .int r.2.2]
theorem okSort_rows (rows : List Row) : okSort (rows.map pRow) = true := by
  unfold okSort
  simp only [Bool.and_eq_true, Bool.or_eq_true, List.all_eq_true]
  refine ⟨⟨fun d hd e he => ?_, .inl fun d hd => ?_⟩, fun d hd => ?_⟩
  · obtain ⟨r, _, rfl⟩ := List.mem_map.mp hd
    obtain ⟨q, _, rfl⟩ := List.mem_map.mp he
    show PySem.W.alike (.tuple [.str r.1, .str r.2.1, .int r.2.2]) (.tuple [.str q.1, .str q.2.1, .int q.2.2]) = true
    simp [PySem.W.alike, PySem.W.alikeAll]
  · obtain ⟨r, _, rfl⟩ := List.mem_map.mp hd
    rfl
  · obtain ⟨r, _, rfl⟩ := List.mem_map.mp hd
    show decide (PyData.depth (.tuple [.str r.1, .str r.2.1, .int r.2.2]) ≤ 40) = true
    rw [decide_eq_true]
    simp [PyData.depth, PyData.depthAll]
theorem okSort_strs (xs : List Str) : okSort (xs.map .str) = true := by
  unfold okSort
  simp only [Bool.and_eq_true, Bool.or_eq_true, List.all_eq_true]
  refine ⟨⟨fun d hd e he => ?_, .inr fun d hd => ?_⟩, fun d hd => ?_⟩
  · obtain ⟨r, _, rfl⟩ := List.mem_map.mp hd
    obtain ⟨q, _, rfl⟩ := List.mem_map.mp he
    simp [PySem.W.alike]
  · obtain ⟨r, _, rfl⟩ := List.mem_map.mp hd
    rfl
  · obtain ⟨r, _, rfl⟩ := List.mem_map.mp hd
    show decide (PyData.depth (.str r) ≤ 40) = true
    rw [decide_eq_true]
    simp [PyData.depth]
theorem py_row (r : Row) : (tRow r).py = some (pRow r) := rfl
theorem py_str (x : Str) : (D.str x).py = some (.str x) := rfl
theorem st_Put2 {j : Nat} {fk fv : Env → R D} {ρ ρ1 ρ2 : Env} {k v a a' : D} (hv : fv ρ = .ok v ρ1) (hk : fk ρ1 = .ok k ρ2) (hj : ρ2[j]? = some (some a)) (hp : dPut a k v = some a') : sPut j fk fv ρ = .nx (ρ2.set j (some a')) := by
  unfold sPut
  rw [hv]
  show (fk ρ1).bindS _ = _
  rw [hk]
  show putR j k v ρ2 = _
  unfold putR
  rw [hj]
  show (match dPut a k v with | some d => RS.nx (ρ2.set j (some d)) | none => .bad) = _
  rw [hp]
def costs : List D := [.int 0, .int 0, .int 0, .int 1, .int 1, .int 2, .int 3]
theorem cost_mem {x : D} (h : x ∈ costs) : ∃ c : Int, x = .int c ∧ 0 ≤ c ∧ c ≤ 3 := by
  unfold costs at h
  simp only [List.mem_cons, List.not_mem_nil, or_false] at h
  rcases h with rfl | rfl | rfl | rfl | rfl | rfl | rfl
  all_goals exact ⟨_, rfl, by decide, by decide⟩
theorem rng_len (lo : Int) (n : Nat) : (rng lo n).length = n := by unfold rng; simp
end Pu
namespace Pu
open PySem L2
def jn : List Str → Str := Str.join ", "
theorem jn_len (m : Nat) : ∀ ys : List Str, (∀ y ∈ ys, y.length ≤ m) → (jn ys).length ≤ ys.length * (m + 2)
  | [], _ => Nat.zero_le _
  | [x], h => by
    have := h x (List.mem_cons_self ..)
    show x.length ≤ 1 * (m + 2)
    omega
  | x :: y :: r, h => by
    have ih := jn_len m (y :: r) fun w hw => h w (List.mem_cons_of_mem _ hw)
    have := h x (List.mem_cons_self ..)
    show (x ++ ", " ++ jn (y :: r)).length ≤ _
    rw [len_add, len_add, show (", " : Str).length = 2 by decide +kernel, List.length_cons (a := x), Nat.succ_mul]
    omega
theorem okS_add {a b : Str} (ha : okS a) (hb : okS b) : okS (a ++ b) := by rw [app_F]; exact okS_app ha hb
theorem jn_ok : ∀ {ys : List Str}, (∀ y ∈ ys, okS y) → okS (jn ys)
  | [], _ => by show okS Str.empty; decide +kernel
  | [x], h => h x (List.mem_cons_self ..)
  | x :: y :: r, h => okS_add (okS_add (h x (List.mem_cons_self ..)) (by decide +kernel)) (jn_ok fun w hw => h w (List.mem_cons_of_mem _ hw))
theorem tup_text {ts : List Str} (m : Nat) (hl : ∀ y ∈ ts, y.length ≤ m) (ho : ∀ y ∈ ts, okS y) : (tupleText ts).length ≤ ts.length * (m + 2) + 3 ∧ okS (tupleText ts) := by
  have h1 := jn_len m ts hl
  have h2 := jn_ok ho
  unfold tupleText
  constructor
  · rw [len_add, len_add]
    have e1 : ("(" : Str).length = 1 := by decide +kernel
    have e2 : (Str.ofString (if ts.length == 1 then ",)" else ")")).length ≤ 2 := by split <;> decide +kernel
    have : (Str.join ", " ts).length ≤ ts.length * (m + 2) := h1
    rw [e1]
    omega
  · refine okS_add (okS_add (by decide +kernel) h2) ?_
    split <;> decide +kernel
theorem nm_repr_all : (NM.all fun x => decide ((reprText x).length ≤ 10) && PyData.strOk (reprText x)) = true := by decide +kernel
theorem nm_repr {x : Str} (h : x ∈ NM) : (reprText x).length ≤ 10 ∧ okS (reprText x) := by
  have := List.all_eq_true.mp nm_repr_all x h
  rw [Bool.and_eq_true] at this
  exact ⟨of_decide_eq_true this.1, this.2⟩
theorem shownAll_map : ∀ l : List PyData, PyData.shownAll l = l.map PyData.shown
  | [] => rfl
  | x :: l => by
    show PyData.shown x :: PyData.shownAll l = _
    rw [shownAll_map l]
    rfl
theorem eqv_strs : ∀ xs : List Str, PyData.eqvAll (xs.map .str) (xs.map .str) = true
  | [] => by simp [PyData.eqvAll]
  | x :: xs => by
    have h : PyData.eqv (.str x) (.str x) = true := by rw [eqv_str]; simp
    simp [PyData.eqvAll, h, eqv_strs xs]
end Pu
namespace Pu
open PySem L2
section
variable {ρ ρ1 ρ2 ρ3 : Env} {a b c d e : D} {ds es : List D} {fa fb fc f : Env → R D} {fs gs : Env → R (List D)} {k j : Bool} {t t2 : Env → R Bool} {x : Exn} {g1 g2 : Env → RS}
theorem ex_As {g : List D → Option D} (h : fs ρ = .ex x ρ1) : sAs g fs ρ = .ex x ρ1 := by unfold sAs; rw [h]; rfl
theorem ex_ConsA (h : fa ρ = .ex x ρ1) : sCons fa fs ρ = .ex x ρ1 := by unfold sCons; rw [h]; rfl
theorem ex_ConsB (ha : fa ρ = .ok a ρ1) (h : fs ρ1 = .ex x ρ2) : sCons fa fs ρ = .ex x ρ2 := by unfold sCons; rw [ha]; show (fs ρ1).bind _ = _; rw [h]; rfl
theorem ev_Meth {g : List D → RF} {cn : String} {m : Str} {dd : List D} {os : List D} (ho : fa ρ = .ok a ρ1) (hc : isC cn m a = true) (ha : fs ρ1 = .ok ds ρ2) (hg : g (a :: (ds ++ dd)) = .ok d os) : sMeth cn m dd g fa fs ρ = .ok d ρ2 := by
  unfold sMeth
  rw [ho]
  show (if isC cn m a = true then (fs ρ1).bind _ else _) = _
  rw [if_pos hc, ha]
  show (g (a :: (ds ++ dd))).toR ρ2 = _
  rw [hg]
  rfl
theorem ex_Meth {g : List D → RF} {cn : String} {m : Str} {dd : List D} {os : List D} (ho : fa ρ = .ok a ρ1) (hc : isC cn m a = true) (ha : fs ρ1 = .ok ds ρ2) (hg : g (a :: (ds ++ dd)) = .ex x os) : sMeth cn m dd g fa fs ρ = .ex x ρ2 := by
  unfold sMeth
  rw [ho]
  show (if isC cn m a = true then (fs ρ1).bind _ else _) = _
  rw [if_pos hc, ha]
  show (g (a :: (ds ++ dd))).toR ρ2 = _
  rw [hg]
  rfl
theorem ex_Set {i : Nat} (h : fa ρ = .ex x ρ1) : sSet i fa ρ = .ex x ρ1 := by unfold sSet; rw [h]; rfl
theorem ex_Raise {c : String} {n : Str} (h : fa ρ = .ok d ρ1) : sRaise c n fa ρ = .ex ⟨c, [(n, d)]⟩ ρ1 := by unfold sRaise; rw [h]; rfl
theorem ex_If (h : t ρ = .ok true ρ1) (h2 : g1 ρ1 = .ex x ρ2) {g3 : Env → RS} : sSeq (sIfS t g1 g3) g2 ρ = .ex x ρ2 := by unfold sSeq sIfS; rw [h]; show (g1 ρ1).bind g2 = _; rw [h2]; rfl
theorem df_ex {pm : List Md} {n : Nat} {g : Env → RS} (h : g (ds.map some ++ List.replicate n none) = .ex x ρ) : defF pm n g ds = .ex x (outs pm ds ρ) := by unfold defF; rw [h]
theorem ev_Fld {n : Str} (h : x.fs.lookup n = some d) : xFld n x ρ = .ok d ρ := by unfold xFld; rw [h]; rfl
end
end Pu
namespace Pu
open PySem L2
theorem fld_arrows {t : Str} {ts : List Str} {rs : List Row} {ls ld : D} : gFld "arrows" (stepO t ts rs ls ld) = some (.tup (rs.map tRow)) := by
  show List.lookup _ _ = _
  rw [List.lookup_cons, show (("arrows" : Str) == "name") = false by decide +kernel, List.lookup_cons, show (("arrows" : Str) == "places") = false by decide +kernel]
  exact List.lookup_cons_self
theorem fld_losses {t : Str} {ts : List Str} {rs : List Row} {ls ld : D} : gFld "losses" (stepO t ts rs ls ld) = some ls := by
  show List.lookup _ _ = _
  rw [List.lookup_cons, show (("losses" : Str) == "name") = false by decide +kernel, List.lookup_cons, show (("losses" : Str) == "places") = false by decide +kernel, List.lookup_cons, show (("losses" : Str) == "arrows") = false by decide +kernel]
  exact List.lookup_cons_self
theorem fld_leads {t : Str} {ts : List Str} {rs : List Row} {ls ld : D} : gFld "leads" (stepO t ts rs ls ld) = some ld := by
  show List.lookup _ _ = _
  rw [List.lookup_cons, show (("leads" : Str) == "name") = false by decide +kernel, List.lookup_cons, show (("leads" : Str) == "places") = false by decide +kernel, List.lookup_cons, show (("leads" : Str) == "arrows") = false by decide +kernel, List.lookup_cons, show (("leads" : Str) == "losses") = false by decide +kernel]
  exact List.lookup_cons_self
theorem isC_step {j : J} (S : Stg j.1 j.2.1 j.2.2) (m : Str) (h : (["name", "places", "arrows", "losses", "leads"] : List Str).all (fun e => !decide (e = m)) = true) : isC "Step" m (oj j) = true := by
  rw [oj_is S]
  show (("Step" == "Step") && ((([("name", D.str j.1), ("places", .tup (j.2.1.map .str)), ("arrows", .tup (j.2.2.map tRow)), ("losses", .dtt (kvR j.2.2)), ("leads", leadD j.2.1 j.2.2)] : List (Str × D)).lookup m)).isNone) = true
  rw [look_none (fs := [("name", D.str j.1), ("places", .tup (j.2.1.map .str)), ("arrows", .tup (j.2.2.map tRow)), ("losses", .dtt (kvR j.2.2)), ("leads", leadD j.2.1 j.2.2)]) h]
  rfl
end Pu
namespace Pu
open PySem L2
theorem touched_ok {j : J} (S : Stg j.1 j.2.1 j.2.2) {x : Str} (hx : ∃ o, f_is_name [.str x] = .ok (.bl true) o) : ∃ o, f_Step_is_touched [oj j, .str x] = .ok (.bl (decide (x ∈ j.2.1))) o := by
  obtain ⟨o, h⟩ := hx
  have e : gIn false (.str x) (leadD j.2.1 j.2.2) = some (.bl (decide (x ∈ j.2.1))) := gIn_keys (leads_keys S)
  refine ⟨_, df_rt (ρ := [some (oj j), some (.str x)]) ?_⟩
  show g_Step_is_touched [some (oj j), some (.str x)] = _
  unfold g_Step_is_touched
  exact st_Ret (ev_AndVT (ev_Call (ev_Cons (ev_V rfl) ev_Nil) h) (ev_Op (ev_V rfl) (ev_Un (ev_V rfl) (by rw [oj_is S]; exact fld_leads)) e))
def wash (j : J) (x : Str) : J := (j.1, j.2.1, j.2.2.filter fun r => !decide (r.1 = x))
theorem sorted_rows {rs : List Row} (h : gSorted (.lst (rs.map tRow)) = some (.lst (rs.map tRow))) : rs.Pairwise fun a b => leD (tRow a) (tRow b) = true := by
  have e : gSorted (.lst (rs.map tRow)) = some (.lst ((sortBy tRow rs).map tRow)) := sorted_by (p := pRow) py_row (okSort_rows rs)
  rw [h] at e
  injection e with e
  injection e with e
  have e2 : rs = sortBy tRow rs := map_tRow e
  rw [e2]
  exact isrt_pw (fun a b c => leD_trans (tRow a) (tRow b) (tRow c)) (fun a b => leD_total (tRow a) (tRow b)) rs
theorem rows_sorted {rs : List Row} (h : rs.Pairwise fun a b => leD (tRow a) (tRow b) = true) : gSorted (.lst (rs.map tRow)) = some (.lst (rs.map tRow)) := by
  have e : gSorted (.lst (rs.map tRow)) = some (.lst ((sortBy tRow rs).map tRow)) := sorted_by (p := pRow) py_row (okSort_rows rs)
  rw [e, show sortBy tRow rs = rs from isrt_id h]
theorem Stg.filter {t : Str} {ts : List Str} {rs : List Row} (S : Stg t ts rs) (p : Row → Bool) : Stg t ts (rs.filter p) where
  ht := S.ht
  hts := S.hts
  ne := S.ne
  nd := S.nd
  tl := S.tl
  hrs := fun r hr => S.hrs r (List.mem_filter.mp hr).1
  rn := S.rn.sublist (List.Sublist.map _ List.filter_sublist)
  rl := Nat.le_trans (List.length_filter_le _ _) S.rl
  few := Nat.le_trans (List.length_filter_le _ _) S.few
  st := S.st
  sr := rows_sorted ((sorted_rows S.sr).filter p)
theorem Stg.wash {j : J} (S : Stg j.1 j.2.1 j.2.2) (x : Str) : Stg (wash j x).1 (wash j x).2.1 (wash j x).2.2 := S.filter _
theorem step_washed {j : J} (S : Stg j.1 j.2.1 j.2.2) {x : Str} (hx : x ∈ NM) (hm : x ∈ j.2.1) : ∃ o, f_Step_washed [oj j, .str x] = .ok (oj (wash j x)) o := by
  let e0 : Env := [some (oj j), some (.str x), none]
  obtain ⟨o1, h1⟩ := touched_ok S (is_name_nm hx)
  rw [decide_eq_true hm] at h1
  have p1 : sNot (sB (sMeth "Step" "is_touched" [] f_Step_is_touched (sV 0) (sCons (sV 1) sNil))) e0 = .ok false e0 :=
    ev_NotT (ev_B (ev_Meth (ds := [.str x]) (ev_V rfl) (isC_step S "is_touched" (by decide +kernel)) (ev_Cons (ev_V rfl) ev_Nil) h1))
  have fa : gFld "arrows" (oj j) = some (.tup (j.2.2.map tRow)) := by rw [oj_is S]; exact fld_arrows
  have fn : gFld "name" (oj j) = some (.str j.1) := by rw [oj_is S]; exact fld_name
  have fp : gFld "places" (oj j) = some (.tup (j.2.1.map .str)) := by rw [oj_is S]; exact fld_places
  let c : D → Bool := fun d => match d with | .tup (.str a :: _) => !decide (a = x) | _ => false
  have l : sLc (sIt D.seq (sUn (gFld "arrows") (sV 0))) (tName 2) (sB (sOp gNe (sOp gIx (sV 2) (sC (.int 0))) (sV 1))) (sV 2) [2] e0 = .ok (.lst ((wash j x).2.2.map tRow)) e0 := by
    have := ev_LcC (f := sIt D.seq (sUn (gFld "arrows") (sV 0))) (tg := tName 2) (tt := sB (sOp gNe (sOp gIx (sV 2) (sC (.int 0))) (sV 1))) (te := sV 2) (vs := [2]) (ρ := e0) (ρ1 := e0) (xs := j.2.2.map tRow) c (fun d => d) (ev_It (ev_Un (ev_V rfl) fa) rfl) rfl (by rw [List.length_map]; exact line_big S.rl) fun d hd => by
      obtain ⟨r, hr, rfl⟩ := List.mem_map.mp hd
      refine ⟨[some (oj j), some (.str x), some (tRow r)], rfl, rfl, ?_, fun _ => rfl⟩
      exact ev_B (ev_Op (ev_Op (ev_V rfl) ev_C rfl) (ev_V rfl) (gNe_str (ok_nm (S.hts _ (S.hrs r hr).a)) (ok_nm hx)))
    rw [this, List.map_id', List.filter_map]
    rfl
  obtain ⟨os, hw⟩ := oj_made (S.wash x) (p := .tup (j.2.1.map .str)) (q := .lst ((wash j x).2.2.map tRow)) (.inr rfl) (.inl rfl)
  refine ⟨_, df_rt (ρ := e0) ?_⟩
  show g_Step_washed e0 = _
  unfold g_Step_washed
  exact st_pass p1 (st_Ret (ev_Make (ds := [.str j.1, .tup (j.2.1.map .str), .lst ((wash j x).2.2.map tRow)]) (ev_Cons (ev_Un (ev_V rfl) fn) (ev_Cons (ev_Un (ev_V rfl) fp) (ev_Cons l ev_Nil))) hw))
end Pu
namespace Pu
open PySem L2
theorem mixed_f {d : D} (h : IsDeal d) {l : List D} (hp : l.all plainD = true) (hn : l.length ≤ 1000) : ∃ (p : List D) (d' : D), IsDeal d' ∧ p.Perm l ∧ f__law_mixed [d, .lst l] = .ok (.lst p) [d', .lst l] := mixed_ok h hp hn
theorem mixed_strs {d : D} (h : IsDeal d) {l : List Str} (hp : ∀ x ∈ l, x ∈ NM) (hn : l.length ≤ 1000) : ∃ (p : List Str) (d' : D), IsDeal d' ∧ p.Perm l ∧ f__law_mixed [d, .lst (l.map .str)] = .ok (.lst (p.map .str)) [d', .lst (l.map .str)] := by
  obtain ⟨p, d', h1, h2, e⟩ := mixed_f h (l := l.map .str) (by
    rw [List.all_map, List.all_eq_true]
    exact fun x hx => plain_str (ok_nm (hp x hx))) (by rw [List.length_map]; exact hn)
  obtain ⟨q, h3, rfl⟩ := perm_map_inv h2 rfl
  exact ⟨q, d', h1, h3, e⟩
end Pu
namespace Pu
open PySem L2
theorem sp_nm {x : Str} (h : x ∈ SP) : x ∈ NM := List.mem_append_left _ h
theorem sp_nd : SP.Nodup := by decide +kernel
theorem spotsN_ok {d : D} (h : IsDeal d) {n : Nat} (n1 : 1 ≤ n) : ∃ (xs : List Str) (d' : D), IsDeal d' ∧ (∀ x ∈ xs, x ∈ SP) ∧ xs.Nodup ∧ xs ≠ [] ∧ xs.length ≤ 6 ∧ f__law_spots [d, .int (n : Int)] = .ok (.lst (xs.map .str)) [d', .int (n : Int)] := by
  obtain ⟨p, d', h1, h2, e⟩ := mixed_strs h (l := SP) (fun x hx => sp_nm hx) (by decide)
  have hl : p.length = 6 := h2.length_eq
  refine ⟨p.take n, d', h1, fun x hx => h2.mem_iff.mp (List.mem_of_mem_take hx), (h2.nodup_iff.mpr sp_nd).sublist (List.take_sublist ..), fun z => ?_, by rw [List.length_take]; omega, ?_⟩
  · have := congrArg List.length z
    rw [List.length_take, hl] at this
    have q : min n 6 = 0 := this
    omega
  · have : g__law_spots [some d, some (.int (n : Int))] = .rt (.lst ((p.take n).map .str)) [some d', some (.int (n : Int))] := by
      unfold g__law_spots
      refine st_Ret (ev_Slice (ev_CallO (ev_Cons (ev_As (ev_Cons ev_C (ev_Cons ev_C (ev_Cons ev_C (ev_Cons ev_C (ev_Cons ev_C (ev_Cons ev_C ev_Nil)))))) rfl) ev_Nil) rfl e) ev_oNone (ev_oSome (ev_V rfl)) ?_)
      show some (D.lst (cutL (p.map D.str) none (some (n : Int)))) = _
      rw [cut_take, List.map_take]
    exact df_rt (pm := [(.op .deal), .sh]) (n := 0) (ds := [d, .int (n : Int)]) this
theorem spots_ok {d : D} (h : IsDeal d) : ∃ (xs : List Str) (d' : D), IsDeal d' ∧ (∀ x ∈ xs, x ∈ SP) ∧ xs.Nodup ∧ xs ≠ [] ∧ xs.length ≤ 6 ∧ f__law_spots [d, .int 5] = .ok (.lst (xs.map .str)) [d', .int 5] := spotsN_ok h (n := 5) (by decide)
end Pu
namespace Pu
open PySem L2
theorem stage_ok {d : D} (hd : IsDeal d) {t : Str} (ht : t ∈ NM) {sp : List Str} (hs : ∀ x ∈ sp, x ∈ SP) (nd : sp.Nodup) (ne : sp ≠ []) (hl : sp.length ≤ 6) :
    ∃ (ts : List Str) (rs : List Row) (d' : D), IsDeal d' ∧ Stg t ts rs ∧ f__law_stage [d, .str t, .lst (sp.map .str)] = .ok (stgD t ts rs) [d', .str t, .lst (sp.map .str)] := by
  let T : Option D := some (.str t)
  let P : Option D := some (.lst (sp.map .str))
  obtain ⟨p, d1, hd1, hp, e1⟩ := mixed_strs hd (l := sp) (fun x hx => sp_nm (hs x hx)) (by omega)
  have pl : p.length = sp.length := hp.length_eq
  have sl : 0 < sp.length := List.length_pos_iff.mpr ne
  obtain ⟨m, em, m0, m4⟩ : ∃ m : Int, (if ((sp.map D.str).length : Int) < 4 then ((sp.map D.str).length : Int) else 4) = m ∧ 0 < m ∧ m ≤ 4 := ⟨_, rfl, by rw [List.length_map]; split <;> omega, by rw [List.length_map]; split <;> omega⟩
  have gm : g2 gMin2 [.int 4, .int ((sp.map D.str).length : Nat)] = some (.int m) := by
    rw [← em]
    rfl
  obtain ⟨i, d2, hd2, i0, i1, e2⟩ := draw_ok hd1 m0 (by omega)
  obtain ⟨k, rfl⟩ : ∃ k : Nat, i = k := ⟨i.toNat, by omega⟩
  let ts0 : List Str := p.take (k + 1)
  have tn : ts0 ≠ [] := fun z => by
    have := congrArg List.length z
    rw [show ts0 = p.take (k + 1) from rfl, List.length_take, List.length_nil] at this
    omega
  have tm : ∀ x ∈ ts0, x ∈ SP := fun x hx => hs x (hp.mem_iff.mp (List.mem_of_mem_take hx))
  have td : ts0.Nodup := (hp.nodup_iff.mpr nd).sublist (List.take_sublist ..)
  have tl : ts0.length ≤ 6 := by rw [show ts0 = p.take (k + 1) from rfl, List.length_take]; omega
  let e0 : Env := [some d, T, P, none, none, none, none, none, none]
  let A : Option D := some (.lst (ts0.map .str))
  let en3 : Env := [some d2, T, P, A, none, none, none, none, none]
  have v3 : sSlice (sCallO 0 f__law_mixed (sCons (sV 2) sNil)) oNone (oSome (sOp gAddF (sC (.int 1)) (sCallO 0 f__law_draw (sCons (sAs (g2 gMin2) (sCons (sC (.int 4)) (sCons (sAs (g1 gLen) (sCons (sV 2) sNil)) sNil))) sNil)))) e0 = .ok (.lst (ts0.map .str)) [some d2, T, P, none, none, none, none, none, none] := by
    refine ev_Slice (ρ1 := [some d1, T, P, none, none, none, none, none, none]) (ρ2 := [some d1, T, P, none, none, none, none, none, none]) (hi := some ((k + 1 : Nat) : Int)) (ev_CallO (ev_Cons (ev_V rfl) ev_Nil) rfl e1) ev_oNone ?_ ?_
    · refine ev_oSome (ev_Op ev_C (ev_CallO (ev_Cons (ev_As (ev_Cons ev_C (ev_Cons (ev_As (ev_Cons (ev_V rfl) ev_Nil) rfl) ev_Nil)) gm) ev_Nil) rfl e2) ?_)
      show some (D.int (1 + (k : Int))) = some (D.int ((k + 1 : Nat) : Int))
      congr 2
      omega
    · show some (D.lst (cutL (p.map D.str) none (some ((k + 1 : Nat) : Int)))) = _
      rw [cut_take, ← List.map_take]
  have s3 := st_Set (i := 3) v3
  let en4 : Env := [some d2, T, P, A, some (.dtt []), none, none, none, none]
  have s4 : sSet 4 (sC (.dtt [])) en3 = .nx en4 := st_Set ev_C
  obtain ⟨j, d3, hd3, j0, j1, e3⟩ := draw_ok hd2 (m := 6) (by decide) (by decide)
  let B : Env → RS := sPut 4 (sAs gTupl (sCons (sCallO 0 f__law_pick (sCons (sV 3) sNil)) (sCons (sCallO 0 f__law_pick (sCons (sV 3) sNil)) sNil))) (sCallO 0 f__law_pick (sCons (sAs gList (sCons (sC (.int 0)) (sCons (sC (.int 0)) (sCons (sC (.int 0)) (sCons (sC (.int 1)) (sCons (sC (.int 1)) (sCons (sC (.int 2)) (sCons (sC (.int 3)) sNil)))))))) sNil))
  let I : List D → Env → Prop := fun pre ρ => ∃ d rows x5, ρ = [some d, T, P, A, some (.dtt (kvR rows)), x5, none, none, none] ∧ IsDeal d ∧ (rows.map key2).Nodup ∧ (∀ r ∈ rows, RowOk ts0 r) ∧ rows.length ≤ pre.length
  have rl : (rng 0 j.toNat).length ≤ 5 := by rw [rng_len]; omega
  have lp : ∃ ρ', sFor (tName 5) B (rng 0 j.toNat) [some d3, T, P, A, some (.dtt []), none, none, none, none] = .nx ρ' ∧ I ([] ++ rng 0 j.toNat) ρ' := by
    refine for_inv (I := I) (rng 0 j.toNat) [] _ ⟨d3, [], none, rfl, hd3, List.nodup_nil, fun r hr => (by cases hr), Nat.le_refl _⟩ fun q x q2 ρ hq ⟨d, rows, x5, hρ, hd, hn, ho, hlen⟩ => ?_
    subst hρ
    have ql : q.length < 5 := by
      have := congrArg List.length hq
      rw [List.nil_append, List.length_append, List.length_cons] at this
      omega
    obtain ⟨c, f1, hf1, hc, c1⟩ := pick_ok hd (l := costs) (by unfold costs; simp) (by decide)
    obtain ⟨c, rfl, c0, c3⟩ := cost_mem hc
    obtain ⟨a, f2, hf2, ha, a1⟩ := pick_ok hf1 (l := ts0.map .str) (by simpa using tn) (by rw [List.length_map]; omega)
    obtain ⟨b, f3, hf3, hb, b1⟩ := pick_ok hf2 (l := ts0.map .str) (by simpa using tn) (by rw [List.length_map]; omega)
    obtain ⟨a', ha', rfl⟩ := List.mem_map.mp ha
    obtain ⟨b', hb', rfl⟩ := List.mem_map.mp hb
    obtain ⟨rows', r1, r2, r3, r4⟩ := put_rows (c := c) hn ho ha' hb' c0 c3
    have dp : dPut (.dtt (kvR rows)) (.tup [.str a', .str b']) (.int c) = some (.dtt (kvR rows')) := by
      rw [← r1]
      refine if_pos ⟨rfl, ?_⟩
      show (kvR rows).length < line
      unfold kvR
      rw [List.length_map]
      exact Nat.lt_of_le_of_lt (show rows.length ≤ 5 by omega) (by decide)
    refine ⟨[some d, T, P, A, some (.dtt (kvR rows)), some x, none, none, none], rfl, _, .inl (st_Put2 (ev_CallO (ev_Cons (ev_As (ev_Cons ev_C (ev_Cons ev_C (ev_Cons ev_C (ev_Cons ev_C (ev_Cons ev_C (ev_Cons ev_C (ev_Cons ev_C ev_Nil))))))) rfl) ev_Nil) rfl c1) (ev_As (ev_Cons (ev_CallO (ev_Cons (ev_V rfl) ev_Nil) rfl a1) (ev_Cons (ev_CallO (ev_Cons (ev_V rfl) ev_Nil) rfl b1) ev_Nil)) rfl) rfl dp), f3, rows', some x, rfl, hf3, r2, r3, ?_⟩
    rw [List.length_append]
    exact Nat.le_trans r4 (Nat.succ_le_succ hlen)
  obtain ⟨ρ', l1, d4, rows, x5, rfl, hd4, rn, ro, rlen⟩ := lp
  rw [List.nil_append] at rlen
  let en5 : Env := [some d4, T, P, A, some (.dtt (kvR rows)), x5, none, none, none]
  have s5 : sForS (sItA gRng (sCons (sCallO 0 f__law_draw (sCons (sC (.int 6)) sNil)) sNil)) (tName 5) B en4 = .nx en5 := st_For (ρ1 := [some d3, T, P, A, some (.dtt []), none, none, none, none]) (ds := rng 0 j.toNat) (ev_ItA (ev_Cons (ev_CallO (ev_Cons ev_C ev_Nil) rfl e3) ev_Nil) (by
    show (if -(2 ^ 62) ≤ j ∧ j < 2 ^ 62 then some (rng 0 j.toNat) else none) = _
    rw [if_pos ⟨by omega, by omega⟩])) l1
  have rows5 : rows.length ≤ 5 := Nat.le_trans rlen rl
  have v6 : sLk 4 (sLc (sIt gKeys (sV 4)) (tTup 2 (Pu.tCons (tName 7) (Pu.tCons (tName 8) Pu.tNil))) sTrue (sAs gTupl (sCons (sV 7) (sCons (sV 8) (sCons (sOp gIx (sV 4) (sAs gTupl (sCons (sV 7) (sCons (sV 8) sNil)))) sNil)))) [7, 8]) en5 = .ok (.lst (rows.map tRow)) en5 := by
    let h : D → D := fun x => match x with | .tup [a, b] => .tup [a, b, (dLook (kvR rows) (.tup [a, b])).getD .non] | _ => .non
    have := ev_Lc1 (f := sIt gKeys (sV 4)) (tg := tTup 2 (Pu.tCons (tName 7) (Pu.tCons (tName 8) Pu.tNil))) (te := sAs gTupl (sCons (sV 7) (sCons (sV 8) (sCons (sOp gIx (sV 4) (sAs gTupl (sCons (sV 7) (sCons (sV 8) sNil)))) sNil)))) (vs := [7, 8]) (ρ := en5) (ρ1 := en5) (xs := rows.map fun r => tpr (key2 r)) h (ev_It (ev_V rfl) (by
      show some ((kvR rows).map (·.1)) = _
      unfold kvR
      rw [List.map_map]
      rfl)) rfl (by rw [List.length_map]; exact line_big (by omega)) fun x hx => by
      obtain ⟨r, hr, rfl⟩ := List.mem_map.mp hx
      have lk := look_rows rn hr
      refine ⟨[some d4, T, P, A, some (.dtt (kvR rows)), x5, none, some (.str r.1), some (.str r.2.1)], rfl, rfl, ?_⟩
      have g : gIx (.dtt (kvR rows)) (.tup [.str r.1, .str r.2.1]) = some (.int r.2.2) := lk
      show _ = R.ok (D.tup [.str r.1, .str r.2.1, (dLook (kvR rows) (tpr (key2 r))).getD .non]) _
      rw [lk]
      exact ev_As (ev_Cons (ev_V rfl) (ev_Cons (ev_V rfl) (ev_Cons (ev_Op (ev_V rfl) (ev_As (ev_Cons (ev_V rfl) (ev_Cons (ev_V rfl) ev_Nil)) rfl) g) ev_Nil))) rfl
    unfold sLk
    rw [show isDD en5 4 = true from rfl, if_pos rfl, this, List.map_map]
    show R.ok (D.lst _) _ = R.ok (D.lst _) _
    congr 2
    refine List.map_congr_left fun r hr => ?_
    show D.tup [.str r.1, .str r.2.1, (dLook (kvR rows) (tpr (key2 r))).getD .non] = _
    rw [look_rows rn hr]
    rfl
  have q6 : g1 gSorted [.lst (rows.map tRow)] = some (.lst ((sortBy tRow rows).map tRow)) := sorted_by py_row (okSort_rows rows)
  let rs := sortBy tRow rows
  let ts := sortBy D.str ts0
  let en6 : Env := [some d4, T, P, A, some (.dtt (kvR rows)), x5, some (.lst (rs.map tRow)), none, none]
  have s6 : sSet 6 (sAs (g1 gSorted) (sCons (sLk 4 (sLc (sIt gKeys (sV 4)) (tTup 2 (Pu.tCons (tName 7) (Pu.tCons (tName 8) Pu.tNil))) sTrue (sAs gTupl (sCons (sV 7) (sCons (sV 8) (sCons (sOp gIx (sV 4) (sAs gTupl (sCons (sV 7) (sCons (sV 8) sNil)))) sNil)))) [7, 8])) sNil)) en5 = .nx en6 := st_Set (ev_As (ev_Cons v6 ev_Nil) q6)
  have q7 : g1 gSorted [.lst (ts0.map .str)] = some (.lst (ts.map .str)) := sorted_by py_str (okSort_strs ts0)
  have tp : ts.Perm ts0 := sortBy_perm D.str ts0
  have rp : rs.Perm rows := sortBy_perm tRow rows
  refine ⟨ts, rs, d4, hd4, ⟨ht, fun x hx => sp_nm (tm x (tp.mem_iff.mp hx)), fun z => tn (by rw [z] at tp; exact tp.nil_eq.symm), tp.nodup_iff.mpr td, by rw [tp.length_eq]; omega, fun r hr => ?_, (rp.map _).nodup_iff.mpr rn, by rw [rp.length_eq]; omega, by rw [rp.length_eq]; omega, sorted_again py_str (okSort_strs ts0), sorted_again py_row (okSort_rows rows)⟩, ?_⟩
  · have o := ro r (rp.mem_iff.mp hr)
    exact ⟨tp.mem_iff.mpr o.a, tp.mem_iff.mpr o.b, o.lo, o.hi⟩
  · have : g__law_stage e0 = .rt (stgD t ts rs) en6 := by
      unfold g__law_stage
      exact st_Seq s3 (st_Seq s4 (st_Seq s5 (st_Seq s6 (st_Ret (ev_As (ev_Cons (ev_V rfl) (ev_Cons (ev_As (ev_Cons (ev_V rfl) ev_Nil) q7) (ev_Cons (ev_V rfl) ev_Nil))) rfl)))))
    exact df_rt (pm := [(.op .deal), .sh, .sh]) (n := 6) (ds := [d, .str t, .lst (sp.map .str)]) this
end Pu
namespace Pu
open PySem L2
section
variable {t : Str} {ts : List Str} {rs : List Row} (S : Stg t ts rs)
include S
theorem stage_text : ∃ o, f__law_stage_text [stgD t ts rs] = .ok (.str (stepT t ts rs)) o := by
  let e0 : Env := [some (stgD t ts rs), none, none, none, none]
  let e1 : Env := [some (stgD t ts rs), some (.str (rowsT rs)), none, none, none]
  refine ⟨_, df_rt (ρ := e1) ?_⟩
  have l1 : sLc (sIt D.seq (sOp gIx (sV 0) (sC (.int 2)))) (tTup 3 (Pu.tCons (tName 2) (Pu.tCons (tName 3) (Pu.tCons (tName 4) Pu.tNil)))) sTrue (sM1 gJoinF (sC (.str " ")) (sAs gList (sCons (sV 2) (sCons (sV 3) (sCons (sAs (g1 gStr1) (sCons (sV 4) sNil)) sNil))))) [2, 3, 4] e0 = .ok (.lst ((rs.map rowT).map .str)) e0 := by
    have := ev_Lc1 (f := sIt D.seq (sOp gIx (sV 0) (sC (.int 2)))) (tg := tTup 3 (Pu.tCons (tName 2) (Pu.tCons (tName 3) (Pu.tCons (tName 4) Pu.tNil)))) (te := sM1 gJoinF (sC (.str " ")) (sAs gList (sCons (sV 2) (sCons (sV 3) (sCons (sAs (g1 gStr1) (sCons (sV 4) sNil)) sNil))))) (vs := [2, 3, 4]) (ρ := e0) (ρ1 := e0) (xs := rs.map tRow)
      (fun d => match d with | .tup [.str a, .str b, .int c] => .str (rowT (a, b, c)) | _ => .non) (ev_It (ev_Op (ev_V rfl) ev_C rfl) rfl) rfl (by rw [List.length_map]; exact line_big S.rl) fun d hd => by
        obtain ⟨r, hr, rfl⟩ := List.mem_map.mp hd
        refine ⟨[some (stgD t ts rs), none, some (.str r.1), some (.str r.2.1), some (.int r.2.2)], rfl, rfl, ?_⟩
        have j1 : gStr1 (.int r.2.2) = some (.str (numT r.2.2)) := if_pos (num_log (S.hrs r hr).lo (S.hrs r hr).hi)
        have j2 : gJoinF " " (.lst ([r.1, r.2.1, numT r.2.2].map .str)) = some (.str (rowT r)) := gJoin_ok 6 rfl (fun y hy => by
          rcases List.mem_cons.mp hy with rfl | hy
          · exact nm_len (S.a hr)
          rcases List.mem_cons.mp hy with rfl | hy
          · exact nm_len (S.b hr)
          cases List.mem_singleton.mp hy
          have := num_len (S.hrs r hr).lo (S.hrs r hr).hi
          omega) (show 3 * (6 + (" " : Str).length) ≤ line by decide +kernel)
        exact ev_M1 ev_C (ev_As (ev_Cons (ev_V rfl) (ev_Cons (ev_V rfl) (ev_Cons (ev_As (ev_Cons (ev_V rfl) ev_Nil) j1) ev_Nil))) rfl) j2
    rw [this, List.map_map, List.map_map]
    rfl
  have j3 : gJoinF ", " (.lst ((rs.map rowT).map .str)) = some (.str (rowsT rs)) := gJoin_ok 21 rfl (fun y hy => by
    obtain ⟨r, hr, rfl⟩ := List.mem_map.mp hy
    exact row_len S hr) (by
      have e : (", " : Str).length = 2 := by decide +kernel
      have e2 : line = 1000000 := rfl
      rw [e, List.length_map, e2]
      have := S.rl
      omega)
  have s1 : sSet 1 (sM1 gJoinF (sC (.str ", ")) (sLc (sIt D.seq (sOp gIx (sV 0) (sC (.int 2)))) (tTup 3 (Pu.tCons (tName 2) (Pu.tCons (tName 3) (Pu.tCons (tName 4) Pu.tNil)))) sTrue (sM1 gJoinF (sC (.str " ")) (sAs gList (sCons (sV 2) (sCons (sV 3) (sCons (sAs (g1 gStr1) (sCons (sV 4) sNil)) sNil))))) [2, 3, 4])) e0 = .nx e1 := st_Set (ev_M1 ev_C l1 j3)
  have e2 : line = 1000000 := rfl
  have ea : (" at " : Str).length = 4 := by decide +kernel
  have eg : (" go " : Str).length = 4 := by decide +kernel
  have e0' : ("" : Str).length = 0 := by decide +kernel
  have b1 := nm_len S.ht
  have b2 := spots_len S
  have b3 := rows_len S
  have a1 : gAddF (.str t) (.str " at ") = some (.str (appF t " at ")) := gAdd_ok (by rw [ea, e2]; omega)
  have a2 : gAddF (.str (appF t " at ")) (.str (joinF " " ts)) = some (.str (appF (appF t " at ") (joinF " " ts))) := gAdd_ok (by rw [len_app, ea, e2]; omega)
  have j4 : gJoinF " " (.lst (ts.map .str)) = some (.str (joinF " " ts)) := gJoin_ok 6 rfl (fun y hy => nm_len (S.hts y hy)) (by
    have e : (" " : Str).length = 1 := by decide +kernel
    rw [e, e2]
    have := S.tl
    omega)
  have tl : sIf (sB (sOp gNe (sV 1) (sC (.str "")))) (sOp gAddF (sC (.str " go ")) (sV 1)) (sC (.str "")) e1 = .ok (.str (if rs = [] then "" else appF " go " (rowsT rs))) e1 := by
    have q : gNe (.str (rowsT rs)) (.str "") = some (.bl (!decide (rowsT rs = ""))) := gNe_str (rows_ok S) (by decide +kernel)
    cases hrs : rs with
    | nil =>
      subst hrs
      rw [decide_eq_true (show rowsT [] = "" by decide +kernel)] at q
      rw [if_pos rfl]
      exact ev_IfF (ev_B (ev_Op (ev_V rfl) ev_C q)) ev_C
    | cons r rs' =>
      rw [← hrs, if_neg (by rw [hrs]; exact fun h => by cases h)]
      have hne : rowsT rs ≠ "" := fun h => by
        have hc := congrArg cl h
        unfold rowsT at hc
        rw [cl_join, hrs, List.map_cons, show cl "" = [] by decide +kernel] at hc
        have hr : (rowT r) ≠ "" := fun h2 => by
          have := congrArg cl h2
          unfold rowT at this
          rw [cl_join, joinL_cons (by simp), joinL_cons (by simp), show cl "" = [] by decide +kernel, show cl " " = [32] by decide +kernel] at this
          simp at this
        cases hm : rs'.map rowT with
        | nil =>
          rw [hm] at hc
          exact hr (str_ext (by rw [show cl "" = [] by decide +kernel]; exact hc))
        | cons y ys =>
          rw [hm, joinL_cons (by simp), show cl ", " = [44, 32] by decide +kernel] at hc
          simp at hc
      rw [decide_eq_false hne] at q
      have a3 : gAddF (.str " go ") (.str (rowsT rs)) = some (.str (appF " go " (rowsT rs))) := gAdd_ok (by rw [eg, e2]; omega)
      exact ev_IfT (ev_B (ev_Op (ev_V rfl) ev_C q)) (ev_Op ev_C (ev_V rfl) a3)
  have a4 : gAddF (.str (appF (appF t " at ") (joinF " " ts))) (.str (if rs = [] then "" else appF " go " (rowsT rs))) = some (.str (stepT t ts rs)) := gAdd_ok (by
    rw [len_app, len_app, ea, e2]
    split
    · rw [e0']; omega
    · rw [len_app, eg]; omega)
  show g__law_stage_text e0 = _
  unfold g__law_stage_text
  exact st_Seq s1 (st_Ret (ev_Op (ev_Op (ev_Op (ev_Op (ev_V rfl) ev_C rfl) ev_C a1) (ev_M1 ev_C (ev_Op (ev_V rfl) ev_C rfl) j4) a2) tl a4))
end
end Pu
namespace Pu
open PySem L2
def leaves : List D := [.non, .bl true, .bl false, .int 0, .int 1, .int (-2), .str "", .str "a", .str "go", .str "board", .str "A", .str "a\n", .tup [], .lst [], .tup [.str "a", .str "b", .int 0], .tup [.str "a", .str "b"]]
inductive Th : Nat → D → Prop
  | leaf {m : Nat} {d : D} : d ∈ leaves → Th m d
  | lst {m : Nat} {ds : List D} : ds.length ≤ 3 → (∀ d ∈ ds, Th m d) → Th (m + 1) (.lst ds)
  | tup {m : Nat} {ds : List D} : ds.length ≤ 3 → (∀ d ∈ ds, Th m d) → Th (m + 1) (.tup ds)
def thA : Env → R D := sAs gList (sCons (sC .non) (sCons (sC (.bl true)) (sCons (sC (.bl false)) (sCons (sC (.int 0)) (sCons (sC (.int 1)) (sCons (sOp gSub (sC (.int 0)) (sC (.int 2))) (sCons (sC (.str "")) (sCons (sC (.str "a")) sNil))))))))
def thB : Env → R D := sAs gList (sCons (sC (.str "go")) (sCons (sC (.str "board")) (sCons (sC (.str "A")) (sCons (sC (.str "a\n")) (sCons (sAs gTupl sNil) (sCons (sAs gList sNil) (sCons (sAs gTupl (sCons (sC (.str "a")) (sCons (sC (.str "b")) (sCons (sC (.int 0)) sNil)))) (sCons (sAs gTupl (sCons (sC (.str "a")) (sCons (sC (.str "b")) sNil))) sNil))))))))
theorem th_start {d m : D} {x2 x3 x4 : Option D} {k : Env → RS} : sSeq (sSet 2 thA) (sSeq (sSet 2 (sOp gAddF (sV 2) thB)) k) [some d, some m, x2, x3, x4] = k [some d, some m, some (.lst leaves), x3, x4] := by
  have h1 : sSet 2 thA [some d, some m, x2, x3, x4] = .nx [some d, some m, some (.lst [.non, .bl true, .bl false, .int 0, .int 1, .int (-2), .str "", .str "a"]), x3, x4] := rfl
  have h2 : sSet 2 (sOp gAddF (sV 2) thB) [some d, some m, some (.lst [.non, .bl true, .bl false, .int 0, .int 1, .int (-2), .str "", .str "a"]), x3, x4] = .nx [some d, some m, some (.lst leaves), x3, x4] := rfl
  exact st_Seq h1 (st_Seq h2 rfl)
theorem th_pick {d m : D} {x3 x4 : Option D} (hd : IsDeal d) : ∃ (t d' : D), IsDeal d' ∧ (∀ n, Th n t) ∧ sRet (sCallO 0 f__law_pick (sCons (sV 2) sNil)) [some d, some m, some (.lst leaves), x3, x4] = .rt t [some d', some m, some (.lst leaves), x3, x4] := by
  obtain ⟨t, d', h1, h2, e⟩ := pick_ok hd (l := leaves) (by decide) (by decide)
  exact ⟨t, d', h1, fun n => .leaf h2, st_Ret (ev_CallO (ev_Cons (ev_V rfl) ev_Nil) rfl e)⟩
theorem st_rt {g g2 : Env → RS} {ρ ρ1 : Env} {t : D} (h : g ρ = .rt t ρ1) : sSeq g g2 ρ = .rt t ρ1 := by unfold sSeq; rw [h]; rfl
theorem allT_all {R : D → D → Prop} {Q : D → Prop} (h : ∀ x y, R x y → Q y) : ∀ {xs ys : List D}, AllT R xs ys → (∀ y ∈ ys, Q y) ∧ ys.length = xs.length
  | _, _, .nil => ⟨(fun _ h => nomatch h), rfl⟩
  | _, _, .cons r t => by
    obtain ⟨h1, h2⟩ := allT_all h t
    refine ⟨fun y hy => ?_, by rw [List.length_cons, List.length_cons, h2]⟩
    rcases List.mem_cons.mp hy with rfl | hy
    · exact h _ _ r
    · exact h1 y hy
theorem thing_rec : ∀ (n m : Nat) (d : D), m ≤ n → m ≤ 100 → IsDeal d → ∃ (t d' : D), IsDeal d' ∧ Th m t ∧ fR__law_thing n [d, .int (m : Int)] = .ok t [d', .int (m : Int)]
  | 0, m, d, hm, _, hd => by
    have m0 : m = 0 := by omega
    subst m0
    obtain ⟨t, d', h1, h2, e⟩ := th_pick (m := .int ((0 : Nat) : Int)) (x3 := none) (x4 := none) hd
    refine ⟨t, d', h1, h2 0, df_rt (pm := [(.op .deal), .sh]) (n := 3) (ds := [d, .int ((0 : Nat) : Int)]) (ρ := [some d', some (.int ((0 : Nat) : Int)), some (.lst leaves), none, none]) ?_⟩
    show g0__law_thing [some d, some (.int ((0 : Nat) : Int)), none, none, none] = _
    unfold g0__law_thing
    refine (th_start (d := d) (m := .int ((0 : Nat) : Int)) (x2 := none) (x3 := none) (x4 := none)).trans ?_
    exact st_pass (ev_AndF (ev_B (ev_Op (ev_V rfl) ev_C (show gGt (.int ((0 : Nat) : Int)) (.int 0) = some (.bl false) from rfl)))) e
  | n + 1, m, d, hm, hb, hd => by
    let M : Option D := some (.int (m : Int))
    have pick : ∀ d, IsDeal d → ∃ (t d' : D), IsDeal d' ∧ (∀ n, Th n t) ∧ sRet (sCallO 0 f__law_pick (sCons (sV 2) sNil)) [some d, M, some (.lst leaves), none, none] = .rt t [some d', M, some (.lst leaves), none, none] := fun d hd => th_pick hd
    suffices H : ∃ (t d' : D) (ρ' : Env), IsDeal d' ∧ Th m t ∧ g1__law_thing (fR__law_thing n) [some d, M, none, none, none] = .rt t (some d' :: M :: ρ') by
      obtain ⟨t, d', ρ', h1, h2, e⟩ := H
      exact ⟨t, d', h1, h2, df_rt (pm := [(.op .deal), .sh]) (n := 3) (ds := [d, .int (m : Int)]) e⟩
    unfold g1__law_thing
    have gt : gGt (.int (m : Int)) (.int 0) = some (.bl (decide ((0 : Int) < m))) := rfl
    by_cases m0 : m = 0
    · obtain ⟨t, d', h1, h2, e⟩ := pick d hd
      refine ⟨t, d', [some (.lst leaves), none, none], h1, h2 m, (th_start (d := d) (m := .int (m : Int)) (x2 := none) (x3 := none) (x4 := none)).trans ?_⟩
      rw [decide_eq_false (by omega)] at gt
      exact st_pass (ev_AndF (ev_B (ev_Op (ev_V rfl) ev_C gt))) e
    · rw [decide_eq_true (by omega)] at gt
      obtain ⟨z, d1, hd1, z0, z1, e1⟩ := draw_ok hd (m := 3) (by decide) (by decide)
      have qe := gEq_int z 0
      by_cases hz : z = 0
      · rw [decide_eq_true hz] at qe
        obtain ⟨y, d2, hd2, y0, y1, e2⟩ := draw_ok hd1 (m := 4) (by decide) (by decide)
        obtain ⟨k, rfl⟩ : ∃ k : Nat, y = k := ⟨y.toNat, by omega⟩
        obtain ⟨m', rfl⟩ : ∃ m', m = m' + 1 := ⟨m - 1, by omega⟩
        have sub : gSub (.int ((m' + 1 : Nat) : Int)) (.int 1) = some (.int (m' : Int)) := by
          show some (D.int (((m' + 1 : Nat) : Int) - 1)) = _
          congr 2
          omega
        let E : D → Env := fun d => [some d, M, some (.lst leaves), none, none]
        obtain ⟨ys, d3, e3, hd3, at3⟩ := lc_rel (tg := tName 4) (te := sCallO 0 (fR__law_thing n) (sCons (sOp gSub (sV 1) (sC (.int 1))) sNil)) (vs := [4]) (E := E) (fun _ y => Th m' y) (rng 0 k) d2 hd2 fun x hx d hd => by
          obtain ⟨t, d', h1, h2, e⟩ := thing_rec n m' d (by omega) (by omega) hd
          exact ⟨[some d, M, some (.lst leaves), none, some x], t, [some d', M, some (.lst leaves), none, some x], d', rfl, ev_CallO (ev_Cons (ev_Op (ev_V rfl) ev_C sub) ev_Nil) rfl e, rfl, h1, h2⟩
        obtain ⟨hall, hlen⟩ := allT_all (Q := Th m') (fun _ _ h => h) at3
        have hlen3 : ys.length ≤ 3 := by
          rw [hlen, rng_len]
          omega
        have rg : gRng [.int (k : Int)] = some (rng 0 k) := by
          have : ∀ j : Int, 0 ≤ j → j < 1000 → gRng [.int j] = some (rng 0 j.toNat) := fun j h0 h => by
            show (if -(2 ^ 62) ≤ j ∧ j < 2 ^ 62 then some (rng 0 j.toNat) else none) = _
            rw [if_pos ⟨by omega, by omega⟩]
          rw [this _ (by omega) (by omega), Int.toNat_natCast]
        have l3 : sLc (sItA gRng (sCons (sCallO 0 f__law_draw (sCons (sC (.int 4)) sNil)) sNil)) (tName 4) sTrue (sCallO 0 (fR__law_thing n) (sCons (sOp gSub (sV 1) (sC (.int 1))) sNil)) [4] (E d1) = .ok (.lst ys) (E d3) :=
          ev_Lc (ρ1 := E d2) (ev_ItA (ev_Cons (ev_CallO (ev_Cons ev_C ev_Nil) rfl e2) ev_Nil) rg) (by rw [rng_len]; exact line_big (by omega)) e3
        obtain ⟨v, d4, hd4, v0, v1, e4⟩ := draw_ok hd3 (m := 2) (by decide) (by decide)
        have qv := gEq_int v 0
        by_cases hv : v = 0
        · rw [decide_eq_true hv] at qv
          refine ⟨.lst ys, d4, [some (.lst leaves), some (.lst ys), none], hd4, .lst hlen3 hall, (th_start (d := d) (m := .int ((m' + 1 : Nat) : Int)) (x2 := none) (x3 := none) (x4 := none)).trans (st_rt (st_IfT (ev_AndT (ev_B (ev_Op (ev_V rfl) ev_C gt)) (ev_B (ev_Op (ev_CallO (ev_Cons ev_C ev_Nil) rfl e1) ev_C qe))) (st_Seq (st_Set l3) (st_Ret (ev_IfT (ev_B (ev_Op (ev_CallO (ev_Cons ev_C ev_Nil) rfl e4) ev_C qv)) (ev_V rfl))))))⟩
        · rw [decide_eq_false hv] at qv
          refine ⟨.tup ys, d4, [some (.lst leaves), some (.lst ys), none], hd4, .tup hlen3 hall, (th_start (d := d) (m := .int ((m' + 1 : Nat) : Int)) (x2 := none) (x3 := none) (x4 := none)).trans (st_rt (st_IfT (ev_AndT (ev_B (ev_Op (ev_V rfl) ev_C gt)) (ev_B (ev_Op (ev_CallO (ev_Cons ev_C ev_Nil) rfl e1) ev_C qe))) (st_Seq (st_Set l3) (st_Ret (ev_IfF (ev_B (ev_Op (ev_CallO (ev_Cons ev_C ev_Nil) rfl e4) ev_C qv)) (ev_As (ev_Cons (ev_V rfl) ev_Nil) rfl))))))⟩
      · rw [decide_eq_false hz] at qe
        obtain ⟨t, d', h1, h2, e⟩ := pick d1 hd1
        exact ⟨t, d', [some (.lst leaves), none, none], h1, h2 m, (th_start (d := d) (m := .int (m : Int)) (x2 := none) (x3 := none) (x4 := none)).trans (st_pass (ev_AndT (ev_B (ev_Op (ev_V rfl) ev_C gt)) (ev_B (ev_Op (ev_CallO (ev_Cons ev_C ev_Nil) rfl e1) ev_C qe))) e)⟩
theorem thing_ok {d : D} (hd : IsDeal d) {m : Nat} (hm : m ≤ 8) : ∃ (t d' : D), IsDeal d' ∧ Th m t ∧ f__law_thing [d, .int (m : Int)] = .ok t [d', .int (m : Int)] := thing_rec 8 m d hm (by omega) hd
end Pu
namespace Pu
open PySem L2
structure PyOk (dp ln : Nat) (p : PyData) : Prop where
  sh : p.showable = true
  nd : p.hasDict = false
  dp : p.depth ≤ dp
  len : p.shown.length ≤ ln
  ok : okS p.shown
  lay : p.canLay0 = true
theorem PyOk.mono {a b c d : Nat} {p : PyData} (h : PyOk a b p) (h1 : a ≤ c) (h2 : b ≤ d) : PyOk c d p := ⟨h.sh, h.nd, Nat.le_trans h.dp h1, Nat.le_trans h.len h2, h.ok, h.lay⟩
theorem textFrom_ok (m : Nat) : ∀ (ts : List Str) (k : Nat) (acc : Str), (∀ y ∈ ts, y.length ≤ m) → (∀ y ∈ ts, okS y) → okS acc → (textFrom k acc ts).length ≤ acc.length + ts.length * (m + 2) ∧ okS (textFrom k acc ts)
  | [], k, acc, _, _, h => ⟨by show acc.length ≤ acc.length + 0 * (m + 2); omega, h⟩
  | t :: ts, k, acc, hl, ho, h => by
    have hs : (Str.ofString (if k > 0 then ", " else "" : String)).length ≤ 2 ∧ okS (Str.ofString (if k > 0 then ", " else "" : String)) := by
      split
      · exact ⟨by decide +kernel, by decide +kernel⟩
      · exact ⟨by decide +kernel, by decide +kernel⟩
    obtain ⟨h1, h2⟩ := textFrom_ok m ts (k + 1) (acc ++ (if k > 0 then ", " else "" : String) ++ t) (fun y hy => hl y (List.mem_cons_of_mem _ hy)) (fun y hy => ho y (List.mem_cons_of_mem _ hy)) (okS_add (okS_add h hs.2) (ho t (List.mem_cons_self ..)))
    refine ⟨?_, h2⟩
    show (textFrom (k + 1) (acc ++ (if k > 0 then ", " else "" : String) ++ t) ts).length ≤ _
    rw [len_add, len_add] at h1
    have := hl t (List.mem_cons_self ..)
    have := hs.1
    rw [List.length_cons, Nat.succ_mul]
    omega
theorem list_text {ts : List Str} (m : Nat) (hl : ∀ y ∈ ts, y.length ≤ m) (ho : ∀ y ∈ ts, okS y) : (listText ts).length ≤ ts.length * (m + 2) + 3 ∧ okS (listText ts) := by
  obtain ⟨h1, h2⟩ := textFrom_ok m ts 0 "[" hl ho (by decide +kernel)
  unfold listText
  constructor
  · rw [len_add]
    have e1 : ("[" : Str).length = 1 := by decide +kernel
    have e2 : ("]" : Str).length = 1 := by decide +kernel
    omega
  · exact okS_add h2 (by decide +kernel)
section
variable {a b : Nat}
theorem all_sh : ∀ {ps : List PyData}, (∀ p ∈ ps, PyOk a b p) → PyData.showableAll ps = true ∧ PyData.hasDictAll ps = false ∧ PyData.depthAll ps ≤ a ∧ PyData.canLayAll0 ps = true
  | [], _ => ⟨rfl, rfl, Nat.zero_le _, rfl⟩
  | p :: ps, h => by
    obtain ⟨h1, h2, h3, h4⟩ := all_sh fun q hq => h q (List.mem_cons_of_mem _ hq)
    have P := h p (List.mem_cons_self ..)
    refine ⟨?_, ?_, ?_, ?_⟩
    · show (PyData.showable p && PyData.showableAll ps) = true
      rw [P.sh, h1]
      rfl
    · show (PyData.hasDict p || PyData.hasDictAll ps) = false
      rw [P.nd, h2]
      rfl
    · show max (PyData.depth p) (PyData.depthAll ps) ≤ a
      have := P.dp
      omega
    · show (PyData.canLay0 p && PyData.canLayAll0 ps) = true
      rw [P.lay, h4]
      rfl
theorem shown_all {ps : List PyData} (h : ∀ p ∈ ps, PyOk a b p) : (∀ y ∈ PyData.shownAll ps, y.length ≤ b) ∧ (∀ y ∈ PyData.shownAll ps, okS y) ∧ (PyData.shownAll ps).length = ps.length := by
  rw [shownAll_map]
  refine ⟨fun y hy => ?_, fun y hy => ?_, List.length_map _⟩
  · obtain ⟨p, hp, rfl⟩ := List.mem_map.mp hy
    exact (h p hp).len
  · obtain ⟨p, hp, rfl⟩ := List.mem_map.mp hy
    exact (h p hp).ok
theorem pyok_list {n : Nat} {ps : List PyData} (hn : ps.length ≤ n) (h : ∀ p ∈ ps, PyOk a b p) : PyOk (a + 1) (n * (b + 2) + 3) (.list ps) := by
  obtain ⟨h1, h2, h3, h4⟩ := all_sh h
  obtain ⟨s1, s2, s3⟩ := shown_all h
  obtain ⟨t1, t2⟩ := list_text b s1 s2
  refine ⟨h1, h2, ?_, ?_, t2, h4⟩
  · unfold PyData.depth
    omega
  · have : (PyData.shownAll ps).length * (b + 2) ≤ n * (b + 2) := Nat.mul_le_mul_right _ (by rw [s3]; exact hn)
    exact Nat.le_trans t1 (by omega)
theorem pyok_tuple {n : Nat} {ps : List PyData} (hn : ps.length ≤ n) (h : ∀ p ∈ ps, PyOk a b p) : PyOk (a + 1) (n * (b + 2) + 3) (.tuple ps) := by
  obtain ⟨h1, h2, h3, h4⟩ := all_sh h
  obtain ⟨s1, s2, s3⟩ := shown_all h
  obtain ⟨t1, t2⟩ := tup_text b s1 s2
  refine ⟨h1, h2, ?_, ?_, t2, h4⟩
  · unfold PyData.depth
    omega
  · have : (PyData.shownAll ps).length * (b + 2) ≤ n * (b + 2) := Nat.mul_le_mul_right _ (by rw [s3]; exact hn)
    exact Nat.le_trans t1 (by omega)
theorem PyOk.repr {p : PyData} (h : PyOk a b p) (ha : a ≤ 90) (hb : b ≤ line) : reprOk p = true := by
  unfold reprOk
  rw [h.sh, h.nd, decide_eq_true (Nat.le_trans h.dp ha), decide_eq_true (Nat.le_trans h.len hb)]
  rfl
end
theorem leaves_ok : (leaves.all fun d => match d.py with
    | some p => p.showable && !p.hasDict && decide (p.depth ≤ 1) && decide (p.shown.length ≤ 20) && PyData.strOk p.shown && p.canLay0
    | none => false) = true := by decide +kernel
def thL (m : Nat) : Nat := 20 * 5 ^ m
theorem pys_all {Q : PyData → Prop} : ∀ {ds : List D}, (∀ d ∈ ds, ∃ p, d.py = some p ∧ Q p) → ∃ ps, D.pys ds = some ps ∧ (∀ p ∈ ps, Q p) ∧ ps.length = ds.length
  | [], _ => ⟨[], rfl, (fun _ h => nomatch h), rfl⟩
  | d :: ds, h => by
    obtain ⟨p, h1, h2⟩ := h d (List.mem_cons_self ..)
    obtain ⟨ps, h3, h4, h5⟩ := pys_all fun e he => h e (List.mem_cons_of_mem _ he)
    refine ⟨p :: ps, ?_, fun q hq => ?_, by rw [List.length_cons, List.length_cons, h5]⟩
    · show (match D.py d, D.pys ds with | some p, some ps => some (p :: ps) | _, _ => none) = _
      rw [h1, h3]
    · rcases List.mem_cons.mp hq with rfl | hq
      · exact h2
      · exact h4 q hq
theorem th_py : ∀ {m : Nat} {d : D}, Th m d → ∃ p, d.py = some p ∧ PyOk (m + 1) (thL m) p := by
  intro m d h
  induction h with
  | @leaf m d h =>
    have := List.all_eq_true.mp leaves_ok d h
    split at this
    · rename_i p hp
      simp only [Bool.and_eq_true, Bool.not_eq_true', decide_eq_true_eq] at this
      obtain ⟨⟨⟨⟨⟨h1, h2⟩, h3⟩, h4⟩, h5⟩, h6⟩ := this
      have : 1 ≤ 5 ^ m := Nat.one_le_pow _ _ (by decide)
      exact ⟨p, hp, ⟨h1, h2, by omega, by unfold thL; omega, h5, h6⟩⟩
    · cases this
  | @lst m ds hn h ih =>
    obtain ⟨ps, h1, h2, h3⟩ := pys_all ih
    have : 1 ≤ 5 ^ m := Nat.one_le_pow _ _ (by decide)
    exact ⟨.list ps, by show (D.pys ds).map PyData.list = _; rw [h1]; rfl, (pyok_list (n := 3) (by rw [h3]; exact hn) h2).mono (Nat.le_refl _) (by unfold thL; rw [Nat.pow_succ]; omega)⟩
  | @tup m ds hn h ih =>
    obtain ⟨ps, h1, h2, h3⟩ := pys_all ih
    have : 1 ≤ 5 ^ m := Nat.one_le_pow _ _ (by decide)
    exact ⟨.tuple ps, by show (D.pys ds).map PyData.tuple = _; rw [h1]; rfl, (pyok_tuple (n := 3) (by rw [h3]; exact hn) h2).mono (Nat.le_refl _) (by unfold thL; rw [Nat.pow_succ]; omega)⟩
theorem repr_py {d : D} {p : PyData} {a b : Nat} (hd : d.py = some p) (h : PyOk a b p) (ha : a ≤ 90) (hb : b ≤ line) : gRepr d = some (.str p.shown) := by
  unfold gRepr
  rw [hd]
  show (if reprOk p then some (D.str p.shown) else none) = _
  rw [if_pos (h.repr ha hb)]
end Pu
namespace Pu
open PySem L2
theorem shp_tupS {xs : List Str} (h : ∀ x ∈ xs, okS x) : shp (.tuple (xs.map .str)) = true := by
  obtain ⟨h1, h2⟩ := lay_strs h
  show (PyData.canLayAll0 (xs.map .str) && decide (PyData.depth (.tuple (xs.map .str)) ≤ 64)) = true
  rw [h1]
  unfold PyData.depth
  rw [h2]
  rfl
theorem gNe_tupS {xs : List Str} (h : ∀ x ∈ xs, okS x) : gNe (.tup (xs.map .str)) (.tup (xs.map .str)) = some (.bl false) := by
  have e : (D.tup (xs.map .str)).py = some (.tuple (xs.map .str)) := by
    show (D.pys (xs.map .str)).map PyData.tuple = _
    rw [pys_str]
    rfl
  unfold gNe
  rw [e]
  show (if shp (.tuple (xs.map .str)) && shp (.tuple (xs.map .str)) then some (D.bl (!PyData.eqv (.tuple (xs.map .str)) (.tuple (xs.map .str)))) else none) = _
  rw [shp_tupS h]
  have : PyData.eqv (.tuple (xs.map .str)) (.tuple (xs.map .str)) = true := by
    unfold PyData.eqv
    exact eqv_strs xs
  rw [this]
  rfl
theorem gNe_two {a b : Str} (ha : okS a) (hb : okS b) : gNe (.tup [.str a, .str b]) (.tup [.str a, .str b]) = some (.bl false) := gNe_tupS (xs := [a, b]) fun x hx => by
  rcases List.mem_cons.mp hx with rfl | hx
  · exact ha
  · rcases List.mem_cons.mp hx with rfl | hx
    · exact hb
    · cases hx
theorem rng_int {j : Int} (h0 : 0 ≤ j) (h : j < 1000) : gRng [.int j] = some (rng 0 j.toNat) := by
  show (if -(2 ^ 62) ≤ j ∧ j < 2 ^ 62 then some (rng 0 j.toNat) else none) = _
  rw [if_pos ⟨by omega, by omega⟩]
end Pu
namespace Pu
open PySem L2
theorem ev_AndVF {ρ ρ1 : Env} {fa fb : Env → R D} (h : fa ρ = .ok (.bl false) ρ1) : sAndV fa fb ρ = .ok (.bl false) ρ1 := by unfold sAndV; rw [h]; rfl
def chkB (b : Bool) : RF → Bool
  | .ok (.bl c) _ => b == c
  | _ => false
theorem chkB_ok {b : Bool} {r : RF} (h : chkB b r = true) : ∃ o, r = .ok (.bl b) o := by
  unfold chkB at h
  split at h
  · rw [beq_iff_eq.mp h]; exact ⟨_, rfl⟩
  · cases h
end Pu
namespace Pu
open PySem L2
section
variable {ρ ρ1 ρ2 : Env} {a b d : D} {fa fb : Env → R D} {x : Exn}
theorem st_TryAsOk {ok : String → Bool} {gb : Env → RS} {gx : Exn → Env → RS} (h : gb ρ = .nx ρ1) : sTryAs ok gb gx ρ = .nx ρ1 := by unfold sTryAs; rw [h]
theorem st_TryAsEx {ok : String → Bool} {gb : Env → RS} {gx : Exn → Env → RS} {r : RS} (h : gb ρ = .ex x ρ1) (hk : ok x.c = true) (h2 : gx x ρ1 = r) : sTryAs ok gb gx ρ = r := by
  unfold sTryAs
  rw [h]
  show (if ok x.c = true then gx x ρ1 else .ex x ρ1) = r
  rw [if_pos hk]
  exact h2
end
end Pu
namespace Pu
open PySem L2
def lossD5 (rs : List Row) (a b : Str) : D := (dLook (kvR rs) (tpr (a, b))).getD .non
theorem step_loss5 {j : J} (S : Stg j.1 j.2.1 j.2.2) {a b : Str} (ha : ∃ o, f_is_name [.str a] = .ok (.bl true) o) (hb : ∃ o, f_is_name [.str b] = .ok (.bl true) o) : ∃ o, f_Step_loss [oj j, .str a, .str b] = .ok (lossD5 j.2.2 a b) o := by
  rw [oj_is S]
  obtain ⟨o1, h1⟩ := ha
  obtain ⟨o2, h2⟩ := hb
  let ls : D := .dtt (kvR j.2.2)
  let O : D := stepO j.1 j.2.1 j.2.2 ls (leadD j.2.1 j.2.2)
  let e0 : Env := [some O, some (.str a), some (.str b)]
  have fl : gFld "losses" O = some ls := fld_losses
  have gi : gIn false (.tup [.str a, .str b]) ls = some (.bl (dLook (kvR j.2.2) (tpr (a, b))).isSome) := rfl
  refine ⟨_, df_rt (ρ := e0) ?_⟩
  show g_Step_loss e0 = _
  unfold g_Step_loss
  refine st_pass (ρ1 := e0) (ev_OrF (ev_NotT (ev_B (ev_Call (ev_Cons (ev_V rfl) ev_Nil) h1))) (ev_NotT (ev_B (ev_Call (ev_Cons (ev_V rfl) ev_Nil) h2)))) (st_Ret ?_)
  unfold lossD5
  cases hl : dLook (kvR j.2.2) (tpr (a, b)) with
  | none =>
    rw [hl] at gi
    exact ev_IfF (ev_B (ev_Op (ev_As (ev_Cons (ev_V rfl) (ev_Cons (ev_V rfl) ev_Nil)) rfl) (ev_Un (ev_V rfl) fl) gi)) ev_C
  | some d =>
    rw [hl] at gi
    have gx : gIx ls (.tup [.str a, .str b]) = some d := hl
    exact ev_IfT (ev_B (ev_Op (ev_As (ev_Cons (ev_V rfl) (ev_Cons (ev_V rfl) ev_Nil)) rfl) (ev_Un (ev_V rfl) fl) gi)) (ev_Op (ev_Un (ev_V rfl) fl) (ev_As (ev_Cons (ev_V rfl) (ev_Cons (ev_V rfl) ev_Nil)) rfl) gx)
section
variable {j : J} (S : Stg j.1 j.2.1 j.2.2)
include S
theorem loss_a {x y : D} (hx : ∃ o, f_is_name [x] = .ok (.bl false) o) : ∃ o, f_Step_loss [oj j, x, y] = .ok .non o := by
  obtain ⟨o, h⟩ := hx
  let e0 : Env := [some (oj j), some x, some y]
  refine ⟨_, df_rt (ρ := e0) ?_⟩
  show g_Step_loss e0 = _
  unfold g_Step_loss
  exact st_rt (st_IfT (ev_OrT (ev_NotF (ev_B (ev_Call (ev_Cons (ev_V rfl) ev_Nil) h)))) (st_Ret ev_C))
theorem loss_b {x y : D} (hx : ∃ o, f_is_name [x] = .ok (.bl true) o) (hy : ∃ o, f_is_name [y] = .ok (.bl false) o) : ∃ o, f_Step_loss [oj j, x, y] = .ok .non o := by
  obtain ⟨o, h⟩ := hx
  obtain ⟨o2, h2⟩ := hy
  let e0 : Env := [some (oj j), some x, some y]
  refine ⟨_, df_rt (ρ := e0) ?_⟩
  show g_Step_loss e0 = _
  unfold g_Step_loss
  exact st_rt (st_IfT (ev_OrF (ev_NotT (ev_B (ev_Call (ev_Cons (ev_V rfl) ev_Nil) h))) (ev_NotF (ev_B (ev_Call (ev_Cons (ev_V rfl) ev_Nil) h2)))) (st_Ret ev_C))
theorem touch_no {x : D} (hx : ∃ o, f_is_name [x] = .ok (.bl false) o) : ∃ o, f_Step_is_touched [oj j, x] = .ok (.bl false) o := by
  obtain ⟨o, h⟩ := hx
  refine ⟨_, df_rt (ρ := [some (oj j), some x]) ?_⟩
  show g_Step_is_touched [some (oj j), some x] = _
  unfold g_Step_is_touched
  exact st_Ret (ev_AndVF (ev_Call (ev_Cons (ev_V rfl) ev_Nil) h))
theorem unwashed {x : D} (hx : ∃ o, f_Step_is_touched [oj j, x] = .ok (.bl false) o) : ∃ o, f_Step_washed [oj j, x] = .ex ⟨"NoPlace", [("name", x)]⟩ o := by
  let e0 : Env := [some (oj j), some x, none]
  obtain ⟨o1, h1⟩ := hx
  have p1 : sNot (sB (sMeth "Step" "is_touched" [] f_Step_is_touched (sV 0) (sCons (sV 1) sNil))) e0 = .ok true e0 :=
    ev_NotF (ev_B (ev_Meth (ds := [x]) (ev_V rfl) (isC_step S "is_touched" (by decide +kernel)) (ev_Cons (ev_V rfl) ev_Nil) h1))
  refine ⟨_, df_ex (ρ := e0) ?_⟩
  show g_Step_washed e0 = _
  unfold g_Step_washed
  exact ex_If p1 (ex_Raise (ev_V rfl))
theorem gStr_oj : gStrO "Step" f_Step___str__ (oj j) = some (.str (stepT j.1 j.2.1 j.2.2)) := by
  rw [oj_is S]
  exact gStr_step S _ _
theorem heard5_told {x : Str} (hx : x ∈ NM) (hm : x ∈ j.2.1) : ∃ o, f__law_heard [oj j, .str x] = .ok (.tup [.str "told", .str (stepT j.1 j.2.1 (wash j x).2.2)]) o := by
  obtain ⟨o, h⟩ := step_washed S hx hm
  let e0 : Env := [some (oj j), some (.str x), some .non, none]
  let r : D := .tup [.str "told", .str (stepT j.1 j.2.1 (wash j x).2.2)]
  have gs : g1 (gStrO "Step" f_Step___str__) [oj (wash j x)] = some (.str (stepT j.1 j.2.1 (wash j x).2.2)) := gStr_oj (j := wash j x) (S.wash x)
  refine ⟨_, df_rt (pm := [.sh, .sh]) (n := 2) (ds := [oj j, .str x]) (ρ := [some (oj j), some (.str x), some r, none]) ?_⟩
  show g__law_heard [some (oj j), some (.str x), none, none] = _
  unfold g__law_heard
  exact st_Seq (ρ1 := e0) (st_Set ev_C) (st_Seq (ρ1 := [some (oj j), some (.str x), some r, none]) (st_TryAsOk (st_Set (ev_As (ev_Cons ev_C (ev_Cons (ev_As (ev_Cons (ev_Meth (ds := [.str x]) (ev_V rfl) (isC_step S "washed" (by decide +kernel)) (ev_Cons (ev_V rfl) ev_Nil) h) ev_Nil) gs) ev_Nil)) rfl))) (st_Ret (ev_V rfl)))
theorem heard5_none {x : D} {s : Str} (hx : ∃ o, f_Step_is_touched [oj j, x] = .ok (.bl false) o) (hr : gRepr x = some (.str s)) : ∃ o, f__law_heard [oj j, x] = .ok (.tup [.str "none", .str s]) o := by
  obtain ⟨o, h⟩ := unwashed S hx
  have a : okx_NoPlace "NoPlace" = true := by decide +kernel
  let e0 : Env := [some (oj j), some x, some .non, none]
  let r : D := .tup [.str "none", .str s]
  have hr : g1 gRepr [x] = some (.str s) := hr
  refine ⟨_, df_rt (pm := [.sh, .sh]) (n := 2) (ds := [oj j, x]) (ρ := [some (oj j), some x, some r, none]) ?_⟩
  show g__law_heard [some (oj j), some x, none, none] = _
  unfold g__law_heard
  exact st_Seq (ρ1 := e0) (st_Set ev_C) (st_Seq (ρ1 := [some (oj j), some x, some r, none]) (st_TryAsEx (x := ⟨"NoPlace", [("name", x)]⟩) (ρ1 := e0) (ex_Set (ex_As (ex_ConsB ev_C (ex_ConsA (ex_As (ex_ConsA (ex_Meth (ds := [x]) (ev_V rfl) (isC_step S "washed" (by decide +kernel)) (ev_Cons (ev_V rfl) ev_Nil) h))))))) a (st_Set (ev_As (ev_Cons ev_C (ev_Cons (ev_As (ev_Cons (ev_Fld rfl) ev_Nil) hr) ev_Nil)) rfl))) (st_Ret (ev_V rfl)))
end
end Pu
namespace Pu
open PySem L2
theorem at_nat {α : Type} (l : List α) (n : Nat) : L2.atI l (n : Int) = l[n]? := by
  unfold L2.atI L2.ixN
  rw [if_pos (by omega)]
  by_cases h : (n : Int) < l.length
  · rw [if_pos h]
    show l[(n : Int).toNat]? = _
    rw [Int.toNat_natCast]
  · rw [if_neg h]
    show none = _
    rw [List.getElem?_eq_none (by omega)]
theorem ix_lst {l : List D} {n : Nat} {d : D} (h : l[n]? = some d) : gIx (.lst l) (.int (n : Int)) = some d := (at_nat l n).trans h
theorem ix_tup {l : List D} {n : Nat} {d : D} (h : l[n]? = some d) : gIx (.tup l) (.int (n : Int)) = some d := (at_nat l n).trans h
theorem for_ix {α : Type} {tg : D → Env → Option Env} {g : Env → RS} {f : α → D} {I : Nat → Env → Prop} : ∀ (xs : List α) (n : Nat) (ρ : Env) (_ : I n ρ) (_ : ∀ (k : Nat) (hk : k < xs.length) (ρ : Env), I (n + k) ρ → ∃ ρ1, tg (f xs[k]) ρ = some ρ1 ∧ ∃ ρ2, (g ρ1 = .nx ρ2 ∨ g ρ1 = .ct ρ2) ∧ I (n + (k + 1)) ρ2), ∃ ρ', sFor tg g (xs.map f) ρ = .nx ρ' ∧ I (n + xs.length) ρ'
  | [], n, ρ, h, _ => ⟨ρ, rfl, h⟩
  | x :: xs, n, ρ, h, H => by
    obtain ⟨ρ1, h1, ρ2, h2, h3⟩ := H 0 (by simp) ρ h
    obtain ⟨ρ', h4, h5⟩ := for_ix (tg := tg) (g := g) (f := f) (I := I) xs (n + 1) ρ2 h3 fun k hk ρ hI => by
      have := H (k + 1) (by simpa using hk) ρ (by rw [show n + (k + 1) = n + 1 + k by omega]; exact hI)
      obtain ⟨ρ1, a, ρ2, b, c⟩ := this
      refine ⟨ρ1, by simpa using a, ρ2, b, ?_⟩
      rw [show n + 1 + (k + 1) = n + (k + 1 + 1) by omega]
      exact c
    refine ⟨ρ', ?_, by rw [List.length_cons, show n + (xs.length + 1) = n + 1 + xs.length by omega]; exact h5⟩
    have h1' : tg (f x) ρ = some ρ1 := h1
    show sFor tg g (f x :: xs.map f) ρ = _
    unfold sFor
    rw [h1']
    show (g ρ1).loop _ = _
    rcases h2 with h2 | h2 <;> rw [h2] <;> exact h4
theorem for_ix0 {α : Type} {tg : D → Env → Option Env} {g : Env → RS} {f : α → D} (I : Nat → Env → Prop) (xs : List α) {ρ : Env} (h : I 0 ρ) (H : ∀ (k : Nat) (hk : k < xs.length) (ρ : Env), I k ρ → ∃ ρ1, tg (f xs[k]) ρ = some ρ1 ∧ ∃ ρ2, (g ρ1 = .nx ρ2 ∨ g ρ1 = .ct ρ2) ∧ I (k + 1) ρ2) : ∃ ρ', sFor tg g (xs.map f) ρ = .nx ρ' ∧ I xs.length ρ' := by
  obtain ⟨ρ', a, b⟩ := for_ix (tg := tg) (g := g) (f := f) (I := I) xs 0 ρ h fun k hk ρ hI => by
    rw [Nat.zero_add] at hI
    rw [Nat.zero_add]
    exact H k hk ρ hI
  rw [Nat.zero_add] at b
  exact ⟨ρ', a, b⟩
theorem for_rng {tg : D → Env → Option Env} {g : Env → RS} (I : Nat → Env → Prop) (n : Nat) {ρ : Env} (h : I 0 ρ) (H : ∀ (k : Nat) (_ : k < n) (ρ : Env), I k ρ → ∃ ρ1, tg (.int (k : Int)) ρ = some ρ1 ∧ ∃ ρ2, (g ρ1 = .nx ρ2 ∨ g ρ1 = .ct ρ2) ∧ I (k + 1) ρ2) : ∃ ρ', sFor tg g (rng 0 n) ρ = .nx ρ' ∧ I n ρ' := by
  have e : rng 0 n = (List.range n).map fun k : Nat => D.int (k : Int) := by
    unfold rng
    refine List.map_congr_left fun k _ => ?_
    congr 1
    omega
  obtain ⟨ρ', a, b⟩ := for_ix0 (tg := tg) (g := g) (f := fun k : Nat => D.int (k : Int)) I (List.range n) h fun k hk ρ hI => by
    rw [List.length_range] at hk
    rw [List.getElem_range]
    exact H k hk ρ hI
  rw [List.length_range] at b
  rw [e]
  exact ⟨ρ', a, b⟩
end Pu
namespace Pu
open PySem L2
theorem deal_start {x : D} {ns : List Int} (hx : x = .lst (ns.map .int) ∨ x = .klt ns) (hl : ns.length ≤ 63) (b : Nat) : ∃ d0, IsDeal d0 ∧ f__law_deal [x, .int (b : Int)] = .ok d0 [x, .int (b : Int)] := by
  have hs : scr x = some ns := by
    rcases hx with rfl | rfl
    · exact scr_lst ns
    · rfl
  refine ⟨dealD (dealZ ns b).1 (dealZ ns b).2, ⟨_, _, rfl, ?_⟩, f_deal_eq hs hl⟩
  unfold dealZ cellsZ cutL
  simp only [List.length_reverse]
  refine Nat.le_trans (List.length_filter_le _ _) ?_
  simp only [List.length_map, List.length_take, List.length_drop]
  omega
end Pu
namespace Pu
open PySem L2
abbrev EQ05 (x t d mo st ma co f s c r du cl sp th od mk : Option D) : Env := [x, t, d, mo, st, ma, co, f, s, c, r, du, cl, sp, th, od, mk]
theorem loop5 {tg : D → Env → Option Env} {g : Env → RS} (E : Option D → Env) (xs : List D) (y : Option D) (h : ∀ x ∈ xs, ∀ y, tg x (E y) = some (E (some x)) ∧ g (E (some x)) = .nx (E (some x))) : ∃ y', sFor tg g xs (E y) = .nx (E y') :=
  ⟨_, for_fold E (fun _ x => some x) xs y fun x hx s => ⟨E (some x), (h x hx s).1, .inl (h x hx s).2⟩⟩
theorem ev_Get1 {fa fk : Env → R D} {ρ ρ1 ρ2 : Env} {a k : D} {o : Option D} (ha : fa ρ = .ok a ρ1) (hd : isDt a = true) (hk : fk ρ1 = .ok k ρ2) (hg : dGet? a k = some o) : sGet1 fa fk ρ = .ok (o.getD .non) ρ2 := by
  unfold sGet1
  rw [ha]
  show (if isDt a then (fk ρ1).bind fun k ρ2 => match dGet? a k with | some o => R.ok (o.getD .non) ρ2 | none => .bad else .bad) = _
  rw [if_pos hd, hk]
  show (match dGet? a k with | some o => R.ok (o.getD .non) ρ2 | none => .bad) = _
  rw [hg]
def SP6 : List Str := ["pan", "board", "bowl", "dish", "a", "zzzzzz"]
theorem sp6_nm {x : Str} (h : x ∈ SP6) : x ∈ NM := of_decide_eq_true (List.all_eq_true.mp (show (SP6.all fun x => decide (x ∈ NM)) = true by decide +kernel) x h)
theorem ne5 {w : Str} (h : okS w) : gNe (.str w) (.str w) = some (.bl false) := by rw [gNe_str h h]; simp
theorem ne5_tup {a b : Str} (ha : okS a) (hb : okS b) : gNe (.tup [.str a, .str b]) (.tup [.str a, .str b]) = some (.bl false) := gNe_two ha hb
theorem repr5_nm_all : (NM.all fun x => reprOk (.str x)) = true := by decide +kernel
theorem repr5_nm {x : Str} (h : x ∈ NM) : gRepr (.str x) = some (.str (PyData.shown (.str x))) ∧ okS (PyData.shown (.str x)) := by
  refine ⟨?_, (nm_repr h).2⟩
  show (if reprOk (.str x) then some (D.str (PyData.shown (.str x))) else none) = _
  rw [if_pos (List.all_eq_true.mp repr5_nm_all x h)]
theorem repr5_int {c : Int} (h0 : 0 ≤ c) (h3 : c ≤ 3) : ∃ s, gRepr (.int c) = some (.str s) ∧ okS s := by
  have k : ∀ n : Int, reprOk (.int n) = true → okS (PyData.shown (.int n)) → ∃ s, gRepr (.int n) = some (.str s) ∧ okS s := fun n h1 h2 => by
    refine ⟨PyData.shown (.int n), ?_, h2⟩
    show (if reprOk (.int n) then some (D.str (PyData.shown (.int n))) else none) = _
    rw [if_pos h1]
  rcases (show c = 0 ∨ c = 1 ∨ c = 2 ∨ c = 3 by omega) with rfl | rfl | rfl | rfl
  · exact k 0 (by decide +kernel) (by decide +kernel)
  · exact k 1 (by decide +kernel) (by decide +kernel)
  · exact k 2 (by decide +kernel) (by decide +kernel)
  · exact k 3 (by decide +kernel) (by decide +kernel)
section
variable {j : J} (S : Stg j.1 j.2.1 j.2.2)
include S
theorem loss5_repr (a b : Str) : ∃ s, gRepr (lossD5 j.2.2 a b) = some (.str s) ∧ okS s := by
  unfold lossD5
  cases h : dLook (kvR j.2.2) (tpr (a, b)) with
  | none => exact ⟨"None", rfl, by decide +kernel⟩
  | some d =>
    unfold dLook at h
    cases hf : (kvR j.2.2).find? (fun e => hkEq e.1 (tpr (a, b))) with
    | none => rw [hf] at h; cases h
    | some e =>
      rw [hf] at h
      cases h
      have hm := List.mem_of_find?_eq_some hf
      unfold kvR at hm
      obtain ⟨r, hr, rfl⟩ := List.mem_map.mp hm
      have ro := S.hrs r hr
      exact repr5_int ro.lo ro.hi
theorem costs5 {X T De Mo St Ma Re Du Cl Sp Th Od Mk f s c : Option D} : ∃ f' s' c', sFor (tTup 3 (Pu.tCons (tName 7) (Pu.tCons (tName 8) (Pu.tCons (tName 9) Pu.tNil)))) (sPut 6 (sAs gTupl (sCons (sV 7) (sCons (sV 8) sNil))) (sV 9)) (j.2.2.map tRow) (EQ05 X T De Mo St Ma (some (.dtt [])) f s c Re Du Cl Sp Th Od Mk) = .nx (EQ05 X T De Mo St Ma (some (.dtt (kvR j.2.2))) f' s' c' Re Du Cl Sp Th Od Mk) := by
  obtain ⟨ρ', lp, f', s', c', rfl⟩ := for_ix0 (tg := (tTup 3 (Pu.tCons (tName 7) (Pu.tCons (tName 8) (Pu.tCons (tName 9) Pu.tNil))))) (g := (sPut 6 (sAs gTupl (sCons (sV 7) (sCons (sV 8) sNil))) (sV 9))) (f := tRow) (fun k ρ => ∃ a b e, ρ = EQ05 X T De Mo St Ma (some (.dtt (kvR (j.2.2.take k)))) a b e Re Du Cl Sp Th Od Mk) j.2.2 (ρ := EQ05 X T De Mo St Ma (some (.dtt [])) f s c Re Du Cl Sp Th Od Mk) ⟨f, s, c, rfl⟩ fun k hk ρ ⟨a, b, e, hρ⟩ => by
    subst hρ
    have tk : j.2.2.take (k + 1) = j.2.2.take k ++ [j.2.2[k]] := by
      rw [List.take_add_one, List.getElem?_eq_getElem hk]
      rfl
    have hr : j.2.2[k] ∈ j.2.2 := List.getElem_mem hk
    have nd : key2 j.2.2[k] ∉ (j.2.2.take k).map key2 := fun h => by
      have q : (j.2.2.take (k + 1)).map key2 = (j.2.2.take k).map key2 ++ [key2 j.2.2[k]] := by rw [tk, List.map_append]; rfl
      have n1 : (j.2.2.map key2).Nodup := S.rn
      have n2 : ((j.2.2.take (k + 1)).map key2).Nodup := n1.sublist (List.Sublist.map _ (List.take_sublist _ _))
      rw [q, List.nodup_append] at n2
      exact n2.2.2 _ h _ (List.mem_singleton.mpr rfl) rfl
    generalize j.2.2[k] = r at hr nd tk
    have pu : putD (kvR (j.2.2.take k)) (tpr (key2 r)) (.int r.2.2) = kvR (j.2.2.take (k + 1)) := by
      rw [putD_fresh, tk]
      · unfold kvR
        rw [List.map_append]
        rfl
      · intro e he
        unfold kvR at he
        obtain ⟨q, hq, rfl⟩ := List.mem_map.mp he
        show hkEq (tpr (key2 q)) (tpr (key2 r)) = false
        rw [hk_tpr, decide_eq_false]
        exact fun z => nd (z ▸ List.mem_map_of_mem hq)
    have fw := S.few
    have dp : dPut (.dtt (kvR (j.2.2.take k))) (tpr (key2 r)) (.int r.2.2) = some (.dtt (kvR (j.2.2.take (k + 1)))) := by
      rw [← pu]
      show (if (tpr (key2 r)).tkey.isSome ∧ (kvR (j.2.2.take k)).length < line then some (D.dtt (putD (kvR (j.2.2.take k)) (tpr (key2 r)) (.int r.2.2))) else none) = _
      rw [if_pos]
      refine ⟨rfl, ?_⟩
      unfold kvR
      rw [List.length_map, List.length_take]
      exact Nat.lt_of_le_of_lt (show _ ≤ 10 by omega) (by decide)
    refine ⟨EQ05 X T De Mo St Ma (some (.dtt (kvR (j.2.2.take k)))) (some (.str r.1)) (some (.str r.2.1)) (some (.int r.2.2)) Re Du Cl Sp Th Od Mk, rfl, EQ05 X T De Mo St Ma (some (.dtt (kvR (j.2.2.take (k + 1))))) (some (.str r.1)) (some (.str r.2.1)) (some (.int r.2.2)) Re Du Cl Sp Th Od Mk, .inl ?_, _, _, _, rfl⟩
    have st_PutT : ∀ {ρ : Env} {fk fv : Env → R D} {k v d d2 : D}, fv ρ = .ok v ρ → fk ρ = .ok k ρ → ρ[6]? = some (some d) → dPut d k v = some d2 → sPut 6 fk fv ρ = .nx (ρ.set 6 (some d2)) := fun {ρ fk fv k v d d2} hv hk hj hp => by
      unfold sPut
      rw [hv]
      show (fk ρ).bindS _ = _
      rw [hk]
      show (match ρ[6]? with | some (some d) => _ | _ => RS.bad) = _
      rw [hj]
      show (match dPut d k v with | some d2 => RS.nx (ρ.set 6 (some d2)) | none => .bad) = _
      rw [hp]
    exact st_PutT (ρ := EQ05 X T De Mo St Ma (some (.dtt (kvR (j.2.2.take k)))) (some (.str r.1)) (some (.str r.2.1)) (some (.int r.2.2)) Re Du Cl Sp Th Od Mk) (k := tpr (key2 r)) (ev_V rfl) (ev_As (ev_Cons (ev_V rfl) (ev_Cons (ev_V rfl) ev_Nil)) rfl) rfl dp
  rw [List.take_length] at lp
  exact ⟨f', s', c', lp⟩
abbrev sp6D : List D := SP6.map .str
theorem names5 {X T De Mo St Ma f s c Re Du Cl Sp Th Od : Option D} (hSt : St = some (stgD j.1 j.2.1 j.2.2)) (hMa : Ma = some (oj j)) : ∃ f' s' r' du', (sForS (sIt D.seq (sAs gList (sCons (sC (.str "pan")) (sCons (sC (.str "board")) (sCons (sC (.str "bowl")) (sCons (sC (.str "dish")) (sCons (sC (.str "a")) (sCons (sC (.str "zzzzzz")) sNil)))))))) (tName 7) (sSeq (sForS (sIt D.seq (sAs gList (sCons (sC (.str "pan")) (sCons (sC (.str "board")) (sCons (sC (.str "bowl")) (sCons (sC (.str "dish")) (sCons (sC (.str "a")) (sCons (sC (.str "zzzzzz")) sNil)))))))) (tName 8) (sIfS (sB (sOp gNe (sAs (g1 gRepr) (sCons (sMeth "Step" "loss" [] f_Step_loss (sV 5) (sCons (sV 7) (sCons (sV 8) sNil))) sNil)) (sAs (g1 gRepr) (sCons (sGet1 (sV 6) (sAs gTupl (sCons (sV 7) (sCons (sV 8) sNil)))) sNil)))) (sRet (sC (.bl false))) sNx)) (sSeq (sSet 10 (sLc (sIt D.seq (sOp gIx (sV 4) (sC (.int 2)))) (tName 16) (sB (sOp gNe (sOp gIx (sV 16) (sC (.int 0))) (sV 7))) (sV 16) [16])) (sSeq (sSet 11 (sAs gTupl (sCons (sC (.str "none")) (sCons (sAs (g1 gRepr) (sCons (sV 7) sNil)) sNil)))) (sSeq (sIfS (sB (sOp (gIn false) (sV 7) (sOp gIx (sV 4) (sC (.int 1))))) (sSet 11 (sAs gTupl (sCons (sC (.str "told")) (sCons (sCall f__law_stage_text (sCons (sAs gTupl (sCons (sOp gIx (sV 4) (sC (.int 0))) (sCons (sOp gIx (sV 4) (sC (.int 1))) (sCons (sV 10) sNil)))) sNil)) sNil)))) sNx) (sIfS (sB (sOp gNe (sCall f__law_heard (sCons (sV 5) (sCons (sV 7) sNil))) (sV 11))) (sRet (sC (.bl false))) sNx)))))) (EQ05 X T De Mo St Ma (some (.dtt (kvR j.2.2))) f s c Re Du Cl Sp Th Od none) = .nx (EQ05 X T De Mo St Ma (some (.dtt (kvR j.2.2))) f' s' c r' du' Cl Sp Th Od none) := by
  subst hSt hMa
  let Co : Option D := some (.dtt (kvR j.2.2))
  let St : Option D := some (stgD j.1 j.2.1 j.2.2)
  let Ma : Option D := some (oj j)
  let E : Option D → Option D → Option D → Option D → Env := fun f s r du => EQ05 X T De Mo St Ma Co f s c r du Cl Sp Th Od none
  have six : sAs gList (sCons (sC (.str "pan")) (sCons (sC (.str "board")) (sCons (sC (.str "bowl")) (sCons (sC (.str "dish")) (sCons (sC (.str "a")) (sCons (sC (.str "zzzzzz")) sNil)))))) = fun ρ => R.ok (.lst sp6D) ρ := rfl
  have i0 : gIx (stgD j.1 j.2.1 j.2.2) (.int 0) = some (.str j.1) := ix_tup (n := 0) rfl
  have i1 : gIx (stgD j.1 j.2.1 j.2.2) (.int 1) = some (.lst (j.2.1.map .str)) := ix_tup (n := 1) rfl
  have i2 : gIx (stgD j.1 j.2.1 j.2.2) (.int 2) = some (.lst (j.2.2.map tRow)) := ix_tup (n := 2) rfl
  have fw := S.few
  obtain ⟨ρ', lp, f', s', r', du', rfl⟩ := for_ix0 (tg := tName 7) (g := (sSeq (sForS (sIt D.seq (sAs gList (sCons (sC (.str "pan")) (sCons (sC (.str "board")) (sCons (sC (.str "bowl")) (sCons (sC (.str "dish")) (sCons (sC (.str "a")) (sCons (sC (.str "zzzzzz")) sNil)))))))) (tName 8) (sIfS (sB (sOp gNe (sAs (g1 gRepr) (sCons (sMeth "Step" "loss" [] f_Step_loss (sV 5) (sCons (sV 7) (sCons (sV 8) sNil))) sNil)) (sAs (g1 gRepr) (sCons (sGet1 (sV 6) (sAs gTupl (sCons (sV 7) (sCons (sV 8) sNil)))) sNil)))) (sRet (sC (.bl false))) sNx)) (sSeq (sSet 10 (sLc (sIt D.seq (sOp gIx (sV 4) (sC (.int 2)))) (tName 16) (sB (sOp gNe (sOp gIx (sV 16) (sC (.int 0))) (sV 7))) (sV 16) [16])) (sSeq (sSet 11 (sAs gTupl (sCons (sC (.str "none")) (sCons (sAs (g1 gRepr) (sCons (sV 7) sNil)) sNil)))) (sSeq (sIfS (sB (sOp (gIn false) (sV 7) (sOp gIx (sV 4) (sC (.int 1))))) (sSet 11 (sAs gTupl (sCons (sC (.str "told")) (sCons (sCall f__law_stage_text (sCons (sAs gTupl (sCons (sOp gIx (sV 4) (sC (.int 0))) (sCons (sOp gIx (sV 4) (sC (.int 1))) (sCons (sV 10) sNil)))) sNil)) sNil)))) sNx) (sIfS (sB (sOp gNe (sCall f__law_heard (sCons (sV 5) (sCons (sV 7) sNil))) (sV 11))) (sRet (sC (.bl false))) sNx)))))) (f := fun x : Str => D.str x) (fun _ ρ => ∃ f s r du, ρ = E f s r du) SP6 (ρ := E f s Re Du) ⟨f, s, Re, Du, rfl⟩ fun k hk ρ ⟨f, s, r, du, hρ⟩ => by
    subst hρ
    have hm : SP6[k] ∈ SP6 := List.getElem_mem hk
    generalize SP6[k] = a at hm
    have aN := sp6_nm hm
    obtain ⟨s2, l2⟩ := loop5 (tg := tName 8) (g := (sIfS (sB (sOp gNe (sAs (g1 gRepr) (sCons (sMeth "Step" "loss" [] f_Step_loss (sV 5) (sCons (sV 7) (sCons (sV 8) sNil))) sNil)) (sAs (g1 gRepr) (sCons (sGet1 (sV 6) (sAs gTupl (sCons (sV 7) (sCons (sV 8) sNil)))) sNil)))) (sRet (sC (.bl false))) sNx)) (fun y => E (some (.str a)) y r du) sp6D s fun x hx y => by
      obtain ⟨b, hb, rfl⟩ := List.mem_map.mp hx
      have bN := sp6_nm hb
      obtain ⟨o, h⟩ := step_loss5 S (is_name_nm aN) (is_name_nm bN)
      obtain ⟨t, ht, ot⟩ := loss5_repr S a b
      have ht : g1 gRepr [lossD5 j.2.2 a b] = some (.str t) := ht
      have gg : sGet1 (sV 6) (sAs gTupl (sCons (sV 7) (sCons (sV 8) sNil))) (E (some (.str a)) (some (.str b)) r du) = .ok (lossD5 j.2.2 a b) (E (some (.str a)) (some (.str b)) r du) := ev_Get1 (a := .dtt (kvR j.2.2)) (k := tpr (a, b)) (o := dLook (kvR j.2.2) (tpr (a, b))) (ev_V rfl) rfl (ev_As (ev_Cons (ev_V rfl) (ev_Cons (ev_V rfl) ev_Nil)) rfl) rfl
      exact ⟨rfl, st_IfF (ev_B (ev_Op (ev_As (ev_Cons (ev_Meth (ds := [.str a, .str b]) (ev_V rfl) (isC_step S "loss" (by decide +kernel)) (ev_Cons (ev_V rfl) (ev_Cons (ev_V rfl) ev_Nil)) h) ev_Nil) ht) (ev_As (ev_Cons gg ev_Nil) ht) (ne5 ot))) rfl⟩
    let ρ1 : Env := E (some (.str a)) s r du
    let ρ2 : Env := E (some (.str a)) s2 r du
    have s0 : (sForS (sIt D.seq (sAs gList (sCons (sC (.str "pan")) (sCons (sC (.str "board")) (sCons (sC (.str "bowl")) (sCons (sC (.str "dish")) (sCons (sC (.str "a")) (sCons (sC (.str "zzzzzz")) sNil)))))))) (tName 8) (sIfS (sB (sOp gNe (sAs (g1 gRepr) (sCons (sMeth "Step" "loss" [] f_Step_loss (sV 5) (sCons (sV 7) (sCons (sV 8) sNil))) sNil)) (sAs (g1 gRepr) (sCons (sGet1 (sV 6) (sAs gTupl (sCons (sV 7) (sCons (sV 8) sNil)))) sNil)))) (sRet (sC (.bl false))) sNx)) ρ1 = .nx ρ2 := st_For (ev_It (show _ = R.ok (.lst sp6D) ρ1 from rfl) rfl) l2
    let rs2 : List Row := (wash j a).2.2
    let ρ3 : Env := E (some (.str a)) s2 (some (.lst (rs2.map tRow))) du
    let cc : D → Bool := fun d => match d with | .tup (.str z :: _) => !decide (z = a) | _ => false
    have s1 : (sSet 10 (sLc (sIt D.seq (sOp gIx (sV 4) (sC (.int 2)))) (tName 16) (sB (sOp gNe (sOp gIx (sV 16) (sC (.int 0))) (sV 7))) (sV 16) [16])) ρ2 = .nx ρ3 := by
      have := ev_LcC (f := (sIt D.seq (sOp gIx (sV 4) (sC (.int 2))))) (tg := tName 16) (tt := (sB (sOp gNe (sOp gIx (sV 16) (sC (.int 0))) (sV 7)))) (te := sV 16) (vs := [16]) (ρ := EQ05 X T De Mo St Ma Co (some (.str a)) s2 c r du Cl Sp Th Od none) (ρ1 := EQ05 X T De Mo St Ma Co (some (.str a)) s2 c r du Cl Sp Th Od none) (xs := j.2.2.map tRow) cc (fun d => d) (ev_It (ev_Op (ev_V rfl) ev_C i2) rfl) rfl (by rw [List.length_map]; exact line_big (by omega)) fun d hd => by
        obtain ⟨q, hq, rfl⟩ := List.mem_map.mp hd
        exact ⟨EQ05 X T De Mo St Ma Co (some (.str a)) s2 c r du Cl Sp Th Od (some (tRow q)), rfl, rfl, ev_B (ev_Op (ev_Op (ev_V rfl) ev_C (ix_tup (n := 0) rfl)) (ev_V rfl) (gNe_str (ok_nm (S.hts _ (S.hrs q hq).a)) (ok_nm aN))), fun _ => rfl⟩
      have l : (sLc (sIt D.seq (sOp gIx (sV 4) (sC (.int 2)))) (tName 16) (sB (sOp gNe (sOp gIx (sV 16) (sC (.int 0))) (sV 7))) (sV 16) [16]) ρ2 = .ok (.lst (rs2.map tRow)) ρ2 := this.trans (by
        rw [List.map_id', List.filter_map]
        rfl)
      exact st_Set l
    obtain ⟨w1, w2⟩ := repr5_nm aN
    have w1 : g1 gRepr [.str a] = some (.str (PyData.shown (.str a))) := w1
    let no : D := .tup [.str "none", .str (PyData.shown (.str a))]
    let yes : D := .tup [.str "told", .str (stepT j.1 j.2.1 rs2)]
    let ρ4 : Env := E (some (.str a)) s2 (some (.lst (rs2.map tRow))) (some no)
    let ρ5 : Env := E (some (.str a)) s2 (some (.lst (rs2.map tRow))) (some yes)
    have s2' : (sSet 11 (sAs gTupl (sCons (sC (.str "none")) (sCons (sAs (g1 gRepr) (sCons (sV 7) sNil)) sNil)))) ρ3 = .nx ρ4 := st_Set (ev_As (ev_Cons ev_C (ev_Cons (ev_As (ev_Cons (ev_V rfl) ev_Nil) w1) ev_Nil)) rfl)
    have gi : gIn false (.str a) (.lst (j.2.1.map .str)) = some (.bl (decide (a ∈ j.2.1))) := gIn_sq (neg := false) (.inl rfl) (ok_nm aN) fun y hy => ok_nm (S.hts y hy)
    have cin : (sB (sOp (gIn false) (sV 7) (sOp gIx (sV 4) (sC (.int 1))))) ρ4 = .ok (decide (a ∈ j.2.1)) ρ4 := ev_B (ev_Op (ev_V rfl) (ev_Op (ev_V rfl) ev_C i1) gi)
    have oN : okS (PyData.shown (.str a)) := w2
    by_cases hin : a ∈ j.2.1
    · rw [decide_eq_true hin] at cin
      obtain ⟨o, ht⟩ := stage_text (S.wash a)
      obtain ⟨o2, hh⟩ := heard5_told S aN hin
      have s3 : (sIfS (sB (sOp (gIn false) (sV 7) (sOp gIx (sV 4) (sC (.int 1))))) (sSet 11 (sAs gTupl (sCons (sC (.str "told")) (sCons (sCall f__law_stage_text (sCons (sAs gTupl (sCons (sOp gIx (sV 4) (sC (.int 0))) (sCons (sOp gIx (sV 4) (sC (.int 1))) (sCons (sV 10) sNil)))) sNil)) sNil)))) sNx) ρ4 = .nx ρ5 := st_IfT cin (st_Set (ev_As (ev_Cons ev_C (ev_Cons (ev_Call (ds := [stgD j.1 j.2.1 rs2]) (ev_Cons (ev_As (ev_Cons (ev_Op (ev_V rfl) ev_C i0) (ev_Cons (ev_Op (ev_V rfl) ev_C i1) (ev_Cons (ev_V rfl) ev_Nil))) rfl) ev_Nil) ht) ev_Nil)) rfl))
      have c4 : (sB (sOp gNe (sCall f__law_heard (sCons (sV 5) (sCons (sV 7) sNil))) (sV 11))) ρ5 = .ok false ρ5 := ev_B (ev_Op (ev_Call (ev_Cons (ev_V rfl) (ev_Cons (ev_V rfl) ev_Nil)) hh) (ev_V rfl) (ne5_tup (by decide +kernel) (step_ok (S.wash a))))
      exact ⟨ρ1, rfl, ρ5, .inl (st_Seq s0 (st_Seq s1 (st_Seq s2' (st_Seq s3 (st_IfF c4 rfl))))), _, _, _, _, rfl⟩
    · rw [decide_eq_false hin] at cin
      obtain ⟨o1, tt⟩ := touched_ok S (is_name_nm aN)
      rw [decide_eq_false hin] at tt
      obtain ⟨o2, hh⟩ := heard5_none S ⟨o1, tt⟩ w1
      have c4 : (sB (sOp gNe (sCall f__law_heard (sCons (sV 5) (sCons (sV 7) sNil))) (sV 11))) ρ4 = .ok false ρ4 := ev_B (ev_Op (ev_Call (ev_Cons (ev_V rfl) (ev_Cons (ev_V rfl) ev_Nil)) hh) (ev_V rfl) (ne5_tup (by decide +kernel) oN))
      exact ⟨ρ1, rfl, ρ4, .inl (st_Seq s0 (st_Seq s1 (st_Seq s2' (st_Seq (st_IfF cin rfl) (st_IfF c4 rfl))))), _, _, _, _, rfl⟩
  exact ⟨f', s', r', du', st_For (ev_It (show _ = R.ok (.lst sp6D) _ from rfl) rfl) lp⟩
end
def washes (j : J) (xs : List Str) : J := xs.foldl wash j
theorem washes_same : ∀ (xs : List Str) (j : J), (washes j xs).1 = j.1 ∧ (washes j xs).2.1 = j.2.1 ∧ ∀ r ∈ (washes j xs).2.2, r ∈ j.2.2 ∧ r.1 ∉ xs
  | [], j => ⟨rfl, rfl, fun r h => ⟨h, fun z => nomatch z⟩⟩
  | x :: xs, j => by
    obtain ⟨h1, h2, h3⟩ := washes_same xs (wash j x)
    refine ⟨h1, h2, fun r hr => ?_⟩
    obtain ⟨h4, h5⟩ := h3 r hr
    obtain ⟨h6, h7⟩ := List.mem_filter.mp h4
    refine ⟨h6, fun z => ?_⟩
    rcases List.mem_cons.mp z with z | z
    · simp [z] at h7
    · exact h5 z
theorem stg_washes : ∀ (xs : List Str) {j : J}, Stg j.1 j.2.1 j.2.2 → Stg (washes j xs).1 (washes j xs).2.1 (washes j xs).2.2
  | [], _, S => S
  | x :: xs, j, S => stg_washes xs (j := wash j x) (S.wash x)
theorem clean5 {X T De Mo St Ma Co f s c r du Th Od : Option D} : ∀ (xs : List Str) (j : J) (sp : Option D), Stg j.1 j.2.1 j.2.2 → (∀ x ∈ xs, x ∈ j.2.1) → ∃ sp', sFor (tName 13) (sSet 12 (sMeth "Step" "washed" [] f_Step_washed (sV 12) (sCons (sV 13) sNil))) (xs.map .str) (EQ05 X T De Mo St Ma Co f s c r du (some (oj j)) sp Th Od none) = .nx (EQ05 X T De Mo St Ma Co f s c r du (some (oj (washes j xs))) sp' Th Od none)
  | [], _, sp, _, _ => ⟨sp, rfl⟩
  | x :: xs, j, sp, S, h => by
    have hx := h x (List.mem_cons_self ..)
    obtain ⟨o, hw⟩ := step_washed S (S.hts x hx) hx
    obtain ⟨sp', e⟩ := clean5 xs (wash j x) (some (.str x)) (S.wash x) fun y hy => h y (List.mem_cons_of_mem _ hy)
    refine ⟨sp', ?_⟩
    have st : (sSet 12 (sMeth "Step" "washed" [] f_Step_washed (sV 12) (sCons (sV 13) sNil))) (EQ05 X T De Mo St Ma Co f s c r du (some (oj j)) (some (.str x)) Th Od none) = .nx (EQ05 X T De Mo St Ma Co f s c r du (some (oj (wash j x))) (some (.str x)) Th Od none) := st_Set (ev_Meth (ds := [.str x]) (ev_V rfl) (isC_step S "washed" (by decide +kernel)) (ev_Cons (ev_V rfl) ev_Nil) hw)
    have nx : ∀ {tg : D → Env → Option Env} {g : Env → RS} {y : D} {ys : List D} {ρ ρ1 ρ2 : Env}, tg y ρ = some ρ1 → g ρ1 = .nx ρ2 → sFor tg g (y :: ys) ρ = sFor tg g ys ρ2 := fun {tg g y ys ρ ρ1 ρ2} h1 h2 => by
      conv => lhs; unfold sFor
      rw [h1]
      dsimp only
      rw [h2]
      rfl
    rw [List.map_cons]
    exact (nx rfl st).trans e
theorem step_bare {t : Str} {ts : List Str} (S : Stg t ts []) : ∃ os, f_Step___init__ [.obj "Step" [], .str t, .lst (ts.map .str), .ktp []] = .ok .non (oj (t, ts, []) :: os) := by
  obtain ⟨os, h, _⟩ := step_madeG (p := .lst (ts.map .str)) (q := .ktp []) (.inl rfl) ⟨_, rfl⟩ rfl S
  refine ⟨os, ?_⟩
  rw [oj_is (j := (t, ts, [])) S]
  exact h
section
variable {j : J} (S : Stg j.1 j.2.1 j.2.2)
include S
theorem eqS_no {y : D} (hy : gIsO "Step" y = some (.bl false)) : ∃ o, f_Step___eq__ [oj j, y] = .ok (.bl false) o := by
  refine ⟨_, df_rt (ρ := [some (oj j), some y]) ?_⟩
  show g_Step___eq__ [some (oj j), some y] = _
  unfold g_Step___eq__
  exact st_Ret (ev_AndVF (ev_Un (ev_V rfl) hy))
theorem neXR_no {y : D} (ho : isObj y = false) (hp : plainR y = true) (hy : gIsO "Step" y = some (.bl false)) : gNeXR "Step" f_Step___eq__ y (oj j) = some (.bl true) := by
  obtain ⟨o, h⟩ := eqS_no S hy
  rw [oj_is S] at h ⊢
  unfold gNeXR
  rw [ho]
  show (if ("Step" : String) = "Step" ∧ plainR y = true then match f_Step___eq__ [stepO j.1 j.2.1 j.2.2 (.dtt (kvR j.2.2)) (leadD j.2.1 j.2.2), y] with | .ok (.bl b) _ => some (D.bl (!b)) | _ => none else none) = _
  rw [if_pos ⟨rfl, hp⟩, h]
  rfl
theorem neXR_self : gNeXR "Step" f_Step___eq__ (oj j) (oj j) = some (.bl false) := by
  rw [oj_is S]
  have h := eq_step S (.dtt (kvR j.2.2)) (leadD j.2.1 j.2.2) (.dtt (kvR j.2.2)) (leadD j.2.1 j.2.2)
  show gNeO "Step" f_Step___eq__ (stepO j.1 j.2.1 j.2.2 (.dtt (kvR j.2.2)) (leadD j.2.1 j.2.2)) (stepO j.1 j.2.1 j.2.2 (.dtt (kvR j.2.2)) (leadD j.2.1 j.2.2)) = _
  unfold gNeO
  rw [h]
  rfl
theorem nm_self : ∃ o, f_is_name [oj j] = .ok (.bl false) o := by
  rw [oj_is S]
  exact ⟨_, rfl⟩
end
theorem repr5_of {d : D} {q : PyData} (hd : d.py = some q) (h : reprOk q = true) (o : okS (PyData.shown q)) : ∃ s, gRepr d = some (.str s) ∧ okS s := by
  refine ⟨PyData.shown q, ?_, o⟩
  unfold gRepr
  rw [hd]
  show (if reprOk q then some (D.str (PyData.shown q)) else none) = _
  rw [if_pos h]
theorem repr5_thing {x : D} (h : Th 6 x) : ∃ s, gRepr (.lst [x]) = some (.str s) ∧ okS s := by
  obtain ⟨q, hq, ok⟩ := th_py h
  have ok2 := pyok_list (n := 1) (ps := [q]) (Nat.le_refl 1) fun y hy => by rw [List.mem_singleton.mp hy]; exact ok
  have e : (D.lst [x]).py = some (.list [q]) := by
    show (D.pys [x]).map PyData.list = _
    show (match x.py, (some [] : Option (List PyData)) with | some p, some ps => some (p :: ps) | _, _ => none : Option (List PyData)).map PyData.list = _
    rw [hq]
    rfl
  exact ⟨_, repr_py e ok2 (by decide) (by decide), ok2.ok⟩
section
variable {j : J} (S : Stg j.1 j.2.1 j.2.2)
include S
theorem odd5 {X T De Mo Co f s c r du Cl Sp Od : Option D} {x0 : D} (h0 : Th 6 x0) {p0 : Str} {pr : List Str} (hp : j.2.1 = p0 :: pr) : ∃ od', (sForS (sIt D.seq (sAs gTupl (sCons (sV 14) (sCons (sC .non) (sCons (sC (.int 3)) (sCons (sC (.str "")) (sCons (sAs gTupl (sCons (sC (.str "pan")) sNil)) (sCons (sC (.str "Pan")) (sCons (sV 5) sNil))))))))) (tName 15) (sSeq (sIfS (sOr (sB (sUn gNotN (sMeth "Step" "loss" [] f_Step_loss (sV 5) (sCons (sV 15) (sCons (sOp gIx (sOp gIx (sV 4) (sC (.int 1))) (sC (.int 0))) sNil))))) (sB (sUn gNotN (sMeth "Step" "loss" [] f_Step_loss (sV 5) (sCons (sOp gIx (sOp gIx (sV 4) (sC (.int 1))) (sC (.int 0))) (sCons (sV 15) sNil)))))) (sRet (sC (.bl false))) sNx) (sIfS (sAnd (sB (sOp (gNeXR "Step" f_Step___eq__) (sV 15) (sV 5))) (sB (sOp gNe (sCall f__law_heard (sCons (sV 5) (sCons (sV 15) sNil))) (sAs gTupl (sCons (sC (.str "none")) (sCons (sAs (g1 gRepr) (sCons (sV 15) sNil)) sNil)))))) (sRet (sC (.bl false))) sNx))) (EQ05 X T De Mo (some (stgD j.1 j.2.1 j.2.2)) (some (oj j)) Co f s c r du Cl Sp (some (.lst [x0])) Od none) = .nx (EQ05 X T De Mo (some (stgD j.1 j.2.1 j.2.2)) (some (oj j)) Co f s c r du Cl Sp (some (.lst [x0])) od' none) := by
  let E : Option D → Env := fun od => EQ05 X T De Mo (some (stgD j.1 j.2.1 j.2.2)) (some (oj j)) Co f s c r du Cl Sp (some (.lst [x0])) od none
  have i1 : gIx (stgD j.1 j.2.1 j.2.2) (.int 1) = some (.lst (j.2.1.map .str)) := ix_tup (n := 1) rfl
  have i2 : gIx (.lst (j.2.1.map .str)) (.int 0) = some (.str p0) := ix_lst (n := 0) (by rw [hp]; rfl)
  have pN : p0 ∈ NM := S.hts _ (by rw [hp]; exact List.mem_cons_self ..)
  let vs : List D := [.lst [x0], .non, .int 3, .str "", .tup [.str "pan"], .str "Pan", oj j]
  obtain ⟨od', lp⟩ := loop5 (tg := tName 15) (g := (sSeq (sIfS (sOr (sB (sUn gNotN (sMeth "Step" "loss" [] f_Step_loss (sV 5) (sCons (sV 15) (sCons (sOp gIx (sOp gIx (sV 4) (sC (.int 1))) (sC (.int 0))) sNil))))) (sB (sUn gNotN (sMeth "Step" "loss" [] f_Step_loss (sV 5) (sCons (sOp gIx (sOp gIx (sV 4) (sC (.int 1))) (sC (.int 0))) (sCons (sV 15) sNil)))))) (sRet (sC (.bl false))) sNx) (sIfS (sAnd (sB (sOp (gNeXR "Step" f_Step___eq__) (sV 15) (sV 5))) (sB (sOp gNe (sCall f__law_heard (sCons (sV 5) (sCons (sV 15) sNil))) (sAs gTupl (sCons (sC (.str "none")) (sCons (sAs (g1 gRepr) (sCons (sV 15) sNil)) sNil)))))) (sRet (sC (.bl false))) sNx))) E vs Od fun y hy od => by
    have hv : (∃ o, f_is_name [y] = .ok (.bl false) o) ∧ (y = oj j ∨ (isObj y = false ∧ plainR y = true ∧ gIsO "Step" y = some (.bl false) ∧ ∃ s, gRepr y = some (.str s) ∧ okS s)) := by
      have hy : y ∈ ([.lst [x0], .non, .int 3, .str "", .tup [.str "pan"], .str "Pan", oj j] : List D) := hy
      simp only [List.mem_cons, List.not_mem_nil, or_false] at hy
      rcases hy with rfl | rfl | rfl | rfl | rfl | rfl | rfl
      · exact ⟨⟨_, rfl⟩, .inr ⟨rfl, rfl, rfl, repr5_thing h0⟩⟩
      · exact ⟨⟨_, rfl⟩, .inr ⟨rfl, rfl, rfl, "None", rfl, by decide +kernel⟩⟩
      · exact ⟨⟨_, rfl⟩, .inr ⟨rfl, rfl, rfl, repr5_int (by decide) (by decide)⟩⟩
      · exact ⟨chkB_ok (by decide +kernel), .inr ⟨rfl, rfl, rfl, repr5_of (q := .str "") rfl (by decide +kernel) (by decide +kernel)⟩⟩
      · exact ⟨⟨_, rfl⟩, .inr ⟨rfl, rfl, rfl, repr5_of (q := .tuple [.str "pan"]) rfl (by decide +kernel) (by decide +kernel)⟩⟩
      · exact ⟨chkB_ok (by decide +kernel), .inr ⟨rfl, rfl, rfl, repr5_of (q := .str "Pan") rfl (by decide +kernel) (by decide +kernel)⟩⟩
      · exact ⟨nm_self S, .inl rfl⟩
    obtain ⟨hn, hc⟩ := hv
    obtain ⟨o1, l1⟩ := loss_a S (y := .str p0) hn
    obtain ⟨o2, l2⟩ := loss_b S (x := .str p0) (is_name_nm pN) hn
    let ρ1 : Env := E (some y)
    have c0 : (sOr (sB (sUn gNotN (sMeth "Step" "loss" [] f_Step_loss (sV 5) (sCons (sV 15) (sCons (sOp gIx (sOp gIx (sV 4) (sC (.int 1))) (sC (.int 0))) sNil))))) (sB (sUn gNotN (sMeth "Step" "loss" [] f_Step_loss (sV 5) (sCons (sOp gIx (sOp gIx (sV 4) (sC (.int 1))) (sC (.int 0))) (sCons (sV 15) sNil)))))) ρ1 = .ok false ρ1 := ev_OrF (ev_B (ev_Un (ev_Meth (ds := [y, .str p0]) (ev_V rfl) (isC_step S "loss" (by decide +kernel)) (ev_Cons (ev_V rfl) (ev_Cons (ev_Op (ev_Op (ev_V rfl) ev_C i1) ev_C i2) ev_Nil)) l1) rfl)) (ev_B (ev_Un (ev_Meth (ds := [.str p0, y]) (ev_V rfl) (isC_step S "loss" (by decide +kernel)) (ev_Cons (ev_Op (ev_Op (ev_V rfl) ev_C i1) ev_C i2) (ev_Cons (ev_V rfl) ev_Nil)) l2) rfl))
    have c1 : (sAnd (sB (sOp (gNeXR "Step" f_Step___eq__) (sV 15) (sV 5))) (sB (sOp gNe (sCall f__law_heard (sCons (sV 5) (sCons (sV 15) sNil))) (sAs gTupl (sCons (sC (.str "none")) (sCons (sAs (g1 gRepr) (sCons (sV 15) sNil)) sNil)))))) ρ1 = .ok false ρ1 := by
      rcases hc with rfl | ⟨ho, hpl, hg, t, ht, ot⟩
      · exact ev_AndF (ev_B (ev_Op (ev_V rfl) (ev_V rfl) (neXR_self S)))
      · obtain ⟨o3, hh⟩ := heard5_none S (touch_no S hn) ht
        have ht : g1 gRepr [y] = some (.str t) := ht
        exact ev_AndT (ev_B (ev_Op (ev_V rfl) (ev_V rfl) (neXR_no S ho hpl hg))) (ev_B (ev_Op (ev_Call (ev_Cons (ev_V rfl) (ev_Cons (ev_V rfl) ev_Nil)) hh) (ev_As (ev_Cons ev_C (ev_Cons (ev_As (ev_Cons (ev_V rfl) ev_Nil) ht) ev_Nil)) rfl) (ne5_tup (by decide +kernel) ot)))
    exact ⟨rfl, st_pass c0 (st_IfF c1 rfl)⟩
  exact ⟨od', st_For (ev_It (ev_As (ev_Cons (ev_V rfl) (ev_Cons ev_C (ev_Cons ev_C (ev_Cons ev_C (ev_Cons (ev_As (ev_Cons ev_C ev_Nil) rfl) (ev_Cons ev_C (ev_Cons (ev_V rfl) ev_Nil))))))) rfl) rfl) lp⟩
end
theorem washed_all {j : J} (S : Stg j.1 j.2.1 j.2.2) {p : List Str} (hp : p.Perm j.2.1) : washes j p = (j.1, j.2.1, []) := by
  obtain ⟨h1, h2, h3⟩ := washes_same p j
  have h4 : (washes j p).2.2 = [] := List.eq_nil_iff_forall_not_mem.mpr fun r hr => by
    obtain ⟨h5, h6⟩ := h3 r hr
    exact h6 (hp.mem_iff.mpr (S.hrs r h5).a)
  rw [← h1, ← h2, ← h4]
theorem neO_self5 {j : J} (S : Stg j.1 j.2.1 j.2.2) : gNeO "Step" f_Step___eq__ (oj j) (oj j) = some (.bl false) := by
  rw [oj_is S]
  have h := eq_step S (.dtt (kvR j.2.2)) (leadD j.2.1 j.2.2) (.dtt (kvR j.2.2)) (leadD j.2.1 j.2.2)
  unfold gNeO
  rw [h]
  rfl
theorem inner5 {X T Mo x4 x5 x6 x7 x8 x9 x10 x11 x12 x13 x14 x15 : Option D} {d : D} (hd : IsDeal d) : ∃ (d' : D) (y4 y5 y6 y7 y8 y9 y10 y11 y12 y13 y14 y15 : Option D), IsDeal d' ∧
    (sSeq (sSet 4 (sCallO 2 f__law_stage (sCons (sC (.str "chop")) (sCons (sCallO 2 f__law_spots (sCons (sC (.int 5)) sNil)) sNil)))) (sSeq (sPar 5 6 (sMake "Step" [] f_Step___init__ (sCons (sOp gIx (sV 4) (sC (.int 0))) (sCons (sOp gIx (sV 4) (sC (.int 1))) (sCons (sOp gIx (sV 4) (sC (.int 2))) sNil)))) (sC (.dtt []))) (sSeq (sForS (sIt D.seq (sOp gIx (sV 4) (sC (.int 2)))) (tTup 3 (Pu.tCons (tName 7) (Pu.tCons (tName 8) (Pu.tCons (tName 9) Pu.tNil)))) (sPut 6 (sAs gTupl (sCons (sV 7) (sCons (sV 8) sNil))) (sV 9))) (sSeq (sForS (sIt D.seq (sAs gList (sCons (sC (.str "pan")) (sCons (sC (.str "board")) (sCons (sC (.str "bowl")) (sCons (sC (.str "dish")) (sCons (sC (.str "a")) (sCons (sC (.str "zzzzzz")) sNil)))))))) (tName 7) (sSeq (sForS (sIt D.seq (sAs gList (sCons (sC (.str "pan")) (sCons (sC (.str "board")) (sCons (sC (.str "bowl")) (sCons (sC (.str "dish")) (sCons (sC (.str "a")) (sCons (sC (.str "zzzzzz")) sNil)))))))) (tName 8) (sIfS (sB (sOp gNe (sAs (g1 gRepr) (sCons (sMeth "Step" "loss" [] f_Step_loss (sV 5) (sCons (sV 7) (sCons (sV 8) sNil))) sNil)) (sAs (g1 gRepr) (sCons (sGet1 (sV 6) (sAs gTupl (sCons (sV 7) (sCons (sV 8) sNil)))) sNil)))) (sRet (sC (.bl false))) sNx)) (sSeq (sSet 10 (sLc (sIt D.seq (sOp gIx (sV 4) (sC (.int 2)))) (tName 16) (sB (sOp gNe (sOp gIx (sV 16) (sC (.int 0))) (sV 7))) (sV 16) [16])) (sSeq (sSet 11 (sAs gTupl (sCons (sC (.str "none")) (sCons (sAs (g1 gRepr) (sCons (sV 7) sNil)) sNil)))) (sSeq (sIfS (sB (sOp (gIn false) (sV 7) (sOp gIx (sV 4) (sC (.int 1))))) (sSet 11 (sAs gTupl (sCons (sC (.str "told")) (sCons (sCall f__law_stage_text (sCons (sAs gTupl (sCons (sOp gIx (sV 4) (sC (.int 0))) (sCons (sOp gIx (sV 4) (sC (.int 1))) (sCons (sV 10) sNil)))) sNil)) sNil)))) sNx) (sIfS (sB (sOp gNe (sCall f__law_heard (sCons (sV 5) (sCons (sV 7) sNil))) (sV 11))) (sRet (sC (.bl false))) sNx)))))) (sSeq (sSet 12 (sV 5)) (sSeq (sForS (sIt D.seq (sCallO 2 f__law_mixed (sCons (sOp gIx (sV 4) (sC (.int 1))) sNil))) (tName 13) (sSet 12 (sMeth "Step" "washed" [] f_Step_washed (sV 12) (sCons (sV 13) sNil)))) (sSeq (sIfS (sOr (sB (sOp (gNeO "Step" f_Step___eq__) (sV 12) (sMake "Step" [.ktp []] f_Step___init__ (sCons (sOp gIx (sV 4) (sC (.int 0))) (sCons (sOp gIx (sV 4) (sC (.int 1))) sNil))))) (sB (sOp gNe (sAs (g1 (gStrO "Step" f_Step___str__)) (sCons (sV 5) sNil)) (sCall f__law_stage_text (sCons (sV 4) sNil))))) (sRet (sC (.bl false))) sNx) (sSeq (sSet 14 (sAs gList (sCons (sCallO 2 f__law_thing (sCons (sC (.int 6)) sNil)) sNil))) (sForS (sIt D.seq (sAs gTupl (sCons (sV 14) (sCons (sC .non) (sCons (sC (.int 3)) (sCons (sC (.str "")) (sCons (sAs gTupl (sCons (sC (.str "pan")) sNil)) (sCons (sC (.str "Pan")) (sCons (sV 5) sNil))))))))) (tName 15) (sSeq (sIfS (sOr (sB (sUn gNotN (sMeth "Step" "loss" [] f_Step_loss (sV 5) (sCons (sV 15) (sCons (sOp gIx (sOp gIx (sV 4) (sC (.int 1))) (sC (.int 0))) sNil))))) (sB (sUn gNotN (sMeth "Step" "loss" [] f_Step_loss (sV 5) (sCons (sOp gIx (sOp gIx (sV 4) (sC (.int 1))) (sC (.int 0))) (sCons (sV 15) sNil)))))) (sRet (sC (.bl false))) sNx) (sIfS (sAnd (sB (sOp (gNeXR "Step" f_Step___eq__) (sV 15) (sV 5))) (sB (sOp gNe (sCall f__law_heard (sCons (sV 5) (sCons (sV 15) sNil))) (sAs gTupl (sCons (sC (.str "none")) (sCons (sAs (g1 gRepr) (sCons (sV 15) sNil)) sNil)))))) (sRet (sC (.bl false))) sNx))))))))))) (EQ05 X T (some d) Mo x4 x5 x6 x7 x8 x9 x10 x11 x12 x13 x14 x15 none) = .nx (EQ05 X T (some d') Mo y4 y5 y6 y7 y8 y9 y10 y11 y12 y13 y14 y15 none) := by
  have cN : ("chop" : Str) ∈ NM := by decide +kernel
  obtain ⟨sp, d1, hd1, hs, snd, sne, sl, e1⟩ := spots_ok hd
  obtain ⟨ts, rs, d2, hd2, S0, e2⟩ := stage_ok hd1 (t := "chop") cN hs snd sne sl
  let j : J := ("chop", ts, rs)
  have S : Stg j.1 j.2.1 j.2.2 := S0
  let St : Option D := some (stgD j.1 j.2.1 j.2.2)
  let Ma : Option D := some (oj j)
  have i0 : gIx (stgD j.1 j.2.1 j.2.2) (.int 0) = some (.str j.1) := ix_tup (n := 0) rfl
  have i1 : gIx (stgD j.1 j.2.1 j.2.2) (.int 1) = some (.lst (j.2.1.map .str)) := ix_tup (n := 1) rfl
  have i2 : gIx (stgD j.1 j.2.1 j.2.2) (.int 2) = some (.lst (j.2.2.map tRow)) := ix_tup (n := 2) rfl
  have s0 : (sSet 4 (sCallO 2 f__law_stage (sCons (sC (.str "chop")) (sCons (sCallO 2 f__law_spots (sCons (sC (.int 5)) sNil)) sNil)))) (EQ05 X T (some d) Mo x4 x5 x6 x7 x8 x9 x10 x11 x12 x13 x14 x15 none) = .nx (EQ05 X T (some d2) Mo St x5 x6 x7 x8 x9 x10 x11 x12 x13 x14 x15 none) := st_Set (ev_CallO (ρ1 := EQ05 X T (some d1) Mo x4 x5 x6 x7 x8 x9 x10 x11 x12 x13 x14 x15 none) (ev_Cons ev_C (ev_Cons (ev_CallO (ev_Cons ev_C ev_Nil) rfl e1) ev_Nil)) rfl e2)
  obtain ⟨o, hm⟩ := oj_made S (p := .lst (j.2.1.map .str)) (q := .lst (j.2.2.map tRow)) (.inl rfl) (.inl rfl)
  have s1 : (sPar 5 6 (sMake "Step" [] f_Step___init__ (sCons (sOp gIx (sV 4) (sC (.int 0))) (sCons (sOp gIx (sV 4) (sC (.int 1))) (sCons (sOp gIx (sV 4) (sC (.int 2))) sNil)))) (sC (.dtt []))) (EQ05 X T (some d2) Mo St x5 x6 x7 x8 x9 x10 x11 x12 x13 x14 x15 none) = .nx (EQ05 X T (some d2) Mo St Ma (some (.dtt [])) x7 x8 x9 x10 x11 x12 x13 x14 x15 none) := st_Par (ev_Make (ds := [.str j.1, .lst (j.2.1.map .str), .lst (j.2.2.map tRow)]) (ev_Cons (ev_Op (ev_V rfl) ev_C i0) (ev_Cons (ev_Op (ev_V rfl) ev_C i1) (ev_Cons (ev_Op (ev_V rfl) ev_C i2) ev_Nil))) hm) ev_C
  let Co : Option D := some (.dtt (kvR j.2.2))
  obtain ⟨a7, a8, a9, lp2⟩ := costs5 S (X := X) (T := T) (De := some d2) (Mo := Mo) (St := St) (Ma := Ma) (f := x7) (s := x8) (c := x9) (Re := x10) (Du := x11) (Cl := x12) (Sp := x13) (Th := x14) (Od := x15) (Mk := none)
  obtain ⟨b7, b8, b10, b11, s3⟩ := names5 S (X := X) (T := T) (De := some d2) (Mo := Mo) (St := St) (Ma := Ma) (f := a7) (s := a8) (c := a9) (Re := x10) (Du := x11) (Cl := x12) (Sp := x13) (Th := x14) (Od := x15) rfl rfl
  obtain ⟨p, d3, hd3, hp, e3⟩ := mixed_strs hd2 (l := j.2.1) (fun x hx => S.hts x hx) S.tl
  obtain ⟨b13, lp5⟩ := clean5 (X := X) (T := T) (De := some d3) (Mo := Mo) (St := St) (Ma := Ma) (Co := Co) (f := b7) (s := b8) (c := a9) (r := b10) (du := b11) (Th := x14) (Od := x15) p j x13 S fun x hx => hp.mem_iff.mp hx
  have wa := washed_all S hp
  have Sb : Stg j.1 j.2.1 [] := by
    have := stg_washes p S
    rw [wa] at this
    exact this
  rw [wa] at lp5
  let q : D → Option D → Option D → Option D → Option D → Env := fun d cl sp th od => EQ05 X T (some d) Mo St Ma Co b7 b8 a9 b10 b11 cl sp th od none
  have s4 : (sSet 12 (sV 5)) (q d2 x12 x13 x14 x15) = .nx (q d2 Ma x13 x14 x15) := st_Set (ev_V rfl)
  have s5 : (sForS (sIt D.seq (sCallO 2 f__law_mixed (sCons (sOp gIx (sV 4) (sC (.int 1))) sNil))) (tName 13) (sSet 12 (sMeth "Step" "washed" [] f_Step_washed (sV 12) (sCons (sV 13) sNil)))) (q d2 Ma x13 x14 x15) = .nx (q d3 (some (oj (j.1, j.2.1, []))) b13 x14 x15) := st_For (ev_It (ev_CallO (ev_Cons (ev_Op (ev_V rfl) ev_C i1) ev_Nil) rfl e3) rfl) lp5
  obtain ⟨o6, hb⟩ := step_bare Sb
  obtain ⟨o7, ht⟩ := stage_text S
  have gs : g1 (gStrO "Step" f_Step___str__) [oj j] = some (.str (stepT j.1 j.2.1 j.2.2)) := gStr_oj S
  have c6 : (sOr (sB (sOp (gNeO "Step" f_Step___eq__) (sV 12) (sMake "Step" [.ktp []] f_Step___init__ (sCons (sOp gIx (sV 4) (sC (.int 0))) (sCons (sOp gIx (sV 4) (sC (.int 1))) sNil))))) (sB (sOp gNe (sAs (g1 (gStrO "Step" f_Step___str__)) (sCons (sV 5) sNil)) (sCall f__law_stage_text (sCons (sV 4) sNil))))) (q d3 (some (oj (j.1, j.2.1, []))) b13 x14 x15) = .ok false (q d3 (some (oj (j.1, j.2.1, []))) b13 x14 x15) := ev_OrF (ev_B (ev_Op (ev_V rfl) (ev_Make (ds := [.str j.1, .lst (j.2.1.map .str)]) (ev_Cons (ev_Op (ev_V rfl) ev_C i0) (ev_Cons (ev_Op (ev_V rfl) ev_C i1) ev_Nil)) hb) (neO_self5 (j := (j.1, j.2.1, [])) Sb))) (ev_B (ev_Op (ev_As (ev_Cons (ev_V rfl) ev_Nil) gs) (ev_Call (ev_Cons (ev_V rfl) ev_Nil) ht) (ne5 (step_ok S))))
  obtain ⟨x0, d4, hd4, hx0, e4⟩ := thing_ok hd3 (m := 6) (by decide)
  have s7 : (sSet 14 (sAs gList (sCons (sCallO 2 f__law_thing (sCons (sC (.int 6)) sNil)) sNil))) (q d3 (some (oj (j.1, j.2.1, []))) b13 x14 x15) = .nx (q d4 (some (oj (j.1, j.2.1, []))) b13 (some (.lst [x0])) x15) := st_Set (ev_As (ev_Cons (ev_CallO (ev_Cons ev_C ev_Nil) rfl e4) ev_Nil) rfl)
  obtain ⟨p0, pr, hp0⟩ : ∃ p r, j.2.1 = p :: r := by
    cases hq : j.2.1 with
    | nil => exact absurd hq S.ne
    | cons q jr => exact ⟨q, jr, rfl⟩
  obtain ⟨b15, s8⟩ := odd5 S (X := X) (T := T) (De := some d4) (Mo := Mo) (Co := Co) (f := b7) (s := b8) (c := a9) (r := b10) (du := b11) (Cl := some (oj (j.1, j.2.1, []))) (Sp := b13) (Od := x15) hx0 hp0
  exact ⟨d4, St, Ma, Co, b7, b8, a9, b10, b11, _, b13, _, b15, hd4, st_Seq s0 (st_Seq s1 (st_Seq (st_For (ev_It (ev_Op (ev_V rfl) ev_C i2) rfl) lp2) (st_Seq s3 (st_Seq s4 (st_Seq s5 (st_pass c6 (st_Seq s7 s8)))))))⟩
theorem turns5 {x : D} {ns : List Int} (hx : x = .lst (ns.map .int) ∨ x = .klt ns) {ρ : Env} (h0 : ρ[0]? = some (some x)) : ∃ N : Nat, sItA gRng (sCons (sAs (g2 gMax2) (sCons (sC (.int 2)) (sCons (sAs (g2 gMin2) (sCons (sC (.int 5)) (sCons (sAs (g1 gLenK) (sCons (sV 0) sNil)) sNil))) sNil))) sNil) ρ = .ok (rng 0 N) ρ := by
  have gl : g1 gLenK [x] = some (.int ((ns.length : Nat) : Int)) := by
    rcases hx with rfl | rfl
    · show some (D.int ((ns.map D.int).length : Nat)) = _
      rw [List.length_map]
    · rfl
  let L : Int := ((ns.length : Nat) : Int)
  let m : Int := if L < 5 then L else 5
  let M : Int := if m > 2 then m else 2
  have h0' : 0 ≤ M ∧ M < 1000 := by
    show 0 ≤ (if m > 2 then m else 2) ∧ (if m > 2 then m else 2) < 1000
    have : m ≤ 5 := by
      show (if L < 5 then L else 5) ≤ 5
      split <;> omega
    split <;> omega
  exact ⟨M.toNat, ev_ItA (ev_Cons (ev_As (ev_Cons ev_C (ev_Cons (ev_As (ev_Cons ev_C (ev_Cons (ev_As (ev_Cons (ev_V h0) ev_Nil) gl) ev_Nil)) rfl) ev_Nil)) rfl) ev_Nil) (rng_int h0'.1 h0'.2)⟩
theorem law_true : ∀ (x : D) (ns : List Int), x = .lst (ns.map .int) ∨ x = .klt ns → ns.length ≤ 63 → ∃ ds, f_law [x] = .ok (.bl true) ds := fun x ns hx hl => by
  let X : Option D := some x
  let e0 : Env := EQ05 X none none none none none none none none none none none none none none none none
  obtain ⟨N, hN⟩ := turns5 hx (ρ := e0) rfl
  let I : Nat → Env → Prop := fun _ ρ => ∃ (y1 y2 y3 y4 y5 y6 y7 y8 y9 y10 y11 y12 y13 y14 y15 : Option D), ρ = EQ05 X y1 y2 y3 y4 y5 y6 y7 y8 y9 y10 y11 y12 y13 y14 y15 none
  obtain ⟨ρ', l1, y1, y2, y3, y4, y5, y6, y7, y8, y9, y10, y11, y12, y13, y14, y15, rfl⟩ := for_rng (tg := tName 1) (g := (sSeq (sSet 2 (sCall f__law_deal (sCons (sV 0) (sCons (sV 1) sNil)))) (sForS (sItA gRng (sCons (sC (.int 4)) sNil)) (tName 3) (sSeq (sSet 4 (sCallO 2 f__law_stage (sCons (sC (.str "chop")) (sCons (sCallO 2 f__law_spots (sCons (sC (.int 5)) sNil)) sNil)))) (sSeq (sPar 5 6 (sMake "Step" [] f_Step___init__ (sCons (sOp gIx (sV 4) (sC (.int 0))) (sCons (sOp gIx (sV 4) (sC (.int 1))) (sCons (sOp gIx (sV 4) (sC (.int 2))) sNil)))) (sC (.dtt []))) (sSeq (sForS (sIt D.seq (sOp gIx (sV 4) (sC (.int 2)))) (tTup 3 (Pu.tCons (tName 7) (Pu.tCons (tName 8) (Pu.tCons (tName 9) Pu.tNil)))) (sPut 6 (sAs gTupl (sCons (sV 7) (sCons (sV 8) sNil))) (sV 9))) (sSeq (sForS (sIt D.seq (sAs gList (sCons (sC (.str "pan")) (sCons (sC (.str "board")) (sCons (sC (.str "bowl")) (sCons (sC (.str "dish")) (sCons (sC (.str "a")) (sCons (sC (.str "zzzzzz")) sNil)))))))) (tName 7) (sSeq (sForS (sIt D.seq (sAs gList (sCons (sC (.str "pan")) (sCons (sC (.str "board")) (sCons (sC (.str "bowl")) (sCons (sC (.str "dish")) (sCons (sC (.str "a")) (sCons (sC (.str "zzzzzz")) sNil)))))))) (tName 8) (sIfS (sB (sOp gNe (sAs (g1 gRepr) (sCons (sMeth "Step" "loss" [] f_Step_loss (sV 5) (sCons (sV 7) (sCons (sV 8) sNil))) sNil)) (sAs (g1 gRepr) (sCons (sGet1 (sV 6) (sAs gTupl (sCons (sV 7) (sCons (sV 8) sNil)))) sNil)))) (sRet (sC (.bl false))) sNx)) (sSeq (sSet 10 (sLc (sIt D.seq (sOp gIx (sV 4) (sC (.int 2)))) (tName 16) (sB (sOp gNe (sOp gIx (sV 16) (sC (.int 0))) (sV 7))) (sV 16) [16])) (sSeq (sSet 11 (sAs gTupl (sCons (sC (.str "none")) (sCons (sAs (g1 gRepr) (sCons (sV 7) sNil)) sNil)))) (sSeq (sIfS (sB (sOp (gIn false) (sV 7) (sOp gIx (sV 4) (sC (.int 1))))) (sSet 11 (sAs gTupl (sCons (sC (.str "told")) (sCons (sCall f__law_stage_text (sCons (sAs gTupl (sCons (sOp gIx (sV 4) (sC (.int 0))) (sCons (sOp gIx (sV 4) (sC (.int 1))) (sCons (sV 10) sNil)))) sNil)) sNil)))) sNx) (sIfS (sB (sOp gNe (sCall f__law_heard (sCons (sV 5) (sCons (sV 7) sNil))) (sV 11))) (sRet (sC (.bl false))) sNx)))))) (sSeq (sSet 12 (sV 5)) (sSeq (sForS (sIt D.seq (sCallO 2 f__law_mixed (sCons (sOp gIx (sV 4) (sC (.int 1))) sNil))) (tName 13) (sSet 12 (sMeth "Step" "washed" [] f_Step_washed (sV 12) (sCons (sV 13) sNil)))) (sSeq (sIfS (sOr (sB (sOp (gNeO "Step" f_Step___eq__) (sV 12) (sMake "Step" [.ktp []] f_Step___init__ (sCons (sOp gIx (sV 4) (sC (.int 0))) (sCons (sOp gIx (sV 4) (sC (.int 1))) sNil))))) (sB (sOp gNe (sAs (g1 (gStrO "Step" f_Step___str__)) (sCons (sV 5) sNil)) (sCall f__law_stage_text (sCons (sV 4) sNil))))) (sRet (sC (.bl false))) sNx) (sSeq (sSet 14 (sAs gList (sCons (sCallO 2 f__law_thing (sCons (sC (.int 6)) sNil)) sNil))) (sForS (sIt D.seq (sAs gTupl (sCons (sV 14) (sCons (sC .non) (sCons (sC (.int 3)) (sCons (sC (.str "")) (sCons (sAs gTupl (sCons (sC (.str "pan")) sNil)) (sCons (sC (.str "Pan")) (sCons (sV 5) sNil))))))))) (tName 15) (sSeq (sIfS (sOr (sB (sUn gNotN (sMeth "Step" "loss" [] f_Step_loss (sV 5) (sCons (sV 15) (sCons (sOp gIx (sOp gIx (sV 4) (sC (.int 1))) (sC (.int 0))) sNil))))) (sB (sUn gNotN (sMeth "Step" "loss" [] f_Step_loss (sV 5) (sCons (sOp gIx (sOp gIx (sV 4) (sC (.int 1))) (sC (.int 0))) (sCons (sV 15) sNil)))))) (sRet (sC (.bl false))) sNx) (sIfS (sAnd (sB (sOp (gNeXR "Step" f_Step___eq__) (sV 15) (sV 5))) (sB (sOp gNe (sCall f__law_heard (sCons (sV 5) (sCons (sV 15) sNil))) (sAs gTupl (sCons (sC (.str "none")) (sCons (sAs (g1 gRepr) (sCons (sV 15) sNil)) sNil)))))) (sRet (sC (.bl false))) sNx)))))))))))))) I N (ρ := e0) ⟨none, none, none, none, none, none, none, none, none, none, none, none, none, none, none, rfl⟩ fun i hi ρ ⟨y1, y2, y3, y4, y5, y6, y7, y8, y9, y10, y11, y12, y13, y14, y15, hρ⟩ => by
    subst hρ
    obtain ⟨d0, D0, h0⟩ := deal_start hx hl i
    let T : Option D := some (.int (i : Int))
    obtain ⟨ρ', lp, d1, z3, z4, z5, z6, z7, z8, z9, z10, z11, z12, z13, z14, z15, rfl, _⟩ := for_rng (tg := tName 3) (g := (sSeq (sSet 4 (sCallO 2 f__law_stage (sCons (sC (.str "chop")) (sCons (sCallO 2 f__law_spots (sCons (sC (.int 5)) sNil)) sNil)))) (sSeq (sPar 5 6 (sMake "Step" [] f_Step___init__ (sCons (sOp gIx (sV 4) (sC (.int 0))) (sCons (sOp gIx (sV 4) (sC (.int 1))) (sCons (sOp gIx (sV 4) (sC (.int 2))) sNil)))) (sC (.dtt []))) (sSeq (sForS (sIt D.seq (sOp gIx (sV 4) (sC (.int 2)))) (tTup 3 (Pu.tCons (tName 7) (Pu.tCons (tName 8) (Pu.tCons (tName 9) Pu.tNil)))) (sPut 6 (sAs gTupl (sCons (sV 7) (sCons (sV 8) sNil))) (sV 9))) (sSeq (sForS (sIt D.seq (sAs gList (sCons (sC (.str "pan")) (sCons (sC (.str "board")) (sCons (sC (.str "bowl")) (sCons (sC (.str "dish")) (sCons (sC (.str "a")) (sCons (sC (.str "zzzzzz")) sNil)))))))) (tName 7) (sSeq (sForS (sIt D.seq (sAs gList (sCons (sC (.str "pan")) (sCons (sC (.str "board")) (sCons (sC (.str "bowl")) (sCons (sC (.str "dish")) (sCons (sC (.str "a")) (sCons (sC (.str "zzzzzz")) sNil)))))))) (tName 8) (sIfS (sB (sOp gNe (sAs (g1 gRepr) (sCons (sMeth "Step" "loss" [] f_Step_loss (sV 5) (sCons (sV 7) (sCons (sV 8) sNil))) sNil)) (sAs (g1 gRepr) (sCons (sGet1 (sV 6) (sAs gTupl (sCons (sV 7) (sCons (sV 8) sNil)))) sNil)))) (sRet (sC (.bl false))) sNx)) (sSeq (sSet 10 (sLc (sIt D.seq (sOp gIx (sV 4) (sC (.int 2)))) (tName 16) (sB (sOp gNe (sOp gIx (sV 16) (sC (.int 0))) (sV 7))) (sV 16) [16])) (sSeq (sSet 11 (sAs gTupl (sCons (sC (.str "none")) (sCons (sAs (g1 gRepr) (sCons (sV 7) sNil)) sNil)))) (sSeq (sIfS (sB (sOp (gIn false) (sV 7) (sOp gIx (sV 4) (sC (.int 1))))) (sSet 11 (sAs gTupl (sCons (sC (.str "told")) (sCons (sCall f__law_stage_text (sCons (sAs gTupl (sCons (sOp gIx (sV 4) (sC (.int 0))) (sCons (sOp gIx (sV 4) (sC (.int 1))) (sCons (sV 10) sNil)))) sNil)) sNil)))) sNx) (sIfS (sB (sOp gNe (sCall f__law_heard (sCons (sV 5) (sCons (sV 7) sNil))) (sV 11))) (sRet (sC (.bl false))) sNx)))))) (sSeq (sSet 12 (sV 5)) (sSeq (sForS (sIt D.seq (sCallO 2 f__law_mixed (sCons (sOp gIx (sV 4) (sC (.int 1))) sNil))) (tName 13) (sSet 12 (sMeth "Step" "washed" [] f_Step_washed (sV 12) (sCons (sV 13) sNil)))) (sSeq (sIfS (sOr (sB (sOp (gNeO "Step" f_Step___eq__) (sV 12) (sMake "Step" [.ktp []] f_Step___init__ (sCons (sOp gIx (sV 4) (sC (.int 0))) (sCons (sOp gIx (sV 4) (sC (.int 1))) sNil))))) (sB (sOp gNe (sAs (g1 (gStrO "Step" f_Step___str__)) (sCons (sV 5) sNil)) (sCall f__law_stage_text (sCons (sV 4) sNil))))) (sRet (sC (.bl false))) sNx) (sSeq (sSet 14 (sAs gList (sCons (sCallO 2 f__law_thing (sCons (sC (.int 6)) sNil)) sNil))) (sForS (sIt D.seq (sAs gTupl (sCons (sV 14) (sCons (sC .non) (sCons (sC (.int 3)) (sCons (sC (.str "")) (sCons (sAs gTupl (sCons (sC (.str "pan")) sNil)) (sCons (sC (.str "Pan")) (sCons (sV 5) sNil))))))))) (tName 15) (sSeq (sIfS (sOr (sB (sUn gNotN (sMeth "Step" "loss" [] f_Step_loss (sV 5) (sCons (sV 15) (sCons (sOp gIx (sOp gIx (sV 4) (sC (.int 1))) (sC (.int 0))) sNil))))) (sB (sUn gNotN (sMeth "Step" "loss" [] f_Step_loss (sV 5) (sCons (sOp gIx (sOp gIx (sV 4) (sC (.int 1))) (sC (.int 0))) (sCons (sV 15) sNil)))))) (sRet (sC (.bl false))) sNx) (sIfS (sAnd (sB (sOp (gNeXR "Step" f_Step___eq__) (sV 15) (sV 5))) (sB (sOp gNe (sCall f__law_heard (sCons (sV 5) (sCons (sV 15) sNil))) (sAs gTupl (sCons (sC (.str "none")) (sCons (sAs (g1 gRepr) (sCons (sV 15) sNil)) sNil)))))) (sRet (sC (.bl false))) sNx)))))))))))) (fun _ ρ => ∃ (d : D) (y3 y4 y5 y6 y7 y8 y9 y10 y11 y12 y13 y14 y15 : Option D), ρ = EQ05 X T (some d) y3 y4 y5 y6 y7 y8 y9 y10 y11 y12 y13 y14 y15 none ∧ IsDeal d) 4 (ρ := EQ05 X T (some d0) y3 y4 y5 y6 y7 y8 y9 y10 y11 y12 y13 y14 y15 none) ⟨d0, y3, y4, y5, y6, y7, y8, y9, y10, y11, y12, y13, y14, y15, rfl, D0⟩ fun k hk ρ ⟨d, y3, y4, y5, y6, y7, y8, y9, y10, y11, y12, y13, y14, y15, hρ, hd⟩ => by
      subst hρ
      obtain ⟨d', z4, z5, z6, z7, z8, z9, z10, z11, z12, z13, z14, z15, hd', e⟩ := inner5 (X := X) (T := T) (Mo := some (.int (k : Int))) hd (x4 := y4) (x5 := y5) (x6 := y6) (x7 := y7) (x8 := y8) (x9 := y9) (x10 := y10) (x11 := y11) (x12 := y12) (x13 := y13) (x14 := y14) (x15 := y15)
      exact ⟨_, rfl, _, .inl e, d', some (.int (k : Int)), z4, z5, z6, z7, z8, z9, z10, z11, z12, z13, z14, z15, rfl, hd'⟩
    exact ⟨_, rfl, _, .inl (st_Seq (ρ1 := EQ05 X T (some d0) y3 y4 y5 y6 y7 y8 y9 y10 y11 y12 y13 y14 y15 none) (st_Set (ev_Call (ev_Cons (ev_V rfl) (ev_Cons (ev_V rfl) ev_Nil)) h0)) (st_For (ev_ItA (ev_Cons ev_C ev_Nil) rfl) lp)), T, some d1, z3, z4, z5, z6, z7, z8, z9, z10, z11, z12, z13, z14, z15, rfl⟩
  have : g_law e0 = .rt (.bl true) (EQ05 X y1 y2 y3 y4 y5 y6 y7 y8 y9 y10 y11 y12 y13 y14 y15 none) := by
    unfold g_law
    exact st_Seq (st_For hN l1) (st_Ret ev_C)
  exact ⟨_, df_rt (pm := [.sh]) (n := 16) (ds := [x]) this⟩
end Pu
namespace Pu
open PySem L2 PySem.Spec PyProof.Rows Pw
theorem all_mk {l : PySem.W.OpenLaw} {w : World} {K : PySem.W.Frag} {h : Heap} {mg : Str → Option Value} {fa : Addr} (hlaw : ∀ (x : D) (ns : List Int), x = .lst (ns.map .int) ∨ x = .klt ns → ns.length ≤ 63 → ∃ ds, f_law [x] = .ok (.bl true) ds) (X : K.In h) (G : h.Ns mainGlobals mg) (hfa : mg "law" = some (.ref fa))
    {sv_LETTERS : Str} {tk_LETTERS : Tok}
    {ca_RESERVED : Addr} {ci_RESERVED : Array Value} {cn_RESERVED : Nat} {cl_RESERVED : Array (Option Value)}
    {C_InvalidStep : Addr}
    {C_NoPlace : Addr}
    {C_Step : Addr}
    {f__law_deal : Addr} {od__law_deal an__law_deal : Option Addr} {sl__law_deal : Array (Option Value)} {oc__law_deal kV__law_deal dc__law_deal pm__law_deal ct__law_deal : Value} {cd__law_deal : Value}
    {f__law_draw : Addr} {od__law_draw an__law_draw : Option Addr} {sl__law_draw : Array (Option Value)} {oc__law_draw kV__law_draw dc__law_draw pm__law_draw ct__law_draw : Value} {cd__law_draw : Value}
    {f_is_integer : Addr} {od_is_integer an_is_integer : Option Addr} {sl_is_integer : Array (Option Value)} {oc_is_integer kV_is_integer dc_is_integer pm_is_integer ct_is_integer : Value} {cd_is_integer : Value}
    {f_is_number : Addr} {od_is_number an_is_number : Option Addr} {sl_is_number : Array (Option Value)} {oc_is_number kV_is_number dc_is_number pm_is_number ct_is_number : Value} {cd_is_number : Value}
    {f_is_sequence : Addr} {od_is_sequence an_is_sequence : Option Addr} {sl_is_sequence : Array (Option Value)} {oc_is_sequence kV_is_sequence dc_is_sequence pm_is_sequence ct_is_sequence : Value} {cd_is_sequence : Value}
    {f_is_name : Addr} {od_is_name an_is_name : Option Addr} {sl_is_name : Array (Option Value)} {oc_is_name kV_is_name dc_is_name pm_is_name ct_is_name : Value} {cd_is_name : Value}
    {f_is_row_of_names : Addr} {od_is_row_of_names an_is_row_of_names : Option Addr} {sl_is_row_of_names : Array (Option Value)} {oc_is_row_of_names kV_is_row_of_names dc_is_row_of_names pm_is_row_of_names ct_is_row_of_names : Value} {cd_is_row_of_names : Value}
    {f_are_unlike : Addr} {od_are_unlike an_are_unlike : Option Addr} {sl_are_unlike : Array (Option Value)} {oc_are_unlike kV_are_unlike dc_are_unlike pm_are_unlike ct_are_unlike : Value} {cd_are_unlike : Value}
    {f_is_arrow : Addr} {od_is_arrow an_is_arrow : Option Addr} {sl_is_arrow : Array (Option Value)} {oc_is_arrow kV_is_arrow dc_is_arrow pm_is_arrow ct_is_arrow : Value} {cd_is_arrow : Value}
    {f_are_arrows : Addr} {od_are_arrows an_are_arrows : Option Addr} {sl_are_arrows : Array (Option Value)} {oc_are_arrows kV_are_arrows dc_are_arrows pm_are_arrows ct_are_arrows : Value} {cd_are_arrows : Value}
    {f_Step___init__ : Addr} {od_Step___init__ an_Step___init__ : Option Addr} {sl_Step___init__ : Array (Option Value)} {oc_Step___init__ kV_Step___init__ dc_Step___init__ pm_Step___init__ ct_Step___init__ : Value} {cd_Step___init__ : Value}
    {dt_Step___init__ : Addr}
    {e0_Step___init__ : Addr} {en0_Step___init__ : Nat} {el0_Step___init__ : Array (Option Value)}
    {tc_Step___init__ : Value} {td_Step___init__ : Option Addr} {tn_Step___init__ : Nat} {tl_Step___init__ : Array (Option Value)}
    {f_Step___str__ : Addr} {od_Step___str__ an_Step___str__ : Option Addr} {sl_Step___str__ : Array (Option Value)} {oc_Step___str__ kV_Step___str__ dc_Step___str__ pm_Step___str__ ct_Step___str__ : Value} {cd_Step___str__ : Value}
    {f_Step___eq__ : Addr} {od_Step___eq__ an_Step___eq__ : Option Addr} {sl_Step___eq__ : Array (Option Value)} {oc_Step___eq__ kV_Step___eq__ dc_Step___eq__ pm_Step___eq__ ct_Step___eq__ : Value} {cd_Step___eq__ : Value}
    {f_Step_is_touched : Addr} {od_Step_is_touched an_Step_is_touched : Option Addr} {sl_Step_is_touched : Array (Option Value)} {oc_Step_is_touched kV_Step_is_touched dc_Step_is_touched pm_Step_is_touched ct_Step_is_touched : Value} {cd_Step_is_touched : Value}
    {f_Step_washed : Addr} {od_Step_washed an_Step_washed : Option Addr} {sl_Step_washed : Array (Option Value)} {oc_Step_washed kV_Step_washed dc_Step_washed pm_Step_washed ct_Step_washed : Value} {cd_Step_washed : Value}
    {f_Step_loss : Addr} {od_Step_loss an_Step_loss : Option Addr} {sl_Step_loss : Array (Option Value)} {oc_Step_loss kV_Step_loss dc_Step_loss pm_Step_loss ct_Step_loss : Value} {cd_Step_loss : Value}
    {f__law_pick : Addr} {od__law_pick an__law_pick : Option Addr} {sl__law_pick : Array (Option Value)} {oc__law_pick kV__law_pick dc__law_pick pm__law_pick ct__law_pick : Value} {cd__law_pick : Value}
    {f__law_mixed : Addr} {od__law_mixed an__law_mixed : Option Addr} {sl__law_mixed : Array (Option Value)} {oc__law_mixed kV__law_mixed dc__law_mixed pm__law_mixed ct__law_mixed : Value} {cd__law_mixed : Value}
    {f__law_thing : Addr} {od__law_thing an__law_thing : Option Addr} {sl__law_thing : Array (Option Value)} {oc__law_thing kV__law_thing dc__law_thing pm__law_thing ct__law_thing : Value} {cd__law_thing : Value}
    {f__law_spots : Addr} {od__law_spots an__law_spots : Option Addr} {sl__law_spots : Array (Option Value)} {oc__law_spots kV__law_spots dc__law_spots pm__law_spots ct__law_spots : Value} {cd__law_spots : Value}
    {f__law_stage : Addr} {od__law_stage an__law_stage : Option Addr} {sl__law_stage : Array (Option Value)} {oc__law_stage kV__law_stage dc__law_stage pm__law_stage ct__law_stage : Value} {cd__law_stage : Value}
    {f__law_stage_text : Addr} {od__law_stage_text an__law_stage_text : Option Addr} {sl__law_stage_text : Array (Option Value)} {oc__law_stage_text kV__law_stage_text dc__law_stage_text pm__law_stage_text ct__law_stage_text : Value} {cd__law_stage_text : Value}
    {f__law_heard : Addr} {od__law_heard an__law_heard : Option Addr} {sl__law_heard : Array (Option Value)} {oc__law_heard kV__law_heard dc__law_heard pm__law_heard ct__law_heard : Value} {cd__law_heard : Value}
    {f_law : Addr} {od_law an_law : Option Addr} {sl_law : Array (Option Value)} {oc_law kV_law dc_law pm_law ct_law : Value} {cd_law : Value}
    {fi_InvalidStep xcda_InvalidStep xcc_InvalidStep : Addr} {xod_InvalidStep xan_InvalidStep xcdd_InvalidStep xcld_InvalidStep : Option Addr} {xoc_InvalidStep xkV_InvalidStep xdc_InvalidStep xpm_InvalidStep xct_InvalidStep xccl_InvalidStep xcl_InvalidStep : Value} {xsl_InvalidStep xccs_InvalidStep xcsl_InvalidStep : Array (Option Value)} {xvs_InvalidStep : Array Value} {xfl_InvalidStep : Str} {xtf_InvalidStep : Tok} {xcd_InvalidStep : ClassData}
    {fi_NoPlace xcda_NoPlace xcc_NoPlace : Addr} {xod_NoPlace xan_NoPlace xcdd_NoPlace xcld_NoPlace : Option Addr} {xoc_NoPlace xkV_NoPlace xdc_NoPlace xpm_NoPlace xct_NoPlace xccl_NoPlace xcl_NoPlace : Value} {xsl_NoPlace xccs_NoPlace xcsl_NoPlace : Array (Option Value)} {xvs_NoPlace : Array Value} {xfl_NoPlace : Str} {xtf_NoPlace : Tok} {xcd_NoPlace : ClassData}
    (z_abs : PySem.W.nsIn K mainGlobals "abs" = some none)
    (z_all : PySem.W.nsIn K mainGlobals "all" = some none)
    (z_bool : PySem.W.nsIn K mainGlobals "bool" = some none)
    (z_int : PySem.W.nsIn K mainGlobals "int" = some none)
    (z_isinstance : PySem.W.nsIn K mainGlobals "isinstance" = some none)
    (z_len : PySem.W.nsIn K mainGlobals "len" = some none)
    (z_list : PySem.W.nsIn K mainGlobals "list" = some none)
    (z_max : PySem.W.nsIn K mainGlobals "max" = some none)
    (z_min : PySem.W.nsIn K mainGlobals "min" = some none)
    (z_range : PySem.W.nsIn K mainGlobals "range" = some none)
    (z_repr : PySem.W.nsIn K mainGlobals "repr" = some none)
    (z_sorted : PySem.W.nsIn K mainGlobals "sorted" = some none)
    (z_str : PySem.W.nsIn K mainGlobals "str" = some none)
    (z_tuple : PySem.W.nsIn K mainGlobals "tuple" = some none)
    (g_LETTERS : PySem.W.nsIn K mainGlobals "LETTERS" = some (some (.str sv_LETTERS tk_LETTERS)))
    (e_LETTERS : sv_LETTERS = "abcdefghijklmnopqrstuvwxyz")
    (g_RESERVED : PySem.W.nsIn K mainGlobals "RESERVED" = some (some (.ref ca_RESERVED)))
    (e_RESERVED : K.lookup ca_RESERVED = some ⟨.type "tuple", none, .seq ci_RESERVED cn_RESERVED, cl_RESERVED⟩)
    (v_RESERVED : Vals [.str "at", .str "go", .str "ahead", .str "trace", .str "limit", .str "work"] ci_RESERVED.toList)
    (w_RESERVED : ci_RESERVED.size ≤ sizeLine)
    (aC_InvalidStep : PySem.W.nsIn K mainGlobals "InvalidStep" = some (some (.ref C_InvalidStep)))
    (aC_NoPlace : PySem.W.nsIn K mainGlobals "NoPlace" = some (some (.ref C_NoPlace)))
    (aC_Step : PySem.W.nsIn K mainGlobals "Step" = some (some (.ref C_Step)))
    (a__law_deal : PySem.W.nsIn K mainGlobals "_law_deal" = some (some (.ref f__law_deal)))
    (l__law_deal : K.lookup f__law_deal = some ⟨oc__law_deal, od__law_deal, .func (PySem.W.fnOf "_law_deal" "_law_deal" (defArgs s__law_deal) (defBody s__law_deal) (defScope s__law_deal) .none kV__law_deal dc__law_deal pm__law_deal an__law_deal cd__law_deal ct__law_deal), sl__law_deal⟩)
    (c__law_deal : PySem.W.codeIn K cd__law_deal "_law_deal" = true)
    (k__law_deal : PySem.W.keepIn K (.ref f__law_deal) = true)
    (a__law_draw : PySem.W.nsIn K mainGlobals "_law_draw" = some (some (.ref f__law_draw)))
    (l__law_draw : K.lookup f__law_draw = some ⟨oc__law_draw, od__law_draw, .func (PySem.W.fnOf "_law_draw" "_law_draw" (defArgs s__law_draw) (defBody s__law_draw) (defScope s__law_draw) .none kV__law_draw dc__law_draw pm__law_draw an__law_draw cd__law_draw ct__law_draw), sl__law_draw⟩)
    (c__law_draw : PySem.W.codeIn K cd__law_draw "_law_draw" = true)
    (k__law_draw : PySem.W.keepIn K (.ref f__law_draw) = true)
    (a_is_integer : PySem.W.nsIn K mainGlobals "is_integer" = some (some (.ref f_is_integer)))
    (l_is_integer : K.lookup f_is_integer = some ⟨oc_is_integer, od_is_integer, .func (PySem.W.fnOf "is_integer" "is_integer" (defArgs s_is_integer) (defBody s_is_integer) (defScope s_is_integer) .none kV_is_integer dc_is_integer pm_is_integer an_is_integer cd_is_integer ct_is_integer), sl_is_integer⟩)
    (c_is_integer : PySem.W.codeIn K cd_is_integer "is_integer" = true)
    (k_is_integer : PySem.W.keepIn K (.ref f_is_integer) = true)
    (a_is_number : PySem.W.nsIn K mainGlobals "is_number" = some (some (.ref f_is_number)))
    (l_is_number : K.lookup f_is_number = some ⟨oc_is_number, od_is_number, .func (PySem.W.fnOf "is_number" "is_number" (defArgs s_is_number) (defBody s_is_number) (defScope s_is_number) .none kV_is_number dc_is_number pm_is_number an_is_number cd_is_number ct_is_number), sl_is_number⟩)
    (c_is_number : PySem.W.codeIn K cd_is_number "is_number" = true)
    (k_is_number : PySem.W.keepIn K (.ref f_is_number) = true)
    (a_is_sequence : PySem.W.nsIn K mainGlobals "is_sequence" = some (some (.ref f_is_sequence)))
    (l_is_sequence : K.lookup f_is_sequence = some ⟨oc_is_sequence, od_is_sequence, .func (PySem.W.fnOf "is_sequence" "is_sequence" (defArgs s_is_sequence) (defBody s_is_sequence) (defScope s_is_sequence) .none kV_is_sequence dc_is_sequence pm_is_sequence an_is_sequence cd_is_sequence ct_is_sequence), sl_is_sequence⟩)
    (c_is_sequence : PySem.W.codeIn K cd_is_sequence "is_sequence" = true)
    (k_is_sequence : PySem.W.keepIn K (.ref f_is_sequence) = true)
    (a_is_name : PySem.W.nsIn K mainGlobals "is_name" = some (some (.ref f_is_name)))
    (l_is_name : K.lookup f_is_name = some ⟨oc_is_name, od_is_name, .func (PySem.W.fnOf "is_name" "is_name" (defArgs s_is_name) (defBody s_is_name) (defScope s_is_name) .none kV_is_name dc_is_name pm_is_name an_is_name cd_is_name ct_is_name), sl_is_name⟩)
    (c_is_name : PySem.W.codeIn K cd_is_name "is_name" = true)
    (k_is_name : PySem.W.keepIn K (.ref f_is_name) = true)
    (a_is_row_of_names : PySem.W.nsIn K mainGlobals "is_row_of_names" = some (some (.ref f_is_row_of_names)))
    (l_is_row_of_names : K.lookup f_is_row_of_names = some ⟨oc_is_row_of_names, od_is_row_of_names, .func (PySem.W.fnOf "is_row_of_names" "is_row_of_names" (defArgs s_is_row_of_names) (defBody s_is_row_of_names) (defScope s_is_row_of_names) .none kV_is_row_of_names dc_is_row_of_names pm_is_row_of_names an_is_row_of_names cd_is_row_of_names ct_is_row_of_names), sl_is_row_of_names⟩)
    (c_is_row_of_names : PySem.W.codeIn K cd_is_row_of_names "is_row_of_names" = true)
    (k_is_row_of_names : PySem.W.keepIn K (.ref f_is_row_of_names) = true)
    (a_are_unlike : PySem.W.nsIn K mainGlobals "are_unlike" = some (some (.ref f_are_unlike)))
    (l_are_unlike : K.lookup f_are_unlike = some ⟨oc_are_unlike, od_are_unlike, .func (PySem.W.fnOf "are_unlike" "are_unlike" (defArgs s_are_unlike) (defBody s_are_unlike) (defScope s_are_unlike) .none kV_are_unlike dc_are_unlike pm_are_unlike an_are_unlike cd_are_unlike ct_are_unlike), sl_are_unlike⟩)
    (c_are_unlike : PySem.W.codeIn K cd_are_unlike "are_unlike" = true)
    (k_are_unlike : PySem.W.keepIn K (.ref f_are_unlike) = true)
    (a_is_arrow : PySem.W.nsIn K mainGlobals "is_arrow" = some (some (.ref f_is_arrow)))
    (l_is_arrow : K.lookup f_is_arrow = some ⟨oc_is_arrow, od_is_arrow, .func (PySem.W.fnOf "is_arrow" "is_arrow" (defArgs s_is_arrow) (defBody s_is_arrow) (defScope s_is_arrow) .none kV_is_arrow dc_is_arrow pm_is_arrow an_is_arrow cd_is_arrow ct_is_arrow), sl_is_arrow⟩)
    (c_is_arrow : PySem.W.codeIn K cd_is_arrow "is_arrow" = true)
    (k_is_arrow : PySem.W.keepIn K (.ref f_is_arrow) = true)
    (a_are_arrows : PySem.W.nsIn K mainGlobals "are_arrows" = some (some (.ref f_are_arrows)))
    (l_are_arrows : K.lookup f_are_arrows = some ⟨oc_are_arrows, od_are_arrows, .func (PySem.W.fnOf "are_arrows" "are_arrows" (defArgs s_are_arrows) (defBody s_are_arrows) (defScope s_are_arrows) .none kV_are_arrows dc_are_arrows pm_are_arrows an_are_arrows cd_are_arrows ct_are_arrows), sl_are_arrows⟩)
    (c_are_arrows : PySem.W.codeIn K cd_are_arrows "are_arrows" = true)
    (k_are_arrows : PySem.W.keepIn K (.ref f_are_arrows) = true)
    (a_Step___init__ : PySem.W.findIn K (.ref C_Step) "__init__" = some (some (.ref f_Step___init__)))
    (i_Step___init__ : PySem.W.isFn K (.ref f_Step___init__) = true)
    (l_Step___init__ : K.lookup f_Step___init__ = some ⟨oc_Step___init__, od_Step___init__, .func (PySem.W.fnOf "__init__" "Step.__init__" (defArgs s_Step___init__) (defBody s_Step___init__) (defScope s_Step___init__) (.ref dt_Step___init__) kV_Step___init__ dc_Step___init__ pm_Step___init__ an_Step___init__ cd_Step___init__ ct_Step___init__), sl_Step___init__⟩)
    (c_Step___init__ : PySem.W.codeIn K cd_Step___init__ "Step.__init__" = true)
    (k_Step___init__ : PySem.W.keepIn K (.ref f_Step___init__) = true)
    (q_Step___init__ : K.lookup dt_Step___init__ = some ⟨tc_Step___init__, td_Step___init__, .seq #[.ref e0_Step___init__] tn_Step___init__, tl_Step___init__⟩)
    (r0_Step___init__ : K.lookup e0_Step___init__ = some ⟨.type "tuple", none, .seq #[] en0_Step___init__, el0_Step___init__⟩)
    (a_Step___str__ : PySem.W.findIn K (.ref C_Step) "__str__" = some (some (.ref f_Step___str__)))
    (i_Step___str__ : PySem.W.isFn K (.ref f_Step___str__) = true)
    (l_Step___str__ : K.lookup f_Step___str__ = some ⟨oc_Step___str__, od_Step___str__, .func (PySem.W.fnOf "__str__" "Step.__str__" (defArgs s_Step___str__) (defBody s_Step___str__) (defScope s_Step___str__) .none kV_Step___str__ dc_Step___str__ pm_Step___str__ an_Step___str__ cd_Step___str__ ct_Step___str__), sl_Step___str__⟩)
    (c_Step___str__ : PySem.W.codeIn K cd_Step___str__ "Step.__str__" = true)
    (k_Step___str__ : PySem.W.keepIn K (.ref f_Step___str__) = true)
    (a_Step___eq__ : PySem.W.findIn K (.ref C_Step) "__eq__" = some (some (.ref f_Step___eq__)))
    (i_Step___eq__ : PySem.W.isFn K (.ref f_Step___eq__) = true)
    (l_Step___eq__ : K.lookup f_Step___eq__ = some ⟨oc_Step___eq__, od_Step___eq__, .func (PySem.W.fnOf "__eq__" "Step.__eq__" (defArgs s_Step___eq__) (defBody s_Step___eq__) (defScope s_Step___eq__) .none kV_Step___eq__ dc_Step___eq__ pm_Step___eq__ an_Step___eq__ cd_Step___eq__ ct_Step___eq__), sl_Step___eq__⟩)
    (c_Step___eq__ : PySem.W.codeIn K cd_Step___eq__ "Step.__eq__" = true)
    (k_Step___eq__ : PySem.W.keepIn K (.ref f_Step___eq__) = true)
    (a_Step_is_touched : PySem.W.findIn K (.ref C_Step) "is_touched" = some (some (.ref f_Step_is_touched)))
    (i_Step_is_touched : PySem.W.isFn K (.ref f_Step_is_touched) = true)
    (l_Step_is_touched : K.lookup f_Step_is_touched = some ⟨oc_Step_is_touched, od_Step_is_touched, .func (PySem.W.fnOf "is_touched" "Step.is_touched" (defArgs s_Step_is_touched) (defBody s_Step_is_touched) (defScope s_Step_is_touched) .none kV_Step_is_touched dc_Step_is_touched pm_Step_is_touched an_Step_is_touched cd_Step_is_touched ct_Step_is_touched), sl_Step_is_touched⟩)
    (c_Step_is_touched : PySem.W.codeIn K cd_Step_is_touched "Step.is_touched" = true)
    (k_Step_is_touched : PySem.W.keepIn K (.ref f_Step_is_touched) = true)
    (a_Step_washed : PySem.W.findIn K (.ref C_Step) "washed" = some (some (.ref f_Step_washed)))
    (i_Step_washed : PySem.W.isFn K (.ref f_Step_washed) = true)
    (l_Step_washed : K.lookup f_Step_washed = some ⟨oc_Step_washed, od_Step_washed, .func (PySem.W.fnOf "washed" "Step.washed" (defArgs s_Step_washed) (defBody s_Step_washed) (defScope s_Step_washed) .none kV_Step_washed dc_Step_washed pm_Step_washed an_Step_washed cd_Step_washed ct_Step_washed), sl_Step_washed⟩)
    (c_Step_washed : PySem.W.codeIn K cd_Step_washed "Step.washed" = true)
    (k_Step_washed : PySem.W.keepIn K (.ref f_Step_washed) = true)
    (a_Step_loss : PySem.W.findIn K (.ref C_Step) "loss" = some (some (.ref f_Step_loss)))
    (i_Step_loss : PySem.W.isFn K (.ref f_Step_loss) = true)
    (l_Step_loss : K.lookup f_Step_loss = some ⟨oc_Step_loss, od_Step_loss, .func (PySem.W.fnOf "loss" "Step.loss" (defArgs s_Step_loss) (defBody s_Step_loss) (defScope s_Step_loss) .none kV_Step_loss dc_Step_loss pm_Step_loss an_Step_loss cd_Step_loss ct_Step_loss), sl_Step_loss⟩)
    (c_Step_loss : PySem.W.codeIn K cd_Step_loss "Step.loss" = true)
    (k_Step_loss : PySem.W.keepIn K (.ref f_Step_loss) = true)
    (a__law_pick : PySem.W.nsIn K mainGlobals "_law_pick" = some (some (.ref f__law_pick)))
    (l__law_pick : K.lookup f__law_pick = some ⟨oc__law_pick, od__law_pick, .func (PySem.W.fnOf "_law_pick" "_law_pick" (defArgs s__law_pick) (defBody s__law_pick) (defScope s__law_pick) .none kV__law_pick dc__law_pick pm__law_pick an__law_pick cd__law_pick ct__law_pick), sl__law_pick⟩)
    (c__law_pick : PySem.W.codeIn K cd__law_pick "_law_pick" = true)
    (k__law_pick : PySem.W.keepIn K (.ref f__law_pick) = true)
    (a__law_mixed : PySem.W.nsIn K mainGlobals "_law_mixed" = some (some (.ref f__law_mixed)))
    (l__law_mixed : K.lookup f__law_mixed = some ⟨oc__law_mixed, od__law_mixed, .func (PySem.W.fnOf "_law_mixed" "_law_mixed" (defArgs s__law_mixed) (defBody s__law_mixed) (defScope s__law_mixed) .none kV__law_mixed dc__law_mixed pm__law_mixed an__law_mixed cd__law_mixed ct__law_mixed), sl__law_mixed⟩)
    (c__law_mixed : PySem.W.codeIn K cd__law_mixed "_law_mixed" = true)
    (k__law_mixed : PySem.W.keepIn K (.ref f__law_mixed) = true)
    (a__law_thing : PySem.W.nsIn K mainGlobals "_law_thing" = some (some (.ref f__law_thing)))
    (l__law_thing : K.lookup f__law_thing = some ⟨oc__law_thing, od__law_thing, .func (PySem.W.fnOf "_law_thing" "_law_thing" (defArgs s__law_thing) (defBody s__law_thing) (defScope s__law_thing) .none kV__law_thing dc__law_thing pm__law_thing an__law_thing cd__law_thing ct__law_thing), sl__law_thing⟩)
    (c__law_thing : PySem.W.codeIn K cd__law_thing "_law_thing" = true)
    (k__law_thing : PySem.W.keepIn K (.ref f__law_thing) = true)
    (a__law_spots : PySem.W.nsIn K mainGlobals "_law_spots" = some (some (.ref f__law_spots)))
    (l__law_spots : K.lookup f__law_spots = some ⟨oc__law_spots, od__law_spots, .func (PySem.W.fnOf "_law_spots" "_law_spots" (defArgs s__law_spots) (defBody s__law_spots) (defScope s__law_spots) .none kV__law_spots dc__law_spots pm__law_spots an__law_spots cd__law_spots ct__law_spots), sl__law_spots⟩)
    (c__law_spots : PySem.W.codeIn K cd__law_spots "_law_spots" = true)
    (k__law_spots : PySem.W.keepIn K (.ref f__law_spots) = true)
    (a__law_stage : PySem.W.nsIn K mainGlobals "_law_stage" = some (some (.ref f__law_stage)))
    (l__law_stage : K.lookup f__law_stage = some ⟨oc__law_stage, od__law_stage, .func (PySem.W.fnOf "_law_stage" "_law_stage" (defArgs s__law_stage) (defBody s__law_stage) (defScope s__law_stage) .none kV__law_stage dc__law_stage pm__law_stage an__law_stage cd__law_stage ct__law_stage), sl__law_stage⟩)
    (c__law_stage : PySem.W.codeIn K cd__law_stage "_law_stage" = true)
    (k__law_stage : PySem.W.keepIn K (.ref f__law_stage) = true)
    (a__law_stage_text : PySem.W.nsIn K mainGlobals "_law_stage_text" = some (some (.ref f__law_stage_text)))
    (l__law_stage_text : K.lookup f__law_stage_text = some ⟨oc__law_stage_text, od__law_stage_text, .func (PySem.W.fnOf "_law_stage_text" "_law_stage_text" (defArgs s__law_stage_text) (defBody s__law_stage_text) (defScope s__law_stage_text) .none kV__law_stage_text dc__law_stage_text pm__law_stage_text an__law_stage_text cd__law_stage_text ct__law_stage_text), sl__law_stage_text⟩)
    (c__law_stage_text : PySem.W.codeIn K cd__law_stage_text "_law_stage_text" = true)
    (k__law_stage_text : PySem.W.keepIn K (.ref f__law_stage_text) = true)
    (a__law_heard : PySem.W.nsIn K mainGlobals "_law_heard" = some (some (.ref f__law_heard)))
    (l__law_heard : K.lookup f__law_heard = some ⟨oc__law_heard, od__law_heard, .func (PySem.W.fnOf "_law_heard" "_law_heard" (defArgs s__law_heard) (defBody s__law_heard) (defScope s__law_heard) .none kV__law_heard dc__law_heard pm__law_heard an__law_heard cd__law_heard ct__law_heard), sl__law_heard⟩)
    (c__law_heard : PySem.W.codeIn K cd__law_heard "_law_heard" = true)
    (k__law_heard : PySem.W.keepIn K (.ref f__law_heard) = true)
    (a_law : PySem.W.nsIn K mainGlobals "law" = some (some (.ref f_law)))
    (l_law : K.lookup f_law = some ⟨oc_law, od_law, .func (PySem.W.fnOf "law" "law" (defArgs s_law) (defBody s_law) (defScope s_law) .none kV_law dc_law pm_law an_law cd_law ct_law), sl_law⟩)
    (c_law : PySem.W.codeIn K cd_law "law" = true)
    (k_law : PySem.W.keepIn K (.ref f_law) = true)
    (x_sup : PySem.W.nsIn K mainGlobals "super" = some none)
    (x_opq : PySem.W.nsIn K cStatics "thirdparty.any" = some none)
    (x_top : (l.prog.main.scope.names.lookup ("super" : Str)).isSome = false)
    (xa_InvalidStep : PySem.W.findIn K (.ref C_InvalidStep) "__init__" = some (some (.ref fi_InvalidStep)))
    (xt_InvalidStep : PySem.W.typeIn K (.ref fi_InvalidStep) = some (.type "function"))
    (xl_InvalidStep : K.lookup fi_InvalidStep = some ⟨xoc_InvalidStep, xod_InvalidStep, .func (PySem.W.ksFn "__init__" "InvalidStep.__init__" (defArgs s_InvalidStep___init__) (defBody s_InvalidStep___init__) (defScope s_InvalidStep___init__) .none xkV_InvalidStep xdc_InvalidStep xpm_InvalidStep xan_InvalidStep (.ref xcda_InvalidStep) xct_InvalidStep xcc_InvalidStep), xsl_InvalidStep⟩)
    (xco_InvalidStep : PySem.W.codeIn K (.ref xcda_InvalidStep) "InvalidStep.__init__" = true)
    (xck_InvalidStep : K.lookup xcda_InvalidStep = some ⟨xccl_InvalidStep, xcdd_InvalidStep, .fields xvs_InvalidStep, xccs_InvalidStep⟩)
    (xv2_InvalidStep : xvs_InvalidStep[2]? = some (.str xfl_InvalidStep xtf_InvalidStep))
    (xfe_InvalidStep : ((l.prog.main.file : Str) == xfl_InvalidStep) = true)
    (xce_InvalidStep : K.lookup xcc_InvalidStep = some ⟨xcl_InvalidStep, xcld_InvalidStep, .cell (some (.ref C_InvalidStep)), xcsl_InvalidStep⟩)
    (xcd_hInvalidStep : PySem.W.clsIn K C_InvalidStep = some xcd_InvalidStep)
    (xmr_InvalidStep : PySem.W.mroIn K C_InvalidStep (.ref C_InvalidStep) = some true)
    (xsu_InvalidStep : PySem.W.ks_superIn K C_InvalidStep C_InvalidStep "__init__" = some (some (.builtin "ValueError.__init__")))
    (xsb_InvalidStep : PySem.W.subIn K (.ref C_InvalidStep) (.type "ValueError") = some true)
    (xxi_InvalidStep : PySem.W.excInitIn K C_InvalidStep bmVE "ValueError.__new__" = true)
    (xov_InvalidStep : PySem.W.excOver K C_InvalidStep bmVE = true)
    (xsa_InvalidStep : PySem.W.findIn K (.ref C_InvalidStep) "__setattr__" = some (some (.builtin "object.__setattr__")))
    (xtk_InvalidStep : PySem.W.takerIn K C_InvalidStep "word" = some none)
    (xhd_InvalidStep : PySem.W.hasDictIn K C_InvalidStep = true)
    (xkc_InvalidStep : PySem.W.keepIn K (.ref C_InvalidStep) = true)
    (xbe_InvalidStep : PySem.W.subIn K (.ref C_InvalidStep) (.type "BaseException") = some true)
    (xty_InvalidStep : PySem.W.typeIn K (.ref C_InvalidStep) = some (.type "type"))
    (xa_NoPlace : PySem.W.findIn K (.ref C_NoPlace) "__init__" = some (some (.ref fi_NoPlace)))
    (xt_NoPlace : PySem.W.typeIn K (.ref fi_NoPlace) = some (.type "function"))
    (xl_NoPlace : K.lookup fi_NoPlace = some ⟨xoc_NoPlace, xod_NoPlace, .func (PySem.W.ksFn "__init__" "NoPlace.__init__" (defArgs s_NoPlace___init__) (defBody s_NoPlace___init__) (defScope s_NoPlace___init__) .none xkV_NoPlace xdc_NoPlace xpm_NoPlace xan_NoPlace (.ref xcda_NoPlace) xct_NoPlace xcc_NoPlace), xsl_NoPlace⟩)
    (xco_NoPlace : PySem.W.codeIn K (.ref xcda_NoPlace) "NoPlace.__init__" = true)
    (xck_NoPlace : K.lookup xcda_NoPlace = some ⟨xccl_NoPlace, xcdd_NoPlace, .fields xvs_NoPlace, xccs_NoPlace⟩)
    (xv2_NoPlace : xvs_NoPlace[2]? = some (.str xfl_NoPlace xtf_NoPlace))
    (xfe_NoPlace : ((l.prog.main.file : Str) == xfl_NoPlace) = true)
    (xce_NoPlace : K.lookup xcc_NoPlace = some ⟨xcl_NoPlace, xcld_NoPlace, .cell (some (.ref C_NoPlace)), xcsl_NoPlace⟩)
    (xcd_hNoPlace : PySem.W.clsIn K C_NoPlace = some xcd_NoPlace)
    (xmr_NoPlace : PySem.W.mroIn K C_NoPlace (.ref C_NoPlace) = some true)
    (xsu_NoPlace : PySem.W.ks_superIn K C_NoPlace C_NoPlace "__init__" = some (some (.builtin "KeyError.__init__")))
    (xsb_NoPlace : PySem.W.subIn K (.ref C_NoPlace) (.type "KeyError") = some true)
    (xxi_NoPlace : PySem.W.excInitIn K C_NoPlace bmKE "LookupError.__new__" = true)
    (xov_NoPlace : PySem.W.excOver K C_NoPlace bmKE = true)
    (xsa_NoPlace : PySem.W.findIn K (.ref C_NoPlace) "__setattr__" = some (some (.builtin "object.__setattr__")))
    (xtk_NoPlace : PySem.W.takerIn K C_NoPlace "name" = some none)
    (xhd_NoPlace : PySem.W.hasDictIn K C_NoPlace = true)
    (xkc_NoPlace : PySem.W.keepIn K (.ref C_NoPlace) = true)
    (xbe_NoPlace : PySem.W.subIn K (.ref C_NoPlace) (.type "BaseException") = some true)
    (xty_NoPlace : PySem.W.typeIn K (.ref C_NoPlace) = some (.type "type"))
    (eb_NoPlace : PySem.W.subIn K (.ref C_NoPlace) (.type "BaseException") = some true)
    (ed_NoPlace : PySem.W.hasDictIn K C_NoPlace = true)
    (et_NoPlace : PySem.W.typeIn K (.ref C_NoPlace) = some (.type "type"))
    (es_InvalidStep_NoPlace : PySem.W.subIn K (.ref C_InvalidStep) (.ref C_NoPlace) = some false)
    (es_NoPlace_NoPlace : PySem.W.subIn K (.ref C_NoPlace) (.ref C_NoPlace) = some true)
    (xg1_InvalidStep : PySem.W.findIn K (.ref C_InvalidStep) "__getattribute__" = some (some (.builtin "BaseException.__getattribute__")))
    (xg2_InvalidStep : PySem.W.findIn K (.ref C_InvalidStep) "__getattr__" = some none)
    (xg3_InvalidStep : PySem.W.subIn K (.ref C_InvalidStep) (.type "BaseException") = some true)
    (xg4_InvalidStep : PySem.W.hasDictIn K C_InvalidStep = true)
    (xn_InvalidStep_name : PySem.W.findIn K (.ref C_InvalidStep) "name" = some none)
    (xg1_NoPlace : PySem.W.findIn K (.ref C_NoPlace) "__getattribute__" = some (some (.builtin "BaseException.__getattribute__")))
    (xg2_NoPlace : PySem.W.findIn K (.ref C_NoPlace) "__getattr__" = some none)
    (xg3_NoPlace : PySem.W.subIn K (.ref C_NoPlace) (.type "BaseException") = some true)
    (xg4_NoPlace : PySem.W.hasDictIn K C_NoPlace = true)
    (xn_NoPlace_name : PySem.W.findIn K (.ref C_NoPlace) "name" = some none)
    (pg_Step : PySem.W.plainGet K C_Step Str.empty = true)
    (hd_Step : PySem.W.hasDictIn K C_Step = true)
    (po_Step : PySem.W.plainOver K C_Step = true)
    (sa_Step : PySem.W.findIn K (.ref C_Step) "__setattr__" = some (some (.builtin "object.__setattr__")))
    (mk_Step : PySem.W.makesIn K C_Step = true)
    (kc_Step : PySem.W.keepIn K (.ref C_Step) = true)
    (ha_Step : PySem.W.findIn K (.ref C_Step) "__class__" = some (some (.builtin "object.__class__")))
    (hn_Step : PySem.W.specialIn K (.builtin "object.__class__") "__get__" = some (some (.builtin "getset_descriptor.__get__")))
    (ht_Step : PySem.W.takesIn K (.builtin "object.__class__") = some true)
    (hm_Step : PySem.W.mroIn K C_Step (.type "object") = some true)
    (mi_Step : PySem.W.mroIn K C_Step (.type "int") = some false)
    (mb_Step : PySem.W.mroIn K C_Step (.type "bool") = some false)
    (ms_Step : PySem.W.mroIn K C_Step (.type "str") = some false)
    (ml_Step : PySem.W.mroIn K C_Step (.type "list") = some false)
    (mt_Step : PySem.W.mroIn K C_Step (.type "tuple") = some false)
    (ic_Step : PySem.W.isClsIn K C_Step = true)
    (ty_Step : PySem.W.typeIn K (.ref C_Step) = some (.type "type"))
    (ne_Step : PySem.W.findIn K (.ref C_Step) "__ne__" = some (some (.builtin "object.__ne__")))
    (x_Step_name : PySem.W.findIn K (.ref C_Step) "name" = some none)
    (x_Step_places : PySem.W.findIn K (.ref C_Step) "places" = some none)
    (x_Step_arrows : PySem.W.findIn K (.ref C_Step) "arrows" = some none)
    (x_Step_losses : PySem.W.findIn K (.ref C_Step) "losses" = some none)
    (x_Step_leads : PySem.W.findIn K (.ref C_Step) "leads" = some none)
    (nz_Step : PySem.W.subIn K (.ref C_Step) (.type "NoneType") = some false) :
    ∃ fd : FuncData, (∀ (s : Shared) (v : Value), BindsTo s fd ⟨[v], []⟩ [("_law_script", v)]) ∧ ∀ base : Heap, K.In base → base.Ns mainGlobals mg → FnOkG l.prog w K mg base (L2.CX l.prog w) 12 fa fd ["_law_script"] (spLaw K) := by
  cases hfa.symm.trans (PySem.W.mg_of X G a_law)
  subst e_LETTERS
  have F__law_deal := fun_mk (st := s__law_deal) l__law_deal c__law_deal k__law_deal
  have B__law_deal := F__law_deal.binds (ps := ["_law_script", "_law_base"]) fun _ _ _ _ _ _ us hl => match us, hl with | [_, _], _ => rfl
  have F__law_draw := fun_mk (st := s__law_draw) l__law_draw c__law_draw k__law_draw
  have B__law_draw := F__law_draw.binds (ps := ["_law_deal_here", "_law_many"]) fun _ _ _ _ _ _ us hl => match us, hl with | [_, _], _ => rfl
  have F_is_integer := fun_mk (st := s_is_integer) l_is_integer c_is_integer k_is_integer
  have B_is_integer := F_is_integer.binds (ps := ["value"]) fun _ _ _ _ _ _ us hl => match us, hl with | [_], _ => rfl
  have F_is_number := fun_mk (st := s_is_number) l_is_number c_is_number k_is_number
  have B_is_number := F_is_number.binds (ps := ["value"]) fun _ _ _ _ _ _ us hl => match us, hl with | [_], _ => rfl
  have F_is_sequence := fun_mk (st := s_is_sequence) l_is_sequence c_is_sequence k_is_sequence
  have B_is_sequence := F_is_sequence.binds (ps := ["value"]) fun _ _ _ _ _ _ us hl => match us, hl with | [_], _ => rfl
  have F_is_name := fun_mk (st := s_is_name) l_is_name c_is_name k_is_name
  have B_is_name := F_is_name.binds (ps := ["value"]) fun _ _ _ _ _ _ us hl => match us, hl with | [_], _ => rfl
  have F_is_row_of_names := fun_mk (st := s_is_row_of_names) l_is_row_of_names c_is_row_of_names k_is_row_of_names
  have B_is_row_of_names := F_is_row_of_names.binds (ps := ["value"]) fun _ _ _ _ _ _ us hl => match us, hl with | [_], _ => rfl
  have F_are_unlike := fun_mk (st := s_are_unlike) l_are_unlike c_are_unlike k_are_unlike
  have B_are_unlike := F_are_unlike.binds (ps := ["values"]) fun _ _ _ _ _ _ us hl => match us, hl with | [_], _ => rfl
  have F_is_arrow := fun_mk (st := s_is_arrow) l_is_arrow c_is_arrow k_is_arrow
  have B_is_arrow := F_is_arrow.binds (ps := ["places", "value"]) fun _ _ _ _ _ _ us hl => match us, hl with | [_, _], _ => rfl
  have F_are_arrows := fun_mk (st := s_are_arrows) l_are_arrows c_are_arrows k_are_arrows
  have B_are_arrows := F_are_arrows.binds (ps := ["places", "value"]) fun _ _ _ _ _ _ us hl => match us, hl with | [_, _], _ => rfl
  have F_Step___init__ : FunD K "__init__" "Step.__init__" (defArgs s_Step___init__) (defBody s_Step___init__) (defScope s_Step___init__) [.ref e0_Step___init__] [] f_Step___init__ _ := ⟨⟨_, _, _, _, _, _, _, _, _, _, rfl, l_Step___init__, c_Step___init__, .inr ⟨by simp, dt_Step___init__, _, [.ref e0_Step___init__], _, rfl, q_Step___init__, rfl, (.cons rfl .nil)⟩, .inl rfl⟩, k_Step___init__⟩
  have B_Step___init__ : Binds K (PySem.W.fnOf "__init__" "Step.__init__" (defArgs s_Step___init__) (defBody s_Step___init__) (defScope s_Step___init__) (.ref dt_Step___init__) kV_Step___init__ dc_Step___init__ pm_Step___init__ an_Step___init__ cd_Step___init__ ct_Step___init__) ["self", "name", "places", "arrows"] [] := by
    obtain ⟨ds, hv, hb⟩ := FunD.binds1 (ps := ["self", "name", "places", "arrows"]) F_Step___init__ 4 1 (by simp) rfl fun _ _ _ _ _ _ _ us its h1 h2 => match us, its, h1, h2 with | [_, _, _, _], [_], _, _ => ⟨_, rfl, rfl⟩
    cases hv
    exact hb
  have N1_Step___init__ := FunD.binds1 (ps := ["self", "name", "places", "arrows"]) F_Step___init__ 3 0 (by simp) rfl fun _ _ _ _ _ _ _ us its h1 h2 => match us, its, h1, h2 with | [_, _, _], [_], _, _ => ⟨_, rfl, rfl⟩
  have F_Step___str__ := fun_mk (st := s_Step___str__) l_Step___str__ c_Step___str__ k_Step___str__
  have B_Step___str__ := F_Step___str__.binds (ps := ["self"]) fun _ _ _ _ _ _ us hl => match us, hl with | [_], _ => rfl
  have F_Step___eq__ := fun_mk (st := s_Step___eq__) l_Step___eq__ c_Step___eq__ k_Step___eq__
  have B_Step___eq__ := F_Step___eq__.binds (ps := ["self", "other"]) fun _ _ _ _ _ _ us hl => match us, hl with | [_, _], _ => rfl
  have F_Step_is_touched := fun_mk (st := s_Step_is_touched) l_Step_is_touched c_Step_is_touched k_Step_is_touched
  have B_Step_is_touched := F_Step_is_touched.binds (ps := ["self", "place"]) fun _ _ _ _ _ _ us hl => match us, hl with | [_, _], _ => rfl
  have F_Step_washed := fun_mk (st := s_Step_washed) l_Step_washed c_Step_washed k_Step_washed
  have B_Step_washed := F_Step_washed.binds (ps := ["self", "place"]) fun _ _ _ _ _ _ us hl => match us, hl with | [_, _], _ => rfl
  have F_Step_loss := fun_mk (st := s_Step_loss) l_Step_loss c_Step_loss k_Step_loss
  have B_Step_loss := F_Step_loss.binds (ps := ["self", "start", "end"]) fun _ _ _ _ _ _ us hl => match us, hl with | [_, _, _], _ => rfl
  have F__law_pick := fun_mk (st := s__law_pick) l__law_pick c__law_pick k__law_pick
  have B__law_pick := F__law_pick.binds (ps := ["_law_deal_here", "_law_some"]) fun _ _ _ _ _ _ us hl => match us, hl with | [_, _], _ => rfl
  have F__law_mixed := fun_mk (st := s__law_mixed) l__law_mixed c__law_mixed k__law_mixed
  have B__law_mixed := F__law_mixed.binds (ps := ["_law_deal_here", "_law_some"]) fun _ _ _ _ _ _ us hl => match us, hl with | [_, _], _ => rfl
  have F__law_thing := fun_mk (st := s__law_thing) l__law_thing c__law_thing k__law_thing
  have B__law_thing := F__law_thing.binds (ps := ["_law_deal_here", "_law_deep"]) fun _ _ _ _ _ _ us hl => match us, hl with | [_, _], _ => rfl
  have F__law_spots := fun_mk (st := s__law_spots) l__law_spots c__law_spots k__law_spots
  have B__law_spots := F__law_spots.binds (ps := ["_law_deal_here", "_law_many"]) fun _ _ _ _ _ _ us hl => match us, hl with | [_, _], _ => rfl
  have F__law_stage := fun_mk (st := s__law_stage) l__law_stage c__law_stage k__law_stage
  have B__law_stage := F__law_stage.binds (ps := ["_law_deal_here", "_law_title", "_law_spots_here"]) fun _ _ _ _ _ _ us hl => match us, hl with | [_, _, _], _ => rfl
  have F__law_stage_text := fun_mk (st := s__law_stage_text) l__law_stage_text c__law_stage_text k__law_stage_text
  have B__law_stage_text := F__law_stage_text.binds (ps := ["_law_stage_here"]) fun _ _ _ _ _ _ us hl => match us, hl with | [_], _ => rfl
  have F__law_heard := fun_mk (st := s__law_heard) l__law_heard c__law_heard k__law_heard
  have B__law_heard := F__law_heard.binds (ps := ["_law_made", "_law_spot"]) fun _ _ _ _ _ _ us hl => match us, hl with | [_, _], _ => rfl
  have F_law := fun_mk (st := s_law) l_law c_law k_law
  have B_law := F_law.binds (ps := ["_law_script"]) fun _ _ _ _ _ _ us hl => match us, hl with | [_], _ => rfl
  exact ⟨_, fun s v => .of_eq rfl, fun base _ _ => (ok_law ({
    bl := (List.forall_mem_cons.mpr ⟨PySem.W.mg_none_of X G z_abs, (List.forall_mem_cons.mpr ⟨PySem.W.mg_none_of X G z_all, (List.forall_mem_cons.mpr ⟨PySem.W.mg_none_of X G z_bool, (List.forall_mem_cons.mpr ⟨PySem.W.mg_none_of X G z_int, (List.forall_mem_cons.mpr ⟨PySem.W.mg_none_of X G z_isinstance, (List.forall_mem_cons.mpr ⟨PySem.W.mg_none_of X G z_len, (List.forall_mem_cons.mpr ⟨PySem.W.mg_none_of X G z_list, (List.forall_mem_cons.mpr ⟨PySem.W.mg_none_of X G z_max, (List.forall_mem_cons.mpr ⟨PySem.W.mg_none_of X G z_min, (List.forall_mem_cons.mpr ⟨PySem.W.mg_none_of X G z_range, (List.forall_mem_cons.mpr ⟨PySem.W.mg_none_of X G z_repr, (List.forall_mem_cons.mpr ⟨PySem.W.mg_none_of X G z_sorted, (List.forall_mem_cons.mpr ⟨PySem.W.mg_none_of X G z_str, (List.forall_mem_cons.mpr ⟨PySem.W.mg_none_of X G z_tuple, (fun _ h => nomatch h)⟩)⟩)⟩)⟩)⟩)⟩)⟩)⟩)⟩)⟩)⟩)⟩)⟩)⟩)
    tk_LETTERS := tk_LETTERS
    m_LETTERS := PySem.W.mg_of X G g_LETTERS
    a_RESERVED := ca_RESERVED
    m_RESERVED := PySem.W.mg_of X G g_RESERVED
    k_RESERVED := ⟨_, _, _, e_RESERVED, rfl, rfl, w_RESERVED, v_RESERVED, rfl⟩
    u__law_deal := ⟨f__law_deal, _, F__law_deal, B__law_deal, PySem.W.mg_of X G a__law_deal⟩
    u__law_draw := ⟨f__law_draw, _, F__law_draw, B__law_draw, PySem.W.mg_of X G a__law_draw⟩
    u_is_integer := ⟨f_is_integer, _, F_is_integer, B_is_integer, PySem.W.mg_of X G a_is_integer⟩
    u_is_number := ⟨f_is_number, _, F_is_number, B_is_number, PySem.W.mg_of X G a_is_number⟩
    u_is_sequence := ⟨f_is_sequence, _, F_is_sequence, B_is_sequence, PySem.W.mg_of X G a_is_sequence⟩
    u_is_name := ⟨f_is_name, _, F_is_name, B_is_name, PySem.W.mg_of X G a_is_name⟩
    u_is_row_of_names := ⟨f_is_row_of_names, _, F_is_row_of_names, B_is_row_of_names, PySem.W.mg_of X G a_is_row_of_names⟩
    u_are_unlike := ⟨f_are_unlike, _, F_are_unlike, B_are_unlike, PySem.W.mg_of X G a_are_unlike⟩
    u_is_arrow := ⟨f_is_arrow, _, F_is_arrow, B_is_arrow, PySem.W.mg_of X G a_is_arrow⟩
    u_are_arrows := ⟨f_are_arrows, _, F_are_arrows, B_are_arrows, PySem.W.mg_of X G a_are_arrows⟩
    a_Step___init__ := f_Step___init__
    d_Step___init__ := _
    F_Step___init__ := F_Step___init__
    n_Step___init__ := B_Step___init__
    nd1_Step___init__ := N1_Step___init__
    e0_Step___init__ := e0_Step___init__
    v0_Step___init__ := ⟨_, _, _, r0_Step___init__, rfl, rfl, Nat.zero_le _, .nil, rfl⟩
    u_Step___str__ := ⟨f_Step___str__, _, F_Step___str__, B_Step___str__⟩
    u_Step___eq__ := ⟨f_Step___eq__, _, F_Step___eq__, B_Step___eq__⟩
    u_Step_is_touched := ⟨f_Step_is_touched, _, F_Step_is_touched, B_Step_is_touched⟩
    u_Step_washed := ⟨f_Step_washed, _, F_Step_washed, B_Step_washed⟩
    u_Step_loss := ⟨f_Step_loss, _, F_Step_loss, B_Step_loss⟩
    u__law_pick := ⟨f__law_pick, _, F__law_pick, B__law_pick, PySem.W.mg_of X G a__law_pick⟩
    u__law_mixed := ⟨f__law_mixed, _, F__law_mixed, B__law_mixed, PySem.W.mg_of X G a__law_mixed⟩
    u__law_thing := ⟨f__law_thing, _, F__law_thing, B__law_thing, PySem.W.mg_of X G a__law_thing⟩
    u__law_spots := ⟨f__law_spots, _, F__law_spots, B__law_spots, PySem.W.mg_of X G a__law_spots⟩
    u__law_stage := ⟨f__law_stage, _, F__law_stage, B__law_stage, PySem.W.mg_of X G a__law_stage⟩
    u__law_stage_text := ⟨f__law_stage_text, _, F__law_stage_text, B__law_stage_text, PySem.W.mg_of X G a__law_stage_text⟩
    u__law_heard := ⟨f__law_heard, _, F__law_heard, B__law_heard, PySem.W.mg_of X G a__law_heard⟩
    u_law := ⟨_, _, F_law, B_law, PySem.W.mg_of X G a_law⟩
    fi_InvalidStep := fi_InvalidStep
    i_InvalidStep := mk_init tx_InvalidStep xl_InvalidStep xco_InvalidStep xck_InvalidStep xv2_InvalidStep xfe_InvalidStep xce_InvalidStep x_sup x_opq x_top xcd_hInvalidStep xmr_InvalidStep xsu_InvalidStep xsb_InvalidStep xxi_InvalidStep xov_InvalidStep xa_InvalidStep xt_InvalidStep xsa_InvalidStep xtk_InvalidStep xhd_InvalidStep xkc_InvalidStep xbe_InvalidStep xty_InvalidStep
    fi_NoPlace := fi_NoPlace
    i_NoPlace := mk_init tx_NoPlace xl_NoPlace xco_NoPlace xck_NoPlace xv2_NoPlace xfe_NoPlace xce_NoPlace x_sup x_opq x_top xcd_hNoPlace xmr_NoPlace xsu_NoPlace xsb_NoPlace xxi_NoPlace xov_NoPlace xa_NoPlace xt_NoPlace xsa_NoPlace xtk_NoPlace xhd_NoPlace xkc_NoPlace xbe_NoPlace xty_NoPlace
    e_NoPlace := ⟨eb_NoPlace, ed_NoPlace, et_NoPlace⟩
    sx_InvalidStep_NoPlace := es_InvalidStep_NoPlace
    sx_NoPlace_NoPlace := es_NoPlace_NoPlace
    xc_InvalidStep := ⟨xg1_InvalidStep, xg2_InvalidStep, xg3_InvalidStep, xg4_InvalidStep⟩
    nx_InvalidStep_name := xn_InvalidStep_name
    xc_NoPlace := ⟨xg1_NoPlace, xg2_NoPlace, xg3_NoPlace, xg4_NoPlace⟩
    nx_NoPlace_name := xn_NoPlace_name
    u_InvalidStep := ⟨C_InvalidStep, PySem.W.mg_of X G aC_InvalidStep⟩
    u_NoPlace := ⟨C_NoPlace, PySem.W.mg_of X G aC_NoPlace⟩
    u_Step := ⟨C_Step, PySem.W.mg_of X G aC_Step, ⟨pg_Step, hd_Step, po_Step, sa_Step⟩, own_mk ⟨pg_Step, hd_Step, po_Step, sa_Step⟩ ha_Step hn_Step ht_Step hm_Step mi_Step mb_Step ms_Step ml_Step mt_Step ic_Step ty_Step, ne_Step⟩
    k_Step := ⟨mk_Step, a_Step___init__, i_Step___init__, kc_Step⟩
    t_Step___str__ := ⟨a_Step___str__, i_Step___str__, k_Step___str__⟩
    t_Step___eq__ := ⟨a_Step___eq__, i_Step___eq__, k_Step___eq__⟩
    t_Step_is_touched := ⟨a_Step_is_touched, i_Step_is_touched, k_Step_is_touched⟩
    t_Step_washed := ⟨a_Step_washed, i_Step_washed, k_Step_washed⟩
    t_Step_loss := ⟨a_Step_loss, i_Step_loss, k_Step_loss⟩
    x_Step := (List.forall_mem_cons.mpr ⟨x_Step_name, (List.forall_mem_cons.mpr ⟨x_Step_places, (List.forall_mem_cons.mpr ⟨x_Step_arrows, (List.forall_mem_cons.mpr ⟨x_Step_losses, (List.forall_mem_cons.mpr ⟨x_Step_leads, (fun _ h => nomatch h)⟩)⟩)⟩)⟩)⟩)
    di_Step := (fun _ h => nomatch h)
    nz_Step := nz_Step
    : Txt l.prog K mg})).imp fun _ _ _ _ q => sp_law hlaw q⟩
end Pu
namespace HX
open PySem PySem.Spec PyProof.Rows L2 He
def frK {α : Type} : PySem.W.Frag → (PySem.W.Frag → α) → α
  | [], k => k []
  | (a, o) :: r, k => HandSHeadRun.frNat a fun a => frK r fun r => k ((a, o) :: r)
theorem frK_eq {α : Type} : ∀ (l : PySem.W.Frag) (k : PySem.W.Frag → α), frK l k = k l
  | [], _ => rfl
  | (a, o) :: r, k => by
    show HandSHeadRun.frNat a (fun a => frK r fun r => k ((a, o) :: r)) = _
    rw [HandSHeadRun.frNat_eq, frK_eq r]
def nxO (o : Obj) : List Addr := match o.data with
  | .seq its _ => its.toList.flatMap refV
  | .dict es _ => es.toList.flatMap fun e => refV e.val
  | .func fd => refV fd.code ++ (refV fd.defaults ++ (refV fd.kwdefaults ++ fd.closure.map (·.2)))
  | .cls cd => [cd.ns]
  | .fields vs => (match o.cls with
    | .type "code" => []
    | _ => vs.toList.flatMap refV)
  | _ => []
def nx1 (g : Addr → Option Obj) (as : List Addr) : List Addr := as.flatMap fun a => match g a with
  | some o => nxO o
  | none => []
def nxA (g : Addr → Option Obj) : Nat → List Addr → List Addr
  | 0, as => as
  | n + 1, as => as ++ nxA g n (nx1 g as)
def kG (g : Addr → Option Obj) : PySem.W.Frag := frG g (cStatics :: nxA g 5 [mainGlobals])
abbrev FnX : Type := Option (Str × Str × Arguments × FuncBody × Scope × Addr × List Str × Addr)
def fnx (K : PySem.W.Frag) (a : Addr) : FnX := match K.lookup a with
  | some ⟨_, _, .func fd, _⟩ => some (fd.name, fd.qualname, fd.params, fd.body, fd.scope, fd.globals, fd.closure.map (·.1), fd.builtins)
  | _ => none
structure Df where
  at_ : PySem.W.Frag → Addr
  name : Str
  qual : Str
  params : Arguments
  body : List Stmt
  scope : Scope
  clo : List Str := []
  dfl : Option (PySem.W.Frag → Array Value) := none
def Df.val (d : Df) : FnX := some (d.name, d.qual, d.params, .stmts d.body, d.scope, mainGlobals, d.clo, builtinsNs)
def dflOk (K : PySem.W.Frag) (dV : Value) : Option (PySem.W.Frag → Array Value) → Bool
  | none => (match dV with
    | .none => true
    | _ => false)
  | some f => (match dV with
    | .ref T => (match K.lookup T with
      | some ⟨_, _, .seq its _, _⟩ => decide (its.toList = (f K).toList)
      | _ => false)
    | _ => false)
def Df.ok (K : PySem.W.Frag) (d : Df) : Bool := match K.lookup (d.at_ K) with
  | some ⟨_, _, .func fd, _⟩ => PySem.W.codeIn K fd.code d.qual && dflOk K fd.defaults d.dfl
  | _ => false
theorem df_any {K : PySem.W.Frag} {d : Df} (e : fnx K (d.at_ K) = d.val) (c : d.ok K = true) : ∃ cl dV, cl.map (·.1) = d.clo ∧ dflOk K dV d.dfl = true ∧ ∃ oc od osl kV doc pm an cdv ct,
    K.lookup (d.at_ K) = some ⟨oc, od, .func (PySem.W.fnX d.name d.qual d.params d.body d.scope cl dV kV doc pm an cdv ct), osl⟩ ∧ PySem.W.codeIn K cdv d.qual = true := by
  unfold Df.ok at c
  unfold fnx at e
  cases q : K.lookup (d.at_ K) with
  | none =>
    rw [q] at c
    cases c
  | some o =>
    obtain ⟨oc, od, dt, osl⟩ := o
    rw [q] at c e
    cases dt with
    | func fd =>
      obtain ⟨n1, n2, n3, n4, n5, n6, n7, n8, n9, n10, n11, n12, n13, n14, n15⟩ := fd
      have e2 : (some (n1, n2, n3, n4, n5, n6, n7.map (·.1), n15) : FnX) = some (d.name, d.qual, d.params, .stmts d.body, d.scope, mainGlobals, d.clo, builtinsNs) := e
      simp only [Option.some.injEq, Prod.mk.injEq] at e2
      obtain ⟨h1, h2, h3, h4, h5, h6, h7, h8⟩ := e2
      subst h1 h2 h3 h4 h5 h6 h8
      obtain ⟨c1, c2⟩ := ba (show (PySem.W.codeIn K n13 d.qual && dflOk K n8 d.dfl) = true from c)
      exact ⟨n7, n8, h7, c2, oc, od, osl, n9, n10, n11, n12, n13, n14, rfl, c1⟩
    | _ => cases c
theorem df_0 {K : PySem.W.Frag} {d : Df} (e : fnx K (d.at_ K) = d.val) (c : d.ok K = true) (h1 : d.clo = []) (h2 : d.dfl = none) : ∃ oc od osl kV doc pm an cdv ct,
    K.lookup (d.at_ K) = some ⟨oc, od, .func (PySem.W.fnOf d.name d.qual d.params d.body d.scope .none kV doc pm an cdv ct), osl⟩ ∧ PySem.W.codeIn K cdv d.qual = true := by
  obtain ⟨cl, dV, k1, k2, oc, od, osl, kV, doc, pm, an, cdv, ct, k3, k4⟩ := df_any e c
  rw [h1] at k1
  rw [h2] at k2
  obtain rfl : cl = [] := List.map_eq_nil_iff.mp k1
  cases dV with
  | none => exact ⟨oc, od, osl, kV, doc, pm, an, cdv, ct, k3, k4⟩
  | _ => cases k2
theorem df_d {K : PySem.W.Frag} {d : Df} {f : PySem.W.Frag → Array Value} (e : fnx K (d.at_ K) = d.val) (c : d.ok K = true) (h1 : d.clo = []) (h2 : d.dfl = some f) : ∃ oc od osl T kV doc pm an cdv ct,
    K.lookup (d.at_ K) = some ⟨oc, od, .func (PySem.W.fnOf d.name d.qual d.params d.body d.scope (.ref T) kV doc pm an cdv ct), osl⟩ ∧ PySem.W.codeIn K cdv d.qual = true ∧
      ∃ tc td tn tl, K.lookup T = some ⟨tc, td, .seq (f K) tn, tl⟩ := by
  obtain ⟨cl, dV, k1, k2, oc, od, osl, kV, doc, pm, an, cdv, ct, k3, k4⟩ := df_any e c
  rw [h1] at k1
  rw [h2] at k2
  obtain rfl : cl = [] := List.map_eq_nil_iff.mp k1
  cases dV with
  | ref T =>
    have k5 : (match K.lookup T with
      | some ⟨_, _, .seq its _, _⟩ => decide (its.toList = (f K).toList)
      | _ => false) = true := k2
    cases q : K.lookup T with
    | none =>
      rw [q] at k5
      cases k5
    | some o =>
      obtain ⟨tc, td, dt, tl⟩ := o
      rw [q] at k5
      cases dt with
      | seq its n =>
        have k6 : its = f K := Array.toList_inj.mp (of_decide_eq_true k5)
        exact ⟨oc, od, osl, T, kV, doc, pm, an, cdv, ct, k3, k4, tc, td, n, tl, by rw [q, k6]⟩
      | _ => cases k5
  | _ => cases k2
def dfA (f : PySem.W.Frag → Addr) (i : Nat) (K : PySem.W.Frag) : Addr := match K.lookup (f K) with
  | some ⟨_, _, .func fd, _⟩ => (match fd.defaults with
    | .ref T => (match K.lookup T with
      | some ⟨_, _, .seq its _, _⟩ => (match its.toList[i]? with
        | some (.ref a) => a
        | _ => 0)
      | _ => 0)
    | _ => 0)
  | _ => 0
def ksB (K : PySem.W.Frag) (a C : Addr) (file : Str) : Bool := match K.lookup a with
  | some ⟨_, _, .func fd, _⟩ => (match fd.code, fd.closure with
    | .ref cda, [(_, cc)] => (match K.lookup cda with
      | some ⟨_, _, .fields vs, _⟩ => (match vs.toList with
        | _ :: _ :: .str f _ :: _ => decide (f = file)
        | _ => false)
      | _ => false) && (match K.lookup cc with
      | some ⟨_, _, .cell (some (.ref D)), _⟩ => decide (D = C)
      | _ => false)
    | _, _ => false)
  | _ => false
theorem df_k {K : PySem.W.Frag} {d : Df} {C : Addr} {file : Str} (e : fnx K (d.at_ K) = d.val) (c : d.ok K = true) (h1 : d.clo = (["__class__"] : List Str)) (h2 : d.dfl = none) (b : ksB K (d.at_ K) C file = true) : ∃ oc od osl kV doc pm an cda ct cc,
    K.lookup (d.at_ K) = some ⟨oc, od, .func (PySem.W.ksFn d.name d.qual d.params d.body d.scope .none kV doc pm an (.ref cda) ct cc), osl⟩ ∧ PySem.W.codeIn K (.ref cda) d.qual = true ∧
      (∃ ccl cdd vs ccs tk, K.lookup cda = some ⟨ccl, cdd, .fields vs, ccs⟩ ∧ vs[2]? = some (.str file tk)) ∧ ∃ cl cld csl, K.lookup cc = some ⟨cl, cld, .cell (some (.ref C)), csl⟩ := by
  obtain ⟨cl, dV, k1, k2, oc, od, osl, kV, doc, pm, an, cdv, ct, k3, k4⟩ := df_any e c
  rw [h1] at k1
  rw [h2] at k2
  unfold ksB at b
  rw [k3] at b
  cases dV with
  | none =>
    cases cl with
    | nil => cases k1
    | cons z zs =>
      obtain ⟨y, cc⟩ := z
      cases zs with
      | cons _ _ => cases k1
      | nil =>
        obtain rfl : y = "__class__" := by
          have k5 : [y] = (["__class__"] : List Str) := k1
          exact (List.cons.inj k5).1
        cases cdv with
        | ref cda =>
          obtain ⟨b1, b2⟩ := ba (show ((match K.lookup cda with
            | some ⟨_, _, .fields vs, _⟩ => (match vs.toList with
              | _ :: _ :: .str f _ :: _ => decide (f = file)
              | _ => false)
            | _ => false) && (match K.lookup cc with
            | some ⟨_, _, .cell (some (.ref D)), _⟩ => decide (D = C)
            | _ => false)) = true from b)
          refine ⟨oc, od, osl, kV, doc, pm, an, cda, ct, cc, k3, k4, ?_, ?_⟩
          · split at b1
            · rename_i q
              split at b1
              · rename_i vs _ _ _ f tk _ hv
                have hf : f = file := of_decide_eq_true b1
                subst hf
                refine ⟨_, _, _, _, tk, q, ?_⟩
                rw [← Array.getElem?_toList, hv]
                rfl
              · cases b1
            · cases b1
          · split at b2
            · rename_i D _ q
              have hD : D = C := of_decide_eq_true b2
              subst hD
              exact ⟨_, _, _, q⟩
            · cases b2
        | _ => cases b
  | _ => cases k2
def strB (K : PySem.W.Frag) (x z : Str) : Bool := match PySem.W.nsIn K mainGlobals x with
  | some (some (.str y _)) => decide (y = z)
  | _ => false
theorem strB_ok {K : PySem.W.Frag} {x z : Str} (h : strB K x z = true) : ∃ t, PySem.W.nsIn K mainGlobals x = some (some (.str z t)) := by
  unfold strB at h
  split at h
  · rename_i y t q
    have e : y = z := of_decide_eq_true h
    exact ⟨t, by rw [q, e]⟩
  · cases h
def tup0 (K : PySem.W.Frag) (a : Addr) : Bool := match K.lookup a with
  | some ⟨.type c, none, .seq _ _, _⟩ => decide (c = "tuple")
  | _ => false
def tupV (K : PySem.W.Frag) (a : Addr) (vs : List V) : Bool := match K.lookup a with
  | some ⟨.type c, none, .seq its _, _⟩ => decide (c = "tuple") && (decide (its.size ≤ sizeLine) && relAll vs its.toList)
  | _ => false
theorem tupV_ok {K : PySem.W.Frag} {a : Addr} {vs : List V} (h : tupV K a vs = true) : ∃ ci cn cl, K.lookup a = some ⟨.type "tuple", none, .seq ci cn, cl⟩ ∧ Vals vs ci.toList ∧ ci.size ≤ sizeLine := by
  unfold tupV at h
  split at h
  · rename_i c its n sl q
    obtain ⟨h1, h2⟩ := ba h
    obtain ⟨h3, h4⟩ := ba h2
    have e : c = "tuple" := of_decide_eq_true h1
    subst e
    exact ⟨_, _, _, q, relAll_ok h4, of_decide_eq_true h3⟩
  · cases h
def tupE (K : PySem.W.Frag) (a : Addr) : Bool := match K.lookup a with
  | some ⟨.type c, none, .seq its _, _⟩ => decide (c = "tuple") && its.toList.isEmpty
  | _ => false
theorem tupE_ok {K : PySem.W.Frag} {a : Addr} (h : tupE K a = true) : ∃ n l, K.lookup a = some ⟨.type "tuple", none, .seq #[] n, l⟩ := by
  unfold tupE at h
  split at h
  · rename_i c its n sl q
    obtain ⟨h1, h2⟩ := ba h
    have e : c = "tuple" := of_decide_eq_true h1
    subst e
    have e2 : its = #[] := by
      obtain ⟨l⟩ := its
      cases l with
      | nil => rfl
      | cons _ _ => cases h2
    subst e2
    exact ⟨_, _, q⟩
  · cases h
abbrev AlX : Type := Bool × List FnX
abbrev Fl : Type := List (List (PySem.W.Frag → Bool))
def obsX (fl : Fl) (fn : List Df) (K : PySem.W.Frag) : AlX := ((fl.all fun l => l.all fun f => f K) && fn.all fun d => d.ok K, fn.map fun d => fnx K (d.at_ K))
def valX (fn : List Df) : AlX := (true, fn.map Df.val)
def SaysX (fl : Fl) (fn : List Df) (K : PySem.W.Frag) : Prop := obsX fl fn K = valX fn
def obsXG (fl : Fl) (fn : List Df) (g : Addr → Option Obj) : AlX := frK (kG g) (obsX fl fn)
def hookX (fl : Fl) (fn : List Df) : PySem.W.Hook where
  α := AlX
  obs := fun s => obsXG fl fn s.heap.get?
  val := fun _ => valX fn
  says := fun _ h => ∃ K : PySem.W.Frag, K.In h ∧ SaysX fl fn K
  of := fun w s e => ⟨kG s.heap.get?, frG_in, (frK_eq _ _).symm.trans e⟩
  keeps := fun _ _ _ ⟨K, hK, c⟩ k => ⟨K, PySem.W.Frag.In.keeps hK k, c⟩
theorem obsXG_eq {fl : Fl} {fn : List Df} {g : Addr → Option Obj} {s : Shared} (h : ∀ a, g a = s.heap.get? a) : obsXG fl fn g = (hookX fl fn).obs s := by
  have e : g = s.heap.get? := funext h
  rw [e] <;> rfl
section
variable {fl : Fl} {fn : List Df} {K : PySem.W.Frag}
theorem SaysX.fact (c : SaysX fl fn K) (i j : Nat) {l : List (PySem.W.Frag → Bool)} {f : PySem.W.Frag → Bool} (h : fl[i]? = some l := by rfl) (h2 : l[j]? = some f := by rfl) : f K = true := by
  have c1 := (ba (show ((fl.all fun l => l.all fun f => f K) && fn.all fun d => d.ok K) = true from congrArg (fun z : AlX => z.1) c)).1
  exact List.all_eq_true.mp (List.all_eq_true.mp c1 l (List.mem_of_getElem? h)) f (List.mem_of_getElem? h2)
theorem SaysX.def1 (c : SaysX fl fn K) (i : Nat) {d : Df} (h : fn[i]? = some d := by rfl) : fnx K (d.at_ K) = d.val := by
  have e : fn.map (fun d => fnx K (d.at_ K)) = fn.map Df.val := congrArg (fun z : AlX => z.2) c
  have e2 : (fn.map fun d => fnx K (d.at_ K))[i]? = (fn.map Df.val)[i]? := by rw [e]
  rw [List.getElem?_map, List.getElem?_map, h] at e2
  exact Option.some.inj e2
theorem SaysX.def2 (c : SaysX fl fn K) (i : Nat) {d : Df} (h : fn[i]? = some d := by rfl) : d.ok K = true := by
  have c2 := (ba (show ((fl.all fun l => l.all fun f => f K) && fn.all fun d => d.ok K) = true from congrArg (fun z : AlX => z.1) c)).2
  exact List.all_eq_true.mp c2 d (List.mem_of_getElem? h)
end
theorem walk_ofX {l : PySem.W.OpenLaw} {n k : Nat} {q : Program} {loose : List Str} {XP : (Str → Option Value) → Heap → Prop} {YP : World → Heap → Prop} {d : DefRec} {CX : World → CXT} {x : Str}
    (hn : l.most = some n) (hn2 : n ≤ sizeLine) (hdf : d.params.defaults = []) (hr : Pw.RoomG k callerA)
    (F : ∀ (w : World) (mg : Str → Option Value) (fa : Addr) (h : Heap), YP w h → h.Ns mainGlobals mg → mg d.name = some (.ref fa) →
      ∃ (K : PySem.W.Frag) (fd : FuncData) (sp : Sp), K.In h ∧ (∀ (s : Shared) (u : Value), BindsTo s fd ⟨[u], []⟩ [(x, u)]) ∧
        (∀ (H : Hp) (a : Addr) (ns : List Int), ns.length ≤ n → (∀ z ∈ ns, Builtin.Int.intBits z ≤ 1048576) → Only H → SqL K H a (ns.map V.int) → sp [.ref a] H (fun v _ => v = .bl true) fun _ _ _ => False) ∧
        ∀ base : Heap, K.In base → base.Ns mainGlobals mg → Pw.FnOkG l.prog w K mg base (CX w) k fa fd [x] sp)
    (hCX : ∀ (w : World) (H : Hp) (s : Shared) (e : Value) (s' : Shared), CX w [] H s (fun _ _ _ => False) e s' → False) :
    PySem.W.WalkO q loose XP YP l.row.toRowW d [] (fun f vs => PySem.call f vs) := by
  refine Att.attach_callB hn hdf ?_
  intro w s₀ s mg mb fa o pm cd doc a vs ns G Y ho hd hcd hmg ha hi hlen hbits hg
  obtain ⟨K, fd, sp, KX, hb, hsp, hF⟩ := F w mg fa _ Y G.T.g hmg
  have rv := vals_ints hi
  have lv : vs.length = ns.length := hi.length
  have hz : ns.length ≤ sizeLine := Nat.le_trans hlen hn2
  cases hk : K.lookup a with
  | some o1 =>
    have e := KX a o1 hk
    rw [ha] at e
    cases e
    refine Pw.law_run (H := fun _ => none) KX G.T.g G.T.b G.T.builtins G.T.nolimit hg ha hr hF hb (hsp _ a ns hlen hbits (fun _ => .inl rfl) (.inr ⟨_, vs.toArray, _, hk, rfl, rfl, rfl, by rw [List.size_toArray, lv]; exact hz, by simpa using rv⟩)) (fun H e s' => hCX w H s e s') (fun _ => .inl rfl) (fun b u z => nomatch z) (fun b u z => nomatch z)
  | none =>
    have at1 : ∀ b, (fun b => if b = a then some (HO.frz { cls := .type "list", data := .seq vs.toArray } (.lst (ns.map V.int))) else none : Hp) b = none ∨ b = a := fun b => by
      by_cases h : b = a
      · exact .inr h
      · exact .inl (if_neg h)
    have on : Only (fun b => if b = a then some (HO.frz { cls := .type "list", data := .seq vs.toArray } (.lst (ns.map V.int))) else none) := fun b => by
      by_cases h : b = a
      · exact .inr ⟨_, _, if_pos h⟩
      · exact .inl (if_neg h)
    refine Pw.law_run KX G.T.g G.T.b G.T.builtins G.T.nolimit hg ha hr hF hb (hsp _ a ns hlen hbits on (.inl (.inr ⟨_, if_pos rfl⟩))) (fun H e s' => hCX w H s e s') on (fun b u z => ?_) (fun b u z => ?_)
    · rcases at1 b with h | h
      · exact nomatch h.symm.trans z
      · subst h
        rw [if_pos rfl] at z
        cases z
        exact ⟨ha, by rw [List.length_map]; exact hz, vs, _, rv, ha⟩
    · rcases at1 b with h | h
      · exact nomatch h.symm.trans z
      · exact ⟨h, hk⟩
end HX
set_option maxHeartbeats 0
namespace Pu
open PySem L2 PySem.Spec PyProof.Rows Pw
def fl0 : List (PySem.W.Frag → Bool) := [
  fun K => decide (PySem.W.nsIn K mainGlobals "abs" = some none),
  fun K => decide (PySem.W.nsIn K mainGlobals "all" = some none),
  fun K => decide (PySem.W.nsIn K mainGlobals "bool" = some none),
  fun K => decide (PySem.W.nsIn K mainGlobals "int" = some none),
  fun K => decide (PySem.W.nsIn K mainGlobals "isinstance" = some none),
  fun K => decide (PySem.W.nsIn K mainGlobals "len" = some none),
  fun K => decide (PySem.W.nsIn K mainGlobals "list" = some none),
  fun K => decide (PySem.W.nsIn K mainGlobals "max" = some none),
  fun K => decide (PySem.W.nsIn K mainGlobals "min" = some none),
  fun K => decide (PySem.W.nsIn K mainGlobals "range" = some none),
  fun K => decide (PySem.W.nsIn K mainGlobals "repr" = some none),
  fun K => decide (PySem.W.nsIn K mainGlobals "sorted" = some none),
  fun K => decide (PySem.W.nsIn K mainGlobals "str" = some none),
  fun K => decide (PySem.W.nsIn K mainGlobals "tuple" = some none),
  fun K => HX.strB K "LETTERS" "abcdefghijklmnopqrstuvwxyz",
  fun K => decide (PySem.W.nsIn K mainGlobals "RESERVED" = some (some (.ref (He.ga K "RESERVED")))),
  fun K => HX.tupV K (He.ga K "RESERVED") [.str "at", .str "go", .str "ahead", .str "trace", .str "limit", .str "work"],
  fun K => decide (PySem.W.nsIn K mainGlobals "InvalidStep" = some (some (.ref (He.ga K "InvalidStep")))),
  fun K => decide (PySem.W.nsIn K mainGlobals "NoPlace" = some (some (.ref (He.ga K "NoPlace")))),
  fun K => decide (PySem.W.nsIn K mainGlobals "Step" = some (some (.ref (He.ga K "Step")))),
  fun K => decide (PySem.W.nsIn K mainGlobals "_law_deal" = some (some (.ref (He.ga K "_law_deal")))),
  fun K => decide (PySem.W.keepIn K (.ref (He.ga K "_law_deal")) = true),
  fun K => decide (PySem.W.nsIn K mainGlobals "_law_draw" = some (some (.ref (He.ga K "_law_draw")))),
  fun K => decide (PySem.W.keepIn K (.ref (He.ga K "_law_draw")) = true)]
def fl1 : List (PySem.W.Frag → Bool) := [
  fun K => decide (PySem.W.nsIn K mainGlobals "is_integer" = some (some (.ref (He.ga K "is_integer")))),
  fun K => decide (PySem.W.keepIn K (.ref (He.ga K "is_integer")) = true),
  fun K => decide (PySem.W.nsIn K mainGlobals "is_number" = some (some (.ref (He.ga K "is_number")))),
  fun K => decide (PySem.W.keepIn K (.ref (He.ga K "is_number")) = true),
  fun K => decide (PySem.W.nsIn K mainGlobals "is_sequence" = some (some (.ref (He.ga K "is_sequence")))),
  fun K => decide (PySem.W.keepIn K (.ref (He.ga K "is_sequence")) = true),
  fun K => decide (PySem.W.nsIn K mainGlobals "is_name" = some (some (.ref (He.ga K "is_name")))),
  fun K => decide (PySem.W.keepIn K (.ref (He.ga K "is_name")) = true),
  fun K => decide (PySem.W.nsIn K mainGlobals "is_row_of_names" = some (some (.ref (He.ga K "is_row_of_names")))),
  fun K => decide (PySem.W.keepIn K (.ref (He.ga K "is_row_of_names")) = true),
  fun K => decide (PySem.W.nsIn K mainGlobals "are_unlike" = some (some (.ref (He.ga K "are_unlike")))),
  fun K => decide (PySem.W.keepIn K (.ref (He.ga K "are_unlike")) = true),
  fun K => decide (PySem.W.nsIn K mainGlobals "is_arrow" = some (some (.ref (He.ga K "is_arrow")))),
  fun K => decide (PySem.W.keepIn K (.ref (He.ga K "is_arrow")) = true),
  fun K => decide (PySem.W.nsIn K mainGlobals "are_arrows" = some (some (.ref (He.ga K "are_arrows")))),
  fun K => decide (PySem.W.keepIn K (.ref (He.ga K "are_arrows")) = true),
  fun K => decide (PySem.W.findIn K (.ref (He.ga K "Step")) "__init__" = some (some (.ref (He.ma K (He.ga K "Step") "__init__")))),
  fun K => decide (PySem.W.isFn K (.ref (He.ma K (He.ga K "Step") "__init__")) = true),
  fun K => decide (PySem.W.keepIn K (.ref (He.ma K (He.ga K "Step") "__init__")) = true),
  fun K => HX.tupE K (HX.dfA (fun K => (He.ma K (He.ga K "Step") "__init__")) 0 K),
  fun K => decide (PySem.W.findIn K (.ref (He.ga K "Step")) "__str__" = some (some (.ref (He.ma K (He.ga K "Step") "__str__")))),
  fun K => decide (PySem.W.isFn K (.ref (He.ma K (He.ga K "Step") "__str__")) = true),
  fun K => decide (PySem.W.keepIn K (.ref (He.ma K (He.ga K "Step") "__str__")) = true),
  fun K => decide (PySem.W.findIn K (.ref (He.ga K "Step")) "__eq__" = some (some (.ref (He.ma K (He.ga K "Step") "__eq__"))))]
def fl2 : List (PySem.W.Frag → Bool) := [
  fun K => decide (PySem.W.isFn K (.ref (He.ma K (He.ga K "Step") "__eq__")) = true),
  fun K => decide (PySem.W.keepIn K (.ref (He.ma K (He.ga K "Step") "__eq__")) = true),
  fun K => decide (PySem.W.findIn K (.ref (He.ga K "Step")) "is_touched" = some (some (.ref (He.ma K (He.ga K "Step") "is_touched")))),
  fun K => decide (PySem.W.isFn K (.ref (He.ma K (He.ga K "Step") "is_touched")) = true),
  fun K => decide (PySem.W.keepIn K (.ref (He.ma K (He.ga K "Step") "is_touched")) = true),
  fun K => decide (PySem.W.findIn K (.ref (He.ga K "Step")) "washed" = some (some (.ref (He.ma K (He.ga K "Step") "washed")))),
  fun K => decide (PySem.W.isFn K (.ref (He.ma K (He.ga K "Step") "washed")) = true),
  fun K => decide (PySem.W.keepIn K (.ref (He.ma K (He.ga K "Step") "washed")) = true),
  fun K => decide (PySem.W.findIn K (.ref (He.ga K "Step")) "loss" = some (some (.ref (He.ma K (He.ga K "Step") "loss")))),
  fun K => decide (PySem.W.isFn K (.ref (He.ma K (He.ga K "Step") "loss")) = true),
  fun K => decide (PySem.W.keepIn K (.ref (He.ma K (He.ga K "Step") "loss")) = true),
  fun K => decide (PySem.W.nsIn K mainGlobals "_law_pick" = some (some (.ref (He.ga K "_law_pick")))),
  fun K => decide (PySem.W.keepIn K (.ref (He.ga K "_law_pick")) = true),
  fun K => decide (PySem.W.nsIn K mainGlobals "_law_mixed" = some (some (.ref (He.ga K "_law_mixed")))),
  fun K => decide (PySem.W.keepIn K (.ref (He.ga K "_law_mixed")) = true),
  fun K => decide (PySem.W.nsIn K mainGlobals "_law_thing" = some (some (.ref (He.ga K "_law_thing")))),
  fun K => decide (PySem.W.keepIn K (.ref (He.ga K "_law_thing")) = true),
  fun K => decide (PySem.W.nsIn K mainGlobals "_law_spots" = some (some (.ref (He.ga K "_law_spots")))),
  fun K => decide (PySem.W.keepIn K (.ref (He.ga K "_law_spots")) = true),
  fun K => decide (PySem.W.nsIn K mainGlobals "_law_stage" = some (some (.ref (He.ga K "_law_stage")))),
  fun K => decide (PySem.W.keepIn K (.ref (He.ga K "_law_stage")) = true),
  fun K => decide (PySem.W.nsIn K mainGlobals "_law_stage_text" = some (some (.ref (He.ga K "_law_stage_text")))),
  fun K => decide (PySem.W.keepIn K (.ref (He.ga K "_law_stage_text")) = true),
  fun K => decide (PySem.W.nsIn K mainGlobals "_law_heard" = some (some (.ref (He.ga K "_law_heard"))))]
def fl3 : List (PySem.W.Frag → Bool) := [
  fun K => decide (PySem.W.keepIn K (.ref (He.ga K "_law_heard")) = true),
  fun K => decide (PySem.W.nsIn K mainGlobals "law" = some (some (.ref (He.ga K "law")))),
  fun K => decide (PySem.W.keepIn K (.ref (He.ga K "law")) = true),
  fun K => decide (PySem.W.nsIn K mainGlobals "super" = some none),
  fun K => decide (PySem.W.nsIn K cStatics "thirdparty.any" = some none),
  fun K => decide (PySem.W.findIn K (.ref (He.ga K "InvalidStep")) "__init__" = some (some (.ref (He.ma K (He.ga K "InvalidStep") "__init__")))),
  fun K => decide (PySem.W.typeIn K (.ref (He.ma K (He.ga K "InvalidStep") "__init__")) = some (.type "function")),
  fun K => HX.ksB K (He.ma K (He.ga K "InvalidStep") "__init__") (He.ga K "InvalidStep") (PySem.Challenge.rw_plateways_k05_arrows_asked_and_washed).prog.main.file,
  fun K => (PySem.W.clsIn K (He.ga K "InvalidStep")).isSome,
  fun K => decide (PySem.W.mroIn K (He.ga K "InvalidStep") (.ref (He.ga K "InvalidStep")) = some true),
  fun K => decide (PySem.W.ks_superIn K (He.ga K "InvalidStep") (He.ga K "InvalidStep") "__init__" = some (some (.builtin "ValueError.__init__"))),
  fun K => decide (PySem.W.subIn K (.ref (He.ga K "InvalidStep")) (.type "ValueError") = some true),
  fun K => decide (PySem.W.excInitIn K (He.ga K "InvalidStep") bmVE "ValueError.__new__" = true),
  fun K => decide (PySem.W.excOver K (He.ga K "InvalidStep") bmVE = true),
  fun K => decide (PySem.W.findIn K (.ref (He.ga K "InvalidStep")) "__setattr__" = some (some (.builtin "object.__setattr__"))),
  fun K => decide (PySem.W.takerIn K (He.ga K "InvalidStep") "word" = some none),
  fun K => decide (PySem.W.hasDictIn K (He.ga K "InvalidStep") = true),
  fun K => decide (PySem.W.keepIn K (.ref (He.ga K "InvalidStep")) = true),
  fun K => decide (PySem.W.subIn K (.ref (He.ga K "InvalidStep")) (.type "BaseException") = some true),
  fun K => decide (PySem.W.typeIn K (.ref (He.ga K "InvalidStep")) = some (.type "type")),
  fun K => decide (PySem.W.findIn K (.ref (He.ga K "NoPlace")) "__init__" = some (some (.ref (He.ma K (He.ga K "NoPlace") "__init__")))),
  fun K => decide (PySem.W.typeIn K (.ref (He.ma K (He.ga K "NoPlace") "__init__")) = some (.type "function")),
  fun K => HX.ksB K (He.ma K (He.ga K "NoPlace") "__init__") (He.ga K "NoPlace") (PySem.Challenge.rw_plateways_k05_arrows_asked_and_washed).prog.main.file,
  fun K => (PySem.W.clsIn K (He.ga K "NoPlace")).isSome]
def fl4 : List (PySem.W.Frag → Bool) := [
  fun K => decide (PySem.W.mroIn K (He.ga K "NoPlace") (.ref (He.ga K "NoPlace")) = some true),
  fun K => decide (PySem.W.ks_superIn K (He.ga K "NoPlace") (He.ga K "NoPlace") "__init__" = some (some (.builtin "KeyError.__init__"))),
  fun K => decide (PySem.W.subIn K (.ref (He.ga K "NoPlace")) (.type "KeyError") = some true),
  fun K => decide (PySem.W.excInitIn K (He.ga K "NoPlace") bmKE "LookupError.__new__" = true),
  fun K => decide (PySem.W.excOver K (He.ga K "NoPlace") bmKE = true),
  fun K => decide (PySem.W.findIn K (.ref (He.ga K "NoPlace")) "__setattr__" = some (some (.builtin "object.__setattr__"))),
  fun K => decide (PySem.W.takerIn K (He.ga K "NoPlace") "name" = some none),
  fun K => decide (PySem.W.hasDictIn K (He.ga K "NoPlace") = true),
  fun K => decide (PySem.W.keepIn K (.ref (He.ga K "NoPlace")) = true),
  fun K => decide (PySem.W.subIn K (.ref (He.ga K "NoPlace")) (.type "BaseException") = some true),
  fun K => decide (PySem.W.typeIn K (.ref (He.ga K "NoPlace")) = some (.type "type")),
  fun K => decide (PySem.W.subIn K (.ref (He.ga K "NoPlace")) (.type "BaseException") = some true),
  fun K => decide (PySem.W.hasDictIn K (He.ga K "NoPlace") = true),
  fun K => decide (PySem.W.typeIn K (.ref (He.ga K "NoPlace")) = some (.type "type")),
  fun K => decide (PySem.W.subIn K (.ref (He.ga K "InvalidStep")) (.ref (He.ga K "NoPlace")) = some false),
  fun K => decide (PySem.W.subIn K (.ref (He.ga K "NoPlace")) (.ref (He.ga K "NoPlace")) = some true),
  fun K => decide (PySem.W.findIn K (.ref (He.ga K "InvalidStep")) "__getattribute__" = some (some (.builtin "BaseException.__getattribute__"))),
  fun K => decide (PySem.W.findIn K (.ref (He.ga K "InvalidStep")) "__getattr__" = some none),
  fun K => decide (PySem.W.subIn K (.ref (He.ga K "InvalidStep")) (.type "BaseException") = some true),
  fun K => decide (PySem.W.hasDictIn K (He.ga K "InvalidStep") = true),
  fun K => decide (PySem.W.findIn K (.ref (He.ga K "InvalidStep")) "name" = some none),
  fun K => decide (PySem.W.findIn K (.ref (He.ga K "NoPlace")) "__getattribute__" = some (some (.builtin "BaseException.__getattribute__"))),
  fun K => decide (PySem.W.findIn K (.ref (He.ga K "NoPlace")) "__getattr__" = some none),
  fun K => decide (PySem.W.subIn K (.ref (He.ga K "NoPlace")) (.type "BaseException") = some true)]
def fl5 : List (PySem.W.Frag → Bool) := [
  fun K => decide (PySem.W.hasDictIn K (He.ga K "NoPlace") = true),
  fun K => decide (PySem.W.findIn K (.ref (He.ga K "NoPlace")) "name" = some none),
  fun K => decide (PySem.W.plainGet K (He.ga K "Step") Str.empty = true),
  fun K => decide (PySem.W.hasDictIn K (He.ga K "Step") = true),
  fun K => decide (PySem.W.plainOver K (He.ga K "Step") = true),
  fun K => decide (PySem.W.findIn K (.ref (He.ga K "Step")) "__setattr__" = some (some (.builtin "object.__setattr__"))),
  fun K => decide (PySem.W.makesIn K (He.ga K "Step") = true),
  fun K => decide (PySem.W.keepIn K (.ref (He.ga K "Step")) = true),
  fun K => decide (PySem.W.findIn K (.ref (He.ga K "Step")) "__class__" = some (some (.builtin "object.__class__"))),
  fun K => decide (PySem.W.specialIn K (.builtin "object.__class__") "__get__" = some (some (.builtin "getset_descriptor.__get__"))),
  fun K => decide (PySem.W.takesIn K (.builtin "object.__class__") = some true),
  fun K => decide (PySem.W.mroIn K (He.ga K "Step") (.type "object") = some true),
  fun K => decide (PySem.W.mroIn K (He.ga K "Step") (.type "int") = some false),
  fun K => decide (PySem.W.mroIn K (He.ga K "Step") (.type "bool") = some false),
  fun K => decide (PySem.W.mroIn K (He.ga K "Step") (.type "str") = some false),
  fun K => decide (PySem.W.mroIn K (He.ga K "Step") (.type "list") = some false),
  fun K => decide (PySem.W.mroIn K (He.ga K "Step") (.type "tuple") = some false),
  fun K => decide (PySem.W.isClsIn K (He.ga K "Step") = true),
  fun K => decide (PySem.W.typeIn K (.ref (He.ga K "Step")) = some (.type "type")),
  fun K => decide (PySem.W.findIn K (.ref (He.ga K "Step")) "__ne__" = some (some (.builtin "object.__ne__"))),
  fun K => decide (PySem.W.findIn K (.ref (He.ga K "Step")) "name" = some none),
  fun K => decide (PySem.W.findIn K (.ref (He.ga K "Step")) "places" = some none),
  fun K => decide (PySem.W.findIn K (.ref (He.ga K "Step")) "arrows" = some none),
  fun K => decide (PySem.W.findIn K (.ref (He.ga K "Step")) "losses" = some none)]
def fl6 : List (PySem.W.Frag → Bool) := [
  fun K => decide (PySem.W.findIn K (.ref (He.ga K "Step")) "leads" = some none),
  fun K => decide (PySem.W.subIn K (.ref (He.ga K "Step")) (.type "NoneType") = some false)]
def flH : HX.Fl := [fl0, fl1, fl2, fl3, fl4, fl5, fl6]
def fn0 : List HX.Df := [
  ⟨fun K => (He.ga K "_law_deal"), "_law_deal", "_law_deal", defArgs s__law_deal, defBody s__law_deal, defScope s__law_deal, [], none⟩,
  ⟨fun K => (He.ga K "_law_draw"), "_law_draw", "_law_draw", defArgs s__law_draw, defBody s__law_draw, defScope s__law_draw, [], none⟩,
  ⟨fun K => (He.ga K "is_integer"), "is_integer", "is_integer", defArgs s_is_integer, defBody s_is_integer, defScope s_is_integer, [], none⟩,
  ⟨fun K => (He.ga K "is_number"), "is_number", "is_number", defArgs s_is_number, defBody s_is_number, defScope s_is_number, [], none⟩,
  ⟨fun K => (He.ga K "is_sequence"), "is_sequence", "is_sequence", defArgs s_is_sequence, defBody s_is_sequence, defScope s_is_sequence, [], none⟩,
  ⟨fun K => (He.ga K "is_name"), "is_name", "is_name", defArgs s_is_name, defBody s_is_name, defScope s_is_name, [], none⟩,
  ⟨fun K => (He.ga K "is_row_of_names"), "is_row_of_names", "is_row_of_names", defArgs s_is_row_of_names, defBody s_is_row_of_names, defScope s_is_row_of_names, [], none⟩,
  ⟨fun K => (He.ga K "are_unlike"), "are_unlike", "are_unlike", defArgs s_are_unlike, defBody s_are_unlike, defScope s_are_unlike, [], none⟩,
  ⟨fun K => (He.ga K "is_arrow"), "is_arrow", "is_arrow", defArgs s_is_arrow, defBody s_is_arrow, defScope s_is_arrow, [], none⟩,
  ⟨fun K => (He.ga K "are_arrows"), "are_arrows", "are_arrows", defArgs s_are_arrows, defBody s_are_arrows, defScope s_are_arrows, [], none⟩,
  ⟨fun K => (He.ma K (He.ga K "Step") "__init__"), "__init__", "Step.__init__", defArgs s_Step___init__, defBody s_Step___init__, defScope s_Step___init__, [], some fun K => #[.ref (HX.dfA (fun K => (He.ma K (He.ga K "Step") "__init__")) 0 K)]⟩,
  ⟨fun K => (He.ma K (He.ga K "Step") "__str__"), "__str__", "Step.__str__", defArgs s_Step___str__, defBody s_Step___str__, defScope s_Step___str__, [], none⟩]
def fn1 : List HX.Df := [
  ⟨fun K => (He.ma K (He.ga K "Step") "__eq__"), "__eq__", "Step.__eq__", defArgs s_Step___eq__, defBody s_Step___eq__, defScope s_Step___eq__, [], none⟩,
  ⟨fun K => (He.ma K (He.ga K "Step") "is_touched"), "is_touched", "Step.is_touched", defArgs s_Step_is_touched, defBody s_Step_is_touched, defScope s_Step_is_touched, [], none⟩,
  ⟨fun K => (He.ma K (He.ga K "Step") "washed"), "washed", "Step.washed", defArgs s_Step_washed, defBody s_Step_washed, defScope s_Step_washed, [], none⟩,
  ⟨fun K => (He.ma K (He.ga K "Step") "loss"), "loss", "Step.loss", defArgs s_Step_loss, defBody s_Step_loss, defScope s_Step_loss, [], none⟩,
  ⟨fun K => (He.ga K "_law_pick"), "_law_pick", "_law_pick", defArgs s__law_pick, defBody s__law_pick, defScope s__law_pick, [], none⟩,
  ⟨fun K => (He.ga K "_law_mixed"), "_law_mixed", "_law_mixed", defArgs s__law_mixed, defBody s__law_mixed, defScope s__law_mixed, [], none⟩,
  ⟨fun K => (He.ga K "_law_thing"), "_law_thing", "_law_thing", defArgs s__law_thing, defBody s__law_thing, defScope s__law_thing, [], none⟩,
  ⟨fun K => (He.ga K "_law_spots"), "_law_spots", "_law_spots", defArgs s__law_spots, defBody s__law_spots, defScope s__law_spots, [], none⟩,
  ⟨fun K => (He.ga K "_law_stage"), "_law_stage", "_law_stage", defArgs s__law_stage, defBody s__law_stage, defScope s__law_stage, [], none⟩,
  ⟨fun K => (He.ga K "_law_stage_text"), "_law_stage_text", "_law_stage_text", defArgs s__law_stage_text, defBody s__law_stage_text, defScope s__law_stage_text, [], none⟩,
  ⟨fun K => (He.ga K "_law_heard"), "_law_heard", "_law_heard", defArgs s__law_heard, defBody s__law_heard, defScope s__law_heard, [], none⟩,
  ⟨fun K => (He.ga K "law"), "law", "law", defArgs s_law, defBody s_law, defScope s_law, [], none⟩]
def fn2 : List HX.Df := [
  ⟨fun K => (He.ma K (He.ga K "InvalidStep") "__init__"), "__init__", "InvalidStep.__init__", defArgs s_InvalidStep___init__, defBody s_InvalidStep___init__, defScope s_InvalidStep___init__, ["__class__"], none⟩,
  ⟨fun K => (He.ma K (He.ga K "NoPlace") "__init__"), "__init__", "NoPlace.__init__", defArgs s_NoPlace___init__, defBody s_NoPlace___init__, defScope s_NoPlace___init__, ["__class__"], none⟩]
def fnH : List HX.Df := fn0 ++ fn1 ++ fn2
def nm0 : List Str := ["PlateError", "InvalidStep", "InvalidText", "NoPlace", "LETTERS", "DIGITS_words", "RESERVED", "is_integer", "is_number", "is_sequence", "is_name", "is_row_of_names"]
def nm1 : List Str := ["are_unlike", "number_in", "DIGITS_steps", "is_arrow", "are_arrows", "Step", "arrow_in", "step_in", "_law_deal", "_law_draw", "_law_pick", "_law_mixed"]
def nm2 : List Str := ["_law_thing", "_law_spots", "_law_stage", "_law_job", "_law_stage_text", "_law_job_lines", "_law_before", "_law_heard"]
def nmH : List Str := nm0 ++ nm1 ++ nm2
abbrev hkH : PySem.W.Hook := HX.hookX flH fnH
def obH (s : PySem.W.SharedT) : HX.AlX := HX.obsXG flH fnH (HandSHeadRun.getT s)
theorem obH_eq (s : PySem.W.SharedT) : obH s = hkH.obs s.abs := HX.obsXG_eq (HandSHeadRun.getT_eq s)
abbrev rwH : PySem.W.OpenRow := PySem.W.OpenLaw.row PySem.Challenge.rw_plateways_k05_arrows_asked_and_washed
theorem runH (w : World) : HandSHeadRun.RunEq rwH (PySem.W.view rwH.prog [36]) hkH obH 12000 nmH w := by
  intro os
  kernel_rfl
theorem all_H {w : World} {K : PySem.W.Frag} {h : Heap} {mg : Str → Option Value} {fa : Addr} (hlaw : ∀ (x : D) (ns : List Int), x = .lst (ns.map .int) ∨ x = .klt ns → ns.length ≤ 63 → ∃ ds, f_law [x] = .ok (.bl true) ds) (X : K.In h) (G : h.Ns mainGlobals mg) (hfa : mg "law" = some (.ref fa)) (c : HX.SaysX flH fnH K) :
    ∃ fd : FuncData, (∀ (s : Shared) (v : Value), BindsTo s fd ⟨[v], []⟩ [("_law_script", v)]) ∧ ∀ base : Heap, K.In base → base.Ns mainGlobals mg → FnOkG (PySem.Challenge.rw_plateways_k05_arrows_asked_and_washed).prog w K mg base (L2.CX (PySem.Challenge.rw_plateways_k05_arrows_asked_and_washed).prog w) 12 fa fd ["_law_script"] (spLaw K) := by
  have z_abs : PySem.W.nsIn K mainGlobals "abs" = some none := (of_decide_eq_true (c.fact 0 0))
  have z_all : PySem.W.nsIn K mainGlobals "all" = some none := (of_decide_eq_true (c.fact 0 1))
  have z_bool : PySem.W.nsIn K mainGlobals "bool" = some none := (of_decide_eq_true (c.fact 0 2))
  have z_int : PySem.W.nsIn K mainGlobals "int" = some none := (of_decide_eq_true (c.fact 0 3))
  have z_isinstance : PySem.W.nsIn K mainGlobals "isinstance" = some none := (of_decide_eq_true (c.fact 0 4))
  have z_len : PySem.W.nsIn K mainGlobals "len" = some none := (of_decide_eq_true (c.fact 0 5))
  have z_list : PySem.W.nsIn K mainGlobals "list" = some none := (of_decide_eq_true (c.fact 0 6))
  have z_max : PySem.W.nsIn K mainGlobals "max" = some none := (of_decide_eq_true (c.fact 0 7))
  have z_min : PySem.W.nsIn K mainGlobals "min" = some none := (of_decide_eq_true (c.fact 0 8))
  have z_range : PySem.W.nsIn K mainGlobals "range" = some none := (of_decide_eq_true (c.fact 0 9))
  have z_repr : PySem.W.nsIn K mainGlobals "repr" = some none := (of_decide_eq_true (c.fact 0 10))
  have z_sorted : PySem.W.nsIn K mainGlobals "sorted" = some none := (of_decide_eq_true (c.fact 0 11))
  have z_str : PySem.W.nsIn K mainGlobals "str" = some none := (of_decide_eq_true (c.fact 0 12))
  have z_tuple : PySem.W.nsIn K mainGlobals "tuple" = some none := (of_decide_eq_true (c.fact 0 13))
  obtain ⟨_, g_LETTERS⟩ := HX.strB_ok (c.fact 0 14)
  have g_RESERVED : PySem.W.nsIn K mainGlobals "RESERVED" = some (some (.ref (He.ga K "RESERVED"))) := (of_decide_eq_true (c.fact 0 15))
  obtain ⟨_, _, _, e_RESERVED, v_RESERVED, w_RESERVED⟩ := HX.tupV_ok (c.fact 0 16)
  have aC_InvalidStep : PySem.W.nsIn K mainGlobals "InvalidStep" = some (some (.ref (He.ga K "InvalidStep"))) := (of_decide_eq_true (c.fact 0 17))
  have aC_NoPlace : PySem.W.nsIn K mainGlobals "NoPlace" = some (some (.ref (He.ga K "NoPlace"))) := (of_decide_eq_true (c.fact 0 18))
  have aC_Step : PySem.W.nsIn K mainGlobals "Step" = some (some (.ref (He.ga K "Step"))) := (of_decide_eq_true (c.fact 0 19))
  have a__law_deal : PySem.W.nsIn K mainGlobals "_law_deal" = some (some (.ref (He.ga K "_law_deal"))) := (of_decide_eq_true (c.fact 0 20))
  obtain ⟨_, _, _, _, _, _, _, _, _, l__law_deal, c__law_deal⟩ := HX.df_0 (c.def1 0) (c.def2 0) rfl rfl
  have k__law_deal : PySem.W.keepIn K (.ref (He.ga K "_law_deal")) = true := (of_decide_eq_true (c.fact 0 21))
  have a__law_draw : PySem.W.nsIn K mainGlobals "_law_draw" = some (some (.ref (He.ga K "_law_draw"))) := (of_decide_eq_true (c.fact 0 22))
  obtain ⟨_, _, _, _, _, _, _, _, _, l__law_draw, c__law_draw⟩ := HX.df_0 (c.def1 1) (c.def2 1) rfl rfl
  have k__law_draw : PySem.W.keepIn K (.ref (He.ga K "_law_draw")) = true := (of_decide_eq_true (c.fact 0 23))
  have a_is_integer : PySem.W.nsIn K mainGlobals "is_integer" = some (some (.ref (He.ga K "is_integer"))) := (of_decide_eq_true (c.fact 1 0))
  obtain ⟨_, _, _, _, _, _, _, _, _, l_is_integer, c_is_integer⟩ := HX.df_0 (c.def1 2) (c.def2 2) rfl rfl
  have k_is_integer : PySem.W.keepIn K (.ref (He.ga K "is_integer")) = true := (of_decide_eq_true (c.fact 1 1))
  have a_is_number : PySem.W.nsIn K mainGlobals "is_number" = some (some (.ref (He.ga K "is_number"))) := (of_decide_eq_true (c.fact 1 2))
  obtain ⟨_, _, _, _, _, _, _, _, _, l_is_number, c_is_number⟩ := HX.df_0 (c.def1 3) (c.def2 3) rfl rfl
  have k_is_number : PySem.W.keepIn K (.ref (He.ga K "is_number")) = true := (of_decide_eq_true (c.fact 1 3))
  have a_is_sequence : PySem.W.nsIn K mainGlobals "is_sequence" = some (some (.ref (He.ga K "is_sequence"))) := (of_decide_eq_true (c.fact 1 4))
  obtain ⟨_, _, _, _, _, _, _, _, _, l_is_sequence, c_is_sequence⟩ := HX.df_0 (c.def1 4) (c.def2 4) rfl rfl
  have k_is_sequence : PySem.W.keepIn K (.ref (He.ga K "is_sequence")) = true := (of_decide_eq_true (c.fact 1 5))
  have a_is_name : PySem.W.nsIn K mainGlobals "is_name" = some (some (.ref (He.ga K "is_name"))) := (of_decide_eq_true (c.fact 1 6))
  obtain ⟨_, _, _, _, _, _, _, _, _, l_is_name, c_is_name⟩ := HX.df_0 (c.def1 5) (c.def2 5) rfl rfl
  have k_is_name : PySem.W.keepIn K (.ref (He.ga K "is_name")) = true := (of_decide_eq_true (c.fact 1 7))
  have a_is_row_of_names : PySem.W.nsIn K mainGlobals "is_row_of_names" = some (some (.ref (He.ga K "is_row_of_names"))) := (of_decide_eq_true (c.fact 1 8))
  obtain ⟨_, _, _, _, _, _, _, _, _, l_is_row_of_names, c_is_row_of_names⟩ := HX.df_0 (c.def1 6) (c.def2 6) rfl rfl
  have k_is_row_of_names : PySem.W.keepIn K (.ref (He.ga K "is_row_of_names")) = true := (of_decide_eq_true (c.fact 1 9))
  have a_are_unlike : PySem.W.nsIn K mainGlobals "are_unlike" = some (some (.ref (He.ga K "are_unlike"))) := (of_decide_eq_true (c.fact 1 10))
  obtain ⟨_, _, _, _, _, _, _, _, _, l_are_unlike, c_are_unlike⟩ := HX.df_0 (c.def1 7) (c.def2 7) rfl rfl
  have k_are_unlike : PySem.W.keepIn K (.ref (He.ga K "are_unlike")) = true := (of_decide_eq_true (c.fact 1 11))
  have a_is_arrow : PySem.W.nsIn K mainGlobals "is_arrow" = some (some (.ref (He.ga K "is_arrow"))) := (of_decide_eq_true (c.fact 1 12))
  obtain ⟨_, _, _, _, _, _, _, _, _, l_is_arrow, c_is_arrow⟩ := HX.df_0 (c.def1 8) (c.def2 8) rfl rfl
  have k_is_arrow : PySem.W.keepIn K (.ref (He.ga K "is_arrow")) = true := (of_decide_eq_true (c.fact 1 13))
  have a_are_arrows : PySem.W.nsIn K mainGlobals "are_arrows" = some (some (.ref (He.ga K "are_arrows"))) := (of_decide_eq_true (c.fact 1 14))
  obtain ⟨_, _, _, _, _, _, _, _, _, l_are_arrows, c_are_arrows⟩ := HX.df_0 (c.def1 9) (c.def2 9) rfl rfl
  have k_are_arrows : PySem.W.keepIn K (.ref (He.ga K "are_arrows")) = true := (of_decide_eq_true (c.fact 1 15))
  have a_Step___init__ : PySem.W.findIn K (.ref (He.ga K "Step")) "__init__" = some (some (.ref (He.ma K (He.ga K "Step") "__init__"))) := (of_decide_eq_true (c.fact 1 16))
  have i_Step___init__ : PySem.W.isFn K (.ref (He.ma K (He.ga K "Step") "__init__")) = true := (of_decide_eq_true (c.fact 1 17))
  obtain ⟨_, _, _, _, _, _, _, _, _, _, l_Step___init__, c_Step___init__, _, _, _, _, q_Step___init__⟩ := HX.df_d (c.def1 10) (c.def2 10) rfl rfl
  have k_Step___init__ : PySem.W.keepIn K (.ref (He.ma K (He.ga K "Step") "__init__")) = true := (of_decide_eq_true (c.fact 1 18))
  obtain ⟨_, _, r0_Step___init__⟩ := HX.tupE_ok (c.fact 1 19)
  have a_Step___str__ : PySem.W.findIn K (.ref (He.ga K "Step")) "__str__" = some (some (.ref (He.ma K (He.ga K "Step") "__str__"))) := (of_decide_eq_true (c.fact 1 20))
  have i_Step___str__ : PySem.W.isFn K (.ref (He.ma K (He.ga K "Step") "__str__")) = true := (of_decide_eq_true (c.fact 1 21))
  obtain ⟨_, _, _, _, _, _, _, _, _, l_Step___str__, c_Step___str__⟩ := HX.df_0 (c.def1 11) (c.def2 11) rfl rfl
  have k_Step___str__ : PySem.W.keepIn K (.ref (He.ma K (He.ga K "Step") "__str__")) = true := (of_decide_eq_true (c.fact 1 22))
  have a_Step___eq__ : PySem.W.findIn K (.ref (He.ga K "Step")) "__eq__" = some (some (.ref (He.ma K (He.ga K "Step") "__eq__"))) := (of_decide_eq_true (c.fact 1 23))
  have i_Step___eq__ : PySem.W.isFn K (.ref (He.ma K (He.ga K "Step") "__eq__")) = true := (of_decide_eq_true (c.fact 2 0))
  obtain ⟨_, _, _, _, _, _, _, _, _, l_Step___eq__, c_Step___eq__⟩ := HX.df_0 (c.def1 12) (c.def2 12) rfl rfl
  have k_Step___eq__ : PySem.W.keepIn K (.ref (He.ma K (He.ga K "Step") "__eq__")) = true := (of_decide_eq_true (c.fact 2 1))
  have a_Step_is_touched : PySem.W.findIn K (.ref (He.ga K "Step")) "is_touched" = some (some (.ref (He.ma K (He.ga K "Step") "is_touched"))) := (of_decide_eq_true (c.fact 2 2))
  have i_Step_is_touched : PySem.W.isFn K (.ref (He.ma K (He.ga K "Step") "is_touched")) = true := (of_decide_eq_true (c.fact 2 3))
  obtain ⟨_, _, _, _, _, _, _, _, _, l_Step_is_touched, c_Step_is_touched⟩ := HX.df_0 (c.def1 13) (c.def2 13) rfl rfl
  have k_Step_is_touched : PySem.W.keepIn K (.ref (He.ma K (He.ga K "Step") "is_touched")) = true := (of_decide_eq_true (c.fact 2 4))
  have a_Step_washed : PySem.W.findIn K (.ref (He.ga K "Step")) "washed" = some (some (.ref (He.ma K (He.ga K "Step") "washed"))) := (of_decide_eq_true (c.fact 2 5))
  have i_Step_washed : PySem.W.isFn K (.ref (He.ma K (He.ga K "Step") "washed")) = true := (of_decide_eq_true (c.fact 2 6))
  obtain ⟨_, _, _, _, _, _, _, _, _, l_Step_washed, c_Step_washed⟩ := HX.df_0 (c.def1 14) (c.def2 14) rfl rfl
  have k_Step_washed : PySem.W.keepIn K (.ref (He.ma K (He.ga K "Step") "washed")) = true := (of_decide_eq_true (c.fact 2 7))
  have a_Step_loss : PySem.W.findIn K (.ref (He.ga K "Step")) "loss" = some (some (.ref (He.ma K (He.ga K "Step") "loss"))) := (of_decide_eq_true (c.fact 2 8))
  have i_Step_loss : PySem.W.isFn K (.ref (He.ma K (He.ga K "Step") "loss")) = true := (of_decide_eq_true (c.fact 2 9))
  obtain ⟨_, _, _, _, _, _, _, _, _, l_Step_loss, c_Step_loss⟩ := HX.df_0 (c.def1 15) (c.def2 15) rfl rfl
  have k_Step_loss : PySem.W.keepIn K (.ref (He.ma K (He.ga K "Step") "loss")) = true := (of_decide_eq_true (c.fact 2 10))
  have a__law_pick : PySem.W.nsIn K mainGlobals "_law_pick" = some (some (.ref (He.ga K "_law_pick"))) := (of_decide_eq_true (c.fact 2 11))
  obtain ⟨_, _, _, _, _, _, _, _, _, l__law_pick, c__law_pick⟩ := HX.df_0 (c.def1 16) (c.def2 16) rfl rfl
  have k__law_pick : PySem.W.keepIn K (.ref (He.ga K "_law_pick")) = true := (of_decide_eq_true (c.fact 2 12))
  have a__law_mixed : PySem.W.nsIn K mainGlobals "_law_mixed" = some (some (.ref (He.ga K "_law_mixed"))) := (of_decide_eq_true (c.fact 2 13))
  obtain ⟨_, _, _, _, _, _, _, _, _, l__law_mixed, c__law_mixed⟩ := HX.df_0 (c.def1 17) (c.def2 17) rfl rfl
  have k__law_mixed : PySem.W.keepIn K (.ref (He.ga K "_law_mixed")) = true := (of_decide_eq_true (c.fact 2 14))
  have a__law_thing : PySem.W.nsIn K mainGlobals "_law_thing" = some (some (.ref (He.ga K "_law_thing"))) := (of_decide_eq_true (c.fact 2 15))
  obtain ⟨_, _, _, _, _, _, _, _, _, l__law_thing, c__law_thing⟩ := HX.df_0 (c.def1 18) (c.def2 18) rfl rfl
  have k__law_thing : PySem.W.keepIn K (.ref (He.ga K "_law_thing")) = true := (of_decide_eq_true (c.fact 2 16))
  have a__law_spots : PySem.W.nsIn K mainGlobals "_law_spots" = some (some (.ref (He.ga K "_law_spots"))) := (of_decide_eq_true (c.fact 2 17))
  obtain ⟨_, _, _, _, _, _, _, _, _, l__law_spots, c__law_spots⟩ := HX.df_0 (c.def1 19) (c.def2 19) rfl rfl
  have k__law_spots : PySem.W.keepIn K (.ref (He.ga K "_law_spots")) = true := (of_decide_eq_true (c.fact 2 18))
  have a__law_stage : PySem.W.nsIn K mainGlobals "_law_stage" = some (some (.ref (He.ga K "_law_stage"))) := (of_decide_eq_true (c.fact 2 19))
  obtain ⟨_, _, _, _, _, _, _, _, _, l__law_stage, c__law_stage⟩ := HX.df_0 (c.def1 20) (c.def2 20) rfl rfl
  have k__law_stage : PySem.W.keepIn K (.ref (He.ga K "_law_stage")) = true := (of_decide_eq_true (c.fact 2 20))
  have a__law_stage_text : PySem.W.nsIn K mainGlobals "_law_stage_text" = some (some (.ref (He.ga K "_law_stage_text"))) := (of_decide_eq_true (c.fact 2 21))
  obtain ⟨_, _, _, _, _, _, _, _, _, l__law_stage_text, c__law_stage_text⟩ := HX.df_0 (c.def1 21) (c.def2 21) rfl rfl
  have k__law_stage_text : PySem.W.keepIn K (.ref (He.ga K "_law_stage_text")) = true := (of_decide_eq_true (c.fact 2 22))
  have a__law_heard : PySem.W.nsIn K mainGlobals "_law_heard" = some (some (.ref (He.ga K "_law_heard"))) := (of_decide_eq_true (c.fact 2 23))
  obtain ⟨_, _, _, _, _, _, _, _, _, l__law_heard, c__law_heard⟩ := HX.df_0 (c.def1 22) (c.def2 22) rfl rfl
  have k__law_heard : PySem.W.keepIn K (.ref (He.ga K "_law_heard")) = true := (of_decide_eq_true (c.fact 3 0))
  have a_law : PySem.W.nsIn K mainGlobals "law" = some (some (.ref (He.ga K "law"))) := (of_decide_eq_true (c.fact 3 1))
  obtain ⟨_, _, _, _, _, _, _, _, _, l_law, c_law⟩ := HX.df_0 (c.def1 23) (c.def2 23) rfl rfl
  have k_law : PySem.W.keepIn K (.ref (He.ga K "law")) = true := (of_decide_eq_true (c.fact 3 2))
  have x_sup : PySem.W.nsIn K mainGlobals "super" = some none := (of_decide_eq_true (c.fact 3 3))
  have x_opq : PySem.W.nsIn K cStatics "thirdparty.any" = some none := (of_decide_eq_true (c.fact 3 4))
  have x_top : ((PySem.Challenge.rw_plateways_k05_arrows_asked_and_washed).prog.main.scope.names.lookup ("super" : Str)).isSome = false := by decide +kernel
  have xa_InvalidStep : PySem.W.findIn K (.ref (He.ga K "InvalidStep")) "__init__" = some (some (.ref (He.ma K (He.ga K "InvalidStep") "__init__"))) := (of_decide_eq_true (c.fact 3 5))
  have xt_InvalidStep : PySem.W.typeIn K (.ref (He.ma K (He.ga K "InvalidStep") "__init__")) = some (.type "function") := (of_decide_eq_true (c.fact 3 6))
  obtain ⟨_, _, _, _, _, _, _, _, _, _, xl_InvalidStep, xco_InvalidStep, ⟨_, _, _, _, _, xck_InvalidStep, xv2_InvalidStep⟩, _, _, _, xce_InvalidStep⟩ := HX.df_k (c.def1 24) (c.def2 24) rfl rfl (c.fact 3 7)
  have xfe_InvalidStep : ((PySem.Challenge.rw_plateways_k05_arrows_asked_and_washed).prog.main.file == (PySem.Challenge.rw_plateways_k05_arrows_asked_and_washed).prog.main.file) = true := beq_self_eq_true _
  obtain ⟨_, xcd_hInvalidStep⟩ := Option.isSome_iff_exists.mp (c.fact 3 8)
  have xmr_InvalidStep : PySem.W.mroIn K (He.ga K "InvalidStep") (.ref (He.ga K "InvalidStep")) = some true := (of_decide_eq_true (c.fact 3 9))
  have xsu_InvalidStep : PySem.W.ks_superIn K (He.ga K "InvalidStep") (He.ga K "InvalidStep") "__init__" = some (some (.builtin "ValueError.__init__")) := (of_decide_eq_true (c.fact 3 10))
  have xsb_InvalidStep : PySem.W.subIn K (.ref (He.ga K "InvalidStep")) (.type "ValueError") = some true := (of_decide_eq_true (c.fact 3 11))
  have xxi_InvalidStep : PySem.W.excInitIn K (He.ga K "InvalidStep") bmVE "ValueError.__new__" = true := (of_decide_eq_true (c.fact 3 12))
  have xov_InvalidStep : PySem.W.excOver K (He.ga K "InvalidStep") bmVE = true := (of_decide_eq_true (c.fact 3 13))
  have xsa_InvalidStep : PySem.W.findIn K (.ref (He.ga K "InvalidStep")) "__setattr__" = some (some (.builtin "object.__setattr__")) := (of_decide_eq_true (c.fact 3 14))
  have xtk_InvalidStep : PySem.W.takerIn K (He.ga K "InvalidStep") "word" = some none := (of_decide_eq_true (c.fact 3 15))
  have xhd_InvalidStep : PySem.W.hasDictIn K (He.ga K "InvalidStep") = true := (of_decide_eq_true (c.fact 3 16))
  have xkc_InvalidStep : PySem.W.keepIn K (.ref (He.ga K "InvalidStep")) = true := (of_decide_eq_true (c.fact 3 17))
  have xbe_InvalidStep : PySem.W.subIn K (.ref (He.ga K "InvalidStep")) (.type "BaseException") = some true := (of_decide_eq_true (c.fact 3 18))
  have xty_InvalidStep : PySem.W.typeIn K (.ref (He.ga K "InvalidStep")) = some (.type "type") := (of_decide_eq_true (c.fact 3 19))
  have xa_NoPlace : PySem.W.findIn K (.ref (He.ga K "NoPlace")) "__init__" = some (some (.ref (He.ma K (He.ga K "NoPlace") "__init__"))) := (of_decide_eq_true (c.fact 3 20))
  have xt_NoPlace : PySem.W.typeIn K (.ref (He.ma K (He.ga K "NoPlace") "__init__")) = some (.type "function") := (of_decide_eq_true (c.fact 3 21))
  obtain ⟨_, _, _, _, _, _, _, _, _, _, xl_NoPlace, xco_NoPlace, ⟨_, _, _, _, _, xck_NoPlace, xv2_NoPlace⟩, _, _, _, xce_NoPlace⟩ := HX.df_k (c.def1 25) (c.def2 25) rfl rfl (c.fact 3 22)
  have xfe_NoPlace : ((PySem.Challenge.rw_plateways_k05_arrows_asked_and_washed).prog.main.file == (PySem.Challenge.rw_plateways_k05_arrows_asked_and_washed).prog.main.file) = true := beq_self_eq_true _
  obtain ⟨_, xcd_hNoPlace⟩ := Option.isSome_iff_exists.mp (c.fact 3 23)
  have xmr_NoPlace : PySem.W.mroIn K (He.ga K "NoPlace") (.ref (He.ga K "NoPlace")) = some true := (of_decide_eq_true (c.fact 4 0))
  have xsu_NoPlace : PySem.W.ks_superIn K (He.ga K "NoPlace") (He.ga K "NoPlace") "__init__" = some (some (.builtin "KeyError.__init__")) := (of_decide_eq_true (c.fact 4 1))
  have xsb_NoPlace : PySem.W.subIn K (.ref (He.ga K "NoPlace")) (.type "KeyError") = some true := (of_decide_eq_true (c.fact 4 2))
  have xxi_NoPlace : PySem.W.excInitIn K (He.ga K "NoPlace") bmKE "LookupError.__new__" = true := (of_decide_eq_true (c.fact 4 3))
  have xov_NoPlace : PySem.W.excOver K (He.ga K "NoPlace") bmKE = true := (of_decide_eq_true (c.fact 4 4))
  have xsa_NoPlace : PySem.W.findIn K (.ref (He.ga K "NoPlace")) "__setattr__" = some (some (.builtin "object.__setattr__")) := (of_decide_eq_true (c.fact 4 5))
  have xtk_NoPlace : PySem.W.takerIn K (He.ga K "NoPlace") "name" = some none := (of_decide_eq_true (c.fact 4 6))
  have xhd_NoPlace : PySem.W.hasDictIn K (He.ga K "NoPlace") = true := (of_decide_eq_true (c.fact 4 7))
  have xkc_NoPlace : PySem.W.keepIn K (.ref (He.ga K "NoPlace")) = true := (of_decide_eq_true (c.fact 4 8))
  have xbe_NoPlace : PySem.W.subIn K (.ref (He.ga K "NoPlace")) (.type "BaseException") = some true := (of_decide_eq_true (c.fact 4 9))
  have xty_NoPlace : PySem.W.typeIn K (.ref (He.ga K "NoPlace")) = some (.type "type") := (of_decide_eq_true (c.fact 4 10))
  have eb_NoPlace : PySem.W.subIn K (.ref (He.ga K "NoPlace")) (.type "BaseException") = some true := (of_decide_eq_true (c.fact 4 11))
  have ed_NoPlace : PySem.W.hasDictIn K (He.ga K "NoPlace") = true := (of_decide_eq_true (c.fact 4 12))
  have et_NoPlace : PySem.W.typeIn K (.ref (He.ga K "NoPlace")) = some (.type "type") := (of_decide_eq_true (c.fact 4 13))
  have es_InvalidStep_NoPlace : PySem.W.subIn K (.ref (He.ga K "InvalidStep")) (.ref (He.ga K "NoPlace")) = some false := (of_decide_eq_true (c.fact 4 14))
  have es_NoPlace_NoPlace : PySem.W.subIn K (.ref (He.ga K "NoPlace")) (.ref (He.ga K "NoPlace")) = some true := (of_decide_eq_true (c.fact 4 15))
  have xg1_InvalidStep : PySem.W.findIn K (.ref (He.ga K "InvalidStep")) "__getattribute__" = some (some (.builtin "BaseException.__getattribute__")) := (of_decide_eq_true (c.fact 4 16))
  have xg2_InvalidStep : PySem.W.findIn K (.ref (He.ga K "InvalidStep")) "__getattr__" = some none := (of_decide_eq_true (c.fact 4 17))
  have xg3_InvalidStep : PySem.W.subIn K (.ref (He.ga K "InvalidStep")) (.type "BaseException") = some true := (of_decide_eq_true (c.fact 4 18))
  have xg4_InvalidStep : PySem.W.hasDictIn K (He.ga K "InvalidStep") = true := (of_decide_eq_true (c.fact 4 19))
  have xn_InvalidStep_name : PySem.W.findIn K (.ref (He.ga K "InvalidStep")) "name" = some none := (of_decide_eq_true (c.fact 4 20))
  have xg1_NoPlace : PySem.W.findIn K (.ref (He.ga K "NoPlace")) "__getattribute__" = some (some (.builtin "BaseException.__getattribute__")) := (of_decide_eq_true (c.fact 4 21))
  have xg2_NoPlace : PySem.W.findIn K (.ref (He.ga K "NoPlace")) "__getattr__" = some none := (of_decide_eq_true (c.fact 4 22))
  have xg3_NoPlace : PySem.W.subIn K (.ref (He.ga K "NoPlace")) (.type "BaseException") = some true := (of_decide_eq_true (c.fact 4 23))
  have xg4_NoPlace : PySem.W.hasDictIn K (He.ga K "NoPlace") = true := (of_decide_eq_true (c.fact 5 0))
  have xn_NoPlace_name : PySem.W.findIn K (.ref (He.ga K "NoPlace")) "name" = some none := (of_decide_eq_true (c.fact 5 1))
  have pg_Step : PySem.W.plainGet K (He.ga K "Step") Str.empty = true := (of_decide_eq_true (c.fact 5 2))
  have hd_Step : PySem.W.hasDictIn K (He.ga K "Step") = true := (of_decide_eq_true (c.fact 5 3))
  have po_Step : PySem.W.plainOver K (He.ga K "Step") = true := (of_decide_eq_true (c.fact 5 4))
  have sa_Step : PySem.W.findIn K (.ref (He.ga K "Step")) "__setattr__" = some (some (.builtin "object.__setattr__")) := (of_decide_eq_true (c.fact 5 5))
  have mk_Step : PySem.W.makesIn K (He.ga K "Step") = true := (of_decide_eq_true (c.fact 5 6))
  have kc_Step : PySem.W.keepIn K (.ref (He.ga K "Step")) = true := (of_decide_eq_true (c.fact 5 7))
  have ha_Step : PySem.W.findIn K (.ref (He.ga K "Step")) "__class__" = some (some (.builtin "object.__class__")) := (of_decide_eq_true (c.fact 5 8))
  have hn_Step : PySem.W.specialIn K (.builtin "object.__class__") "__get__" = some (some (.builtin "getset_descriptor.__get__")) := (of_decide_eq_true (c.fact 5 9))
  have ht_Step : PySem.W.takesIn K (.builtin "object.__class__") = some true := (of_decide_eq_true (c.fact 5 10))
  have hm_Step : PySem.W.mroIn K (He.ga K "Step") (.type "object") = some true := (of_decide_eq_true (c.fact 5 11))
  have mi_Step : PySem.W.mroIn K (He.ga K "Step") (.type "int") = some false := (of_decide_eq_true (c.fact 5 12))
  have mb_Step : PySem.W.mroIn K (He.ga K "Step") (.type "bool") = some false := (of_decide_eq_true (c.fact 5 13))
  have ms_Step : PySem.W.mroIn K (He.ga K "Step") (.type "str") = some false := (of_decide_eq_true (c.fact 5 14))
  have ml_Step : PySem.W.mroIn K (He.ga K "Step") (.type "list") = some false := (of_decide_eq_true (c.fact 5 15))
  have mt_Step : PySem.W.mroIn K (He.ga K "Step") (.type "tuple") = some false := (of_decide_eq_true (c.fact 5 16))
  have ic_Step : PySem.W.isClsIn K (He.ga K "Step") = true := (of_decide_eq_true (c.fact 5 17))
  have ty_Step : PySem.W.typeIn K (.ref (He.ga K "Step")) = some (.type "type") := (of_decide_eq_true (c.fact 5 18))
  have ne_Step : PySem.W.findIn K (.ref (He.ga K "Step")) "__ne__" = some (some (.builtin "object.__ne__")) := (of_decide_eq_true (c.fact 5 19))
  have x_Step_name : PySem.W.findIn K (.ref (He.ga K "Step")) "name" = some none := (of_decide_eq_true (c.fact 5 20))
  have x_Step_places : PySem.W.findIn K (.ref (He.ga K "Step")) "places" = some none := (of_decide_eq_true (c.fact 5 21))
  have x_Step_arrows : PySem.W.findIn K (.ref (He.ga K "Step")) "arrows" = some none := (of_decide_eq_true (c.fact 5 22))
  have x_Step_losses : PySem.W.findIn K (.ref (He.ga K "Step")) "losses" = some none := (of_decide_eq_true (c.fact 5 23))
  have x_Step_leads : PySem.W.findIn K (.ref (He.ga K "Step")) "leads" = some none := (of_decide_eq_true (c.fact 6 0))
  have nz_Step : PySem.W.subIn K (.ref (He.ga K "Step")) (.type "NoneType") = some false := (of_decide_eq_true (c.fact 6 1))
  exact all_mk (l := PySem.Challenge.rw_plateways_k05_arrows_asked_and_washed) (w := w) hlaw X G hfa z_abs z_all z_bool z_int z_isinstance z_len z_list z_max z_min z_range z_repr z_sorted z_str z_tuple g_LETTERS rfl g_RESERVED e_RESERVED v_RESERVED w_RESERVED aC_InvalidStep aC_NoPlace aC_Step a__law_deal l__law_deal c__law_deal k__law_deal a__law_draw l__law_draw c__law_draw k__law_draw a_is_integer l_is_integer c_is_integer k_is_integer a_is_number l_is_number c_is_number k_is_number a_is_sequence l_is_sequence c_is_sequence k_is_sequence a_is_name l_is_name c_is_name k_is_name a_is_row_of_names l_is_row_of_names c_is_row_of_names k_is_row_of_names a_are_unlike l_are_unlike c_are_unlike k_are_unlike a_is_arrow l_is_arrow c_is_arrow k_is_arrow a_are_arrows l_are_arrows c_are_arrows k_are_arrows a_Step___init__ i_Step___init__ l_Step___init__ c_Step___init__ k_Step___init__ q_Step___init__ r0_Step___init__ a_Step___str__ i_Step___str__ l_Step___str__ c_Step___str__ k_Step___str__ a_Step___eq__ i_Step___eq__ l_Step___eq__ c_Step___eq__ k_Step___eq__ a_Step_is_touched i_Step_is_touched l_Step_is_touched c_Step_is_touched k_Step_is_touched a_Step_washed i_Step_washed l_Step_washed c_Step_washed k_Step_washed a_Step_loss i_Step_loss l_Step_loss c_Step_loss k_Step_loss a__law_pick l__law_pick c__law_pick k__law_pick a__law_mixed l__law_mixed c__law_mixed k__law_mixed a__law_thing l__law_thing c__law_thing k__law_thing a__law_spots l__law_spots c__law_spots k__law_spots a__law_stage l__law_stage c__law_stage k__law_stage a__law_stage_text l__law_stage_text c__law_stage_text k__law_stage_text a__law_heard l__law_heard c__law_heard k__law_heard a_law l_law c_law k_law x_sup x_opq x_top xa_InvalidStep xt_InvalidStep xl_InvalidStep xco_InvalidStep xck_InvalidStep xv2_InvalidStep xfe_InvalidStep xce_InvalidStep xcd_hInvalidStep xmr_InvalidStep xsu_InvalidStep xsb_InvalidStep xxi_InvalidStep xov_InvalidStep xsa_InvalidStep xtk_InvalidStep xhd_InvalidStep xkc_InvalidStep xbe_InvalidStep xty_InvalidStep xa_NoPlace xt_NoPlace xl_NoPlace xco_NoPlace xck_NoPlace xv2_NoPlace xfe_NoPlace xce_NoPlace xcd_hNoPlace xmr_NoPlace xsu_NoPlace xsb_NoPlace xxi_NoPlace xov_NoPlace xsa_NoPlace xtk_NoPlace xhd_NoPlace xkc_NoPlace xbe_NoPlace xty_NoPlace eb_NoPlace ed_NoPlace et_NoPlace es_InvalidStep_NoPlace es_NoPlace_NoPlace xg1_InvalidStep xg2_InvalidStep xg3_InvalidStep xg4_InvalidStep xn_InvalidStep_name xg1_NoPlace xg2_NoPlace xg3_NoPlace xg4_NoPlace xn_NoPlace_name pg_Step hd_Step po_Step sa_Step mk_Step kc_Step ha_Step hn_Step ht_Step hm_Step mi_Step mb_Step ms_Step ml_Step mt_Step ic_Step ty_Step ne_Step x_Step_name x_Step_places x_Step_arrows x_Step_losses x_Step_leads nz_Step
end Pu
open PySem PySem.W PyProof.Rows
set_option maxRecDepth 100000 in
set_option maxHeartbeats 0 in
theorem PySem.Challenge.cw_plateways_k05_arrows_asked_and_washed_holds : PySem.Challenge.rw_plateways_k05_arrows_asked_and_washed.Holds := by
  w_on; o_law
  refine HandSHeadRun.head_any (r := OpenLaw.row PySem.Challenge.rw_plateways_k05_arrows_asked_and_washed) (q := view (PySem.W.OpenLaw.row PySem.Challenge.rw_plateways_k05_arrows_asked_and_washed).prog [36]) (H := Pu.hkH) (ob := Pu.obH) (M := 12000) (loose := Pu.nmH) (d := HandSHeadRun.topDef (PySem.W.OpenLaw.row PySem.Challenge.rw_plateways_k05_arrows_asked_and_washed).prog 36) (kwd := []) Pu.obH_eq (by kernel_rfl) (fun s => by kernel_rfl) Pu.runH (by kernel_rfl) (by kernel_rfl) (by kernel_rfl) (by rfl) (by first | assumption | decide +kernel) (by decide +kernel) ⟨rfl, rfl, rfl, rfl, rfl, by decide +kernel⟩ ?hw ?hc
  case hw => w_witness2
  case hc =>
    refine HX.walk_ofX (l := PySem.Challenge.rw_plateways_k05_arrows_asked_and_washed) (n := 63) (k := 12) (x := "_law_script") (CX := fun w => L2.CX PySem.Challenge.rw_plateways_k05_arrows_asked_and_washed.prog w) rfl (by decide) (by kernel_rfl) ⟨⟨rfl, by decide, by decide⟩, rfl⟩ ?F Pu.noCX
    intro w mg fa h Y G hmg0
    obtain ⟨K, KX, c⟩ := Y
    have hmg : mg ("law" : PySem.Str) = some (.ref fa) := by
      have e : (HandSHeadRun.topDef (PySem.W.OpenLaw.row PySem.Challenge.rw_plateways_k05_arrows_asked_and_washed).prog 36).name = ("law" : PySem.Str) := by kernel_rfl
      rw [← e]
      exact hmg0
    obtain ⟨fd, hb, hF⟩ := Pu.all_H (w := w) Pu.law_true KX G hmg c
    exact ⟨K, fd, Pu.spLaw K, KX, hb, fun H a ns hl _ _ hS => ⟨a, ns, rfl, hS, hl, fun _ => rfl⟩, hF⟩
