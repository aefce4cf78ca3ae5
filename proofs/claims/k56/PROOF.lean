import PyProof.Rows.All
import Wide.All
import OpenK.AllK
import Wide.FinOn
import HandS.ForMost
import HandS.ForExc
import HandS.EndBits
import HandS.IsInst
import HandS.Defaults
import HandS.DictComp
import HandS.FStr
import HandS.Star
import HandS.Flow
import HandS.Style
import HandS.Wide
import HandS.SortRule
import HandS.TupLe
import HandS.Walk
import HandS.Conv
import HandS.Evl
import KE.KCallOwn
import KE.SortData
import HandS.TupLen
import HandS.CallSlots
import KE.KDictKeyed
import HandS.Lambda
import HandS.Deep
import HandS.TupAny
import HandS.RaiseMore
import HandS.WordsExc
import HandS.TryOnly
import KE.GoesEnum
import KE.GoesMore
import HandS.SetBool
import KE.KExcSuper
import HandS.ExcInit
import HandS.ExcField
import HandS.ClsMeth
import KE.GoesZip
import KE.KDictZip
import KE.KItemsList
import PyProof.ListRange
import PyProof.CollectWalk
import HandS.ListItems
import HandS.Zip
import KE.GoesEnumKw
import KE.KDictPairs
import HandS.ReplaceLit
import HandS.DictSubView
import HandS.DictTup
import HandS.MakeKw
import PyProof.Rows.MinMaxN
import KE.KExcLine
import HandS.Exc
import HandS.ExcIs
import HandS.ListEq
import PyProof.NeKinds
import KE.SortKeyHeap
import KE.KSortKey
import HandS.SortKw
import HandS.Strs
import KE.GoesSet
import HandS.ReCall
import KE.KDictCopyH
import KE.KEqDict
import HandS.HotCalls
import HandS.SuiteRaise
import HandS.RaiseFrom
import KE.KAsSuite
import HandS.CallLocal
import PySem.Challenge.RW_plateways_k56_washings_and_fences_by_nam
import HandS.EndTab
import HandS.EndOwn
import KE.KNestM
import HandS.Head2
import HandS.HeadHook2
import HandS.HeadNt
import KE.KSuper
set_option Elab.async false
set_option linter.all false
set_option maxHeartbeats 4000000
set_option maxRecDepth 100000
theorem Xa:type_of% @List.mem_of_getElem?:=@List.mem_of_getElem?
theorem Xb:type_of% @List.mem_singleton:=@List.mem_singleton
theorem Xc:type_of% @L2.takes_of:=@L2.takes_of
theorem Xd:type_of% @PySem.wpAny_bind:=@PySem.wpAny_bind
theorem Xe:type_of% @PySem.Heap.get?_push_of_some:=@PySem.Heap.get?_push_of_some
theorem Xf:type_of% @List.getElem?_set_ne:=@List.getElem?_set_ne
theorem Xg:type_of% @List.mem_cons_self:=@List.mem_cons_self
theorem Xh:type_of% @Option.map_eq_some_iff:=@Option.map_eq_some_iff
theorem Xi:type_of% @L2.upd_same:=@L2.upd_same
theorem Xj:type_of% @List.getElem?_set_self:=@List.getElem?_set_self
theorem Xk:type_of% @PySem.wpAny_pure:=@PySem.wpAny_pure
theorem Xl:type_of% @List.length_set:=@List.length_set
theorem Xm:type_of% @List.mem_cons_of_mem:=@List.mem_cons_of_mem
theorem Xn:type_of% @PySem.F.plainAttrs_list:=@PySem.F.plainAttrs_list
theorem Xo:type_of% @List.getElem?_eq_getElem:=@List.getElem?_eq_getElem
theorem Xp:type_of% @Bool.and_eq_true:=@Bool.and_eq_true
theorem Xq:type_of% @PySem.F.slot_list_append:=@PySem.F.slot_list_append
theorem Xr:type_of% @PySem.F.type_list_append:=@PySem.F.type_list_append
theorem Xs:type_of% @List.length_cons:=@List.length_cons
theorem Xt:type_of% @L2.Same.refl:=@L2.Same.refl
theorem Xu:type_of% @List.getElem?_eq_some_iff:=@List.getElem?_eq_some_iff
theorem Xv:type_of% @List.map_cons:=@List.map_cons
theorem Xw:type_of% @List.flatten_cons:=@List.flatten_cons
theorem Xx:type_of% @List.length_map:=@List.length_map
theorem Xy:type_of% @Option.isSome_iff_exists:=@Option.isSome_iff_exists
theorem Xz:type_of% @PySem.W.mg_of:=@PySem.W.mg_of
theorem XA:type_of% @PySem.Heap.get?_push_size:=@PySem.Heap.get?_push_size
theorem XB:type_of% @List.mem_cons:=@List.mem_cons
theorem XC:type_of% @List.mem_append_right:=@List.mem_append_right
theorem XD:type_of% @Nat.le_trans:=@Nat.le_trans
theorem XF:type_of% @PySem.W.mg_none_of:=@PySem.W.mg_none_of
theorem XG:type_of% @L2.passes_of:=@L2.passes_of
theorem XH:type_of% @of_decide_eq_true:=@of_decide_eq_true
theorem XI:type_of% @Ne.symm:=@Ne.symm
theorem XJ:type_of% @Option.some.inj:=@Option.some.inj
theorem XM:type_of% @List.all_eq_true:=@List.all_eq_true
theorem XN:type_of% @PySem.Heap.lt_size:=@PySem.Heap.lt_size
theorem XO:type_of% @PySem.wpAny_mono:=@PySem.wpAny_mono
theorem XQ:type_of% @List.getElem?_map:=@List.getElem?_map
theorem XR:type_of% @List.drop_eq_getElem_cons:=@List.drop_eq_getElem_cons
theorem XS:type_of% @Nat.le_refl:=@Nat.le_refl
theorem XT:type_of% @PySem.wpAny_holding:=@PySem.wpAny_holding
theorem XU:type_of% @L2.mt_append:=@L2.mt_append
theorem XW:type_of% @List.mem_map:=@List.mem_map
theorem XX:type_of% @List.length_append:=@List.length_append
theorem XY:type_of% @PySem.SeqAt.canLay_of_shaped:=@PySem.SeqAt.canLay_of_shaped
theorem XZ:type_of% @List.drop_eq_nil_of_le:=@List.drop_eq_nil_of_le
theorem X0:type_of% @List.getElem?_append_left:=@List.getElem?_append_left
theorem X2:type_of% @List.nodup_append:=@List.nodup_append
theorem X3:type_of% @Nat.ble_eq:=@Nat.ble_eq
theorem X4:type_of% @PySem.wpAny_standAt:=@PySem.wpAny_standAt
theorem X5:type_of% @decide_eq_true:=@decide_eq_true
theorem X6:type_of% @List.nodup_cons:=@List.nodup_cons
theorem X7:type_of% @beq_self_eq_true:=@beq_self_eq_true
theorem X8:type_of% @L2.blkOk_by:=@L2.blkOk_by
theorem X9:type_of% @List.cons.inj:=@List.cons.inj
theorem Va:type_of% @Nat.ne_of_lt:=@Nat.ne_of_lt
theorem Vb:type_of% @List.any_cons:=@List.any_cons
theorem Vc:type_of% @List.map_map:=@List.map_map
theorem Vd:type_of% @List.append_nil:=@List.append_nil
theorem Ve:type_of% @PySem.wpAny_Call_Name_kw:=@PySem.wpAny_Call_Name_kw
theorem Vf:type_of% @Bool.not_eq_true:=@Bool.not_eq_true
theorem Vg:type_of% @List.mem_append_left:=@List.mem_append_left
theorem Vh:type_of% @beq_iff_eq:=@beq_iff_eq
theorem Vi:type_of% @PySem.codeAny_mono:=@PySem.codeAny_mono
theorem Vj:type_of% @L2.wipe_length:=@L2.wipe_length
theorem Vk:type_of% @Classical.choose_spec:=@Classical.choose_spec
theorem Vl:type_of% @PySem.wpAny_call:=@PySem.wpAny_call
theorem Vm:type_of% @L2.ne_of_none:=@L2.ne_of_none
theorem Vn:type_of% @List.filterMap_cons_some:=@List.filterMap_cons_some
theorem Vo:type_of% @List.filterMap_cons_none:=@List.filterMap_cons_none
theorem Vp:type_of% @PySem.wpAny_loadName_local:=@PySem.wpAny_loadName_local
theorem Vq:type_of% @List.size_toArray:=@List.size_toArray
theorem Vr:type_of% @PySem.wpAny_loadPart_at:=@PySem.wpAny_loadPart_at
theorem Vs:type_of% @List.lookup_cons:=@List.lookup_cons
theorem Vt:type_of% @L2.pe_glob:=@L2.pe_glob
theorem Vu:type_of% @Nat.zero_le:=@Nat.zero_le
theorem Vv:type_of% @List.find?_cons_of_pos:=@List.find?_cons_of_pos
theorem Vw:type_of% @List.find?_cons_of_neg:=@List.find?_cons_of_neg
theorem Vx:type_of% @Nat.le_of_eq:=@Nat.le_of_eq
theorem Vy:type_of% @List.mem_replicate:=@List.mem_replicate
theorem Vz:type_of% @List.getElem?_eq_none:=@List.getElem?_eq_none
theorem VB:type_of% @Bool.or_eq_true:=@Bool.or_eq_true
theorem VC:type_of% @congrArg:=@congrArg
theorem VD:type_of% @PySem.pairTrees_length:=@PySem.pairTrees_length
theorem VE:type_of% @beq_eq_false_iff_ne:=@beq_eq_false_iff_ne
theorem VF:type_of% @List.flatten_append:=@List.flatten_append
theorem VG:type_of% @PySem.Paired.length:=@PySem.Paired.length
theorem VH:type_of% @PySem.W.callWith_K:=@PySem.W.callWith_K
theorem VI:type_of% @L2.pa_cons:=@L2.pa_cons
theorem VJ:type_of% @List.mem_append:=@List.mem_append
theorem VL:type_of% @decide_eq_true_iff:=@decide_eq_true_iff
theorem VM:type_of% @Nat.le_succ:=@Nat.le_succ
theorem VN:type_of% @PySem.W.methodCall_KW:=@PySem.W.methodCall_KW
theorem VO:type_of% @PpSet.boolK_is:=@PpSet.boolK_is
theorem VP:type_of% @List.mem_flatten:=@List.mem_flatten
theorem VQ:type_of% @List.isEmpty_iff:=@List.isEmpty_iff
theorem VS:type_of% @L2.FunD.binds1:=@L2.FunD.binds1
theorem VT:type_of% @List.map_congr_left:=@List.map_congr_left
theorem VW:type_of% @List.forIn_cons:=@List.forIn_cons
theorem VX:type_of% @Bool.false_ne_true:=@Bool.false_ne_true
namespace Pw
open PySem L2 PySem.Spec PyProof.Rows
structure RoomG (k:Nat) (A:Around):Prop extends Room k A where
 gd:A.guards=some []
theorem RoomG.mono{j k:Nat}{A:Around}(r:RoomG k A)(h:j<=k):RoomG j A:=⟨r.toRoom.mono h,r.gd⟩
theorem RoomG.deeper{k:Nat}{A:Around}(r:RoomG (k+1) A)(env:PySem.Env):RoomG k (A.deeper env):=⟨r.toRoom.deeper env,r.gd⟩
theorem RoomG.in1{k:Nat}{A:Around}(r:RoomG (k+1) A):RoomG k A.in1:=⟨r.toRoom.in1,r.gd⟩
theorem RoomG.make{k:Nat}{A:Around}(r:RoomG (k+1) A)(C:Addr)(us:List Value)(kw:List (Str × Value)):RoomG k (A.under (.builtin "type.__call__" ⟨.ref C::us,kw⟩)):=by
 refine⟨r.toRoom.make C us kw, ?_⟩
 have:=r.gd
 first|(simp[Around.under,Code.guards,Code.isGuard,guardIds,this,pushGuards]; done)|(unfold Around.under; rw[this]; rfl)
structure FnOkG (P:Program) (w:World) (K:PySem.W.Frag) (mg:Str->Option Value) (base:Heap) (CX:CXT) (k:Nat) (f:Addr) (fd:FuncData) (ps:List Str) (sp:Sp):Prop where
 len:∀vs H Q E,sp vs H Q E->vs.length=ps.length
 run:∀(A:Around) (outer:List PySem.Env) (s:Shared) (H:Hp) (args:Args) (us:List Value) (vs:List V) (Q:VK) (E:XK),RoomG k A->Env0 P w K mg base A outer s H->BindsTo s fd args (ps.zip us)->Vals vs us->sp vs H Q E->
  codeAny (model P w) A (.call (.ref f) args) (CR CX outer P w H s Q E) s
section
variable {P:Program}{w:World}{K:PySem.W.Frag}{mg:Str->Option Value}{base:Heap}{CX:CXT}{j k:Nat}{f:Addr}{fd:FuncData}{ps:List Str}{sp sp':Sp}
theorem FnOkG.imp(F:FnOkG P w K mg base CX k f fd ps sp)(h:∀vs H Q E,sp' vs H Q E->sp vs H Q E):FnOkG P w K mg base CX k f fd ps sp' :=
 ⟨fun vs H Q E q=>F.len vs H Q E (h _ _ _ _ q),fun A o s H args us vs Q E hr e0 hb hv q=>F.run A o s H args us vs Q E hr e0 hb hv (h _ _ _ _ q)⟩
end
section
variable {X:Cx}{CX:CXT}{k:Nat}{f:Addr}{fd:FuncData}{ps:List Str}{sp:Sp}{dvs:List V}{ds:List Value}{E:L2.St->XK}{x:Str}{p pos:Pos}{e:Expr}{es:List Expr}{t:TA}
theorem Zjw{pins:List (Addr × Obj)}{σ:L2.St}{H:Hp}{s:Shared}{Q:VK}{us:List Value}{vs:List V}(F:FnOkG X.prog X.w X.K X.mg X.base CX k f fd ps sp)
  (hr:RoomG k X.A)(hb:Binds X.K fd ps ds)(hd:Vals dvs ds)(hx:PassesAt CX X σ (E σ))(I:Inv X pins σ H s)(r:Vals vs us)
  (h:sp (vs++dvs) H Q (E σ)):wpAny (model X.prog X.w) X.A (call (.ref f) us) (EP X pins σ Q) X.xe s:=by
 have all:Vals (vs++dvs) (us++ds):=r.append hd
 have len:(us++ds).length=ps.length:=by
  rw[<- F.len _ _ _ _ h]
  exact all.length.symm
 refine Vl (Vi (F.run X.A X.stack s H ⟨us,[]⟩ _ _ Q (E σ) hr I.env0 (hb s us I.kIn len) all h) fun out s' hq=> ?_)
 rcases out with er|fl
 ·exact hx pins H s er s' I hq
 ·cases fl with
  |ret u=>exact I.after hq
  |next=>exact hq.elim
  |brk=>exact hq.elim
  |cont=>exact hq.elim
theorem ZgY(F:FnOkG X.prog X.w X.K X.mg X.base CX k f fd ps sp)(hr:RoomG k X.A)(hg:Gl X x)(hm:X.mg x=some (.ref f))(hk:PySem.W.keepIn X.K (.ref f)=true)
  (hb:Binds X.K fd ps ds)(hd:Vals dvs ds)(hx:∀σ,PassesAt CX X σ (E σ))(ha:PA X (e::es) t)(hdb:(x ==("__debug__" :Str))=false:=by decide)
  (he:starEach (e::es) X.env=(false,eval e X.env)::starEach es X.env:=by rfl)(hpl:(backTo pos (starEach es X.env)).any (·.1)=false:=by rfl) :
  PE X (.Call (.Name x p) (e::es) [] pos) (tCallSD sp dvs E t) :=
 ⟨fun pins s σ H Q I h=>Ve (ld_glob I hg hm (VH (h₀:=X.base) I.ok.mod.kin hk
  (thn (ha.run pos pins s σ H _ I h) fun us s1 ⟨vs,H1,I1,r,q⟩=>⟨I1.kIn,Zjw F hr hb hd (hx σ) I1 r q⟩) he hpl) hdb)⟩
end
section
variable {P:Program}{w:World}{K:PySem.W.Frag}{mg:Str->Option Value}{base:Heap}{CX:CXT}{k:Nat}{f:Addr}{N ps:List Str}{sp:Sp}
theorem ZgZ{name qual:Str}{params:Arguments}{body:List Stmt}{scope:Scope}{dV kV doc pm cdv ct oc:Value}{an od:Option Addr}{osl:Array (Option Value)}
  (lk:K.lookup f=some ⟨oc,od,.func (PySem.W.fnOf name qual params body scope dV kV doc pm an cdv ct),osl⟩)(hcd:PySem.W.codeIn K cdv qual=true)
  (S:FnScope N ps scope)(len:∀vs H Q E,sp vs H Q E->vs.length=ps.length)
  (hbody:∀(A:Around) (outer:List PySem.Env) (s:Shared) (H:Hp) (vs:List V) (Q:VK) (E:XK),RoomG k (A.deeper (envOfC qual scope s.heap.objs.size f cdv))->sp vs H Q E->
   ∃t,PSs (cxOf CX P w K mg base N qual scope f cdv A outer s H E) body t∧t { nx:=fun _ H'=>Q .non H',rt:=Q } (start N vs) H) :
  FnOkG P w K mg base CX (k+1) f (PySem.W.fnOf name qual params body scope dV kV doc pm an cdv ct) ps sp:=by
 constructor
 ·exact len
 intro A outer s H args us vs Q E hr e0 hb rv want
 have up:∀b o,base.get? b=some o->s.heap.get? b=some o:=fun b o e=>(e0.bs b o e).1
 have KX:=e0.mod.kin.keeps up
 have kinds:∀y∈ps.zip us,scope.names.lookup y.1=some .local∨(scope.names.lookup y.1=some .cell∧((cellsFrom (s.heap.objs.size+1) scope.names []).lookup y.1).isSome=true):=by
  rintro⟨n,v⟩ hy
  rcases S.par n (List.of_mem_zip hy).1 with h|h
  ·exact .inl h
  ·exact .inr ⟨h,PySem.W.cellsFrom_some _ _ _ (.inl h)⟩
 refine codeAny_call_function hr.depth (KX _ _ lk) rfl S.co S.gen rfl (PySem.W.codeRec_of KX hcd) (hb _ _ _ _ (wpAny_newFunctionEnv_cells S.kind kinds ?_))
 intro env he s1 ic
 subst he
 obtain⟨t,ht,hq⟩:=hbody A outer s H vs Q E (hr.deeper _) want
 refine⟨(e0.mod.nolimit.keeps up).keeps ic.toInCall.keep,codeAny_func (XO (ht.run [] s1 (start N vs) H _ (inv_start S hr.hd e0 (len _ _ _ _ want) rv ic) hq) ?_ fun _ _ z=>z)⟩
 intro fl s' hs
 cases fl with
 |ret u =>
  obtain⟨v,σ',H',J,r1,q⟩:=hs
  exact⟨v,H',J.os,J.bare,J.base,J.hok,r1,q⟩
 |next =>
  obtain⟨σ',H',J,q⟩:=hs
  exact⟨.non,H',J.os,J.bare,J.base,J.hok,rfl,q⟩
 |brk =>
  obtain⟨_,_,_,q⟩:=hs
  exact q.elim
 |cont =>
  obtain⟨_,_,_,q⟩:=hs
  exact q.elim
theorem okG{x qual:Str}{st:Stmt}{fd:FuncData}(F:L2.Fun K x qual st f fd)(S:FnScope N ps (defScope st))(len:∀vs H Q E,sp vs H Q E->vs.length=ps.length)
  (hbody:∀(cdv:Value) (A:Around) (outer:List PySem.Env) (s:Shared) (H:Hp) (vs:List V) (Q:VK) (E:XK),RoomG k (A.deeper (envOfC qual (defScope st) s.heap.objs.size f cdv))->sp vs H Q E->
   ∃t,PSs (cxOf CX P w K mg base N qual (defScope st) f cdv A outer s H E) (defBody st) t∧t { nx:=fun _ H'=>Q .non H',rt:=Q } (start N vs) H):FnOkG P w K mg base CX (k+1) f fd ps sp:=by
 obtain⟨_,_,_,_,_,_,cdv,_,_,rfl,lk,hcd⟩:=F.ex
 exact ZgZ lk hcd S len (hbody cdv)
theorem Zqa{x qual:Str}{params:Arguments}{body:List Stmt}{scope:Scope}{dvs:List V}{kws:List (Str × V)}{fd:FuncData}(F:FunD K x qual params body scope dvs kws f fd)(S:FnScope N ps scope)(len:∀vs H Q E,sp vs H Q E->vs.length=ps.length)
  (hbody:∀(cdv:Value) (A:Around) (outer:List PySem.Env) (s:Shared) (H:Hp) (vs:List V) (Q:VK) (E:XK),RoomG k (A.deeper (envOfC qual scope s.heap.objs.size f cdv))->sp vs H Q E->
   ∃t,PSs (cxOf CX P w K mg base N qual scope f cdv A outer s H E) body t∧t { nx:=fun _ H'=>Q .non H',rt:=Q } (start N vs) H):FnOkG P w K mg base CX (k+1) f fd ps sp:=by
 obtain⟨_,_,_,_,_,_,_,cdv,_,_,rfl,lk,hcd,_,_⟩:=F.ex
 exact ZgZ lk hcd S len (hbody cdv)
end
end Pw
namespace HX
open PySem PySem.Spec PyProof.Rows L2 He
def frK{α:Type}:PySem.W.Frag->(PySem.W.Frag->α)->α
 |[],k=>k []
 |(a,o)::r,k=>HandSHeadRun.frNat a fun a=>frK r fun r=>k ((a,o)::r)
theorem frK_eq{α:Type}:∀(l:PySem.W.Frag) (k:PySem.W.Frag->α),frK l k=k l
 |[],_=>rfl
 |(a,o)::r,k=>by
  show HandSHeadRun.frNat a (fun a=>frK r fun r=>k ((a,o)::r))=_
  rw[HandSHeadRun.frNat_eq,frK_eq r]
def nxO(o:Obj):List Addr:=match o.data with
 |.seq its _=>its.toList.flatMap refV
 |.dict es _=>es.toList.flatMap fun e=>refV e.val
 |.func fd=>refV fd.code++(refV fd.defaults++(refV fd.kwdefaults++fd.closure.map (·.2)))
 |.cls cd=> [cd.ns]
 |.fields vs=>(match o.cls with
  |.type "code" => []
  |_=>vs.toList.flatMap refV)
 |_=> []
def nx1(g:Addr->Option Obj)(as:List Addr):List Addr:=as.flatMap fun a=>match g a with
 |some o=>nxO o
 |none=> []
def nxA(g:Addr->Option Obj):Nat->List Addr->List Addr
 |0,as=>as
 |n+1,as=>as++nxA g n (nx1 g as)
def kG(g:Addr->Option Obj):PySem.W.Frag:=frG g (cStatics::nxA g 5 [mainGlobals])
abbrev FnX:Type:=Option (Str × Str × Arguments × FuncBody × Scope × Addr × List Str × Addr)
def fnx(K:PySem.W.Frag)(a:Addr):FnX:=match K.lookup a with
 |some ⟨_,_,.func fd,_⟩=>some (fd.name,fd.qualname,fd.params,fd.body,fd.scope,fd.globals,fd.closure.map (·.1),fd.builtins)
 |_=>none
structure Df where
 at_:PySem.W.Frag->Addr
 name:Str
 qual:Str
 params:Arguments
 body:List Stmt
 scope:Scope
 clo:List Str:= []
 dfl:Option (PySem.W.Frag->Array Value):=none
def Df.val(d:Df):FnX:=some (d.name,d.qual,d.params,.stmts d.body,d.scope,mainGlobals,d.clo,builtinsNs)
def ZjR(K:PySem.W.Frag)(dV:Value):Option (PySem.W.Frag->Array Value)->Bool
 |none=>(match dV with
  |.none=>true
  |_=>false)
 |some f=>(match dV with
  |.ref T=>(match K.lookup T with
   |some ⟨_,_,.seq its _,_⟩=>decide (its.toList=(f K).toList)
   |_=>false)
  |_=>false)
def Df.ok(K:PySem.W.Frag)(d:Df):Bool:=match K.lookup (d.at_ K) with
 |some ⟨_,_,.func fd,_⟩=>PySem.W.codeIn K fd.code d.qual && ZjR K fd.defaults d.dfl
 |_=>false
theorem Zg0{K:PySem.W.Frag}{d:Df}(e:fnx K (d.at_ K)=d.val)(c:d.ok K=true):∃cl dV,cl.map (·.1)=d.clo∧ZjR K dV d.dfl=true∧∃oc od osl kV doc pm an cdv ct,
  K.lookup (d.at_ K)=some ⟨oc,od,.func (PySem.W.fnX d.name d.qual d.params d.body d.scope cl dV kV doc pm an cdv ct),osl⟩∧PySem.W.codeIn K cdv d.qual=true:=by
 unfold Df.ok at c
 unfold fnx at e
 cases q:K.lookup (d.at_ K) with
 |none =>
  rw[q] at c
  cases c
 |some o =>
  obtain⟨oc,od,dt,osl⟩:=o
  rw[q] at c e
  cases dt with
  |func fd =>
   obtain⟨n1,n2,n3,n4,n5,n6,n7,n8,n9,n10,n11,n12,n13,n14,n15⟩:=fd
   have e2:(some (n1,n2,n3,n4,n5,n6,n7.map (·.1),n15):FnX)=some (d.name,d.qual,d.params,.stmts d.body,d.scope,mainGlobals,d.clo,builtinsNs):=e
   simp only[Option.some.injEq,Prod.mk.injEq] at e2
   obtain⟨h1,h2,h3,h4,h5,h6,h7,h8⟩:=e2
   subst h1 h2 h3 h4 h5 h6 h8
   obtain⟨c1,c2⟩:=ba (show (PySem.W.codeIn K n13 d.qual && ZjR K n8 d.dfl)=true from c)
   exact⟨n7,n8,h7,c2,oc,od,osl,n9,n10,n11,n12,n13,n14,rfl,c1⟩
  |_=>cases c
theorem df_0{K:PySem.W.Frag}{d:Df}(e:fnx K (d.at_ K)=d.val)(c:d.ok K=true)(h1:d.clo= [])(h2:d.dfl=none):∃oc od osl kV doc pm an cdv ct,
  K.lookup (d.at_ K)=some ⟨oc,od,.func (PySem.W.fnOf d.name d.qual d.params d.body d.scope .none kV doc pm an cdv ct),osl⟩∧PySem.W.codeIn K cdv d.qual=true:=by
 obtain⟨cl,dV,k1,k2,oc,od,osl,kV,doc,pm,an,cdv,ct,k3,k4⟩:=Zg0 e c
 rw[h1] at k1
 rw[h2] at k2
 obtain rfl:cl= []:=List.map_eq_nil_iff.mp k1
 cases dV with
 |none=>exact⟨oc,od,osl,kV,doc,pm,an,cdv,ct,k3,k4⟩
 |_=>cases k2
theorem df_d{K:PySem.W.Frag}{d:Df}{f:PySem.W.Frag->Array Value}(e:fnx K (d.at_ K)=d.val)(c:d.ok K=true)(h1:d.clo= [])(h2:d.dfl=some f):∃oc od osl T kV doc pm an cdv ct,
  K.lookup (d.at_ K)=some ⟨oc,od,.func (PySem.W.fnOf d.name d.qual d.params d.body d.scope (.ref T) kV doc pm an cdv ct),osl⟩∧PySem.W.codeIn K cdv d.qual=true∧
   ∃tc td tn tl,K.lookup T=some ⟨tc,td,.seq (f K) tn,tl⟩:=by
 obtain⟨cl,dV,k1,k2,oc,od,osl,kV,doc,pm,an,cdv,ct,k3,k4⟩:=Zg0 e c
 rw[h1] at k1
 rw[h2] at k2
 obtain rfl:cl= []:=List.map_eq_nil_iff.mp k1
 cases dV with
 |ref T =>
  have k5:(match K.lookup T with
   |some ⟨_,_,.seq its _,_⟩=>decide (its.toList=(f K).toList)
   |_=>false)=true:=k2
  cases q:K.lookup T with
  |none =>
   rw[q] at k5
   cases k5
  |some o =>
   obtain⟨tc,td,dt,tl⟩:=o
   rw[q] at k5
   cases dt with
   |seq its n =>
    have k6:its=f K:=Array.toList_inj.mp (XH k5)
    exact⟨oc,od,osl,T,kV,doc,pm,an,cdv,ct,k3,k4,tc,td,n,tl,by rw[q,k6]⟩
   |_=>cases k5
 |_=>cases k2
def dfA(f:PySem.W.Frag->Addr)(i:Nat)(K:PySem.W.Frag):Addr:=match K.lookup (f K) with
 |some ⟨_,_,.func fd,_⟩=>(match fd.defaults with
  |.ref T=>(match K.lookup T with
   |some ⟨_,_,.seq its _,_⟩=>(match its.toList[i]? with
    |some (.ref a)=>a
    |_=>0)
   |_=>0)
  |_=>0)
 |_=>0
def ksB(K:PySem.W.Frag)(a C:Addr)(file:Str):Bool:=match K.lookup a with
 |some ⟨_,_,.func fd,_⟩=>(match fd.code,fd.closure with
  |.ref cda,[(_,cc)]=>(match K.lookup cda with
   |some ⟨_,_,.fields vs,_⟩=>(match vs.toList with
    |_::_:: .str f _::_=>decide (f=file)
    |_=>false)
   |_=>false) && (match K.lookup cc with
   |some ⟨_,_,.cell (some (.ref D)),_⟩=>decide (D=C)
   |_=>false)
  |_,_=>false)
 |_=>false
theorem df_k{K:PySem.W.Frag}{d:Df}{C:Addr}{file:Str}(e:fnx K (d.at_ K)=d.val)(c:d.ok K=true)(h1:d.clo=(["__class__"]:List Str))(h2:d.dfl=none)(b:ksB K (d.at_ K) C file=true):∃oc od osl kV doc pm an cda ct cc,
  K.lookup (d.at_ K)=some ⟨oc,od,.func (PySem.W.ksFn d.name d.qual d.params d.body d.scope .none kV doc pm an (.ref cda) ct cc),osl⟩∧PySem.W.codeIn K (.ref cda) d.qual=true∧
   (∃ccl cdd vs ccs tk,K.lookup cda=some ⟨ccl,cdd,.fields vs,ccs⟩∧vs[2]?=some (.str file tk))∧∃cl cld csl,K.lookup cc=some ⟨cl,cld,.cell (some (.ref C)),csl⟩:=by
 obtain⟨cl,dV,k1,k2,oc,od,osl,kV,doc,pm,an,cdv,ct,k3,k4⟩:=Zg0 e c
 rw[h1] at k1
 rw[h2] at k2
 unfold ksB at b
 rw[k3] at b
 cases dV with
 |none =>
  cases cl with
  |nil=>cases k1
  |cons z zs =>
   obtain⟨y,cc⟩:=z
   cases zs with
   |cons _ _=>cases k1
   |nil =>
    obtain rfl:y="__class__" :=by
     have k5: [y]=(["__class__"]:List Str):=k1
     exact(X9 k5).1
    cases cdv with
    |ref cda =>
     obtain⟨b1,b2⟩:=ba (show ((match K.lookup cda with
      |some ⟨_,_,.fields vs,_⟩=>(match vs.toList with
       |_::_:: .str f _::_=>decide (f=file)
       |_=>false)
      |_=>false) && (match K.lookup cc with
      |some ⟨_,_,.cell (some (.ref D)),_⟩=>decide (D=C)
      |_=>false))=true from b)
     refine⟨oc,od,osl,kV,doc,pm,an,cda,ct,cc,k3,k4, ?_, ?_⟩
     ·split at b1
      ·rename_i q
       split at b1
       ·rename_i vs _ _ _ f tk _ hv
        have hf:f=file:=XH b1
        subst hf
        refine⟨_,_,_,_,tk,q, ?_⟩
        rw[<- Array.getElem?_toList,hv]
        rfl
       ·cases b1
      ·cases b1
     ·split at b2
      ·rename_i D _ q
       have hD:D=C:=XH b2
       subst hD
       exact⟨_,_,_,q⟩
      ·cases b2
    |_=>cases b
 |_=>cases k2
def strB(K:PySem.W.Frag)(x z:Str):Bool:=match PySem.W.nsIn K mainGlobals x with
 |some (some (.str y _))=>decide (y=z)
 |_=>false
theorem strB_ok{K:PySem.W.Frag}{x z:Str}(h:strB K x z=true):∃t,PySem.W.nsIn K mainGlobals x=some (some (.str z t)):=by
 unfold strB at h
 split at h
 ·rename_i y t q
  have e:y=z:=XH h
  exact⟨t,by rw[q,e]⟩
 ·cases h
def intB(K:PySem.W.Frag)(x:Str)(z:Int):Bool:=match PySem.W.nsIn K mainGlobals x with
 |some (some (.int y _))=>decide (y=z)
 |_=>false
theorem intB_ok{K:PySem.W.Frag}{x:Str}{z:Int}(h:intB K x z=true):∃t,PySem.W.nsIn K mainGlobals x=some (some (.int z t)):=by
 unfold intB at h
 split at h
 ·rename_i y t q
  have e:y=z:=XH h
  exact⟨t,by rw[q,e]⟩
 ·cases h
def ZqK(K:PySem.W.Frag)(a:Addr):Bool:=match K.lookup a with
 |some ⟨.type c,none,.seq _ _,_⟩=>decide (c="tuple")
 |_=>false
def tupV(K:PySem.W.Frag)(a:Addr)(vs:List V):Bool:=match K.lookup a with
 |some ⟨.type c,none,.seq its _,_⟩=>decide (c="tuple") && (decide (its.size<=sizeLine) && relAll vs its.toList)
 |_=>false
theorem tupV_ok{K:PySem.W.Frag}{a:Addr}{vs:List V}(h:tupV K a vs=true):∃ci cn cl,K.lookup a=some ⟨.type "tuple",none,.seq ci cn,cl⟩∧Vals vs ci.toList∧ci.size<=sizeLine:=by
 unfold tupV at h
 split at h
 ·rename_i c its n sl q
  obtain⟨h1,h2⟩:=ba h
  obtain⟨h3,h4⟩:=ba h2
  have e:c="tuple" :=XH h1
  subst e
  exact⟨_,_,_,q,relAll_ok h4,XH h3⟩
 ·cases h
def tupE(K:PySem.W.Frag)(a:Addr):Bool:=match K.lookup a with
 |some ⟨.type c,none,.seq its _,_⟩=>decide (c="tuple") && its.toList.isEmpty
 |_=>false
theorem tupE_ok{K:PySem.W.Frag}{a:Addr}(h:tupE K a=true):∃n l,K.lookup a=some ⟨.type "tuple",none,.seq #[] n,l⟩:=by
 unfold tupE at h
 split at h
 ·rename_i c its n sl q
  obtain⟨h1,h2⟩:=ba h
  have e:c="tuple" :=XH h1
  subst e
  have e2:its=#[]:=by
   obtain⟨l⟩:=its
   cases l with
   |nil=>rfl
   |cons _ _=>cases h2
  subst e2
  exact⟨_,_,q⟩
 ·cases h
abbrev AlX:Type:=Bool × List FnX
abbrev Fl:Type:=List (List (PySem.W.Frag->Bool))
def obsX(fl:Fl)(fn:List Df)(K:PySem.W.Frag):AlX:=((fl.all fun l=>l.all fun f=>f K) && fn.all fun d=>d.ok K,fn.map fun d=>fnx K (d.at_ K))
def valX(fn:List Df):AlX:=(true,fn.map Df.val)
def SaysX(fl:Fl)(fn:List Df)(K:PySem.W.Frag):Prop:=obsX fl fn K=valX fn
section
variable {fl:Fl}{fn:List Df}{K:PySem.W.Frag}
theorem SaysX.fact(c:SaysX fl fn K)(i j:Nat){l:List (PySem.W.Frag->Bool)}{f:PySem.W.Frag->Bool}(h:fl[i]?=some l:=by rfl)(h2:l[j]?=some f:=by rfl):f K=true:=by
 have c1:=(ba (show ((fl.all fun l=>l.all fun f=>f K) && fn.all fun d=>d.ok K)=true from VC (fun z:AlX=>z.1) c)).1
 exact XM.mp (XM.mp c1 l (Xa h)) f (Xa h2)
theorem SaysX.def1(c:SaysX fl fn K)(i:Nat){d:Df}(h:fn[i]?=some d:=by rfl):fnx K (d.at_ K)=d.val:=by
 have e:fn.map (fun d=>fnx K (d.at_ K))=fn.map Df.val:=VC (fun z:AlX=>z.2) c
 have e2:(fn.map fun d=>fnx K (d.at_ K))[i]?=(fn.map Df.val)[i]?:=by rw[e]
 rw[XQ,XQ,h] at e2
 exact XJ e2
theorem SaysX.def2(c:SaysX fl fn K)(i:Nat){d:Df}(h:fn[i]?=some d:=by rfl):d.ok K=true:=by
 have c2:=(ba (show ((fl.all fun l=>l.all fun f=>f K) && fn.all fun d=>d.ok K)=true from VC (fun z:AlX=>z.1) c)).2
 exact XM.mp c2 d (Xa h)
end
end HX
namespace HY
open PySem PySem.Spec PyProof.Rows L2 He
def tcA(K:PySem.W.Frag)(f:Addr):Addr:=match K.lookup f with
 |some ⟨_,_,.func fd,_⟩=>(match fd.code with
  |.ref c=>c
  |_=>0)
 |_=>0
def tpA(K:PySem.W.Frag)(f:Addr):Addr:=match K.lookup (tcA K f) with
 |some ⟨_,_,.fields vs,_⟩=>(match (vs[11]?:Option Value) with
  |some (.ref P)=>P
  |_=>0)
 |_=>0
def tabB(K:PySem.W.Frag)(f:Addr):Bool:=(match K.lookup f with
 |some ⟨_,_,.func fd,_⟩=>(match fd.code with
  |.ref _=>true
  |_=>false)
 |_=>false) && ((match K.lookup (tcA K f) with
 |some ⟨_,_,.fields vs,_⟩=>(match (vs[11]?:Option Value) with
  |some (.ref _)=>true
  |_=>false)
 |_=>false) && ((K.lookup (tpA K f)).isNone && PySem.W.codeHdIn K (tcA K f) (tpA K f)))
theorem code_tc{K:PySem.W.Frag}{f:Addr}{oc:Value}{od:Option Addr}{fd:FuncData}{osl:Array (Option Value)}(l:K.lookup f=some ⟨oc,od,.func fd,osl⟩)(h:tabB K f=true):fd.code= .ref (tcA K f):=by
 obtain⟨c,_⟩:=ba h
 rw[l] at c
 have c:(match fd.code with|.ref _=>true|_=>false)=true:=c
 unfold tcA
 rw[l]
 show fd.code= .ref (match fd.code with|.ref c=>c|_=>0)
 cases q:fd.code with
 |ref c=>rfl
 |_=>rw[q] at c; cases c
theorem tabB_ok{K:PySem.W.Frag}{f:Addr}(h:tabB K f=true):(∃ce cd vs cs,K.lookup (tcA K f)=some ⟨ce,cd,.fields vs,cs⟩∧vs[11]?=some (.ref (tpA K f)))∧K.lookup (tpA K f)=none∧PySem.W.codeHdIn K (tcA K f) (tpA K f)=true:=by
 obtain⟨_,h⟩:=ba h
 obtain⟨c,h⟩:=ba h
 obtain⟨n,h⟩:=ba h
 refine⟨?_,Option.isNone_iff_eq_none.mp n,h⟩
 unfold tpA
 cases q:K.lookup (tcA K f) with
 |none=>rw[q] at c; cases c
 |some o =>
  obtain⟨ce,cd,dt,cs⟩:=o
  rw[q] at c
  cases dt with
  |fields vs =>
   refine⟨ce,cd,vs,cs,rfl, ?_⟩
   have c:(match (vs[11]?:Option Value) with|some (.ref _)=>true|_=>false)=true:=c
   show vs[11]?=some (.ref (match (vs[11]?:Option Value) with|some (.ref P)=>P|_=>0))
   split at c
   ·rename_i P e
    rw[e]
   ·cases c
  |_=>cases c
abbrev tabY:Obj:= { cls:= .none,data:= .fields #[] }
def ZjS:Option Obj->Bool
 |some ⟨.none,none,.fields vs,sl⟩=>decide (vs.size=0) && decide (sl.size=0)
 |_=>false
theorem ZlW{o:Option Obj}(h:ZjS o=true):o=some tabY:=by
 unfold ZjS at h
 split at h
 ·obtain⟨a,b⟩:=ba h
  rw[Array.eq_empty_of_size_eq_zero (XH a),Array.eq_empty_of_size_eq_zero (XH b)]
 ·cases h
abbrev AlY:Type:=HX.AlX × Bool
end HY
namespace HX
open PySem PySem.Spec PyProof.Rows L2 Pw He
theorem od{p:Prop}{i:Decidable p}(h:@decide p i=true):p:=@XH p i h
theorem fm{α:Type}{a:α}{l:List α}{P:α->Prop}(h:P a)(t:∀x∈l,P x):∀x∈a::l,P x:=List.forall_mem_cons.mpr ⟨h,t⟩
theorem fz{α:Type}{P:α->Prop}:∀x∈([]:List α),P x:=fun _ h=>nomatch h
def dA(at_:PySem.W.Frag->Addr)(n q:Str)(st:Stmt):Df:=⟨at_,n,q,defArgs st,defBody st,defScope st,[],none⟩
abbrev dG(n:Str)(st:Stmt):Df:=dA (fun K=>He.ga K n) n n st
abbrev dM(C n q:Str)(st:Stmt):Df:=dA (fun K=>He.ma K (He.ga K C) n) n q st
abbrev dW(C n q:Str)(st:Stmt):Df:=dA (fun K=>He5.wf K (He.ga K C) "classmethod" n) n q st
abbrev dX(C q:Str)(st:Stmt):Df:=⟨fun K=>He.ma K (He.ga K C) "__init__","__init__",q,defArgs st,defBody st,defScope st,["__class__"],none⟩
end HX
namespace HV
open PySem PySem.Spec PyProof.Rows L2 He HY
def Zog(fl:HX.Fl)(fn:List HX.Df)(mk:List (PySem.W.Frag->Addr))(g:Addr->Option Obj)(K:PySem.W.Frag):AlY:=(HX.obsX fl fn K,mk.all fun a=>ZjS (g (tpA K (a K))))
def obsVG(fl:HX.Fl)(fn:List HX.Df)(mk:List (PySem.W.Frag->Addr))(g:Addr->Option Obj):AlY:=HX.frK (HX.kG g) (Zog fl fn mk g)
def hookV(fl:HX.Fl)(fn:List HX.Df)(mk:List (PySem.W.Frag->Addr)):PySem.W.Hook where
 α:=AlY
 obs:=fun s=>obsVG fl fn mk s.heap.get?
 val:=fun _=>(HX.valX fn,true)
 says:=fun _ h=>∃K:PySem.W.Frag,K.In h∧HX.SaysX fl fn K∧∀a∈mk,h.get? (tpA K (a K))=some tabY
 of:=fun w s e=>by
  have e':Zog fl fn mk s.heap.get? (HX.kG s.heap.get?)=(HX.valX fn,true):=(HX.frK_eq _ _).symm.trans e
  exact⟨HX.kG s.heap.get?,frG_in,VC (fun z:AlY=>z.1) e',fun m hm=>ZlW (XM.mp (VC (fun z:AlY=>z.2) e') m hm)⟩
 keeps:=fun _ _ _ ⟨K,hK,c,t⟩ k=>⟨K,PySem.W.Frag.In.keeps hK k,c,fun m hm=>k _ _ (t m hm)⟩
theorem obsVG_eq{fl:HX.Fl}{fn:List HX.Df}{mk:List (PySem.W.Frag->Addr)}{g:Addr->Option Obj}{s:Shared}(h:∀a,g a=s.heap.get? a):obsVG fl fn mk g=(hookV fl fn mk).obs s:=by
 have e:g=s.heap.get?:=funext h
 rw[e] <;> rfl
theorem own_one{K:PySem.W.Frag}{f:Addr}{h:Heap}(t:h.get? (HY.tpA K f)=some HY.tabY):LamX.OwnTab K f h:=by
 intro c P o fd e dd vs sl k1 k2 k3 k4 k5
 obtain⟨oc,od,dt,osl⟩:=o
 have k2:dt= .func fd:=k2
 subst k2
 have e1:HY.tcA K f=c:=by
  unfold HY.tcA
  rw[k1]
  show (match fd.code with|.ref c=>c|_=>0)=c
  rw[k3]
 have e2:HY.tpA K f=P:=by
  unfold HY.tpA
  rw[e1,k4]
  show (match (vs[11]?:Option Value) with|some (.ref P)=>P|_=>0)=P
  rw[k5]
 rw[e2] at t
 exact t
end HV
namespace Pu
open PySem L2 Pw
abbrev Zg1:List Value:= [.type "ValueError",.type "Exception",.type "BaseException",.type "object"]
abbrev Zg2:List Value:= [.type "KeyError",.type "LookupError",.type "Exception",.type "BaseException",.type "object"]
def top(i:Nat):Stmt:=PySem.Challenge.pw_plateways_k56_washings_and_fences_by_nam.main.body.getD i (.Pass ⟨0,0,0,0⟩)
abbrev Qj:Stmt:=top 32
abbrev JJ:Stmt:=top 20
abbrev Zau:Stmt:=top 16
abbrev ZcU:Stmt:=top 17
abbrev ZaR:Stmt:=top 13
abbrev Zbz:Stmt:=top 14
abbrev Zb7:Stmt:=top 24
abbrev ZaS:Stmt:=top 25
abbrev Jf:Stmt:=top 18
abbrev ZU:Stmt:=inClass (top 26) 0
abbrev Q5:Stmt:=inClass (top 26) 7
abbrev Zav:Stmt:=inClass (top 26) 6
abbrev ZbA:Stmt:=top 30
abbrev QQ:Stmt:=top 19
abbrev ZbB:Stmt:=top 31
abbrev ZV:Stmt:=inClass (top 33) 0
abbrev Q6:Stmt:=inClass (top 33) 10
abbrev JZ:Stmt:=inClass (top 33) 7
abbrev Zaw:Stmt:=inClass (top 33) 9
abbrev Zb8:Stmt:=top 15
abbrev Zb9:Stmt:=top 62
abbrev ZaT:Stmt:=top 63
abbrev Jg:Stmt:=inClass (top 26) 3
abbrev Zca:Stmt:=top 64
abbrev ZaU:Stmt:=top 65
abbrev ZK:Stmt:=inClass (top 71) 0
abbrev ZcV:Stmt:=top 70
abbrev ZaD:Stmt:=inClass (top 71) 5
abbrev ZaV:Stmt:=inClass (top 71) 4
abbrev ZbC:Stmt:=top 21
abbrev Zcb:Stmt:=top 27
abbrev ZcW:Stmt:=top 28
abbrev QC:Stmt:=inClass (top 26) 1
abbrev ZcX:Stmt:=top 34
abbrev ZaW:Stmt:=top 35
abbrev QD:Stmt:=inClass (top 33) 1
abbrev Zcc:Stmt:=top 66
abbrev Zcd:Stmt:=top 67
abbrev Zce:Stmt:=top 68
abbrev ZbD:Stmt:=top 69
abbrev J0:Stmt:=inClass (top 71) 1
abbrev QE:Stmt:=inClass (top 33) 2
abbrev JK:Stmt:=top 36
abbrev Zcf:Stmt:=top 46
abbrev ZbE:Stmt:=top 41
abbrev Zd6:Stmt:=top 43
abbrev Zgy:Stmt:=top 42
abbrev ZcY:Stmt:=top 44
abbrev Zcg:Stmt:=top 45
abbrev ZbF:Stmt:=top 47
abbrev Zfb:Stmt:=top 48
abbrev QH:Stmt:=inClass (top 71) 2
abbrev Y7:Stmt:=top 37
abbrev Qd:Stmt:=inClass (top 33) 4
abbrev QF:Stmt:=top 56
abbrev Yv:Stmt:=top 57
abbrev YW:Stmt:=top 39
abbrev YT:Stmt:=inClass (top 33) 3
abbrev ZbG:Stmt:=top 49
abbrev Zax:Stmt:=top 51
abbrev ZcZ:Stmt:=top 52
abbrev Q7:Stmt:=top 53
abbrev Qe:Stmt:=inClass (top 26) 4
abbrev YX:Stmt:=inClass (top 33) 5
abbrev YN:Stmt:=top 54
abbrev Q8:Stmt:=top 38
abbrev QG:Stmt:=inClass (top 26) 2
abbrev Zgz:Stmt:=top 73
abbrev Jk:Stmt:=inClass (top 3) 0
abbrev Jl:Stmt:=inClass (top 4) 0
abbrev QK:Stmt:=inClass (top 5) 0
abbrev Jm:Stmt:=inClass (top 6) 0
abbrev ZaE:Stmt:=inClass (top 7) 0
abbrev Zan:Stmt:=inClass (top 8) 0
end Pu
namespace Pu
open PySem L2 PySem.Spec PyProof.Rows Pw HX
def q0(x0:Str)(K:PySem.W.Frag):Bool:=decide (PySem.W.nsIn K mainGlobals x0=some none)
def q1(x0:Str)(K:PySem.W.Frag):Bool:=HX.intB K x0 (19)
def q2(x0:Str)(x1:Str)(K:PySem.W.Frag):Bool:=HX.strB K x0 x1
def q3(x0:Str)(K:PySem.W.Frag):Bool:=decide (PySem.W.nsIn K mainGlobals x0=some (some (.ref (He.ga K x0))))
def q4(x0:Str)(K:PySem.W.Frag):Bool:=decide (PySem.W.keepIn K (.ref (He.ga K x0))=true)
def q5(x0:Str)(x1:Str)(K:PySem.W.Frag):Bool:=decide (PySem.W.findIn K (.ref (He.ga K x0)) x1=some (some (.ref (He.ma K (He.ga K x0) x1))))
def q6(x0:Str)(x1:Str)(K:PySem.W.Frag):Bool:=decide (PySem.W.isFn K (.ref (He.ma K (He.ga K x0) x1))=true)
def q7(x0:Str)(x1:Str)(K:PySem.W.Frag):Bool:=decide (PySem.W.keepIn K (.ref (He.ma K (He.ga K x0) x1))=true)
def q8(x0:Str)(K:PySem.W.Frag):Bool:=HX.tupE K (HX.dfA (fun K=>(He.ma K (He.ga K x0) "__init__")) 0 K)
def q9(x0:Str)(K:PySem.W.Frag):Bool:=He5.wrapB K (He.ga K x0) "classmethod" "classmethod.__get__" "read"
def q10(x0:Str)(K:PySem.W.Frag):Bool:=decide (PySem.W.fnIn K (He5.wf K (He.ga K x0) "classmethod" "read")=true)
def q11(x0:Str)(K:PySem.W.Frag):Bool:=decide (PySem.W.keepIn K (.ref (He5.wf K (He.ga K x0) "classmethod" "read"))=true)
def q12(x0:Str)(K:PySem.W.Frag):Bool:=decide (PySem.W.typeIn K (.ref (He.ma K (He.ga K x0) "__init__"))=some (.type "function"))
def q13(x0:Str)(K:PySem.W.Frag):Bool:=HX.ksB K (He.ma K (He.ga K x0) "__init__") (He.ga K x0) (PySem.Challenge.rw_plateways_k56_washings_and_fences_by_nam).prog.main.file
def q14(x0:Str)(K:PySem.W.Frag):Bool:=(PySem.W.clsIn K (He.ga K x0)).isSome
def q15(x0:Str)(K:PySem.W.Frag):Bool:=decide (PySem.W.mroIn K (He.ga K x0) (.ref (He.ga K x0))=some true)
def q16(x0:Str)(x1:String)(K:PySem.W.Frag):Bool:=decide (PySem.W.ks_superIn K (He.ga K x0) (He.ga K x0) "__init__" =some (some (.builtin x1)))
def q17(x0:Str)(x1:String)(K:PySem.W.Frag):Bool:=decide (PySem.W.subIn K (.ref (He.ga K x0)) (.type x1)=some true)
def q18(x0:Str)(K:PySem.W.Frag):Bool:=decide (PySem.W.excInitIn K (He.ga K x0) ([.type "ValueError",.type "Exception",.type "BaseException",.type "object"]:List Value) "ValueError.__new__" =true)
def q19(x0:Str)(K:PySem.W.Frag):Bool:=decide (PySem.W.excOver K (He.ga K x0) ([.type "ValueError",.type "Exception",.type "BaseException",.type "object"]:List Value)=true)
def q20(x0:Str)(x1:Str)(x2:String)(K:PySem.W.Frag):Bool:=decide (PySem.W.findIn K (.ref (He.ga K x0)) x1=some (some (.builtin x2)))
def q21(x0:Str)(x1:Str)(K:PySem.W.Frag):Bool:=decide (PySem.W.takerIn K (He.ga K x0) x1=some none)
def q22(x0:Str)(K:PySem.W.Frag):Bool:=decide (PySem.W.hasDictIn K (He.ga K x0)=true)
def q23(x0:Str)(K:PySem.W.Frag):Bool:=decide (PySem.W.typeIn K (.ref (He.ga K x0))=some (.type "type"))
def q24(x0:Str)(K:PySem.W.Frag):Bool:=decide (PySem.W.excInitIn K (He.ga K x0) ([.type "KeyError",.type "LookupError",.type "Exception",.type "BaseException",.type "object"]:List Value) "LookupError.__new__" =true)
def q25(x0:Str)(K:PySem.W.Frag):Bool:=decide (PySem.W.excOver K (He.ga K x0) ([.type "KeyError",.type "LookupError",.type "Exception",.type "BaseException",.type "object"]:List Value)=true)
def q26(x0:Str)(K:PySem.W.Frag):Bool:=decide (PySem.W.subIn K (.ref (He.ga K x0)) (.ref (He.ga K "InvalidWork"))=some false)
def q27(x0:Str)(K:PySem.W.Frag):Bool:=decide (PySem.W.plainGet K (He.ga K x0) Str.empty=true)
def q28(x0:Str)(K:PySem.W.Frag):Bool:=decide (PySem.W.plainOver K (He.ga K x0)=true)
def q29(x0:Str)(K:PySem.W.Frag):Bool:=decide (PySem.W.makesIn K (He.ga K x0)=true)
def q30(x0:Str)(K:PySem.W.Frag):Bool:=decide (PySem.W.mroIn K (He.ga K x0) (.type "object")=some true)
def q31(x0:Str)(x1:String)(K:PySem.W.Frag):Bool:=decide (PySem.W.mroIn K (He.ga K x0) (.type x1)=some false)
def q32(x0:Str)(K:PySem.W.Frag):Bool:=decide (PySem.W.isClsIn K (He.ga K x0)=true)
def q33(x0:Str)(K:PySem.W.Frag):Bool:=decide (PySem.W.readsIn K (He.ga K x0) (.type "type")=true)
def q34(x0:Str)(K:PySem.W.Frag):Bool:=decide (PySem.W.specialIn K (.ref (He.ga K x0)) "__getattribute__" =some (some (.builtin "type.__getattribute__")))
def q35(x0:Str)(x1:Str)(K:PySem.W.Frag):Bool:=decide (PySem.W.findIn K (.ref (He.ga K x0)) x1=some none)
def q36(x0:Str)(x1:Str)(K:PySem.W.Frag):Bool:=decide (PySem.W.kitOne K (.ref (He.ga K x0)) (.ref (He.ga K x1))=some false)
def fl0:List (PySem.W.Frag->Bool):= [q0 "abs",q0 "all",q0 "any",q0 "bool",q0 "dict",q0 "enumerate",q0 "int",q0 "isinstance",q0 "len",q0 "list",q0 "range",q0 "sorted",q0 "str",q0 "sum",q0 "tuple",q1 "DIGITS_kitchens",q1 "DIGITS_steps",q2 "DIGITS_words" "0123456789",q2 "LETTERS" "abcdefghijklmnopqrstuvwxyz",fun K=>HX.intB K "LIMIT_WORDS" (5),q3 "RESERVED",fun K=>HX.tupV K (He.ga K "RESERVED") [.str "at",.str "go",.str "ahead",.str "trace",.str "limit",.str "work"],fun K=>HX.intB K "TRACE_WORDS" (4),q3 "InvalidKitchen"]
def fl1:List (PySem.W.Frag->Bool):= [q3 "InvalidStep",q3 "InvalidText",q3 "InvalidWork",q3 "Kitchen",q3 "NoPlace",q3 "NoStep",q3 "Step",q3 "Work",q3 "all_ahead",q4 "all_ahead",q3 "are_unlike",q4 "are_unlike",q3 "is_sequence",q4 "is_sequence",q3 "is_name",q4 "is_name",q3 "is_integer",q4 "is_integer",q3 "is_number",q4 "is_number",q3 "is_arrow",q4 "is_arrow",q3 "are_arrows",q4 "are_arrows"]
def fl2:List (PySem.W.Frag->Bool):= [q3 "is_row_of_names",q4 "is_row_of_names",q5 "Step" "__init__",q6 "Step" "__init__",q7 "Step" "__init__",q8 "Step",q5 "Step" "__str__",q6 "Step" "__str__",q7 "Step" "__str__",q5 "Step" "__eq__",q6 "Step" "__eq__",q7 "Step" "__eq__",q3 "are_steps",q4 "are_steps",q3 "is_pair_of_names",q4 "is_pair_of_names",q3 "are_pairs",q4 "are_pairs",q5 "Work" "__init__",q6 "Work" "__init__",q7 "Work" "__init__",q8 "Work",q5 "Work" "__str__",q6 "Work" "__str__"]
def fl3:List (PySem.W.Frag->Bool):= [q7 "Work" "__str__",q5 "Work" "__len__",q6 "Work" "__len__",q7 "Work" "__len__",q5 "Work" "__eq__",q6 "Work" "__eq__",q7 "Work" "__eq__",q3 "is_level",q4 "is_level",q3 "is_trace",q4 "is_trace",q3 "are_traces",q4 "are_traces",q5 "Step" "is_touched",q6 "Step" "is_touched",q7 "Step" "is_touched",q3 "is_limit",q4 "is_limit",q3 "are_limits",q4 "are_limits",q5 "Kitchen" "__init__",q6 "Kitchen" "__init__",q7 "Kitchen" "__init__",q8 "Kitchen"]
def fl4:List (PySem.W.Frag->Bool):= [fun K=>HX.tupE K (HX.dfA (fun K=>(He.ma K (He.ga K "Kitchen") "__init__")) 1 K),q3 "tail_lines",q4 "tail_lines",q5 "Kitchen" "__str__",q6 "Kitchen" "__str__",q7 "Kitchen" "__str__",q5 "Kitchen" "__eq__",q6 "Kitchen" "__eq__",q7 "Kitchen" "__eq__",q3 "number_in",q4 "number_in",q3 "arrow_in",q4 "arrow_in",q3 "step_in",q4 "step_in",q9 "Step",q10 "Step",q11 "Step",q3 "pair_in",q4 "pair_in",q3 "read_lines",q4 "read_lines",q9 "Work",q10 "Work"]
def fl5:List (PySem.W.Frag->Bool):= [q11 "Work",q3 "level_in",q4 "level_in",q3 "trace_in",q4 "trace_in",q3 "limit_in",q4 "limit_in",q3 "read_tail",q4 "read_tail",q9 "Kitchen",q10 "Kitchen",q11 "Kitchen",q5 "Work" "step",q6 "Work" "step",q7 "Work" "step",q3 "next_steps",q4 "next_steps",q3 "leads_on",q4 "leads_on",q3 "need_step",q4 "need_step",q3 "joined",q4 "joined",q3 "led"]
def fl6:List (PySem.W.Frag->Bool):= [q4 "led",q3 "lots_of",q4 "lots_of",q3 "best_way",q4 "best_way",q3 "is_harmed",q4 "is_harmed",q3 "harms",q4 "harms",q5 "Kitchen" "with_work",q6 "Kitchen" "with_work",q7 "Kitchen" "with_work",q3 "is_beginning",q4 "is_beginning",q5 "Work" "fenced",q6 "Work" "fenced",q7 "Work" "fenced",q3 "is_fenced",q4 "is_fenced",q3 "least_fences",q4 "least_fences",q3 "many_orders",q4 "many_orders",q5 "Work" "is_ahead"]
def fl7:List (PySem.W.Frag->Bool):= [q6 "Work" "is_ahead",q7 "Work" "is_ahead",q3 "some_harm",q4 "some_harm",q3 "washings_on",q4 "washings_on",q3 "is_part",q4 "is_part",q3 "least_of",fun K=>HY.tabB K (He.ga K "least_of"),q4 "least_of",q5 "Step" "washed",q6 "Step" "washed",q7 "Step" "washed",q5 "Work" "washed",q6 "Work" "washed",q7 "Work" "washed",q3 "least_washings",q4 "least_washings",q3 "is_order",q4 "is_order",q5 "Step" "loss",q6 "Step" "loss",q7 "Step" "loss"]
def fl8:List (PySem.W.Frag->Bool):= [q3 "law",q4 "law",q0 "super",fun K=>decide (PySem.W.nsIn K cStatics "thirdparty.any" =some none),q5 "InvalidStep" "__init__",q12 "InvalidStep",q13 "InvalidStep",q14 "InvalidStep",q15 "InvalidStep",q16 "InvalidStep" "ValueError.__init__",q17 "InvalidStep" "ValueError",q18 "InvalidStep",q19 "InvalidStep",q20 "InvalidStep" "__setattr__" "object.__setattr__",q21 "InvalidStep" "word",q22 "InvalidStep",q4 "InvalidStep",q17 "InvalidStep" "BaseException",q23 "InvalidStep",q5 "InvalidWork" "__init__",q12 "InvalidWork",q13 "InvalidWork",q14 "InvalidWork",q15 "InvalidWork"]
def fl9:List (PySem.W.Frag->Bool):= [q16 "InvalidWork" "ValueError.__init__",q17 "InvalidWork" "ValueError",q18 "InvalidWork",q19 "InvalidWork",q20 "InvalidWork" "__setattr__" "object.__setattr__",q21 "InvalidWork" "word",q22 "InvalidWork",q4 "InvalidWork",q17 "InvalidWork" "BaseException",q23 "InvalidWork",q5 "InvalidKitchen" "__init__",q12 "InvalidKitchen",q13 "InvalidKitchen",q14 "InvalidKitchen",q15 "InvalidKitchen",q16 "InvalidKitchen" "ValueError.__init__",q17 "InvalidKitchen" "ValueError",q18 "InvalidKitchen",q19 "InvalidKitchen",q20 "InvalidKitchen" "__setattr__" "object.__setattr__",q21 "InvalidKitchen" "word",q22 "InvalidKitchen",q4 "InvalidKitchen",q17 "InvalidKitchen" "BaseException"]
def Zqb:List (PySem.W.Frag->Bool):= [q23 "InvalidKitchen",q5 "InvalidText" "__init__",q12 "InvalidText",q13 "InvalidText",q14 "InvalidText",q15 "InvalidText",q16 "InvalidText" "ValueError.__init__",q17 "InvalidText" "ValueError",q18 "InvalidText",q19 "InvalidText",q20 "InvalidText" "__setattr__" "object.__setattr__",q21 "InvalidText" "at",q22 "InvalidText",q4 "InvalidText",q17 "InvalidText" "BaseException",q23 "InvalidText",q5 "NoStep" "__init__",q12 "NoStep",q13 "NoStep",q14 "NoStep",q15 "NoStep",q16 "NoStep" "KeyError.__init__",q17 "NoStep" "KeyError",q24 "NoStep"]
def Zqc:List (PySem.W.Frag->Bool):= [q25 "NoStep",q20 "NoStep" "__setattr__" "object.__setattr__",q21 "NoStep" "name",q22 "NoStep",q4 "NoStep",q17 "NoStep" "BaseException",q23 "NoStep",q5 "NoPlace" "__init__",q12 "NoPlace",q13 "NoPlace",q14 "NoPlace",q15 "NoPlace",q16 "NoPlace" "KeyError.__init__",q17 "NoPlace" "KeyError",q24 "NoPlace",q25 "NoPlace",q20 "NoPlace" "__setattr__" "object.__setattr__",q21 "NoPlace" "name",q22 "NoPlace",q4 "NoPlace",q17 "NoPlace" "BaseException",q23 "NoPlace",q17 "InvalidWork" "BaseException",q22 "InvalidWork"]
def Zqd:List (PySem.W.Frag->Bool):= [q23 "InvalidWork",q26 "InvalidKitchen",q26 "InvalidStep",q26 "InvalidText",fun K=>decide (PySem.W.subIn K (.ref (He.ga K "InvalidWork")) (.ref (He.ga K "InvalidWork"))=some true),q26 "NoPlace",q26 "NoStep",fun K=>decide (([(HY.tpA K (He.ga K "least_of"))]:List Addr).Nodup),q27 "Kitchen",q22 "Kitchen",q28 "Kitchen",q20 "Kitchen" "__setattr__" "object.__setattr__",q29 "Kitchen",q4 "Kitchen",q20 "Kitchen" "__class__" "object.__class__",fun K=>decide (PySem.W.specialIn K (.builtin "object.__class__") "__get__" =some (some (.builtin "getset_descriptor.__get__"))),fun K=>decide (PySem.W.takesIn K (.builtin "object.__class__")=some true),q30 "Kitchen",q31 "Kitchen" "int",q31 "Kitchen" "bool",q31 "Kitchen" "str",q31 "Kitchen" "list",q31 "Kitchen" "tuple",q32 "Kitchen"]
def Zqe:List (PySem.W.Frag->Bool):= [q23 "Kitchen",q20 "Kitchen" "__ne__" "object.__ne__",q33 "Kitchen",q34 "Kitchen",q35 "Kitchen" "work",q35 "Kitchen" "traces",q35 "Kitchen" "limits",q35 "Kitchen" "starts",q36 "Kitchen" "Step",q36 "Kitchen" "Work",q27 "Step",q22 "Step",q28 "Step",q20 "Step" "__setattr__" "object.__setattr__",q29 "Step",q4 "Step",q20 "Step" "__class__" "object.__class__",fun K=>decide (PySem.W.specialIn K (.builtin "object.__class__") "__get__" =some (some (.builtin "getset_descriptor.__get__"))),fun K=>decide (PySem.W.takesIn K (.builtin "object.__class__")=some true),q30 "Step",q31 "Step" "int",q31 "Step" "bool",q31 "Step" "str",q31 "Step" "list"]
def Zqf:List (PySem.W.Frag->Bool):= [q31 "Step" "tuple",q32 "Step",q23 "Step",q20 "Step" "__ne__" "object.__ne__",q33 "Step",q34 "Step",q35 "Step" "name",q35 "Step" "places",q35 "Step" "arrows",q35 "Step" "losses",q35 "Step" "leads",q36 "Step" "Kitchen",q36 "Step" "Work",q27 "Work",q22 "Work",q28 "Work",q20 "Work" "__setattr__" "object.__setattr__",q29 "Work",q4 "Work",q20 "Work" "__class__" "object.__class__",fun K=>decide (PySem.W.specialIn K (.builtin "object.__class__") "__get__" =some (some (.builtin "getset_descriptor.__get__"))),fun K=>decide (PySem.W.takesIn K (.builtin "object.__class__")=some true),q30 "Work",q31 "Work" "int"]
def Zqg:List (PySem.W.Frag->Bool):= [q31 "Work" "bool",q31 "Work" "str",q31 "Work" "list",q31 "Work" "tuple",q32 "Work",q23 "Work",q20 "Work" "__ne__" "object.__ne__",q33 "Work",q34 "Work",q35 "Work" "steps",q35 "Work" "names",q35 "Work" "spot",q35 "Work" "ahead",q35 "Work" "after",q35 "Work" "places",q36 "Work" "Kitchen",q36 "Work" "Step"]
def flA:HX.Fl:= [fl0,fl1,fl2,fl3,fl4,fl5,fl6,fl7]
def flB:HX.Fl:= [fl8,fl9,Zqb,Zqc,Zqd,Zqe,Zqf,Zqg]
abbrev flH:HX.Fl:=flA++flB
def fn0:List HX.Df:= [dG "all_ahead" Qj,dG "are_unlike" JJ,dG "is_sequence" Zau,dG "is_name" ZcU,dG "is_integer" ZaR,dG "is_number" Zbz,dG "is_arrow" Zb7,dG "are_arrows" ZaS,dG "is_row_of_names" Jf,⟨fun K=>(He.ma K (He.ga K "Step") "__init__"),"__init__","Step.__init__",defArgs ZU,defBody ZU,defScope ZU,[],some fun K=>#[.ref (HX.dfA (fun K=>(He.ma K (He.ga K "Step") "__init__")) 0 K)]⟩,dM "Step" "__str__" "Step.__str__" Q5,dM "Step" "__eq__" "Step.__eq__" Zav]
def fn1:List HX.Df:= [dG "are_steps" ZbA,dG "is_pair_of_names" QQ,dG "are_pairs" ZbB,⟨fun K=>(He.ma K (He.ga K "Work") "__init__"),"__init__","Work.__init__",defArgs ZV,defBody ZV,defScope ZV,[],some fun K=>#[.ref (HX.dfA (fun K=>(He.ma K (He.ga K "Work") "__init__")) 0 K)]⟩,dM "Work" "__str__" "Work.__str__" Q6,dM "Work" "__len__" "Work.__len__" JZ,dM "Work" "__eq__" "Work.__eq__" Zaw,dG "is_level" Zb8,dG "is_trace" Zb9,dG "are_traces" ZaT,dM "Step" "is_touched" "Step.is_touched" Jg,dG "is_limit" Zca]
def fn2:List HX.Df:= [dG "are_limits" ZaU,⟨fun K=>(He.ma K (He.ga K "Kitchen") "__init__"),"__init__","Kitchen.__init__",defArgs ZK,defBody ZK,defScope ZK,[],some fun K=>#[.ref (HX.dfA (fun K=>(He.ma K (He.ga K "Kitchen") "__init__")) 0 K),.ref (HX.dfA (fun K=>(He.ma K (He.ga K "Kitchen") "__init__")) 1 K)]⟩,dG "tail_lines" ZcV,dM "Kitchen" "__str__" "Kitchen.__str__" ZaD,dM "Kitchen" "__eq__" "Kitchen.__eq__" ZaV,dG "number_in" ZbC,dG "arrow_in" Zcb,dG "step_in" ZcW,⟨fun K=>(He5.wf K (He.ga K "Step") "classmethod" "read"),"read","Step.read",defArgs QC,defBody QC,defScope QC,[],none⟩,dG "pair_in" ZcX,dG "read_lines" ZaW,⟨fun K=>(He5.wf K (He.ga K "Work") "classmethod" "read"),"read","Work.read",defArgs QD,defBody QD,defScope QD,[],none⟩]
def fn3:List HX.Df:= [dG "level_in" Zcc,dG "trace_in" Zcd,dG "limit_in" Zce,dG "read_tail" ZbD,dW "Kitchen" "read" "Kitchen.read" J0,⟨fun K=>(He.ma K (He.ga K "Work") "step"),"step","Work.step",defArgs QE,defBody QE,defScope QE,[],none⟩,dG "next_steps" JK,dG "leads_on" Zcf,dG "need_step" ZbE,dG "joined" Zd6,dG "led" Zgy,dG "lots_of" ZcY]
def fn4:List HX.Df:= [dG "best_way" Zcg,dG "is_harmed" ZbF,dG "harms" Zfb,dM "Kitchen" "with_work" "Kitchen.with_work" QH,⟨fun K=>(He.ga K "is_beginning"),"is_beginning","is_beginning",defArgs Y7,defBody Y7,defScope Y7,[],none⟩,⟨fun K=>(He.ma K (He.ga K "Work") "fenced"),"fenced","Work.fenced",defArgs Qd,defBody Qd,defScope Qd,[],none⟩,⟨fun K=>(He.ga K "is_fenced"),"is_fenced","is_fenced",defArgs QF,defBody QF,defScope QF,[],none⟩,⟨fun K=>(He.ga K "least_fences"),"least_fences","least_fences",defArgs Yv,defBody Yv,defScope Yv,[],none⟩,⟨fun K=>(He.ga K "many_orders"),"many_orders","many_orders",defArgs YW,defBody YW,defScope YW,[],none⟩,⟨fun K=>(He.ma K (He.ga K "Work") "is_ahead"),"is_ahead","Work.is_ahead",defArgs YT,defBody YT,defScope YT,[],none⟩,dG "some_harm" ZbG,dG "washings_on" Zax]
def fn5:List HX.Df:= [dG "is_part" ZcZ,⟨fun K=>(He.ga K "least_of"),"least_of","least_of",defArgs Q7,defBody Q7,defScope Q7,[],none⟩,⟨fun K=>(He.ma K (He.ga K "Step") "washed"),"washed","Step.washed",defArgs Qe,defBody Qe,defScope Qe,[],none⟩,⟨fun K=>(He.ma K (He.ga K "Work") "washed"),"washed","Work.washed",defArgs YX,defBody YX,defScope YX,[],none⟩,⟨fun K=>(He.ga K "least_washings"),"least_washings","least_washings",defArgs YN,defBody YN,defScope YN,[],none⟩,⟨fun K=>(He.ga K "is_order"),"is_order","is_order",defArgs Q8,defBody Q8,defScope Q8,[],none⟩,⟨fun K=>(He.ma K (He.ga K "Step") "loss"),"loss","Step.loss",defArgs QG,defBody QG,defScope QG,[],none⟩,dG "law" Zgz,dX "InvalidStep" "InvalidStep.__init__" Jk,dX "InvalidWork" "InvalidWork.__init__" Jl,dX "InvalidKitchen" "InvalidKitchen.__init__" QK,dX "InvalidText" "InvalidText.__init__" Jm]
def fn6:List HX.Df:= [dX "NoStep" "NoStep.__init__" ZaE,dX "NoPlace" "NoPlace.__init__" Zan]
def fnA:List HX.Df:=fn0++fn1++fn2++fn3
def fnB:List HX.Df:=fn4++fn5++fn6
abbrev fnH:List HX.Df:=fnA++fnB
def nm0:List Str:= ["_wall","PlateError","InvalidStep","InvalidWork","InvalidKitchen","InvalidText","NoStep","NoPlace","LETTERS","DIGITS_words","RESERVED","is_integer"]
def nm1:List Str:= ["is_number","is_level","is_sequence","is_name","is_row_of_names","is_pair_of_names","are_unlike","number_in","DIGITS_steps","is_arrow","are_arrows","Step"]
def nm2:List Str:= ["arrow_in","step_in","are_steps","are_pairs","all_ahead","Work","pair_in","read_lines","next_steps","is_beginning","is_order","many_orders"]
def nm3:List Str:= ["need_step","led","joined","lots_of","best_way","leads_on","is_harmed","harms","some_harm","washings_on","is_part","least_of"]
def nm4:List Str:= ["least_washings","is_fenced","least_fences","DIGITS_kitchens","TRACE_WORDS","LIMIT_WORDS","is_trace","are_traces","is_limit","are_limits","level_in","trace_in"]
def nm5:List Str:= ["limit_in","read_tail","tail_lines","Kitchen"]
def nmH:List Str:=nm0++nm1++nm2++nm3++nm4++nm5
def ZlX:List (PySem.W.Frag->Addr):= [fun K=>(He.ga K "least_of")]
abbrev hkH:PySem.W.Hook:=HV.hookV flH fnH ZlX
def obH(s:PySem.W.SharedT):HY.AlY:=HV.obsVG flH fnH ZlX (HandSHeadRun.getT s)
theorem obH_eq(s:PySem.W.SharedT):obH s=hkH.obs s.abs:=HV.obsVG_eq (HandSHeadRun.getT_eq s)
abbrev rwH:PySem.W.OpenRow:=PySem.W.OpenLaw.row PySem.Challenge.rw_plateways_k56_washings_and_fences_by_nam
theorem runH(w:World):HandSHeadRun.RunEq rwH (PySem.W.view rwH.prog [73]) hkH obH 12000 nmH w:=by
 intro os
 kernel_rfl
end Pu
namespace Pw
open PySem L2 PySem.Spec PyProof.Rows
theorem ZG{H:Hp}{p:Addr}{o:HO}(h:H p=none):Same H (upd H p o):=fun b u e=>by
 rw[upd_ne (Vm e h)]
 exact e
theorem Same.tup{K:PySem.W.Frag}{H H':Hp}{a:Addr}{xs:List V}(e:Same H H')(h:SqT K H a xs):SqT K H' a xs:=by
 rcases h with(h|⟨o,h⟩)|h
 ·exact .inl (.inl (e _ _ h))
 ·exact .inl (.inr ⟨o,e _ _ h⟩)
 ·exact .inr h
structure OwnC (K:PySem.W.Frag) (C:Addr):Prop where
 cl:Cls K C
 ha:PySem.W.findIn K (.ref C) "__class__" =some (some (.builtin "object.__class__"))
 hn:PySem.W.specialIn K (.builtin "object.__class__") "__get__" =some (some (.builtin "getset_descriptor.__get__"))
 htk:PySem.W.takesIn K (.builtin "object.__class__")=some true
 hm:PySem.W.mroIn K C (.type "object")=some true
 ki:PySem.W.kitOne K (.ref C) (.type "int")=some false
 kb:PySem.W.kitOne K (.ref C) (.type "bool")=some false
 ks:PySem.W.kitOne K (.ref C) (.type "str")=some false
 kl:PySem.W.kitOne K (.ref C) (.type "list")=some false
 kt:PySem.W.kitOne K (.ref C) (.type "tuple")=some false
 kc:((PySem.W.clsIn K C).isSome && PySem.W.typeIn K (.ref C) == some (.type "type"))=true
inductive Kd where
 |non|bl|int|str|lst|tup|own (C:Addr)
def Kd.ty:Kd->Value
 |.non=> .type "NoneType"
 |.bl=> .type "bool"
 |.int=> .type "int"
 |.str=> .type "str"
 |.lst=> .type "list"
 |.tup=> .type "tuple"
 |.own C=> .ref C
inductive Any (K:PySem.W.Frag) (H:Hp):V->Kd->Prop where
 |non:Any K H .non .non
 |bl (b:Bool):Any K H (.bl b) .bl
 |int (i:Int):Any K H (.int i) .int
 |str (x:Str):Any K H (.str x) .str
 |lst {a:Addr}{xs:List V}(h:SqL K H a xs):Any K H (.ref a) .lst
 |tup {a:Addr}{xs:List V}(h:SqT K H a xs):Any K H (.ref a) .tup
 |own {a C dx:Addr}{fs:List (Str × V)}(h:H a=some (.ins C dx fs)) (c:OwnC K C):Any K H (.ref a) (.own C)
section
variable {K:PySem.W.Frag}{H H':Hp}{v:V}{k:Kd}
theorem ZnA{a:Addr}{xs:List V}(h:SqL K H a xs):TyX K H (.ref a) (.type "list"):=by
 rcases h with(h|⟨o,h⟩)|⟨o,_,_,e,c,_⟩
 ·exact .base (.lst h)
 ·exact .base (.frz h)
 ·exact .kList e c
theorem Zoh{a:Addr}{xs:List V}(h:SqT K H a xs):TyX K H (.ref a) (.type "tuple"):=by
 rcases h with(h|⟨o,h⟩)|⟨o,_,_,e,c,_⟩
 ·exact .base (.tup h)
 ·exact .fTuple h
 ·exact .kTuple e c
theorem Any.ty(h:Any K H v k):TyX K H v k.ty:=by
 cases h with
 |non=>exact .base .non
 |bl b=>exact .base (.bl b)
 |int i=>exact .base (.int i)
 |str x=>exact .base (.str x)
 |lst h=>exact ZnA h
 |tup h=>exact Zoh h
 |own h c=>exact .base (.ins h c.cl c.ha c.hn c.htk c.hm)
theorem Any.same(h:Any K H v k)(s:Same H H'):Any K H' v k:=by
 cases h with
 |non=>exact .non
 |bl b=>exact .bl b
 |int i=>exact .int i
 |str x=>exact .str x
 |lst h=>exact .lst (s.seq h)
 |tup h=>exact .tup (Same.tup s h)
 |own h c=>exact .own (s _ _ h) c
def Kd.isInt:Kd->Bool
 |.int=>true
 |.bl=>true
 |_=>false
def Kd.isBool:Kd->Bool
 |.bl=>true
 |_=>false
def Kd.isStr:Kd->Bool
 |.str=>true
 |_=>false
def Kd.isLst:Kd->Bool
 |.lst=>true
 |_=>false
def Kd.isTup:Kd->Bool
 |.tup=>true
 |_=>false
theorem Any.kInt(h:Any K H v k):PySem.W.kitOne K k.ty (.type "int")=some k.isInt:=by
 cases h with
 |own h c=>exact c.ki
 |_=>exact kit_ty (by decide +kernel)
theorem Any.kBool(h:Any K H v k):PySem.W.kitOne K k.ty (.type "bool")=some k.isBool:=by
 cases h with
 |own h c=>exact c.kb
 |_=>exact kit_ty (by decide +kernel)
theorem Any.kStr(h:Any K H v k):PySem.W.kitOne K k.ty (.type "str")=some k.isStr:=by
 cases h with
 |own h c=>exact c.ks
 |_=>exact kit_ty (by decide +kernel)
theorem Any.kTup(h:Any K H v k):PySem.W.kitOne K k.ty (.type "tuple")=some k.isTup:=by
 cases h with
 |own h c=>exact c.kt
 |_=>exact kit_ty (by decide +kernel)
theorem Any.kLst(h:Any K H v k):PySem.W.kitOne K k.ty (.type "list")=some k.isLst:=by
 cases h with
 |own h c=>exact c.kl
 |_=>exact kit_ty (by decide +kernel)
theorem Any.kSeq(h:Any K H v k):PySem.W.kitAny K k.ty [.type "list",.type "tuple"]=some (k.isLst || k.isTup):=by
 refine kitAny_cons h.kLst (fun e=>kitAny_cons h.kTup (fun e2=> ?_) fun e2=> ?_) fun e=> ?_
 ·rw[kitAny_nil,e,e2]; rfl
 ·rw[e2,Bool.or_true]
 ·rw[e]; rfl
end
section
variable {X:Cx}
theorem Zfc{pins:List (Addr × Obj)}{σ:L2.St}{H H':Hp}{s:Shared}{E:Value->Shared->Prop}{D:Addr}{y v:V}{u r:Value}{Q:Unit->Shared->Prop}(hu:X.A.units+1 < cLine)(I:Inv X pins σ H s)(g:DPut H D y v H')
  (ry:RelV y u)(rv:RelV v r)(h:∀s',Inv X pins σ H' s'->Q () s'):wpAny (model X.prog X.w) X.A (dictSet D u r) Q E s:=by
 rcases g with⟨kvs,k,e,rfl,l,rfl⟩|⟨kvs,k,b,e,rfl,eb,l,rfl⟩
 ·exact d_dictSet I e l ry rv h
 ·cases (show u=Value.ref b from ry)
  obtain⟨z,hd,xs,rel,dd⟩:=dt_of I.hok e
  have hz:xs.length<=sizeLine:=by rw[<- VG rel]; exact z
  have hl:(putK kvs k v).length<=sizeLine:=by have:=length_putK kvs k v; omega
  refine wpAny_dictSet_heap (hsz:=hz) (show X.A.units < cLine by omega) (key_of I.hok eb) dd fun h' dd' hs=>h _ ?_
  obtain⟨q,es,ep,hq,h2,h3,h4,_,h5⟩:=dd'
  refine d_write I (by rw[e]; exact True.intro) hs ⟨q,hq⟩ ⟨hl,hd,_,(rel.put k eb rv).keeps fun c ys ec=> ?_,q,es,ep,hq,h2,h3,h4,h5⟩
  rw[upd_ne (ne_of ec e (fun z=>nomatch z))]
  exact ec
def Zfd(wi:TI)(g:TG)(tt:TT)(tk tv:TE)(vs:List Nat):TE:=fun σ H Q=>wi σ H fun J H1=>∀D,H1 D=none->∃o0:HO,(o0= .dK []∨o0= .dT [])∧∃W:Nat->Nat->Hp->Prop,(∃m,W 0 m (upd H1 D o0))∧∀i m H,W i m H->
 (J.stop i H∧Q (.ref D) H)∨(J.go i H∧∃Nx:Hp->Prop,(∀H',Nx H'->∃m',m' < m∧W (i+1) m' H')∧∀x H',J.yld i H x H'->g x (wipe σ vs) H' fun σ2 H2=>wipe σ2 vs=wipe σ vs∧tt σ2 H2 fun b H3 =>
  if b=true then tk σ2 H3 fun y H4=>tv σ2 H4 fun z H5=>∃H6,DPut H5 D y z H6∧Nx H6 else Nx H3)
theorem Zk1{kx vx tg iter:Expr}{ifs:List Expr}{scope:Scope}{own:List (Str × Nat)}{pos:Pos}{wi:TI}{g:TG}{tt:TT}{tk tv:TE}(hu:X.A.units+1 < cLine)(hc:X.calm=true)(hN:X.N.Nodup)(hi:PI X tg iter wi)(ok:BlkOk X.N X.env.scope scope own)
  (hg:∀(s:Shared) (H:Hp) (C:Addr) (cl:List (Str × Addr)) (fp:List Addr),PG (X.blk s H scope (compEnvC scope cl C X.env) fp) tg g)
  (ht:∀(s:Shared) (H:Hp) (C:Addr) (cl:List (Str × Addr)) (fp:List Addr),PTs (X.blk s H scope (compEnvC scope cl C X.env) fp) ifs tt)
  (hk:∀(s:Shared) (H:Hp) (C:Addr) (cl:List (Str × Addr)) (fp:List Addr),PE (X.blk s H scope (compEnvC scope cl C X.env) fp) kx tk)
  (he:∀(s:Shared) (H:Hp) (C:Addr) (cl:List (Str × Addr)) (fp:List Addr),PE (X.blk s H scope (compEnvC scope cl C X.env) fp) vx tv)(hs:∀x,foldedSetIterable iter X.env x=pure x:=by intro _; rfl) :
  PE X (.DictComp kx vx [⟨tg,iter,ifs,0⟩] scope pos) (Zfd wi g tt tk tv (own.map (·.2))):=by
 refine⟨fun pins s σ H Q I h=> ?_⟩
 rw[arm_eval_DictComp]
 have hfree:∀y∈scope.names,y.2= .free->∃c,X.env.cells.lookup y.1=some c:=fun y hy e=>(ok.free y hy e).elim (fun k=>I.ok.has _ (.inl k)) fun k=>I.ok.has _ (.inr k)
 refine wpAny_comprehension_free rfl hs (closure_ok hfree) ok.kind (fun y hy e=>by rw[ok.uniq y hy,e])
  (thn (hi.run pins s σ H _ I h) fun xv s1 hx=>thn hx fun itv s2 h2=> ?_)
 obtain⟨it,fp,tn,J,H2,rfl,I2,T,st2,f2,q⟩:=h2
 refine wpAny_newObj_type (newEnv_comp ?_)
 generalize hD:s2.heap.objs.size=D
 have hDn:H2 D=none:=I2.hok.fresh (Vx hD)
 obtain⟨o0,ho0,W,⟨m0,w0⟩,turn⟩:=q D hDn
 generalize hs3:({ s2 with heap:=s2.heap.push { cls:= .type "dict",data:= .dict #[] } }:Shared)=s3
 have I3:Inv X pins σ (upd H2 D o0) s3:=by
  rw[<- hs3]
  refine I2.laid (t':=s2.toks) (fun b o e=>Xe _ e) (Vx hD) ?_
  rw[<- hD]
  rcases ho0 with rfl|rfl
  ·exact dk_empty s2.heap I2.big
  ·exact dt_empty s2.heap I2.big
 have h3:s3.heap=s2.heap.push { cls:= .type "dict",data:= .dict #[] }:=by rw[<- hs3]
 have f3:∀b∈fp,FpOk X pins (upd H2 D o0) b∧b < s3.heap.objs.size:=fun b hb=>by
  obtain⟨o,e,_⟩:=T.obj _ _ st2 b hb
  have hlt:=XN e
  refine⟨⟨?_,(f2 b hb).2⟩,by rw[h3,Heap.size_push]; exact Nat.lt_succ_of_lt hlt⟩
  rw[upd_ne (by rw[<- hD]; exact Va hlt)]
  exact(f2 b hb).1
 have st3:tn 0 s3.heap:=T.keep _ _ _ st2 fun b _ o e=>by rw[h3]; exact Xe _ e
 have I4:=block_start I3 ok hN f3
 generalize hcc:(cellsFrom (s3.heap.objs.size+1) scope.names (cloFrom X.env.cells scope.names []))=cc at I4
 have pg:=hg s3 (upd H2 D o0) s3.heap.objs.size cc fp
 have pt:=ht s3 (upd H2 D o0) s3.heap.objs.size cc fp
 have pk:=hk s3 (upd H2 D o0) s3.heap.objs.size cc fp
 have pe:=he s3 (upd H2 D o0) s3.heap.objs.size cc fp
 have nfp:∀b∈fp,(upd H2 D o0) b=none:=fun b hb=>(f3 b hb).1.1
 generalize hce:compEnvC scope cc s3.heap.objs.size X.env=ce at I4 pg pt pk pe ⊢
 have cL:ce.locals=s3.heap.objs.size:=by subst hce; rfl
 generalize hH3:upd H2 D o0=H3 at I3 I4 pg pt pk pe w0 nfp f3
 generalize hs4:({ s3 with heap:=pushCells (s3.heap.push { cls:= .type "dict",data:= .dict #[] }) scope.names }:Shared)=s4 at I4
 have st4:tn 0 s4.heap:=T.keep _ _ _ st3 fun b _ o e=>by rw[<- hs4]; exact pushCells_keeps _ _ _ _ (Xe _ e)
 have stat:∀{σ':L2.St}{H':Hp}{s':Shared},Inv (X.blk s3 H3 scope ce fp) [] σ' H' s'->(∀b∈fp,H' b=none)->∀b∈fp,FpOk (X.blk s3 H3 scope ce fp) [] H' b:=fun {σ' H' s'} I' hn b hb =>
  ⟨hn b hb,(I'.ok.exf b hb).1,I'.ok.exfs b hb,.inl hb,fun x c e=>(I'.ok.exf b hb).2 x c e,fun p hp=>absurd (show p∈([]:List (Addr × Obj))++ [] from hp) (by simp)⟩
 have RR:∀s' m H',Inv X pins σ H' s'->Q (.ref D) H'->s'.heap.Ns s3.heap.objs.size m->FpOk X pins H' s3.heap.objs.size->compPost (model X.prog X.w) X.A X.xe none (EP X pins σ Q) (.ref D) s3.heap.objs.size (.ok .next) s' :=
  fun s' m H' I' q hn ⟨f0,f1,f2,f3,f4,f5⟩=>⟨m,hn,fun h'' sb=>⟨.ref D,H',I'.turned (t':=s'.toks) (fun b o hb e=>(sb.2 b hb).trans e) f0 f1 f3 f4 f5,rfl,q⟩⟩
 have loop:codeAny (model X.prog X.w) X.A (.compLoop (.DictComp kx vx [⟨tg,iter,ifs,0⟩] scope pos) 0 (.ref it) (.ref D) ce) (compPost (model X.prog X.w) X.A X.xe none (EP X pins σ Q) (.ref D) s3.heap.objs.size) s4:=by
  refine compLoop_anyD (fun n s'=>∃i H',Inv (X.blk s3 H3 scope ce fp) [] (wipe σ (own.map (·.2))) H' s'∧tn i s'.heap∧(∀b∈fp,H' b=none)∧W i n H') ?_ m0 ⟨0,H3,I4,st4,nfp,w0⟩
  rintro n s5 ⟨i,H5,I5,st5,n5,w5⟩
  rcases turn i n H5 w5 with⟨stop,qq⟩|⟨go,Nx,hNx,step⟩
  ·refine thnF (T.done (X.blk s3 H3 scope ce fp) rfl rfl rfl hc i [] s5 _ H5 (fun _ _=>False) I5 (stat I5 n5) st5 stop) fun r s6 ⟨hr,I6⟩=> ?_
   subst hr
   have I7:Inv X pins σ H5 s6:=I3.call' (ch:=fp) I6.os I6.base I6.hok I6.bare fun b hb=>⟨(f3 b hb).1.2.2.2.1,(f3 b hb).1.2.1,(f3 b hb).1.2.2.2.2.1,(f3 b hb).1.2.2.2.2.2⟩
   have nC:H5 s3.heap.objs.size=none:=by
    rw[<- cL]
    exact I6.free
   obtain⟨m,hn,_⟩:=I6.loc
   have hn:s6.heap.Ns ce.locals m:=hn
   rw[cL] at hn
   exact RR s6 m H5 I7 qq hn (I3.fpOk (XS _) nC)
  ·refine thnF (T.item (X.blk s3 H3 scope ce fp) rfl rfl rfl hc i [] s5 _ H5 (fun _ _=>False) I5 (stat I5 n5) st5 go) fun r s6 ⟨u,hr,h6⟩=> ?_
   subst hr
   refine thnF h6 fun _ s7 ⟨x,H7,I7,r7,y7,st7,n7⟩=> ?_
   refine thnF (pg.run _ s7 _ H7 x u _ (I7.pinned (stat I7 n7) (T.obj _ _ st7)) r7 (step x H7 y7)) fun _ s8 ⟨σ8,H8,I8,hw8,q8⟩=> ?_
   refine thnF (pt.run _ s8 σ8 H8 _ I8 q8) fun b s9 ⟨H9,I9,q9⟩=> ?_
   have fin:∀{s':Shared}{H':Hp},Inv (X.blk s3 H3 scope ce fp) ([]++pinsAt fp s7.heap) σ8 H' s'->Nx H'->∃m,m < n∧∃i H',Inv (X.blk s3 H3 scope ce fp) [] (wipe σ (own.map (·.2))) H' s'∧tn i s'.heap∧(∀b∈fp,H' b=none)∧W i m H':=fun {s' H'} I' nx=>by
    obtain⟨m',hm,w'⟩:=hNx H' nx
    have pin':∀b∈fp,∀o,s7.heap.get? b=some o->s'.heap.get? b=some o∧H' b=none:=fun b hb o e =>
     let z:=I'.pin (b,o) (XC _ (XC _ (mem_pinsAt hb e)))
     ⟨z.1,z.2.1⟩
    refine⟨m',hm,i+1,H',(I'.unpinned (pins:= [])).weak (by rw[<- hw8,Vj]) (fun j v e=> ?_),T.keep _ _ _ st7 fun b hb o e=>(pin' b hb o e).1,fun b hb=> ?_,w'⟩
    ·rw[<- hw8] at e
     exact(wipe_some e).1
    ·obtain⟨o,e,_⟩:=T.obj _ _ st7 b hb
     exact(pin' b hb o e).2
   cases b with
   |false=>exact fin I9 q9
   |true =>
    refine thnF (pk.run _ s9 σ8 H9 _ I9 q9) fun z s10 ⟨yk,H10,I10,r10,q10⟩=> ?_
    refine thnF (pe.run _ s10 σ8 H10 _ I10 q10) fun z2 s11 ⟨yv,H11,I11,r11,H12,put,nx⟩=> ?_
    exact Zfc (X:=X.blk s3 H3 scope ce fp) hu I11 put r10 r11 fun s12 I12=>fin I12 nx
 have res:=codeAny_compStart_dict loop (T.self X.A 0 _ _ _ st4 loop)
 rw[<- hce] at res
 exact res
end
section
variable {X:Cx}{C g:Addr}{CX:CXT}{n:Nat}{fd:FuncData}{ps:List Str}{sp:Sp}{E:XK}{pins:List (Addr × Obj)}{σ:L2.St}{H:Hp}{s:Shared}{Q:VK}
theorem Zfe{A:Around}{us:List Value}{vs:List V}(F:FnOkG X.prog X.w X.K X.mg X.base CX n g fd ps sp)(hr:RoomG n A)(e0:Env0 X.prog X.w X.K X.mg X.base A X.stack s H)(hb:Binds X.K fd ps [])(hx:Passes CX X E)
  (I:Inv X pins σ H s)(r:Vals vs us)(h:sp vs H Q E):wpAny (model X.prog X.w) A (call (.ref g) us) (EP X pins σ Q) X.xe s:=by
 have hl:(us++ []).length=ps.length:=by rw[Vd,<- r.length]; exact F.len _ _ _ _ h
 refine Vl (Vi (F.run A X.stack s H ⟨us,[]⟩ (us++ []) vs Q E hr e0 (hb s us I.kIn hl) (by rw[Vd]; exact r) h) fun r s' hq=> ?_)
 cases r with
 |error e=>exact hx pins σ H s e s' I hq
 |ok fl =>
  cases fl with
  |ret u=>exact I.after hq
  |next=>exact False.elim hq
  |brk=>exact False.elim hq
  |cont=>exact False.elim hq
def Zjx(C:Addr)(sp:Sp)(E:XK):List V->Hp->VK->Prop:=fun xs H Q=>∃a dx fs,xs= [V.ref a]∧H a=some (.ins C dx fs)∧sp [.ref a] H (fun z H'=>∃t,z= .str t∧Q z H') E
theorem ZiI(hs:PySem.W.findIn X.K (.ref C) "__str__" =some (some (.ref g)))(hf:PySem.W.isFn X.K (.ref g)=true)(F:FnOkG X.prog X.w X.K X.mg X.base CX n g fd ps sp)(hb:Binds X.K fd ps [])(hr:RoomG (n+2) X.A)(hx:Passes CX X E) :
  CallR X (.type "str") (Zjx C sp E):=by
 intro pins s σ H xs us Q I r h
 obtain⟨a,dx,fs,rfl,ha,q⟩:=h
 obtain⟨u,rfl,ru⟩:=vals1 r
 cases (show u=Value.ref a from ru)
 obtain⟨mA,O,_⟩:=ins_get I.hok ha
 obtain⟨od,J,_⟩:=O.look
 have hr2:RoomG n X.A.in1.in1:=(show RoomG (n+1) X.A.in1 from RoomG.in1 hr).in1
 refine PySem.W.kso_call hr2.units0 I.kIn J hs hf (XO (Zfe (us:= [.ref a]) (vs:= [.ref a]) F hr2 I.env0.in1.in1 hb hx I (.cons rfl .nil) q) (fun w s' z=> ?_) fun _ _ x=>x)
 obtain⟨z',H',I',rz,t,rfl,qz⟩:=z
 obtain⟨tk,e⟩:=(show ∃tk,w=Value.str t tk from rz)
 cases e
 exact⟨.str t,H',I',⟨tk,rfl⟩,qz⟩
theorem ZlY{k:Kd}{v:V}{u:Value}(I:Inv X pins σ H s)(h:Any X.K H v k)(r:RelV v u):PySem.W.Looks (model X.prog X.w) s.heap (typeOf u) k.ty:=by
 obtain⟨P,Z,p,_⟩:=kit_of I r h.ty
 exact Z.ty _ _ I.kIn p
def Zk2(K:PySem.W.Frag)(C:Addr)(sp:Sp)(E:XK):R2:=fun x y H Q=>∃a dx fs k,x= .ref a∧H a=some (.ins C dx fs)∧Any K H y k∧PySem.W.notFirst K C k.ty=true∧sp [x,y] H (fun z H'=>∃b,z= .bl b∧Q (.bl b) H') E
theorem ZlZ(hs:PySem.W.findIn X.K (.ref C) "__eq__" =some (some (.ref g)))(hf:PySem.W.isFn X.K (.ref g)=true)(F:FnOkG X.prog X.w X.K X.mg X.base CX n g fd ps sp)(hb:Binds X.K fd ps [])(hr:RoomG n X.A)(hx:Passes CX X E) :
  OpR X (compareOp .Eq) (Zk2 X.K C sp E):=by
 intro pins s σ H x y v u Q I rx ry h
 obtain⟨a,dx,fs,k,rfl,ha,hy,hn,q⟩:=h
 cases (show v=Value.ref a from rx)
 obtain⟨mA,O,_⟩:=ins_get I.hok ha
 obtain⟨od,J,_⟩:=O.look
 obtain⟨m,hF⟩:=I.fr
 refine PySem.W.cmp_K (op:= .Eq) (tb:=k.ty) hr.units0 hF I.ok.mod.kin J (ZlY I hy ry) hn hs hf ?_
 refine XO (Zfe (us:= [.ref a,u]) (vs:= [.ref a,y]) F hr I.env0 hb hx I (.cons rfl (.cons ry .nil)) q) (fun w s' z=> ?_) fun _ _ x=>x
 obtain⟨z',H',I',rz,b,rfl,qz⟩:=z
 cases (show w=Value.bool b from rz)
 exact⟨.bl b,H',I',rfl,qz⟩
end
section
open PySem.W
variable {prog:Program}{w:World}{A:Around}{E:Value->Shared->Prop}{s:Shared}
theorem ZiJ{l:Addr}{vs:List Value}{Q:List Value->Shared->Prop}(hl:s.heap.IsTuple l vs.toArray)
    (h:Q vs { s with heap:=(s.heap.push (seqObj "list" #[] 0)).update s.heap.objs.size (Obj.mapSeq (· ++vs.toArray)) })(hsz:vs.length<=sizeLine) :
    wpAny (model prog w) A (collect (.ref l)) Q E s:=by
  obtain⟨o,ho,hc,n,hd⟩:=id hl
  unfold collect
  refine Xd (wpAny_runValue (codeAny_builtin entry_proto_collect' ?_))
  show wpAny _ _ (do again (.builtin "list.__iadd__" ⟨[<- newList [],.ref l],[]⟩)) _ _ s
  refine Xd (wpAny_newList (Xk ⟨Code.quiet_builtin _ (by decide +kernel),codeAny_builtin entry_list_iadd' ?_⟩))
  show wpAny _ _ (Builtin.List.listExtendWith (.ref s.heap.objs.size) (.ref l) (.ref s.heap.objs.size)) _ _ { s with heap:=s.heap.push (seqObj "list" #[] 0) }
  unfold Builtin.List.listExtendWith
  have ho':(s.heap.push (seqObj "list" #[] 0)).get? l=some o:=Xe _ ho
  refine Xd (wpAny_typeOf (T:="tuple") ⟨o,ho',hc⟩ ?_)
  have ht:(Value.type "tuple" == Value.type "tuple")=true:=by rfl
  rw[if_pos (by rw[ht]; simp)]
  refine Xd (listItems_at ho' hd ?_)
  refine Xd (listItems_at (xs:=#[]) (n:=0) (XA _ rfl) rfl ?_)
  rw[if_neg (by simp)]
  refine Xd (listUpdate_at (xs:=#[]) (n:=0) (XA _ rfl) rfl ?_ (Vu _) (by show (#[]++vs.toArray).size<=sizeLine+1; simp only[Array.size_append,Vq,List.length_nil]; omega))
  refine Xk ?_
  show wpAny (model prog w) A (do
      let o <- load s.heap.objs.size
      match o.data with
      |.seq xs _=>pure xs.toList
      |_=>unsupported "internal:collect") Q E { s with heap:=(s.heap.push (seqObj "list" #[] 0)).update s.heap.objs.size (Obj.mapSeq (· ++vs.toArray)) }
  refine Xd (wpAny_load (get?_update_seq (XA _ rfl) _) ?_)
  show wpAny _ _ (pure ((#[]:Array Value)++vs.toArray).toList) Q E _
  rw[show ((#[]:Array Value)++vs.toArray).toList=vs by simp]
  exact Xk h
theorem Zev{l:Addr}{vs:List Value}{Q:Value->Shared->Prop}(hl:s.heap.IsTuple l vs.toArray)(hL:vs.length<=sizeLine)
  (body:∀E':Value->Shared->Prop,wpAny (model prog w) A.in1.in1 (Builtin.«list.sort» ⟨[.ref (s.heap.objs.size+1)],[]⟩) (fun f s'=>f= .done (.ret .none)∧Q (.ref (s.heap.objs.size+1)) s') E' { s with heap:=copyHeap s.heap vs }) :
  wpAny (model prog w) A (call (.builtin "sorted") [.ref l] []) Q E s:=by
 refine call_function_entry_kw kind_sorted plain_sorted entry_sorted (args_sorted1 _) ?_
 unfold Builtin.«sorted»
 refine Xd (m:=checkCount "sorted" 1 1 _) (Xk ?_)
 refine Xd (ZiJ hl ?_ hL)
 refine Xd (wpAny_newList ?_ hL)
 have hsz:((s.heap.push (seqObj "list" #[] 0)).update s.heap.objs.size (Obj.mapSeq (· ++vs.toArray))).objs.size=s.heap.objs.size+1:=by
  rw[Heap.size_update,size_push']
 show wpAny _ _ _ _ _ { s with heap:=copyHeap s.heap vs }
 rw[hsz]
 refine Xd (XT (wpAny_call_entry_kw slot_list_sort ⟨_,copyHeap_at s.heap vs,rfl⟩ entry_list_sort ?body (args_list_sort _)))
 case body =>
  refine XO (body _) (fun f s' hf=> ?_) fun _ _ e=>e
  obtain⟨rfl,hq⟩:=hf
  exact⟨_,rfl,Xk ⟨_,rfl,hq⟩⟩
theorem Zg3{β:Type}{R:Value->β->Prop}{enc:β->PyData}{bs:List β}{l:Addr}{vs:List Value}{Q:Value->Shared->Prop}(hl:s.heap.IsTuple l vs.toArray)(e:EachIs R vs bs)(er:EachIs (fun v b=>∃as,Reads s.heap v (enc b) as) vs bs)(hal:AllAlike (bs.map enc))(hk:Sortable (bs.map enc))(hL:bs.length<=sizeLine)
  (hu:∀b,b∈bs->A.units+2+(enc b).depth < cLine)(h:∀out,out.length=bs.length->EachIs R out (bs.mergeSort (dataLe false enc))->Q (.ref (s.heap.objs.size+1)) { s with heap:=sortedAll s.heap vs (List.toArray out) }) :
  wpAny (model prog w) A (call (.builtin "sorted") [.ref l]) Q E s:=by
 have er':EachIs (fun v b=>∃as,Reads (sortingHeap (copyHeap s.heap vs) (s.heap.objs.size+1) vs) v (enc b) as) vs bs:=er.mono fun _ _ ⟨as,r⟩=>⟨as,PyProof.Rows.Reads.keeps (fun _ _=>sorting_copy_old) r⟩
 refine Zev hl (by rw[e.length]; exact hL) fun _=>list_sort_vals (s:= { s with heap:=copyHeap s.heap vs }) (copyHeap_at s.heap vs)
  (SortsAt.data (s:= { s with heap:=sortingHeap (copyHeap s.heap vs) (s.heap.objs.size+1) vs }) (each_map (R:=fun v d=>∃as,Reads (sortingHeap (copyHeap s.heap vs) (s.heap.objs.size+1) vs) v d as) enc er') hal hk (bound_map hu)) (by rw[e.length]; exact hL) ⟨rfl, ?_⟩
 exact h _ (by rw[sortVals_length false rfl]; exact e.length) (sortVals_data false e er' hal)
end
section
open PySem.W
variable {X:Cx}
theorem ZaX{β:Type}{val:β->V}:∀{bs:List β}{us:List Value},Vals (bs.map val) us->EachIs (fun v b=>RelV (val b) v) us bs
 |[],_,.nil=> .nil
 |b::bs,_,.cons r t=> .cons r (ZaX t)
theorem ZaY{β:Type}{val:β->V}:∀{bs:List β}{us:List Value},EachIs (fun v b=>RelV (val b) v) us bs->Vals (bs.map val) us
 |[],_,.nil=> .nil
 |b::bs,_,.cons r t=> .cons r (ZaY t)
def Zg4(K:PySem.W.Frag):List V->Hp->VK->Prop:=fun vs H Q=>∃(β:Type) (a:Addr) (bs:List β) (val:β->V) (enc:β->PyData),vs= [V.ref a]∧(SqL K H a (bs.map val)∨SqT K H a (bs.map val))∧(∀b∈bs,Dp K H (val b) (enc b))∧
 AllAlike (bs.map enc)∧Sortable (bs.map enc)∧(∀b∈bs,(enc b).depth<=40)∧∀p,H p=none->Q (.ref p) (upd H p (.lst ((bs.mergeSort (dataLe false enc)).map val)))
theorem Zch{β:Type}{val:β->V}{enc:β->PyData}{pins:List (Addr × Obj)}{σ:L2.St}{H:Hp}{s:Shared}(I:Inv X pins σ H s):∀{bs:List β}{us:List Value},(∀b∈bs,Dp X.K H (val b) (enc b))->Vals (bs.map val) us->EachIs (fun v b=>∃as,Reads s.heap v (enc b) as) us bs
 |[],_,_,.nil=> .nil
 |b::bs,_,h,.cons r t=> .cons (Dp.reads I _ _ _ (h b (Xg ..)) r) (Zch I (fun c hc=>h c (Xm _ hc)) t)
theorem ZjT(hu:X.A.units+64 < cLine):CallR X (.builtin "sorted") (Zg4 X.K):=by
 intro pins s σ H vs us Q I r h
 obtain⟨β,a,bs,val,enc,rfl,hs,hd,hal,hk,hdp,q⟩:=h
 obtain⟨u,rfl,ru⟩:=vals1 r
 cases (show u=Value.ref a from ru)
 have hu2:∀b,b∈bs->X.A.units+2+(enc b).depth < cLine:=fun b hb=>by have:=hdp b hb; omega
 have fin:∀{its:List Value},(bs.map val).length<=sizeLine->∀out:List Value,out.length=bs.length->EachIs (fun v b=>RelV (val b) v) out (bs.mergeSort (dataLe false enc))->EP X pins σ Q (.ref (s.heap.objs.size+1)) { s with heap:=sortedAll s.heap its (List.toArray out) }:=fun {its} hz out ho e=>by
  obtain⟨ep,he'⟩:=PyProof.Rows.sortedAll_at s.heap its (List.toArray out)
  refine⟨.ref _,upd H (s.heap.objs.size+1) (.lst ((bs.mergeSort (dataLe false enc)).map val)),I.laid (t':=s.toks) (fun _ _=>PyProof.Rows.sortedAll_old) (VM _) ⟨?_,out,ep,ZaY e,he'⟩,rfl,q _ (I.hok.fresh (VM _))⟩
  rw[Xx,List.length_mergeSort]
  rwa[Xx] at hz
 rcases hs with hs|hs
 ·obtain⟨its,rv,hl,hz⟩:=I.list hs
  exact sorted_data hl.isList (ZaX rv) (Zch I hd rv) hal hk (by rwa[Xx] at hz) hu2 (fin hz)
 ·obtain⟨its,rv,hl,hz⟩:=I.tuple hs
  exact Zg3 hl (ZaX rv) (Zch I hd rv) hal hk (by rwa[Xx] at hz) hu2 (fin hz)
end
theorem Zl0{K:PySem.W.Frag}{C:Addr}:∀T∈(["NoneType","bool","int","str","list","tuple"]:List String),PySem.W.subIn K (.type T) (.ref C)=some false:=by
 intro T hT
 simp only[XB,List.not_mem_nil,or_false] at hT
 rcases hT with rfl|rfl|rfl|rfl|rfl|rfl <;> rfl
def Kd.plain:Kd->Bool
 |.own _=>false
 |_=>true
theorem Kd.sub{K:PySem.W.Frag}{C:Addr}{k:Kd}(h:k.plain=true):PySem.W.subIn K k.ty (.ref C)=some false:=by
 cases k with
 |own c=>cases h
 |_=>exact Zl0 _ (by decide)
theorem Kd.notFirst{K:PySem.W.Frag}{C:Addr}{k:Kd}(h:k.plain=true):PySem.W.notFirst K C k.ty=true:=by
 unfold PySem.W.notFirst
 rw[Kd.sub h]
 simp
theorem Zgf{K:PySem.W.Frag}{C:Addr}:PySem.W.notFirst K C (.ref C)=true:=by
 unfold PySem.W.notFirst
 simp
theorem Zl1{K:PySem.W.Frag}{C:Addr}:PySem.W.kitOne K (.ref C) (.ref C)=some true:=by
 unfold PySem.W.kitOne
 simp
theorem Kd.kitOwn{K:PySem.W.Frag}{C:Addr}{k:Kd}(o:OwnC K C)(h:k.plain=true):PySem.W.kitOne K k.ty (.ref C)=some false:=by
 have e:(k.ty == Value.ref C)=false:=by
  cases k with
  |own c=>cases h
  |_=>rfl
 unfold PySem.W.kitOne PySem.W.kitCls
 rw[e]
 dsimp only
 rw[if_neg (by decide),if_pos o.kc,Kd.sub h]
theorem ZbV{K:PySem.W.Frag}{C:Addr}{T:String}(m:PySem.W.kitMeta T=true)(h:PySem.W.mroIn K C (.type T)=some false):PySem.W.kitOne K (.ref C) (.type T)=some false:=by
 unfold PySem.W.kitOne PySem.W.kitCls PySem.W.subIn
 dsimp only
 rw[if_neg (by intro z; cases z),if_pos m,h]
theorem Zg5{K:PySem.W.Frag}{C:Addr}(cl:Cls K C)(ha:PySem.W.findIn K (.ref C) "__class__" =some (some (.builtin "object.__class__")))(hn:PySem.W.specialIn K (.builtin "object.__class__") "__get__" =some (some (.builtin "getset_descriptor.__get__")))
  (ht:PySem.W.takesIn K (.builtin "object.__class__")=some true)(hm:PySem.W.mroIn K C (.type "object")=some true)(mi:PySem.W.mroIn K C (.type "int")=some false)(mb:PySem.W.mroIn K C (.type "bool")=some false)(ms:PySem.W.mroIn K C (.type "str")=some false)
  (ml:PySem.W.mroIn K C (.type "list")=some false)(mt:PySem.W.mroIn K C (.type "tuple")=some false)(ic:PySem.W.isClsIn K C=true)(ty:PySem.W.typeIn K (.ref C)=some (.type "type")):OwnC K C :=
 ⟨cl,ha,hn,ht,hm,ZbV (by decide +kernel) mi,ZbV (by decide +kernel) mb,ZbV (by decide +kernel) ms,ZbV (by decide +kernel) ml,ZbV (by decide +kernel) mt,by
  rw[Bool.and_eq_true_iff]
  refine⟨ic, ?_⟩
  rw[ty]
  rfl⟩
section
variable {prog:Program}{w:World}{κ:Type} [DecidableEq κ] {knd:KeyKind prog w κ}{A:Around}{E:Value->Shared->Prop}{s:Shared}
theorem Zl2{D:Addr}{xs:List (κ × Value)}{k:κ}{u r:Value}{Q:Unit->Shared->Prop}(hk:knd.is k u=true)(hz:xs.length<=sizeLine)(dd:s.heap.DictOf knd D xs)
  (q:∀h',h'.DictOf knd D (stored xs k r)->Heap.SameBut D s.heap h'->Q () { s with heap:=h' }):wpAny (model prog w) A (dictPut D (knd.hash k) u r) Q E s:=by
 obtain⟨o,es,ep,g1,g2,g3,g4,g5,g6⟩:=dd
 have l0:es.size<=sizeLine:=by
  have:=g5.length
  have e:es.toList.length=es.size:=Array.length_toList
  omega
 have same:(es.findIdx? fun e=>knd.is k e.key)=xs.findIdx? fun p=>decide (p.1=k):=by
  rw[<- g5.findIdx k]
  cases es
  simp
 unfold dictPut
 refine Xd (wpAny_dictFind_of hk g1 g3 g4 ?_)
 cases f:es.findIdx? fun e=>knd.is k e.key with
 |none =>
  have miss:k∉xs.map (·.1):=not_mem_of_findIdx_none (same ▸ f)
  have no:¬ (xs.any fun p=>decide (p.1=k))=true:=fun z=>by
   obtain⟨p,hp,e⟩:=List.any_eq_true.mp z
   exact miss (XW.mpr ⟨p,hp,XH e⟩)
  have es1:stored xs k r=xs++ [(k,r)]:=by unfold stored; rw[if_neg no]
  refine wpAny_updateDictKeys (hz:=l0) g1 g3 (q _ ⟨_,_,ep+1,Heap.get?_update_self _ g1 (Obj.isFreed_of_dict (Obj.data_mapDictKeys g3 _)),g2.mapDictKeys _,Obj.data_mapDictKeys g3 _,g4.push hk _, ?_, ?_⟩ (Heap.SameBut.update ..))
  ·rw[es1]
   have:=g5.append hk (knd.hash k) r
   cases es
   simpa using this
  ·rw[es1,List.map_append,X2]
   refine⟨g6,by simp,fun x hx y hy e=>miss ?_⟩
   have hy:y=k:=by simpa using hy
   rw[<- hy,<- e]
   exact hx
 |some i =>
  have yes:(xs.any fun p=>decide (p.1=k))=true:=any_of_findIdx_some (same ▸ f)
  have es1:stored xs k r=xs.map (fun p=>if p.1=k then (p.1,r) else p):=by unfold stored; rw[if_pos yes]
  refine wpAny_updateDict g1 g3 (q _ ⟨_,_,ep,Heap.get?_update_self _ g1 (Obj.isFreed_of_dict (Obj.data_mapDict g3 _)),g2.mapDict _,Obj.data_mapDict g3 _,g4.modify _ _, ?_, ?_⟩ (Heap.SameBut.update ..))
  ·have fl:(es.toList.findIdx? fun e=>knd.is k e.key)=some i:=by
    rw[<- f]
    cases es
    simp
   have:=g5.modify g6 fl r
   rw[stored,if_pos yes]
   cases es
   simpa using this
  ·rw[stored,if_pos yes,keys_map_store]
   exact g6
end
section
variable {prog:Program}{w:World}{κ:Type} [DecidableEq κ] {knd:KeyKind prog w κ}{A:Around}{E:Value->Shared->Prop}{s:Shared}
theorem Zk3{D a:Addr}{xs ys:List (κ × Value)}{Q:Unit->Shared->Prop}(hne:D≠a)(hS:(a == sysModules)=false)(hr:∀k b,knd.is k (.ref b)=false)(hz:xs.length+ys.length<=sizeLine)(dd:s.heap.DictOf knd D xs)(da:s.heap.DictOf knd a ys)
  (q:∀h',h'.DictOf knd D (merged xs ys)->Heap.SameBut D s.heap h'->Q () { s with heap:=h' }):wpAny (model prog w) A (mergeMapping D (.ref a) false) Q E s:=by
 obtain⟨oD,eD,pD,d1,d2,d3,d4,d5,d6⟩:=id dd
 obtain⟨oA,eA,pA,a1,a2,a3,a4,a5,a6⟩:=id da
 unfold mergeMapping
 refine Xd (m:=isInstance (.ref a) (.type "dict")) (wpAny_isInstance da.typeIs isSubtype_dict_dict ?_)
 dsimp only
 rw[if_pos rfl]
 refine Xd (m:=specialOf (.ref a) _) (wpAny_specialOf da.typeIs F.slot_dict_iter.lookup (Xd (Xk ?_)))
 rw[show (some (Value.builtin "dict.__iter__") == some (Value.builtin "dict.__iter__"))=true from X7 _]
 dsimp only
 rw[if_neg (by rw[hS]; exact VX)]
 refine Xd (m:=dictEntries D) (wpAny_dictEntries d1 d3 ?_)
 have lenA:ys.length=eA.size:=by rw[<- a5.length]; exact Array.length_toList
 by_cases hE:eD.isEmpty=true
 case' pos =>
  rw[if_pos hE]
  refine Xd (m:=dictEntries a) (wpAny_dictEntries a1 a3 ?_)
  rw[<- Array.forIn_toList]
  refine Xd (wpAny_forIn_list _ (fun rest _ s'=>s'=s∧∀e∈rest,e∈eA) _ (fun x rest b s' ⟨es,he⟩=> ?_) (fun b s' ⟨es,_⟩=> ?_) _ _ ⟨rfl,fun e he=>by simpa using he⟩)
  case refine_1 =>
   obtain⟨k,hk,_⟩:=a4 x (he x (Xg ..))
   split
   ·rename_i z hz'
    rw[hz',hr] at hk
    cases hk
   ·exact Xk ⟨es,fun e h=>he e (Xm _ h)⟩
  rw[es]
 case' neg=>rw[if_neg hE]
 all_goals
  refine Xd (m:=dictEntries a) (wpAny_dictEntries a1 a3 ?_)
  refine Xd (m:=dictEpoch a) (wpAny_dictEpoch a1 a3 ?_)
  refine Xd (wpAny_forIn_list _ (fun rest _ s'=>∃h' i,s'= { s with heap:=h' }∧rest=List.range' i (eA.size - i)∧i<=eA.size∧h'.DictOf knd D (merged xs (ys.take i))∧h'.get? a=some oA∧Heap.SameBut D s.heap h') _ ?_ ?_ _ _ ⟨s.heap,0,rfl,by rw[Nat.sub_zero,List.range_eq_range'],Vu _,dd,a1,Heap.SameBut.refl _ _⟩)
  ·rintro x rest b s' ⟨h',i,rfl,er,hi,di,ai,si⟩
   have lt:i < eA.size:=by
    by_cases z:i < eA.size
    ·exact z
    ·rw[show eA.size - i=0 by omega] at er
     cases er
   rw[show eA.size - i=(eA.size - (i+1))+1 by omega,List.range'_succ] at er
   obtain⟨e1,e2⟩:=X9 er
   subst e1
   refine Xd (m:=dictEntries a) (wpAny_dictEntries ai a3 ?_)
   rw[Array.getElem?_eq_getElem lt]
   have hy:ys[x]?=some (ys[x]'(by omega)):=Xo _
   revert hy
   generalize ys[x]'(by omega)=kv
   intro hy
   obtain⟨b1,b2⟩:=a5.get? (e:=eA[x]) (by simp[lt]) hy
   obtain⟨k2,b3,b4⟩:=a4 eA[x] (Array.getElem_mem lt)
   have b5:k2=kv.1:=knd.inj _ _ _ b3 b1
   subst b5
   dsimp only
   have mz:(merged xs (ys.take x)).length<=sizeLine:=by
    have:=merged_length_le xs (ys.take x)
    rw[List.length_take] at this
    omega
   refine Xd (XT ?_)
   rw[if_neg VX,b4,b2]
   refine Zl2 b1 mz di fun h2 dj sj=> ?_
   have aj:h2.get? a=some oA:=(sj.2 a hne.symm).trans ai
   refine Xd (m:=dictEpoch a) (wpAny_dictEpoch aj a3 ?_)
   rw[if_neg (by simp)]
   exact Xk ⟨h2,x+1,rfl,e2,lt,by rw[merged_take_succ xs ys x kv hy]; exact dj,aj,si.trans sj⟩
  ·rintro b s' ⟨h',i,rfl,er,hi,di,ai,si⟩
   have ei:i=eA.size:=by
    by_cases z:i < eA.size
    ·rw[show eA.size - i=(eA.size - (i+1))+1 by omega,List.range'_succ] at er
     cases er
    ·omega
   rw[ei,<- lenA,List.take_length] at di
   exact Xk (q h' di si)
end
section
variable {X:Cx}
def Zqh(t1 t2:TE):TE:=fun σ H Q=>∀p,H p=none->t1 σ (upd H p (.dK [])) fun x H1=>∃a ks,x= .ref a∧Rd H1 a (.dK ks)∧a≠p∧H1 p=some (.dK [])∧ks.length<=1000∧
 t2 σ (upd H1 p (.dK (mergeK [] ks))) fun y H2=>∃b ls,y= .ref b∧Rd H2 b (.dK ls)∧b≠p∧H2 p=some (.dK (mergeK [] ks))∧ls.length<=1000∧Q (.ref p) (upd H2 p (.dK (mergeK (mergeK [] ks) ls)))
theorem Zk4(k:Key)(b:Addr):(mixKind X.prog X.w).is k (.ref b)=false:=by
 cases k <;> rfl
theorem Zg6{pins:List (Addr × Obj)}{σ:L2.St}{H:Hp}{s:Shared}{p a:Addr}{ks ls:List (Key × V)}{Q:Unit->Shared->Prop}{E:Value->Shared->Prop}(I:Inv X pins σ H s)(hp:H p=some (.dK ks))(ha:Rd H a (.dK ls))(hne:a≠p)(hz:ks.length+ls.length<=5000)
  (q:∀s',Inv X pins σ (upd H p (.dK (mergeK ks ls))) s'->Q () s'):wpAny (model X.prog X.w) X.A (mergeMapping p (.ref a) false) Q E s:=by
 obtain⟨z1,n1,vs1,r1,d1⟩:=dk_of I.hok hp
 obtain⟨z2,n2,vs2,r2,d2⟩:=dk_rd I.hok ha
 have e1:=r1.length
 have e2:=r2.length
 have sz:sizeLine=16777216:=rfl
 refine Zk3 hne.symm n2 (Zk4 (X:=X)) (by omega) d1 d2 fun h' dd sb=>q _ ?_
 have hl:=length_mergeK ls ks
 obtain⟨o,es,ep,ho,_⟩:=id dd
 exact d_write (t':=s.toks) I (by rw[hp]; exact True.intro) sb ⟨o,ho⟩ (dk_new (by omega) n1 (r2.merge r1) dd)
theorem Zk5{e1 e2:Expr}{t1 t2:TE}{pos:Pos}(h1:PE X e1 t1)(h2:PE X e2 t2):PE X (.Dict [none,none] [e1,e2] pos) (Zqh t1 t2):=by
  refine⟨fun pins s σ H Q I h=> ?_⟩
  rw[arm_eval_Dict]
  refine Xd (X4 ?_)
  have shape:(evalEachOpt [none,none] X.env).zip ((evalEach [e1,e2] X.env).map fun v=>do let x <- v; standAt pos; pure x)= [((none:Option (Sem Value)),(do let x <- eval e1 X.env; standAt pos; pure x:Sem Value)),(none,do let x <- eval e2 X.env; standAt pos; pure x)]:=by
    simp[evalEachOpt,evalEach,evalOpt]
  rw[shape]
  unfold dictDisplay
  simp only[VW,List.forIn_nil]
  refine Xd (Xd (Xd ?_))
  have ie:([]:List (Sem Value × Sem Value)).isEmpty=true:=rfl
  rw[if_pos ie]
  refine Xk ?_
  dsimp only
  refine Xd (wpAny_alloc ?_)
  generalize hp:s.heap.objs.size=p
  have hn:H p=none:=I.hok.fresh (Vx hp)
  have I1:=I.laid (a:=p) (o:= .dK []) (h':=s.heap.push { cls:= .type "dict",data:= .dict #[] }) (t':=s.toks) (fun _ _ q=>Xe _ q) (Vx hp) (by rw[<- hp]; exact dk_empty s.heap I.big)
  refine Xd (XT (Xd (thn (h1.run pins _ σ _ _ I1 (h p hn)) fun v s1 z=> ?_)))
  obtain⟨x,H1,I2,rx,a,ks,rfl,ha,hne,hp1,lz,q⟩:=z
  cases (show v=Value.ref a from rx)
  refine Xd (X4 (Xk (Xd (wpAny_onRaise (wpAny_tryCatch (wpAny_onRaise (XT (Zg6 I2 hp1 ha hne (by simp; omega) fun s2 I3=> ?_))))))))
  refine Xk ?_
  dsimp only
  refine Xd (Xd ?_)
  rw[if_pos ie]
  refine Xk ?_
  dsimp only
  refine Xd (Xk (Xd (XT (Xd (thn (h2.run pins _ σ _ _ I3 q) fun v s3 z=> ?_)))))
  obtain⟨y,H2,I4,ry,b,ls,rfl,hb,hnb,hp2,lz2,q2⟩:=z
  cases (show v=Value.ref b from ry)
  have lm:=length_mergeK ks []
  refine Xd (X4 (Xk (Xd (wpAny_onRaise (wpAny_tryCatch (wpAny_onRaise (XT (Zg6 I4 hp2 hb hnb (by simp at lm; omega) fun s4 I5=> ?_))))))))
  refine Xk ?_
  dsimp only
  refine Xk ?_
  dsimp only
  refine Xd ?_
  rw[if_pos ie]
  refine Xk ?_
  dsimp only
  exact Xk ⟨.ref p,_,I5,rfl,q2⟩
end
end Pw
namespace Pu
open PySem L2 PySem.Spec PyProof.Rows Pw
inductive D where
 |non
 |bl (b:Bool)
 |int (i:Int)
 |str (x:Str)
 |lst (xs:List D)
 |tup (xs:List D)
 |ktp (xs:List D)
 |dct (kvs:List (D × D))
 |dtt (kvs:List (D × D))
 |dnk (kvs:List (D × D))
 |obj (c:String) (fs:List (Str × D))
 |cls (c:String)
 |klt (ns:List Int)
abbrev Env:=List (Option D)
structure Exn where
 c:String
 fs:List (Str × D)
inductive R (α:Type) where
 |ok (a:α) (ρ:Env)
 |ex (x:Exn) (ρ:Env)
 |bad
inductive RS where
 |nx (ρ:Env)
 |rt (d:D) (ρ:Env)
 |bk (ρ:Env)
 |ct (ρ:Env)
 |ex (x:Exn) (ρ:Env)
 |bad
def R.bind{α β:Type}(r:R α)(f:α->Env->R β):R β:=match r with
 |.ok a ρ=>f a ρ
 |.ex x ρ=> .ex x ρ
 |.bad=> .bad
def R.bindS{α:Type}(r:R α)(f:α->Env->RS):RS:=match r with
 |.ok a ρ=>f a ρ
 |.ex x ρ=> .ex x ρ
 |.bad=> .bad
def RS.bind(r:RS)(f:Env->RS):RS:=match r with
 |.nx ρ=>f ρ
 |r=>r
def R.of{α:Type}(o:Option α)(ρ:Env):R α:=match o with
 |some a=> .ok a ρ
 |none=> .bad
structure Gx (K:PySem.W.Frag) where
 ca:String->Option Addr
 oc:∀{c:String}{a:Addr},ca c=some a->OwnC K a
 tb:List (Addr × Str):= []
 hs:NestedKey->Int:=fun _=>0
 di:∀{c c':String}{a b:Addr},ca c=some a->ca c'=some b->c≠c'->PySem.W.kitOne K (.ref a) (.ref b)=some false
def D.key:D->Option Key
 |.int i=>some (.inl i)
 |.str x=>some (.inr x)
 |_=>none
def D.keys:List D->Option (List Key)
 |[]=>some []
 |d::ds=>match d.key,D.keys ds with
  |some k,some ks=>some (k::ks)
  |_,_=>none
def D.tkey:D->Option (List Key)
 |.tup ds=>D.keys ds
 |_=>none
mutual
def D.nkey:D->Option NestedKey
 |.non=>some .none
 |.bl b=>some (.num (if b=true then 1 else 0))
 |.int i=>some (.num i)
 |.str x=>some (.text x)
 |.tup ds=>(D.nkeys ds).map .tup
 |.ktp ds=>(D.nkeys ds).map .tup
 |_=>none
def D.nkeys:List D->Option (List NestedKey)
 |[]=>some []
 |d::ds=>match D.nkey d,D.nkeys ds with
  |some k,some ks=>some (k::ks)
  |_,_=>none
end
abbrev NE:Type:=NestedKey × V × V
def NDO(hs:NestedKey->Int)(a:Addr)(es:List NE):HO:= .ext fun h=>es.length<=sizeLine∧(a == sysModules)=false∧∃xs:List (NestedKey × Value × Value),Paired (fun(p:NE) (q:NestedKey × Value × Value)=>p.1=q.1∧RelV p.2.1 q.2.1∧RelV p.2.2 q.2.2) es xs∧
 ∃(o:Obj) (ds:Array DictEntry) (ep:Nat),h.get? a=some o∧o.ExactDict∧o.data= .dict ds ep∧ds.toList=xs.map (fun x=>(⟨hs x.1,x.2.1,x.2.2⟩:DictEntry))∧(xs.map (·.1)).Nodup
def KTup(K:PySem.W.Frag)(a:Addr)(xs:List V):Prop:=∃(o:Obj) (its:Array Value) (n:Nat),K.lookup a=some o∧o.cls= .type "tuple"∧o.data= .seq its n∧its.size<=sizeLine∧Vals xs its.toList∧o.dict=none
theorem KTup.sq{K:PySem.W.Frag}{H:Hp}{a:Addr}{xs:List V}(h:KTup K a xs):SqT K H a xs:=by
 obtain⟨o,its,n,h1,h2,h3,h4,h5,_⟩:=h
 exact .inr ⟨o,its,n,h1,h2,h3,h4,h5⟩
def FTup(H:Hp)(a:Addr)(xs:List V):Prop:=∃o:Obj,H a=some (.frz o (.tup xs))∧o.cls= .type "tuple"∧o.dict=none
theorem FTup.sq{K:PySem.W.Frag}{H:Hp}{a:Addr}{xs:List V}(h:FTup H a xs):SqT K H a xs:=by
 obtain⟨o,h,_⟩:=h
 exact .inl (.inr ⟨o,h⟩)
def Zoi(K:PySem.W.Frag)(a:Addr)(xs:List V):Prop:=∃(o:Obj) (its:Array Value) (n:Nat),K.lookup a=some o∧o.cls= .type "list"∧o.dict=none∧o.data= .seq its n∧its.size<=sizeLine∧Vals xs its.toList
section
variable {K:PySem.W.Frag}(G:Gx K) (O:Addr->Prop) (H:Hp)
mutual
inductive Rep:V->D->Prop
 |non:Rep .non .non
 |bl (b:Bool):Rep (.bl b) (.bl b)
 |int (i:Int):Rep (.int i) (.int i)
 |str (x:Str):Rep (.str x) (.str x)
 |lst {a:Addr}{vs:List V}{ds:List D}:Rd H a (.lst vs)->¬ O a->Reps vs ds->Rep (.ref a) (.lst ds)
 |tup {a:Addr}{vs:List V}{ds:List D}:H a=some (.tup vs)->¬ O a->Reps vs ds->Rep (.ref a) (.tup ds)
 |ktp {a:Addr}{vs:List V}{ds:List D}:KTup K a vs->Reps vs ds->Rep (.ref a) (.ktp ds)
 |ftp {a:Addr}{vs:List V}{ds:List D}:FTup H a vs->¬ O a->Reps vs ds->Rep (.ref a) (.ktp ds)
 |dk {a:Addr}{ks:List (Key × V)}{kvs:List (D × D)}:Rd H a (.dK ks)->¬ O a->RepK ks kvs->Rep (.ref a) (.dct kvs)
 |dt {a:Addr}{ks:List (List Key × V)}{kvs:List (D × D)}:Rd H a (.dT ks)->¬ O a->RepT ks kvs->Rep (.ref a) (.dtt kvs)
 |dn {a:Addr}{es:List NE}{kvs:List (D × D)}:H a=some (NDO G.hs a es)->¬ O a->RepN es kvs->Rep (.ref a) (.dnk kvs)
 |obj {a C dx:Addr}{fvs:List (Str × V)}{c:String}{fs:List (Str × D)}:G.ca c=some C->H a=some (.ins C dx fvs)->¬ O a->(∀f,f∈fs.map (·.1)->NoAttr K C f)->RepF fvs fs->Rep (.ref a) (.obj c fs)
 |cls {C:Addr}{c:String}:G.ca c=some C->Rep (.ref C) (.cls c)
 |klt {a:Addr}{ns:List Int}:Zoi K a (ns.map V.int)->Rep (.ref a) (.klt ns)
inductive Reps:List V->List D->Prop
 |nil:Reps [] []
 |cons {v:V}{d:D}{vs:List V}{ds:List D}:Rep v d->Reps vs ds->Reps (v::vs) (d::ds)
inductive RepK:List (Key × V)->List (D × D)->Prop
 |nil:RepK [] []
 |cons {k:Key}{v:V}{kd d:D}{ks:List (Key × V)}{kvs:List (D × D)}:kd.key=some k->Rep v d->RepK ks kvs->RepK ((k,v)::ks) ((kd,d)::kvs)
inductive RepT:List (List Key × V)->List (D × D)->Prop
 |nil:RepT [] []
 |cons {k:List Key}{v:V}{kd d:D}{ks:List (List Key × V)}{kvs:List (D × D)}:kd.tkey=some k->Rep v d->RepT ks kvs->RepT ((k,v)::ks) ((kd,d)::kvs)
inductive RepN:List NE->List (D × D)->Prop
 |nil:RepN [] []
 |cons {k:NestedKey}{b v:V}{kd d:D}{es:List NE}{kvs:List (D × D)}:kd.nkey=some k->Rep b kd->Rep v d->RepN es kvs->RepN ((k,b,v)::es) ((kd,d)::kvs)
inductive RepF:List (Str × V)->List (Str × D)->Prop
 |nil:RepF [] []
 |cons {f:Str}{v:V}{d:D}{ks:List (Str × V)}{kvs:List (Str × D)}:Rep v d->RepF ks kvs->RepF ((f,v)::ks) ((f,d)::kvs)
end
end
def NF(u:HO):Prop:=∀o x,u≠ .frz o x
structure Kept (O:Addr->Prop) (H:Hp) (O':Addr->Prop) (H':Hp):Prop where
 rd:∀b u,¬ O b->NF u->Rd H b u->Rd H' b u
 ext:∀b P,¬ O b->H b=some (.ext P)->H' b=some (.ext P)
 tup:∀b vs,¬ O b->H b=some (.tup vs)->H' b=some (.tup vs)
 ftp:∀b o vs,¬ O b->H b=some (.frz o (.tup vs))->H' b=some (.frz o (.tup vs))
 ins:∀b C dx fs,¬ O b->H b=some (.ins C dx fs)->H' b=some (.ins C dx fs)
 grow:∀b,O' b->O b∨H b=none
theorem Kept.no{O O':Addr->Prop}{H H':Hp}(k:Kept O H O' H'){b:Addr}{o:HO}(h:H b=some o)(n:¬ O b):¬ O' b:=fun z=>by
 rcases k.grow b z with z|z
 ·exact n z
 ·rw[h] at z; cases z
theorem Kept.no2{O O':Addr->Prop}{H H':Hp}(k:Kept O H O' H'){b:Addr}{u:HO}(h:Rd H b u)(n:¬ O b):¬ O' b:=by
 rcases h with h|⟨o,h⟩
 ·exact k.no h n
 ·exact k.no h n
section
variable {K:PySem.W.Frag}{G:Gx K}{O O':Addr->Prop}{H H':Hp}
mutual
theorem Rep.keep(k:Kept O H O' H'):∀{d:D}{v:V},Rep G O H v d->Rep G O' H' v d
 |.non,_,h=>by cases h; exact .non
 |.bl b,_,h=>by cases h; exact .bl b
 |.int i,_,h=>by cases h; exact .int i
 |.str x,_,h=>by cases h; exact .str x
 |.lst ds,_,h=>by
  cases h with
  |lst r n t=>exact .lst (k.rd _ _ n (fun _ _ z=>nomatch z) r) (k.no2 r n) (Reps.keep k t)
 |.tup ds,_,h=>by
  cases h with
  |tup r n t=>exact .tup (k.tup _ _ n r) (k.no r n) (Reps.keep k t)
 |.ktp ds,_,h=>by
  cases h with
  |ktp r t=>exact .ktp r (Reps.keep k t)
  |ftp r n t =>
   obtain⟨o,h,c,d⟩:=r
   exact .ftp ⟨o,k.ftp _ _ _ n h,c,d⟩ (k.no h n) (Reps.keep k t)
 |.dct kvs,_,h=>by
  cases h with
  |dk r n t=>exact .dk (k.rd _ _ n (fun _ _ z=>nomatch z) r) (k.no2 r n) (RepK.keep k t)
 |.dtt kvs,_,h=>by
  cases h with
  |dt r n t=>exact .dt (k.rd _ _ n (fun _ _ z=>nomatch z) r) (k.no2 r n) (RepT.keep k t)
 |.dnk kvs,_,h=>by
  cases h with
  |dn r n t=>exact .dn (k.ext _ _ n r) (k.no r n) (RepN.keep k t)
 |.obj c fs,_,h=>by
  cases h with
  |obj e r n q t=>exact .obj e (k.ins _ _ _ _ n r) (k.no r n) q (RepF.keep k t)
 |.cls c,_,h=>by
  cases h with
  |cls e=>exact .cls e
 |.klt ns,_,h=>by
  cases h with
  |klt e=>exact .klt e
theorem Reps.keep(k:Kept O H O' H'):∀{ds:List D}{vs:List V},Reps G O H vs ds->Reps G O' H' vs ds
 |[],_,h=>by cases h; exact .nil
 |d::ds,_,h=>by
  cases h with
  |cons a t=>exact .cons (Rep.keep k a) (Reps.keep k t)
theorem RepK.keep(k:Kept O H O' H'):∀{kvs:List (D × D)}{ks:List (Key × V)},RepK G O H ks kvs->RepK G O' H' ks kvs
 |[],_,h=>by cases h; exact .nil
 |(_,_)::_,_,h=>by
  cases h with
  |cons e a t=>exact .cons e (Rep.keep k a) (RepK.keep k t)
theorem RepT.keep(k:Kept O H O' H'):∀{kvs:List (D × D)}{ks:List (List Key × V)},RepT G O H ks kvs->RepT G O' H' ks kvs
 |[],_,h=>by cases h; exact .nil
 |(_,_)::_,_,h=>by
  cases h with
  |cons e a t=>exact .cons e (Rep.keep k a) (RepT.keep k t)
theorem RepN.keep(k:Kept O H O' H'):∀{kvs:List (D × D)}{es:List NE},RepN G O H es kvs->RepN G O' H' es kvs
 |[],_,h=>by cases h; exact .nil
 |(_,_)::_,_,h=>by
  cases h with
  |cons e a b t=>exact .cons e (Rep.keep k a) (Rep.keep k b) (RepN.keep k t)
theorem RepF.keep(k:Kept O H O' H'):∀{kvs:List (Str × D)}{ks:List (Str × V)},RepF G O H ks kvs->RepF G O' H' ks kvs
 |[],_,h=>by cases h; exact .nil
 |(_,_)::_,_,h=>by
  cases h with
  |cons a t=>exact .cons (Rep.keep k a) (RepF.keep k t)
end
end
end Pu
namespace Pu
open PySem L2 PySem.Spec PyProof.Rows Pw
inductive Shp where
 |sh
 |deal
 |tab
 |nk
 |lst (t:Shp)
 |dct (t:Shp)
 |obj (f:Str->Shp)
inductive All3 {α β γ:Type}(P:α->β->γ->Prop):List α->List β->List γ->Prop
 |nil:All3 P [] [] []
 |cons {a:α}{b:β}{c:γ}{as:List α}{bs:List β}{cs:List γ}:P a b c->All3 P as bs cs->All3 P (a::as) (b::bs) (c::cs)
theorem All3.imp{α β γ:Type}{P Q:α->β->γ->Prop}:∀{as:List α}{bs:List β}{cs:List γ},All3 P as bs cs->(∀a b c,c∈cs->P a b c->Q a b c)->All3 Q as bs cs
 |_,_,_,.nil,_=> .nil
 |_,_,_,.cons h t,f=> .cons (f _ _ _ (Xg ..) h) (All3.imp t fun a b c hc=>f a b c (Xm _ hc))
def Zpx(T:List (Addr × Str))(O:Addr->Prop)(H:Hp):Prop:=∀p∈T,∃ps:Array Value,H p.1=some (.tbl ps)∧TriplesOk ps.toList∧∀(pos:Pos) (cv:Value),codeAmong pos ps.toList=some cv->∃c,cv= .ref c∧¬ O c∧H c=some (LamX.CodeO c p.2)
section
variable {K:PySem.W.Frag}(G:Gx K) (O:Addr->Prop) (H:Hp)
def Own:Shp->V->D->List Addr->Prop
  |.sh=>fun v d F=>F= []∧Rep G O H v d
  |.deal=>fun v d F=>∃(p l:Addr) (xs:List Int) (s:Int),v= .ref p∧d= .lst [.lst (xs.map .int),.int s]∧H p=some (.lst [.ref l,.int s])∧H l=some (.lst (xs.map V.int))∧F= [p,l]
  |.tab=>fun v d F=>F=G.tb.map (·.1)∧Rep G O H v d∧Zpx G.tb O H
  |.nk=>fun v d F=>∃(p:Addr) (es:List NE) (kvs:List (D × D)),v= .ref p∧d= .dnk kvs∧H p=some (NDO G.hs p es)∧RepN G O H es kvs∧F= [p]
  |.lst t=>fun v d F=>∃(p:Addr) (vs:List V) (ds:List D) (Fs:List (List Addr)),v= .ref p∧d= .lst ds∧H p=some (.lst vs)∧F=p::Fs.flatten∧All3 (Own t) vs ds Fs
  |.dct t=>fun v d F=>∃(p:Addr) (kvs:List (D × D)) (Fs:List (List Addr)),v= .ref p∧F=p::Fs.flatten∧
      ((∃ks:List (Key × V),d= .dct kvs∧H p=some (.dK ks)∧All3 (fun(a:Key × V) (e:D × D) F=>e.1.key=some a.1∧Own t a.2 e.2 F) ks kvs Fs)∨
       (∃ks:List (List Key × V),d= .dtt kvs∧H p=some (.dT ks)∧All3 (fun(a:List Key × V) (e:D × D) F=>e.1.tkey=some a.1∧Own t a.2 e.2 F) ks kvs Fs))
  |.obj f=>fun v d F=>∃(p C dx:Addr) (fvs:List (Str × V)) (c:String) (fs:List (Str × D)) (Fs:List (List Addr)),v= .ref p∧d= .obj c fs∧G.ca c=some C∧H p=some (.ins C dx fvs)∧F=p::Fs.flatten∧(∀f,f∈fs.map (·.1)->NoAttr K C f)∧
      All3 (fun(a:Str × V) (b:Str × D) F=>a.1=b.1∧Own (f a.1) a.2 b.2 F) fvs fs Fs
end
section
variable {K:PySem.W.Frag}{G:Gx K}{O O':Addr->Prop}{H H':Hp}
theorem Zj{F:List Addr}{Fs:List (List Addr)}(h:F∈Fs){b:Addr}(hb:b∈F):b∈Fs.flatten:=VP.mpr ⟨F,h,hb⟩
theorem Own.keep(k:Kept O H O' H'):∀(t:Shp){v:V}{d:D}{F:List Addr},(∀b∈F,H' b=H b)->Own G O H t v d F->Own G O' H' t v d F
 |.sh,_,_,_,_,⟨e,h⟩=>⟨e,h.keep k⟩
 |.deal,_,_,_,kf,⟨p,l,xs,s,h1,h2,h3,h4,h5⟩=>by
  subst h5
  exact⟨p,l,xs,s,h1,h2,(kf p (by simp)).trans h3,(kf l (by simp)).trans h4,rfl⟩
 |.tab,_,_,_,kf,⟨h1,h2,h3⟩=>by
  refine⟨h1,h2.keep k,fun p hp=> ?_⟩
  obtain⟨ps,e1,e2,e3⟩:=h3 p hp
  refine⟨ps,(kf p.1 (by rw[h1]; exact XW.mpr ⟨p,hp,rfl⟩)).trans e1,e2,fun pos cv hc=> ?_⟩
  obtain⟨c,q1,q2,q3⟩:=e3 pos cv hc
  exact⟨c,q1,k.no q3 q2,k.ext _ _ q2 q3⟩
 |.nk,_,_,_,kf,⟨p,es,kvs,h1,h2,h3,h4,h5⟩=>by
  subst h5
  exact⟨p,es,kvs,h1,h2,(kf p (by simp)).trans h3,h4.keep k,rfl⟩
 |.lst t,_,_,_,kf,⟨p,vs,ds,Fs,h1,h2,h3,h4,h5⟩=>by
  subst h4
  refine⟨p,vs,ds,Fs,h1,h2,(kf p (Xg ..)).trans h3,rfl,h5.imp fun a b c hc h=>Own.keep k t (fun x hx=>kf x (Xm _ (Zj hc hx))) h⟩
 |.dct t,_,_,_,kf,⟨p,kvs,Fs,h1,h3,h4⟩=>by
  subst h3
  refine⟨p,kvs,Fs,h1,rfl, ?_⟩
  rcases h4 with⟨ks,h2,h5,h6⟩|⟨ks,h2,h5,h6⟩
  ·exact .inl ⟨ks,h2,(kf p (Xg ..)).trans h5,h6.imp fun a b c hc h=>⟨h.1,Own.keep k t (fun x hx=>kf x (Xm _ (Zj hc hx))) h.2⟩⟩
  ·exact .inr ⟨ks,h2,(kf p (Xg ..)).trans h5,h6.imp fun a b c hc h=>⟨h.1,Own.keep k t (fun x hx=>kf x (Xm _ (Zj hc hx))) h.2⟩⟩
 |.obj f,_,_,_,kf,⟨p,C,dx,fvs,c,fs,Fs,h1,h2,h3,h4,h5,h7,h6⟩=>by
  subst h5
  exact⟨p,C,dx,fvs,c,fs,Fs,h1,h2,h3,(kf p (Xg ..)).trans h4,rfl,h7,h6.imp fun a b c hc h=>⟨h.1,Own.keep k (f a.1) (fun x hx=>kf x (Xm _ (Zj hc hx))) h.2⟩⟩
end
def Z2:Str->Shp:=fun _=> .sh
section
variable {K:PySem.W.Frag}(G:Gx K) (O:Addr->Prop) (F:List Addr) (H:Hp)
def BRep(v:V)(d:D):Prop:=Rep G O H v d∨∃p,p∉F∧(∃o,H p=some o)∧(Own G O H (.lst .sh) v d [p]∨Own G O H (.dct .sh) v d [p]∨Own G O H (.obj Z2) v d [p])
end
inductive Md where
 |na
 |hd
 |sh
 |mb
 |br
 |th (f c:Addr) (q:Str) (l:List (V × D))
 |ow (t:Shp)
 |op (t:Shp)
def Md.isOw:Md->Bool
 |.na=>true
 |.ow _=>true
 |.op _=>true
 |_=>false
section
variable {K:PySem.W.Frag}(G:Gx K) (B O:Addr->Prop) (F:List Addr) (H:Hp)
def SlOk:Md->Option V->Option D->List Addr->Prop
 |.na=>fun _ _ f=>f= []
 |.hd=>fun _ _ f=>f= []
 |.sh=>fun v d f=>f= []∧∃v' d',v=some v'∧d=some d'∧Rep G O H v' d'
 |.mb=>fun v d f=>f= []∧∀d',d=some d'->∃v',v=some v'∧Rep G O H v' d'
 |.br=>fun v d f=>f= []∧∃v' d',v=some v'∧d=some d'∧BRep G O F H v' d'
 |.th a c q l=>fun v _ f=>f= []∧v=some (.ref a)∧(¬ O c∧H c=some (LamX.CodeO c q))∧∀p∈l,Rep G O H p.1 p.2
 |.ow t=>fun v d f=>(∀a∈f,¬ B a)∧∃v' d',v=some v'∧d=some d'∧Own G O H t v' d' f
 |.op t=>fun v d f=>∃v' d',v=some v'∧d=some d'∧Own G O H t v' d' f
end
def NTO:Type:= {o:HO // ∀vs,o≠ .tup vs}
instance:CoeOut NTO HO:=⟨fun o=>o.1⟩
structure Wd {K:PySem.W.Frag}(G:Gx K) (B O:Addr->Prop) (Fs:List (List Addr)) (H:Hp) (σ:L2.St) (ρ:Env) (M:List Md):Prop where
 nd:Fs.flatten.Nodup
 sub:∀a∈Fs.flatten,O a
 bo:∀a,B a->O a
 al:∀a,O a->∃o:NTO,H a=some o.1
 ls:σ.length=M.length
 lr:ρ.length=M.length
 lf:Fs.length=M.length
 sl:∀(i:Nat) (m:Md) (v:Option V) (d:Option D) (f:List Addr),M[i]?=some m->σ[i]?=some v->ρ[i]?=some d->Fs[i]?=some f->SlOk G B O Fs.flatten H m v d f
structure Ev (M:List Md) (O:Addr->Prop) (Fs:List (List Addr)) (H:Hp) (ρ:Env) (O':Addr->Prop) (Fs':List (List Addr)) (H':Hp) (ρ':Env):Prop where
 chg:∀b o,H b=some o->b∉Fs.flatten->H' b=some o
 dom:∀b o,H b=some o->∃o',H' b=some o'
 mono:∀b,O b->O' b
 grow:∀b,O' b->O b∨H b=none
 fgrow:∀b,b∈Fs'.flatten->b∈Fs.flatten∨H b=none
 keep:∀(j:Nat) (m:Md),M[j]?=some m->m.isOw=false->ρ'[j]?=ρ[j]?
section
variable {K:PySem.W.Frag}{G:Gx K}{B O O' O'':Addr->Prop}{Fs Fs' Fs'':List (List Addr)}{H H' H'':Hp}{σ:L2.St}{ρ ρ' ρ'':Env}{M:List Md}
theorem Ev.refl:Ev M O Fs H ρ O Fs H ρ:=⟨fun _ _ h _=>h,fun _ o h=>⟨o,h⟩,fun _ h=>h,fun _ h=> .inl h,fun _ h=> .inl h,fun _ _ _ _=>rfl⟩
theorem Ev.trans(a:Ev M O Fs H ρ O' Fs' H' ρ')(b:Ev M O' Fs' H' ρ' O'' Fs'' H'' ρ''):Ev M O Fs H ρ O'' Fs'' H'' ρ'':=by
 refine⟨fun c o h n=>b.chg c o (a.chg c o h n) fun z=> ?_,fun c o h=> ?_,fun c h=>b.mono c (a.mono c h),fun c h=> ?_,fun c h=> ?_,fun j m h1 h2=>(b.keep j m h1 h2).trans (a.keep j m h1 h2)⟩
 ·rcases a.fgrow c z with z|z
  ·exact n z
  ·rw[h] at z; cases z
 ·obtain⟨o',h'⟩:=a.dom c o h
  exact b.dom c o' h'
 ·rcases b.grow c h with h|h
  ·exact a.grow c h
  ·refine .inr ?_
   cases e:H c with
   |none=>rfl
   |some o=>obtain⟨o',h'⟩:=a.dom c o e; rw[h] at h'; cases h'
 ·rcases b.fgrow c h with h|h
  ·exact a.fgrow c h
  ·refine .inr ?_
   cases e:H c with
   |none=>rfl
   |some o=>obtain⟨o',h'⟩:=a.dom c o e; rw[h] at h'; cases h'
theorem Ev.kept(e:Ev M O Fs H ρ O' Fs' H' ρ')(s:∀a∈Fs.flatten,O a):Kept O H O' H' where
 rd:=fun b u n _ h=>by
  rcases h with h|⟨o,h⟩
  ·exact .inl (e.chg b _ h fun z=>n (s b z))
  ·exact .inr ⟨o,e.chg b _ h fun z=>n (s b z)⟩
 ext:=fun b P n h=>e.chg b _ h fun z=>n (s b z)
 tup:=fun b vs n h=>e.chg b _ h fun z=>n (s b z)
 ftp:=fun b o vs n h=>e.chg b _ h fun z=>n (s b z)
 ins:=fun b C dx fs n h=>e.chg b _ h fun z=>n (s b z)
 grow:=e.grow
theorem Rep.ev{v:V}{d:D}(h:Rep G O H v d)(w:Wd G B O Fs H σ ρ M)(e:Ev M O Fs H ρ O' Fs' H' ρ'):Rep G O' H' v d:=h.keep (e.kept w.sub)
theorem BRep.ev{v:V}{d:D}(h:BRep G O Fs.flatten H v d)(w:Wd G B O Fs H σ ρ M)(e:Ev M O Fs H ρ O' Fs' H' ρ'):BRep G O' Fs'.flatten H' v d:=by
 rcases h with h|⟨p,n,⟨o,ho⟩,h⟩
 ·exact .inl (h.ev w e)
 ·have k:=e.kept w.sub
  have kf:∀b∈ [p],H' b=H b:=fun b hb=>by
   rw[Xb.mp hb,ho]
   exact e.chg p o ho n
  refine .inr ⟨p,fun z=> ?_,⟨o,e.chg p o ho n⟩, ?_⟩
  ·rcases e.fgrow p z with z|z
   ·exact n z
   ·rw[ho] at z; cases z
  ·rcases h with h|h|h
   ·exact .inl (Own.keep k _ kf h)
   ·exact .inr (.inl (Own.keep k _ kf h))
   ·exact .inr (.inr (Own.keep k _ kf h))
theorem Wd.get(w:Wd G B O Fs H σ ρ M){i:Nat}{m:Md}(h:M[i]?=some m):∃v d f,σ[i]?=some v∧ρ[i]?=some d∧Fs[i]?=some f∧SlOk G B O Fs.flatten H m v d f:=by
 have hi:i < M.length:=(Xu.mp h).1
 have h1:i < σ.length:=by rw[w.ls]; exact hi
 have h2:i < ρ.length:=by rw[w.lr]; exact hi
 have h3:i < Fs.length:=by rw[w.lf]; exact hi
 exact⟨_,_,_,Xo h1,Xo h2,Xo h3,w.sl i m _ _ _ h (Xo h1) (Xo h2) (Xo h3)⟩
end
section
variable {K:PySem.W.Frag}{G:Gx K}{B O O':Addr->Prop}{Fs Fs':List (List Addr)}{H H':Hp}{σ:L2.St}{ρ ρ':Env}{M:List Md}{p:Addr}{o:HO}
theorem SlOk.keep{m:Md}{v:Option V}{d:Option D}{f F F':List Addr}(h:SlOk G B O F H m v d f)(k:Kept O H O' H')(kc:∀b o,H b=some o->b∉F->H' b=some o)(kf:∀b∈f,H' b=H b)(nf:∀b o,H b=some o->b∉F->b∉F'):SlOk G B O' F' H' m v d f:=by
 cases m with
 |na=>exact h
 |hd=>exact h
 |sh =>
  obtain⟨e,v',d',e1,e2,r⟩:=h
  exact⟨e,v',d',e1,e2,r.keep k⟩
 |br =>
  obtain⟨e,v',d',e1,e2,r⟩:=h
  refine⟨e,v',d',e1,e2, ?_⟩
  rcases r with r|⟨p,n,⟨o,ho⟩,r⟩
  ·exact .inl (r.keep k)
  ·have kp:∀b∈ [p],H' b=H b:=fun b hb=>by
    rw[Xb.mp hb,ho]
    exact kc p o ho n
   refine .inr ⟨p,nf p o ho n,⟨o,kc p o ho n⟩, ?_⟩
   rcases r with r|r|r
   ·exact .inl (Own.keep k _ kp r)
   ·exact .inr (.inl (Own.keep k _ kp r))
   ·exact .inr (.inr (Own.keep k _ kp r))
 |mb =>
  obtain⟨e,h⟩:=h
  exact⟨e,fun d' hd=>by obtain⟨v',e1,r⟩:=h d' hd; exact⟨v',e1,r.keep k⟩⟩
 |th a c q l =>
  obtain⟨e,e1,⟨h1,h2⟩,h3⟩:=h
  exact⟨e,e1,⟨k.no h2 h1,k.ext _ _ h1 h2⟩,fun p hp=>(h3 p hp).keep k⟩
 |ow t =>
  obtain⟨e,v',d',e1,e2,r⟩:=h
  exact⟨e,v',d',e1,e2,Own.keep k t kf r⟩
 |op t =>
  obtain⟨v',d',e1,e2,r⟩:=h
  exact⟨v',d',e1,e2,Own.keep k t kf r⟩
end
end Pu
namespace Pu
open PySem L2 PySem.Spec PyProof.Rows Pw
def XRep{K:PySem.W.Frag}(G:Gx K)(xa:String->Option Addr)(O:Addr->Prop)(H:Hp)(cls:Value)(dd:Option Addr)(x:Exn):Prop :=
 ∃C,xa x.c=some C∧cls= .ref C∧∃dx fvs,dd=some dx∧¬ O dx∧H dx=some (.xd fvs)∧RepF G O H fvs x.fs
structure Sx (K:PySem.W.Frag) where
 G:Gx K
 xa:String->Option Addr
 W:WX
 M:List Md
section
variable {K:PySem.W.Frag}{α β:Type}
abbrev QI(α β:Type):=(Addr->Prop)->List (List Addr)->Hp->β->α->Prop
def Run(S:Sx K)(VR:QI α β)(r:R α)(B O:Addr->Prop)(Fs:List (List Addr))(H:Hp)(σ:L2.St)(ρ:Env)(Q:β->Hp->Prop):Prop:=match r with
 |.ok d ρ'=>∀v O' Fs' H',Ev S.M O Fs H ρ O' Fs' H' ρ'->Wd S.G B O' Fs' H' σ ρ' S.M->VR O' Fs' H' v d->Q v H'
 |.ex x ρ'=>∀cls dd O' Fs' H',Ev S.M O Fs H ρ O' Fs' H' ρ'->Wd S.G B O' Fs' H' σ ρ' S.M->XRep S.G S.xa O' H' cls dd x->S.W cls dd σ H'
 |.bad=>False
def lX(S:Sx K)(VR:QI α β)(f:Env->R α):L2.St->Hp->(β->Hp->Prop)->Prop:=fun σ H Q=>∃B O Fs ρ,Wd S.G B O Fs H σ ρ S.M∧Run S VR (f ρ) B O Fs H σ ρ Q
variable {S:Sx K}{B O O1:Addr->Prop}{Fs Fs1:List (List Addr)}{H H1:Hp}{σ:L2.St}{ρ ρ1:Env}
theorem Run.shift{VR:QI α β}{r:R α}{Q:β->Hp->Prop}(h:Run S VR r B O Fs H σ ρ Q)(e:Ev S.M O Fs H ρ O1 Fs1 H1 ρ1):Run S VR r B O1 Fs1 H1 σ ρ1 Q:=by
 cases r with
 |ok d ρ'=>exact fun v O' Fs' H' e2 w x=>h v O' Fs' H' (e.trans e2) w x
 |ex x ρ'=>exact fun c dd O' Fs' H' e2 w x=>h c dd O' Fs' H' (e.trans e2) w x
 |bad=>exact h
theorem Run.bind{γ δ:Type}{VR:QI α β}{VA:QI γ δ}{r:R γ}{k:γ->Env->R α}{Q:β->Hp->Prop}{Q1:δ->Hp->Prop}(h:Run S VR (r.bind k) B O Fs H σ ρ Q)
  (hk:∀a ρ1 v O1 Fs1 H1,r= .ok a ρ1->Ev S.M O Fs H ρ O1 Fs1 H1 ρ1->Wd S.G B O1 Fs1 H1 σ ρ1 S.M->VA O1 Fs1 H1 v a->Run S VR (k a ρ1) B O1 Fs1 H1 σ ρ1 Q->Q1 v H1):Run S VA r B O Fs H σ ρ Q1:=by
 cases r with
 |ok a ρ1=>exact fun v O' Fs' H' e w x=>hk a ρ1 v O' Fs' H' rfl e w x (Run.shift h e)
 |ex x ρ'=>exact h
 |bad=>exact h
theorem Run.use{VR:QI α β}{a:α}{Q:β->Hp->Prop}(h:Run S VR (.ok a ρ) B O Fs H σ ρ Q)(w:Wd S.G B O Fs H σ ρ S.M){v:β}(x:VR O Fs H v a):Q v H:=h v O Fs H Ev.refl w x
end
theorem PE.of{X:Cx}{e:Expr}{t t':TE}(h:PE X e t)(i:∀σ H Q,t' σ H Q->t σ H Q):PE X e t':=⟨fun pins s σ H Q I x=>h.run pins s σ H Q I (i σ H Q x)⟩
theorem PT.of{X:Cx}{e:Expr}{t t':TT}(h:PT X e t)(i:∀σ H Q,t' σ H Q->t σ H Q):PT X e t':=⟨fun pins s σ H Q I x=>h.run pins s σ H Q I (i σ H Q x)⟩
theorem PW.of{X:Cx}{e:Expr}{t t':TT}(h:PW X e t)(i:∀σ H Q,t' σ H Q->t σ H Q):PW X e t':=⟨fun wh pins s σ H Q I x=>h.run wh pins s σ H Q I (i σ H Q x)⟩
theorem PA.of{X:Cx}{e:List Expr}{t t':TA}(h:PA X e t)(i:∀σ H Q,t' σ H Q->t σ H Q):PA X e t':=⟨fun p pins s σ H Q I x=>h.run p pins s σ H Q I (i σ H Q x)⟩
theorem PS.of{X:Cx}{e:Stmt}{t t':TS}(h:PS X e t)(i:∀D σ H,t' D σ H->t D σ H):PS X e t':=⟨fun pins s σ H D I x=>h.run pins s σ H D I (i D σ H x)⟩
theorem PSs.of{X:Cx}{e:List Stmt}{t t':TS}(h:PSs X e t)(i:∀D σ H,t' D σ H->t D σ H):PSs X e t':=⟨fun pins s σ H D I x=>h.run pins s σ H D I (i D σ H x)⟩
section
variable {K:PySem.W.Frag}
abbrev vE(S:Sx K):QI D V:=fun O _ H v d=>Rep S.G O H v d
abbrev vB(S:Sx K):QI D V:=fun O Fs H v d=>BRep S.G O Fs.flatten H v d
abbrev vT:QI Bool Bool:=fun _ _ _ v d=>v=d
abbrev lE(S:Sx K)(f:Env->R D):TE:=lX S (vE S) f
abbrev lB(S:Sx K)(f:Env->R D):TE:=lX S (vB S) f
abbrev lT(S:Sx K)(f:Env->R Bool):TT:=lX S vT f
variable {S:Sx K}{X:Cx}{e a b:Expr}{f fa fb:Env->R D}{pos:Pos}
theorem p_b(h:PE X e (lE S f)):PE X e (lB S f):=by
 refine PE.of h fun σ H Q ⟨B,O,Fs,ρ,w,r⟩=>⟨B,O,Fs,ρ,w, ?_⟩
 cases e:f ρ with
 |ok d ρ'=>rw[e] at r; exact fun v O' Fs' H' ev wd x=>r v O' Fs' H' ev wd (.inl x)
 |ex x ρ'=>rw[e] at r; exact r
 |bad=>rw[e] at r; exact r
def sC(d:D):Env->R D:=fun ρ=> .ok d ρ
def sV(i:Nat):Env->R D:=fun ρ=>match ρ[i]? with
 |some (some d)=> .ok d ρ
 |_=> .bad
theorem Y1{j}:PE X (.Constant .none j pos) (lE S (sC .non)):=PE.of pe_non fun _ _ _ ⟨_,_,_,_,w,r⟩=>r.use w .non
theorem Qc{c j}:PE X (.Constant (.bool c) j pos) (lE S (sC (.bl c))):=PE.of pe_bl fun _ _ _ ⟨_,_,_,_,w,r⟩=>r.use w (.bl c)
theorem Zk{i j}:PE X (.Constant (.int i) j pos) (lE S (sC (.int i))):=PE.of pe_int fun _ _ _ ⟨_,_,_,_,w,r⟩=>r.use w (.int i)
theorem Zv{x j}:PE X (.Constant (.str x) j pos) (lE S (sC (.str x))):=PE.of pe_str fun _ _ _ ⟨_,_,_,_,w,r⟩=>r.use w (.str x)
theorem Zoj{i:Nat}(h:PE X e (tVar i))(hm:S.M[i]?=some .sh):PE X e (lE S (sV i)):=by
 refine PE.of h fun σ H Q ⟨B,O,Fs,ρ,w,r⟩=> ?_
 obtain⟨v,d,f,h1,h2,h3,e0,v',d',e1,e2,rp⟩:=w.get hm
 subst e1 e2
 refine⟨v',h1, ?_⟩
 unfold sV at r
 rw[h2] at r
 exact r.use w rp
theorem Zqi{i:Nat}(h:PE X e (tVar i))(hm:S.M[i]?=some .br):PE X e (lB S (sV i)):=by
 refine PE.of h fun σ H Q ⟨B,O,Fs,ρ,w,r⟩=> ?_
 obtain⟨v,d,f,h1,h2,h3,e0,v',d',e1,e2,rp⟩:=w.get hm
 subst e1 e2
 refine⟨v',h1, ?_⟩
 unfold sV at r
 rw[h2] at r
 exact r.use w rp
theorem ZgA{i:Int}(h:PE X e (tC (.int i))):PE X e (lE S (sC (.int i))):=PE.of h fun _ _ _ ⟨_,_,_,_,w,r⟩=>r.use w (.int i)
theorem Zpy{c:Addr}{vs:List V}{ds:List D}(h:PE X e (tC (.ref c)))(hk:KTup K c vs)(hr:∀O H,Reps S.G O H vs ds):PE X e (lE S (sC (.ktp ds))) :=
 PE.of h fun _ _ _ ⟨_,_,_,_,w,r⟩=>r.use w (.ktp hk (hr _ _))
end
section
variable {K:PySem.W.Frag}{G:Gx K}{B O O':Addr->Prop}{Fs Fs':List (List Addr)}{H H':Hp}{σ:L2.St}{ρ ρ':Env}{M:List Md}
theorem Ev.same(s:Same H H'):Ev M O Fs H ρ O Fs H' ρ :=
 ⟨fun b u h _=>s b u h,fun b u h=>⟨u,s b u h⟩,fun _ h=>h,fun _ h=> .inl h,fun _ h=> .inl h,fun _ _ _ _=>rfl⟩
theorem Wd.same(w:Wd G B O Fs H σ ρ M)(s:Same H H'):Wd G B O Fs H' σ ρ M:=by
 have e:Ev M O Fs H ρ O Fs H' ρ:=Ev.same s
 refine⟨w.nd,w.sub,w.bo,fun a h=> ?_,w.ls,w.lr,w.lf,fun i m v d f h1 h2 h3 h4=> ?_⟩
 ·obtain⟨u,hu⟩:=w.al a h
  exact⟨u,s a u hu⟩
 ·refine(w.sl i m v d f h1 h2 h3 h4).keep (e.kept w.sub) e.chg (fun b hb=> ?_) (fun _ _ _ n=>n)
  obtain⟨u,hu⟩:=w.al b (w.sub b (Zj (Xa h4) hb))
  rw[hu,s b u hu]
theorem Kept.same(s:Same H H'):Kept O H O H' where
 rd:=fun b u n _ h=>by
  rcases h with h|⟨o,h⟩
  ·exact .inl (s b _ h)
  ·exact .inr ⟨o,s b _ h⟩
 ext:=fun b P n h=>s b _ h
 tup:=fun b vs n h=>s b _ h
 ftp:=fun b o vs n h=>s b _ h
 ins:=fun b C dx fs n h=>s b _ h
 grow:=fun _ h=> .inl h
end
section
variable {K:PySem.W.Frag}
abbrev Al(O:Addr->Prop)(H:Hp):Prop:=∀a,O a->∃o:NTO,H a=some o.1
theorem Al.no{O:Addr->Prop}{H:Hp}(h:Al O H){p:Addr}(n:H p=none):¬ O p:=fun z=>by
 obtain⟨o,e⟩:=h p z
 rw[n] at e
 cases e
def OpP(G:Gx K)(r:R2)(g:D->D->Option D):Prop:=∀(O:Addr->Prop) (F:List Addr) (H:Hp) (x y:V) (a b d:D),Al O H->g a b=some d->BRep G O F H x a->BRep G O F H y b->∀Q:VK,(∀v H',Same H H'->Rep G O H' v d->Q v H')->r x y H Q
def UnP(G:Gx K)(r:V->Hp->VK->Prop)(g:D->Option D):Prop:=∀(O:Addr->Prop) (F:List Addr) (H:Hp) (x:V) (a d:D),Al O H->g a=some d->BRep G O F H x a->∀Q:VK,(∀v H',Same H H'->Rep G O H' v d->Q v H')->r x H Q
inductive BReps (G:Gx K) (O:Addr->Prop) (F:List Addr) (H:Hp):List V->List D->Prop
 |nil:BReps G O F H [] []
 |cons {v:V}{d:D}{vs:List V}{ds:List D}:BRep G O F H v d->BReps G O F H vs ds->BReps G O F H (v::vs) (d::ds)
def Q9(G:Gx K)(r:List V->Hp->VK->Prop)(g:List D->Option D):Prop:=∀(O:Addr->Prop) (F:List Addr) (H:Hp) (xs:List V) (as:List D) (d:D),Al O H->g as=some d->BReps G O F H xs as->∀Q:VK,(∀v H',Same H H'->Rep G O H' v d->Q v H')->r xs H Q
abbrev vBs(S:Sx K):QI (List D) (List V):=fun O Fs H v d=>BReps S.G O Fs.flatten H v d
abbrev vEs(S:Sx K):QI (List D) (List V):=fun O Fs H v d=>Reps S.G O H v d
abbrev lBs(S:Sx K)(f:Env->R (List D)):TA:=lX S (vBs S) f
abbrev lEs(S:Sx K)(f:Env->R (List D)):TA:=lX S (vEs S) f
variable {S:Sx K}{X:Cx}{e a b:Expr}{es:List Expr}{f fa fb:Env->R D}{fs:Env->R (List D)}{pos:Pos}
theorem Run.of{B O:Addr->Prop}{Fs:List (List Addr)}{H:Hp}{σ:L2.St}{ρ:Env}{o:Option D}{Q:VK}{r:(VK)->Prop}(h:Run S (vE S) (R.of o ρ) B O Fs H σ ρ Q)(w:Wd S.G B O Fs H σ ρ S.M)
  (k:∀d,o=some d->(∀v H',Same H H'->Rep S.G O H' v d->Q v H')->r Q):r Q:=by
 cases o with
 |none=>exact h.elim
 |some d=>exact k d rfl fun v H' s x=>h v O Fs H' (Ev.same s) (w.same s) x
def sOp(g:D->D->Option D)(fa fb:Env->R D):Env->R D:=fun ρ=>(fa ρ).bind fun x ρ1=>(fb ρ1).bind fun y ρ2=>R.of (g x y) ρ2
theorem lOp{r:R2}{g:D->D->Option D}(hg:OpP S.G r g){σ:L2.St}{H:Hp}{Q:VK}(h:lE S (sOp g fa fb) σ H Q):tOp r (lB S fa) (lB S fb) σ H Q:=by
 obtain⟨B,O,Fs,ρ,w,run⟩:=h
 refine⟨B,O,Fs,ρ,w,run.bind fun x ρ1 v O1 Fs1 H1 _ ev1 w1 r1 run1=>⟨B,O1,Fs1,ρ1,w1,run1.bind fun y ρ2 u O2 Fs2 H2 _ ev2 w2 r2 run2=> ?_⟩⟩
 exact run2.of (r:=fun Q=>r v u H2 Q) w2 fun d e k=>hg O2 Fs2.flatten H2 v u x y d w2.al e (r1.ev w1 ev2) r2 Q k
theorem Zl3{op:Operator}{r:R2}{g:D->D->Option D}(ho:OpR X (binaryOp op) r)(hg:OpP S.G r g)(ha:PE X a (lB S fa))(hb:PE X b (lB S fb)):PE X (.BinOp a op b pos) (lE S (sOp g fa fb)) :=
 PE.of (pe_op ho ha hb) fun _ _ _ h=>lOp hg h
theorem Zci{op:CmpOp}{r:R2}{g:D->D->Option D}(ho:OpR X (compareOp op) r)(hg:OpP S.G r g)(ha:PE X a (lB S fa))(hb:PE X b (lB S fb))(hm:behindInMarks op b=false):PE X (.Compare a [op] [b] pos) (lE S (sOp g fa fb)) :=
 PE.of (pe_cmpR ho ha hb hm) fun _ _ _ h=>lOp hg h
def sUn(g:D->Option D)(fa:Env->R D):Env->R D:=fun ρ=>(fa ρ).bind fun x ρ1=>R.of (g x) ρ1
theorem lUn{r:V->Hp->VK->Prop}{g:D->Option D}(hg:UnP S.G r g){σ:L2.St}{H:Hp}{Q:VK}(h:lE S (sUn g fa) σ H Q):lB S fa σ H fun x H1=>r x H1 Q:=by
 obtain⟨B,O,Fs,ρ,w,run⟩:=h
 refine⟨B,O,Fs,ρ,w,run.bind fun x ρ1 v O1 Fs1 H1 _ ev1 w1 r1 run1=> ?_⟩
 exact run1.of (r:=fun Q=>r v H1 Q) w1 fun d e k=>hg O1 Fs1.flatten H1 v x d w1.al e r1 Q k
def Zb:Env->R (List D):=fun ρ=> .ok [] ρ
def Za(fa:Env->R D)(fs:Env->R (List D)):Env->R (List D):=fun ρ=>(fa ρ).bind fun x ρ1=>(fs ρ1).bind fun xs ρ2=> .ok (x::xs) ρ2
theorem Zl:PA X [] (lBs S Zb):=PA.of pa_nil fun _ _ _ ⟨_,_,_,_,w,r⟩=>r.use w .nil
theorem ps_nil:PA X [] (lEs S Zb):=PA.of pa_nil fun _ _ _ ⟨_,_,_,_,w,r⟩=>r.use w .nil
theorem Zi(ha:PE X e (lB S fa))(hr:PA X es (lBs S fs))(hs:starEach (e::es) X.env=(false,eval e X.env)::starEach es X.env:=by rfl):PA X (e::es) (lBs S (Za fa fs)):=by
 refine PA.of (pa_cons ha hr hs) fun σ H Q ⟨B,O,Fs,ρ,w,run⟩=> ?_
 refine⟨B,O,Fs,ρ,w,run.bind fun x ρ1 v O1 Fs1 H1 _ ev1 w1 r1 run1=>⟨B,O1,Fs1,ρ1,w1,run1.bind fun y ρ2 u O2 Fs2 H2 _ ev2 w2 r2 run2=> ?_⟩⟩
 exact run2.use w2 (.cons (r1.ev w1 ev2) r2)
theorem ps_cons(ha:PE X e (lE S fa))(hr:PA X es (lEs S fs))(hs:starEach (e::es) X.env=(false,eval e X.env)::starEach es X.env:=by rfl):PA X (e::es) (lEs S (Za fa fs)):=by
 refine PA.of (pa_cons ha hr hs) fun σ H Q ⟨B,O,Fs,ρ,w,run⟩=> ?_
 refine⟨B,O,Fs,ρ,w,run.bind fun x ρ1 v O1 Fs1 H1 _ ev1 w1 r1 run1=>⟨B,O1,Fs1,ρ1,w1,run1.bind fun y ρ2 u O2 Fs2 H2 _ ev2 w2 r2 run2=> ?_⟩⟩
 exact run2.use w2 (.cons (r1.ev w1 ev2) r2)
def line:Nat:=1000000
theorem Yw:line<=sizeLine:=by decide
def Zw(xs:List D):Option D:=if xs.length<=line then some (.tup xs) else none
def ZE(xs:List D):Option D:=if xs.length<=line then some (.lst xs) else none
def sAs(g:List D->Option D)(fs:Env->R (List D)):Env->R D:=fun ρ=>(fs ρ).bind fun xs ρ1=>R.of (g xs) ρ1
theorem Reps.length{G:Gx K}{O:Addr->Prop}{H:Hp}:∀{vs:List V}{ds:List D},Reps G O H vs ds->vs.length=ds.length
 |_,_,.nil=>rfl
 |_,_,.cons _ t=>by rw[Xs,Xs,Reps.length t]
theorem ZH{x1}(h:PA X es (lEs S fs)):PE X (.Tuple es x1 pos) (lE S (sAs Zw fs)):=by
 refine PE.of (pe_tup h) fun σ H Q ⟨B,O,Fs,ρ,w,run⟩=> ?_
 refine⟨B,O,Fs,ρ,w,run.bind fun xs ρ1 vs O1 Fs1 H1 _ ev1 w1 r1 run1=> ?_⟩
 refine run1.of (r:=fun Q=>vs.length<=sizeLine∧∀p,H1 p=none->Q (.ref p) (upd H1 p (.tup vs))) w1 fun d e k=> ?_
 unfold Zw at e
 split at e
 ·rename_i hl
  cases e
  refine⟨by rw[Reps.length r1]; exact XD hl Yw,fun p hp=>k _ _ (ZG hp) (.tup Xi (Al.no w1.al hp) (r1.keep (Kept.same (ZG hp))))⟩
 ·cases e
theorem p_lst(h:PA X es (lEs S fs)):PE X (.List es pos) (lE S (sAs ZE fs)):=by
 refine PE.of (pe_lst h) fun σ H Q ⟨B,O,Fs,ρ,w,run⟩=> ?_
 refine⟨B,O,Fs,ρ,w,run.bind fun xs ρ1 vs O1 Fs1 H1 _ ev1 w1 r1 run1=> ?_⟩
 refine run1.of (r:=fun Q=>vs.length<=sizeLine∧∀p,H1 p=none->Q (.ref p) (upd H1 p (.lst vs))) w1 fun d e k=> ?_
 unfold ZE at e
 split at e
 ·rename_i hl
  cases e
  refine⟨by rw[Reps.length r1]; exact XD hl Yw,fun p hp=>k _ _ (ZG hp) (.lst (.inl Xi) (Al.no w1.al hp) (r1.keep (Kept.same (ZG hp))))⟩
 ·cases e
theorem Znd{r:List V->Hp->VK->Prop}{g:List D->Option D}(hg:Q9 S.G r g){σ:L2.St}{H:Hp}{Q:VK}(h:lE S (sAs g fs) σ H Q):lBs S fs σ H fun x H1=>r x H1 Q:=by
 obtain⟨B,O,Fs,ρ,w,run⟩:=h
 refine⟨B,O,Fs,ρ,w,run.bind fun x ρ1 v O1 Fs1 H1 _ ev1 w1 r1 run1=> ?_⟩
 exact run1.of (r:=fun Q=>r v H1 Q) w1 fun d e k=>hg O1 Fs1.flatten H1 v x d w1.al e r1 Q k
end
end Pu
namespace Pu
open PySem L2 PySem.Spec PyProof.Rows Pw
section
variable {K:PySem.W.Frag}{G:Gx K}{O:Addr->Prop}{F:List Addr}{H:Hp}
theorem Zbe:∀{vs:List V}{ds:List D}{Fs:List (List Addr)},All3 (Own G O H .sh) vs ds Fs->Reps G O H vs ds
 |_,_,_,.nil=> .nil
 |_,_,_,.cons h t=> .cons h.2 (Zbe t)
theorem Zbf:∀{ks:List (Key × V)}{kvs:List (D × D)}{Fs:List (List Addr)},All3 (fun(a:Key × V) (e:D × D) F=>e.1.key=some a.1∧Own G O H .sh a.2 e.2 F) ks kvs Fs->RepK G O H ks kvs
 |_,_,_,.nil=> .nil
 |_,_,_,.cons h t=> .cons h.1 h.2.2 (Zbf t)
theorem Zbg:∀{ks:List (List Key × V)}{kvs:List (D × D)}{Fs:List (List Addr)},All3 (fun(a:List Key × V) (e:D × D) F=>e.1.tkey=some a.1∧Own G O H .sh a.2 e.2 F) ks kvs Fs->RepT G O H ks kvs
 |_,_,_,.nil=> .nil
 |_,_,_,.cons h t=> .cons h.1 h.2.2 (Zbg t)
theorem ZfV:∀{ks:List (Str × V)}{kvs:List (Str × D)}{Fs:List (List Addr)},All3 (fun(a:Str × V) (b:Str × D) F=>a.1=b.1∧Own G O H (Z2 a.1) a.2 b.2 F) ks kvs Fs->RepF G O H ks kvs
 |_,_,_,.nil=> .nil
 |(f,v)::_,(g,d)::_,_,.cons h t=>by
  obtain⟨e,h⟩:=h
  cases (show f=g from e)
  exact .cons h.2 (ZfV t)
theorem BRep.lst{v:V}{ds:List D}(h:BRep G O F H v (.lst ds)):∃a vs,v= .ref a∧Rd H a (.lst vs)∧Reps G O H vs ds:=by
 rcases h with h|⟨p,_,_,h|h|h⟩
 ·cases h with
  |lst r n t=>exact⟨_,_,rfl,r,t⟩
 ·obtain⟨a,vs,ds',Fs,e1,e2,e3,_,e4⟩:=h
  cases e2
  exact⟨a,vs,e1,.inl e3,Zbe e4⟩
 ·obtain⟨a,kvs,Fs,e1,e2,⟨_,e3,_⟩|⟨_,e3,_⟩⟩:=h <;> cases e3
 ·obtain⟨a,C,dx,fvs,c,fs,Fs,e1,e2,_⟩:=h
  cases e2
theorem BRep.tup{v:V}{ds:List D}(h:BRep G O F H v (.tup ds)):∃a vs,v= .ref a∧H a=some (.tup vs)∧¬ O a∧Reps G O H vs ds:=by
 rcases h with h|⟨p,_,_,h|h|h⟩
 ·cases h with
  |tup r n t=>exact⟨_,_,rfl,r,n,t⟩
 ·obtain⟨a,vs,ds',Fs,e1,e2,_⟩:=h
  cases e2
 ·obtain⟨a,kvs,Fs,e1,e2,⟨_,e3,_⟩|⟨_,e3,_⟩⟩:=h <;> cases e3
 ·obtain⟨a,C,dx,fvs,c,fs,Fs,e1,e2,_⟩:=h
  cases e2
theorem BRep.shared{v:V}{d:D}(h:BRep G O F H v d)(n1:∀xs,d≠ .lst xs)(n2:∀xs,d≠ .dct xs∧d≠ .dtt xs)(n3:∀c xs,d≠ .obj c xs):Rep G O H v d:=by
 rcases h with h|⟨p,_,_,h|h|h⟩
 ·exact h
 ·obtain⟨a,vs,ds',Fs,e1,e2,_⟩:=h
  exact absurd e2 (n1 _)
 ·obtain⟨a,kvs,Fs,e1,e2,⟨_,e3,_⟩|⟨_,e3,_⟩⟩:=h
  ·exact absurd e3 (n2 _).1
  ·exact absurd e3 (n2 _).2
 ·obtain⟨a,C,dx,fvs,c,fs,Fs,e1,e2,_⟩:=h
  exact absurd e2 (n3 _ _)
def D.seq:D->Option (List D)
 |.lst xs=>some xs
 |.tup xs=>some xs
 |.ktp xs=>some xs
 |_=>none
def D.tpl:D->Option (List D)
 |.tup xs=>some xs
 |.ktp xs=>some xs
 |_=>none
theorem BRep.tpl{v:V}{d:D}{ds:List D}(h:BRep G O F H v d)(e:d.tpl=some ds):∃a vs,v= .ref a∧SqT K H a vs∧Reps G O H vs ds∧Rep G O H v d:=by
 cases d with
 |tup xs =>
  cases e
  have h':=h.shared (by intro _ z; cases z) (by intro _; exact⟨(by intro z; cases z),(by intro z; cases z)⟩) (by intro _ _ z; cases z)
  obtain⟨a,vs,e1,e2,_,e3⟩:=h.tup
  exact⟨a,vs,e1,SqT.of e2,e3,h'⟩
 |ktp xs =>
  cases e
  have h':=h.shared (by intro _ z; cases z) (by intro _; exact⟨(by intro z; cases z),(by intro z; cases z)⟩) (by intro _ _ z; cases z)
  cases h' with
  |ktp r t=>exact⟨_,_,rfl,r.sq,t,.ktp r t⟩
  |ftp r n t=>exact⟨_,_,rfl,r.sq,t,.ftp r n t⟩
 |_=>cases e
theorem BRep.seq{v:V}{d:D}{ds:List D}(h:BRep G O F H v d)(e:d.seq=some ds):∃a vs,v= .ref a∧(SqL K H a vs∨SqT K H a vs)∧Reps G O H vs ds:=by
 cases d with
 |lst xs =>
  cases e
  obtain⟨a,vs,e1,e2,e3⟩:=h.lst
  exact⟨a,vs,e1,.inl (.inl e2),e3⟩
 |tup xs =>
  cases e
  obtain⟨a,vs,e1,e2,e3,_⟩:=h.tpl rfl
  exact⟨a,vs,e1,.inr e2,e3⟩
 |ktp xs =>
  cases e
  obtain⟨a,vs,e1,e2,e3,_⟩:=h.tpl rfl
  exact⟨a,vs,e1,.inr e2,e3⟩
 |_=>cases e
theorem BRep.int{v:V}{i:Int}(h:BRep G O F H v (.int i)):v= .int i:=by
 have h':=h.shared (by intro _ z; cases z) (by intro _; exact⟨(by intro z; cases z),(by intro z; cases z)⟩) (by intro _ _ z; cases z)
 cases h'; rfl
theorem BRep.bl{v:V}{i:Bool}(h:BRep G O F H v (.bl i)):v= .bl i:=by
 have h':=h.shared (by intro _ z; cases z) (by intro _; exact⟨(by intro z; cases z),(by intro z; cases z)⟩) (by intro _ _ z; cases z)
 cases h'; rfl
theorem BRep.str{v:V}{i:Str}(h:BRep G O F H v (.str i)):v= .str i:=by
 have h':=h.shared (by intro _ z; cases z) (by intro _; exact⟨(by intro z; cases z),(by intro z; cases z)⟩) (by intro _ _ z; cases z)
 cases h'; rfl
theorem BRep.non{v:V}(h:BRep G O F H v .non):v= .non:=by
 have h':=h.shared (by intro _ z; cases z) (by intro _; exact⟨(by intro z; cases z),(by intro z; cases z)⟩) (by intro _ _ z; cases z)
 cases h'; rfl
theorem BRep.dct{v:V}{kvs:List (D × D)}(h:BRep G O F H v (.dct kvs)):∃a ks,v= .ref a∧Rd H a (.dK ks)∧RepK G O H ks kvs:=by
 rcases h with h|⟨p,_,_,h|h|h⟩
 ·cases h with
  |dk r n t=>exact⟨_,_,rfl,r,t⟩
 ·obtain⟨a,vs,ds',Fs,e1,e2,_⟩:=h
  cases e2
 ·obtain⟨a,kvs',Fs,e1,e2,⟨ks,e3,e4,e5⟩|⟨ks,e3,e4,e5⟩⟩:=h
  ·cases e3
   exact⟨a,ks,e1,.inl e4,Zbf e5⟩
  ·cases e3
 ·obtain⟨a,C,dx,fvs,c,fs,Fs,e1,e2,_⟩:=h
  cases e2
theorem BRep.dtt{v:V}{kvs:List (D × D)}(h:BRep G O F H v (.dtt kvs)):∃a ks,v= .ref a∧Rd H a (.dT ks)∧RepT G O H ks kvs:=by
 rcases h with h|⟨p,_,_,h|h|h⟩
 ·cases h with
  |dt r n t=>exact⟨_,_,rfl,r,t⟩
 ·obtain⟨a,vs,ds',Fs,e1,e2,_⟩:=h
  cases e2
 ·obtain⟨a,kvs',Fs,e1,e2,⟨ks,e3,e4,e5⟩|⟨ks,e3,e4,e5⟩⟩:=h
  ·cases e3
  ·cases e3
   exact⟨a,ks,e1,.inl e4,Zbg e5⟩
 ·obtain⟨a,C,dx,fvs,c,fs,Fs,e1,e2,_⟩:=h
  cases e2
theorem BRep.obj{v:V}{c:String}{fs:List (Str × D)}(h:BRep G O F H v (.obj c fs)):∃a C dx fvs,v= .ref a∧G.ca c=some C∧H a=some (.ins C dx fvs)∧(∀f,f∈fs.map (·.1)->NoAttr K C f)∧RepF G O H fvs fs:=by
 rcases h with h|⟨p,_,_,h|h|h⟩
 ·cases h with
  |obj e r n q t=>exact⟨_,_,_,_,rfl,e,r,q,t⟩
 ·obtain⟨a,vs,ds',Fs,e1,e2,_⟩:=h
  cases e2
 ·obtain⟨a,kvs,Fs,e1,e2,⟨_,e3,_⟩|⟨_,e3,_⟩⟩:=h <;> cases e3
 ·obtain⟨a,C,dx,fvs,c',fs',Fs,e1,e2,e3,e4,_,e6,e5⟩:=h
  cases e2
  exact⟨a,C,dx,fvs,e1,e3,e4,e6,ZfV e5⟩
end
mutual
def D.py:D->Option PyData
 |.non=>some .none
 |.bl b=>some (.bool b)
 |.int i=>some (.int i)
 |.str x=>some (.str x)
 |.lst xs=>(D.pys xs).map .list
 |.tup xs=>(D.pys xs).map .tuple
 |.ktp xs=>(D.pys xs).map .tuple
 |.dct _=>none
 |.dtt _=>none
 |.dnk _=>none
 |.obj _ _=>none
 |.cls _=>none
 |.klt _=>none
def D.pys:List D->Option (List PyData)
 |[]=>some []
 |d::ds=>match D.py d,D.pys ds with
  |some p,some ps=>some (p::ps)
  |_,_=>none
end
section
variable {K:PySem.W.Frag}{G:Gx K}{O:Addr->Prop}{F:List Addr}{H:Hp}
mutual
theorem Rep.dp:∀{d:D}{v:V}{p:PyData},Rep G O H v d->d.py=some p->Dp K H v p
 |.non,_,_,h,e=>by cases h; cases e; exact .non
 |.bl b,_,_,h,e=>by cases h; cases e; exact .bl b
 |.int i,_,_,h,e=>by cases h; cases e; exact .int i
 |.str x,_,_,h,e=>by cases h; cases e; exact .str x
 |.lst ds,_,_,h,e=>by
  cases h with
  |lst r n t =>
   obtain⟨ps,e1,e2⟩:=Xh.mp (show (D.pys ds).map PyData.list=_ from e)
   cases e2
   exact .lst (.inl r) (Reps.dp t e1)
 |.tup ds,_,_,h,e=>by
  cases h with
  |tup r n t =>
   obtain⟨ps,e1,e2⟩:=Xh.mp (show (D.pys ds).map PyData.tuple=_ from e)
   cases e2
   exact .tup (SqT.of r) (Reps.dp t e1)
 |.ktp ds,_,_,h,e=>by
  cases h with
  |ktp r t =>
   obtain⟨ps,e1,e2⟩:=Xh.mp (show (D.pys ds).map PyData.tuple=_ from e)
   cases e2
   exact .tup r.sq (Reps.dp t e1)
  |ftp r n t =>
   obtain⟨ps,e1,e2⟩:=Xh.mp (show (D.pys ds).map PyData.tuple=_ from e)
   cases e2
   exact .tup r.sq (Reps.dp t e1)
 |.dct _,_,_,_,e=>by cases e
 |.dtt _,_,_,_,e=>by cases e
 |.dnk _,_,_,_,e=>by cases e
 |.obj _ _,_,_,_,e=>by cases e
 |.cls _,_,_,_,e=>by cases e
 |.klt _,_,_,_,e=>by cases e
theorem Reps.dp:∀{ds:List D}{vs:List V}{ps:List PyData},Reps G O H vs ds->D.pys ds=some ps->DpAll K H vs ps
 |[],_,_,h,e=>by cases h; cases e; exact .nil
 |d::ds,_,_,h,e=>by
  cases h with
  |cons a t =>
   unfold D.pys at e
   split at e
   ·rename_i p ps e1 e2
    cases e
    exact .cons (Rep.dp a e1) (Reps.dp t e2)
   ·cases e
end
theorem BRep.dp{d:D}{v:V}{p:PyData}(h:BRep G O F H v d)(e:d.py=some p):Dp K H v p:=by
 cases d with
 |lst ds =>
  obtain⟨ps,e1,e2⟩:=Xh.mp (show (D.pys ds).map PyData.list=_ from e)
  cases e2
  obtain⟨a,vs,e3,e4,e5⟩:=h.lst
  subst e3
  exact .lst (.inl e4) (e5.dp e1)
 |dct _=>cases e
 |dtt _=>cases e
 |dnk _=>cases e
 |obj _ _=>cases e
 |cls _=>cases e
 |klt _=>cases e
 |_=>exact(h.shared (by intro _ z; cases z) (by intro _; exact⟨(by intro z; cases z),(by intro z; cases z)⟩) (by intro _ _ z; cases z)).dp e
end
def shp(p:PyData):Bool:=SeqAt.shaped p
def gEq(a b:D):Option D:=match a.py,b.py with
 |some p,some q=>if shp p && shp q then some (.bl (PyData.eqv p q)) else none
 |_,_=>none
def gNe(a b:D):Option D:=match a.py,b.py with
 |some p,some q=>if shp p && shp q then some (.bl (!PyData.eqv p q)) else none
 |_,_=>none
section
variable {K:PySem.W.Frag}{G:Gx K}
theorem oEq:OpP G (rEqD K) gEq:=by
 intro O F H x y a b d al e ha hb Q k
 unfold gEq at e
 split at e
 ·rename_i p q e1 e2
  split at e
  ·rename_i hs
   cases e
   rw[Xp] at hs
   exact⟨p,q,ha.dp e1,hb.dp e2,hs.1,hs.2,k _ _ (Xt H) (.bl _)⟩
  ·cases e
 ·cases e
theorem oNe:OpP G (rNeD K) gNe:=by
 intro O F H x y a b d al e ha hb Q k
 unfold gNe at e
 split at e
 ·rename_i p q e1 e2
  split at e
  ·rename_i hs
   cases e
   rw[Xp] at hs
   exact⟨p,q,ha.dp e1,hb.dp e2,hs.1,hs.2,k _ _ (Xt H) (.bl _)⟩
  ·cases e
 ·cases e
def gI(c:Int->Int->Bool)(g:Int->Int->D)(a b:D):Option D:=match a,b with
 |.int i,.int j=>if c i j then some (g i j) else none
 |_,_=>none
theorem oI{C:Int->Int->Prop}{c:Int->Int->Bool}{g:Int->Int->D}{gv:Int->Int->V}(hc:∀i j,c i j=true->C i j)(hg:∀O H i j,Rep G O H (gv i j) (g i j)):OpP G (rI C gv) (gI c g):=by
 intro O F H x y a b d al e ha hb Q k
 unfold gI at e
 split at e
 ·rename_i i j
  split at e
  ·rename_i hs
   cases e
   exact⟨i,j,ha.int,hb.int,hc i j hs,k _ _ (Xt H) (hg O H i j)⟩
  ·cases e
 ·cases e
def gI0(g:Int->Int->D)(a b:D):Option D:=match a,b with
 |.int i,.int j=>some (g i j)
 |_,_=>none
theorem oI0{g:Int->Int->D}{gv:Int->Int->V}(hg:∀O H i j,Rep G O H (gv i j) (g i j)):OpP G (rI0 gv) (gI0 g):=by
 intro O F H x y a b d al e ha hb Q k
 unfold gI0 at e
 split at e
 ·rename_i i j
  cases e
  exact⟨i,j,ha.int,hb.int,k _ _ (Xt H) (hg O H i j)⟩
 ·cases e
def Zg7:D->D->Option D:=gI0 fun i j=> .int (i - j)
def Zff:D->D->Option D:=gI (fun _ j=>decide (0 < j)) fun i j=> .int (i % j)
def gGt:D->D->Option D:=gI0 fun i j=> .bl (decide (j < i))
def gGe:D->D->Option D:=gI0 fun i j=> .bl (decide (j<=i))
theorem Zqj:OpP G (rI0 fun i j=> .int (i - j)) Zg7:=oI0 fun _ _ _ _=> .int _
theorem Zqk:OpP G (rI (fun _ j=>0 < j) fun i j=> .int (i % j)) Zff:=oI (fun i j h=>by simpa using h) fun _ _ _ _=> .int _
theorem oGt:OpP G (rI0 fun i j=> .bl (decide (j < i))) gGt:=oI0 fun _ _ _ _=> .bl _
theorem oGe:OpP G (rI0 fun i j=> .bl (decide (j<=i))) gGe:=oI0 fun _ _ _ _=> .bl _
def gLt(a b:D):Option D:=match a,b with
 |.int i,.int j=>some (.bl (decide (i < j)))
 |.str i,.str j=>some (.bl (decide (i.cps.toList < j.cps.toList)))
 |_,_=>none
def gLe(a b:D):Option D:=match a,b with
 |.int i,.int j=>some (.bl (decide (i<=j)))
 |.str i,.str j=>some (.bl (!decide (j.cps.toList < i.cps.toList)))
 |_,_=>none
theorem oLt:OpP G (fun x y H Q=>(rI0 fun i j=> .bl (decide (i < j))) x y H Q∨(∃i j,x= .str i∧y= .str j∧Q (.bl (decide (i.cps.toList < j.cps.toList))) H)) gLt:=by
 intro O F H x y a b d al e ha hb Q k
 unfold gLt at e
 split at e
 ·cases e
  exact .inl ⟨_,_,ha.int,hb.int,k _ _ (Xt H) (.bl _)⟩
 ·cases e
  exact .inr ⟨_,_,ha.str,hb.str,k _ _ (Xt H) (.bl _)⟩
 ·cases e
theorem oLe:OpP G (fun x y H Q=>(rI0 fun i j=> .bl (decide (i<=j))) x y H Q∨(∃i j,x= .str i∧y= .str j∧Q (.bl (!decide (j.cps.toList < i.cps.toList))) H)) gLe:=by
 intro O F H x y a b d al e ha hb Q k
 unfold gLe at e
 split at e
 ·cases e
  exact .inl ⟨_,_,ha.int,hb.int,k _ _ (Xt H) (.bl _)⟩
 ·cases e
  exact .inr ⟨_,_,ha.str,hb.str,k _ _ (Xt H) (.bl _)⟩
 ·cases e
def Zne:R2:=fun x y H Q=>∃l b xs zs,x= .ref l∧y= .ref b∧Rd H l (.lst xs)∧Rd H b (.lst zs)∧xs.length+zs.length<=sizeLine∧∀p,H p=none->Q (.ref p) (upd H p (.lst (xs++zs)))
theorem ZnB{X:Cx}:OpR X (binaryOp .Add) Zne:=by
 intro pins s σ H x y v u Q I rx ry h
 obtain⟨l,b,xs,zs,rfl,rfl,hH,hB,hz,q⟩:=h
 cases rx
 cases ry
 obtain⟨z,its,n,r,e⟩:=(show ObjOk X.prog X.w H s.heap l (.lst xs) from hH.ok I.hok)
 obtain⟨z2,its2,n2,r2,e2⟩:=(show ObjOk X.prog X.w H s.heap b (.lst zs) from hB.ok I.hok)
 have l1:=r.length
 have l2:=r2.length
 refine PySem.P.add_list e e2 ?_ (by rw[Vq,Vq]; omega)
 have ea:its.toArray++its2.toArray=(its++its2).toArray:=by simp
 rw[ea]
 exact⟨.ref _,_,I.lnew (t':=s.toks) (r.append r2) (by rw[XX]; omega),rfl,q _ I.fresh⟩
def Znf(K:PySem.W.Frag):R2:=fun x y H Q=>(rI0 fun i j=> .int (i+j)) x y H Q∨(∃i j,x= .str i∧y= .str j∧i.length+j.length<=sizeLine∧Q (.str (i++j)) H)∨rCatA K x y H Q∨Zne x y H Q
theorem ZnC{X:Cx}:OpR X (binaryOp .Add) (Znf X.K):=op_add.or (op_add_str.or (op_catA.or ZnB))
def Zg8(a b:D):Option D:=match a,b with
 |.int i,.int j=>some (.int (i+j))
 |.str i,.str j=>if i.length+j.length<=line then some (.str (i++j)) else none
 |.lst xs,.lst ys=>if xs.length+ys.length<=line then some (.lst (xs++ys)) else none
 |a,b=>match a.tpl,b.tpl with
  |some xs,some ys=>if xs.length+ys.length<=line then (if xs.isEmpty then some b else if ys.isEmpty then some a else some (.tup (xs++ys))) else none
  |_,_=>none
theorem Reps.append{O:Addr->Prop}{H:Hp}:∀{vs us:List V}{ds es:List D},Reps G O H vs ds->Reps G O H us es->Reps G O H (vs++us) (ds++es)
 |_,_,_,_,.nil,h=>h
 |_,_,_,_,.cons a t,h=> .cons a (Reps.append t h)
theorem Zc0{O:Addr->Prop}{H:Hp}{vs:List V}{ds:List D}(h:Reps G O H vs ds):vs= [] ↔ ds= []:=by
 cases h with
 |nil=>simp
 |cons _ _=>simp
theorem Zql:OpP G (Znf K) Zg8:=by
 intro O F H x y a b d al e ha hb Q k
 unfold Zg8 at e
 split at e
 ·cases e
  exact .inl ⟨_,_,ha.int,hb.int,k _ _ (Xt H) (.int _)⟩
 ·split at e
  ·rename_i hl
   cases e
   exact .inr (.inl ⟨_,_,ha.str,hb.str,XD hl Yw,k _ _ (Xt H) (.str _)⟩)
  ·cases e
 ·split at e
  ·rename_i hl
   cases e
   obtain⟨l,vs,e1,e2,e3⟩:=ha.lst
   obtain⟨m,us,e4,e5,e6⟩:=hb.lst
   refine .inr (.inr (.inr ⟨l,m,vs,us,e1,e4,e2,e5, ?_,fun p hp=>k _ _ (ZG hp) (.lst (.inl Xi) (Al.no al hp) ((e3.append e6).keep (Kept.same (ZG hp))))⟩))
   rw[e3.length,e6.length]
   exact XD hl Yw
  ·cases e
 ·split at e
  ·rename_i xs ys t1 t2
   split at e
   ·rename_i hl
    obtain⟨l,vs,e1,e2,e3,r1⟩:=ha.tpl t1
    obtain⟨m,us,e4,e5,e6,r2⟩:=hb.tpl t2
    have n1:=Zc0 e3
    have n2:=Zc0 e6
    refine .inr (.inr (.inl ⟨l,m,vs,us,e1,e4,e2,e5,by rw[e3.length,e6.length]; exact XD hl Yw,fun z=> ?_,fun z1 z2=> ?_,fun z1 z2 p hp=> ?_⟩))
    ·rw[show xs.isEmpty=true by rw[VQ]; exact n1.mp z,if_pos rfl] at e
     cases e
     rw[<- e4]
     exact k _ _ (Xt H) r2
    ·rw[show xs.isEmpty=false by rw[<- Vf,VQ]; exact fun q=>z1 (n1.mpr q),if_neg (by decide),show ys.isEmpty=true by rw[VQ]; exact n2.mp z2,if_pos rfl] at e
     cases e
     rw[<- e1]
     exact k _ _ (Xt H) r1
    ·rw[show xs.isEmpty=false by rw[<- Vf,VQ]; exact fun q=>z1 (n1.mpr q),if_neg (by decide),show ys.isEmpty=false by rw[<- Vf,VQ]; exact fun q=>z2 (n2.mpr q),if_neg (by decide)] at e
     cases e
     exact k _ _ (ZG hp) (.tup Xi (Al.no al hp) ((e3.append e6).keep (Kept.same (ZG hp))))
   ·cases e
  ·cases e
def ZjU(K:PySem.W.Frag)(neg:Bool):R2:=fun x y H Q=>∃d ds,Dp K H x d∧(Dp K H y (.list ds)∨Dp K H y (.tuple ds))∧SeqAt.shaped d=true∧SeqAt.shaped (.list ds)=true∧Q (.bl (if neg then !(ds.any fun z=>PyData.eqv z d) else ds.any fun z=>PyData.eqv z d)) H
theorem ZnD{X:Cx}(hu:X.A.units+65 < cLine):OpR X (compareOp .In) (ZjU X.K false):=by
 intro pins s σ H x y v u Q I rx ry h
 obtain⟨d,ds,hd,he,sd,se,q⟩:=h
 obtain⟨as,r1⟩:=Dp.reads I d x v hd rx
 rcases he with he|he
 ·obtain⟨bs,r2⟩:=Dp.reads I (.list ds) y u he ry
  exact SeqAt.in_list_reads r2 r1 (XY se) (XY sd) (room_in_shaped sd hu) ⟨.bl _,H,I,rfl,q⟩
 ·obtain⟨bs,r2⟩:=Dp.reads I (.tuple ds) y u he ry
  exact SeqAt.in_tuple_reads r2 r1 (XY se) (XY sd) (room_in_shaped sd hu) ⟨.bl _,H,I,rfl,q⟩
theorem Zl4{X:Cx}(hu:X.A.units+65 < cLine):OpR X (compareOp .NotIn) (ZjU X.K true):=by
 intro pins s σ H x y v u Q I rx ry h
 obtain⟨d,ds,hd,he,sd,se,q⟩:=h
 obtain⟨as,r1⟩:=Dp.reads I d x v hd rx
 rcases he with he|he
 ·obtain⟨bs,r2⟩:=Dp.reads I (.list ds) y u he ry
  exact SeqAt.notIn_list_reads r2 r1 (XY se) (XY sd) (room_in_shaped sd hu) ⟨.bl _,H,I,rfl,q⟩
 ·obtain⟨bs,r2⟩:=Dp.reads I (.tuple ds) y u he ry
  exact SeqAt.notIn_tuple_reads r2 r1 (XY se) (XY sd) (room_in_shaped sd hu) ⟨.bl _,H,I,rfl,q⟩
def Zl5(K:PySem.W.Frag)(neg:Bool):R2:=fun x y H Q=>ZjU K neg x y H Q∨∃(c:Nat) (z:Str),x= .str ⟨#[c]⟩∧y= .str z∧Q (.bl (if neg then !decide (c∈z.cps.toList) else decide (c∈z.cps.toList))) H
theorem Zk6{X:Cx}(hu:X.A.units+65 < cLine):OpR X (compareOp .In) (Zl5 X.K false):=(ZnD hu).or op_in_sign
theorem ZnE{X:Cx}(hu:X.A.units+65 < cLine):OpR X (compareOp .NotIn) (Zl5 X.K true):=(Zl4 hu).or op_notIn_sign
def ZjV(x:Str):Option Nat:=match x.cps.toList with
 |[c]=>some c
 |_=>none
def Zfg(neg:Bool)(x y:D):Option D:=match y with
 |.str z=>match x with
  |.str a=>match ZjV a with
   |some c=>some (.bl (if neg then !decide (c∈z.cps.toList) else decide (c∈z.cps.toList)))
   |none=>none
  |_=>none
 |y=>match y.seq with
  |some ds=>match x.py,D.pys ds with
   |some p,some ps=>if shp p && shp (.list ps) then some (.bl (if neg then !(ps.any fun z=>PyData.eqv z p) else ps.any fun z=>PyData.eqv z p)) else none
   |_,_=>none
  |none=>none
theorem Dp.ofT{H:Hp}{v:V}{a:Addr}{vs:List V}{ps:List PyData}(e:v= .ref a)(h:SqT K H a vs)(t:DpAll K H vs ps):Dp K H v (.tuple ps):=by
 subst e
 exact .tup h t
theorem Zl6{x:Str}{c:Nat}(h:ZjV x=some c):x=⟨#[c]⟩:=by
 unfold ZjV at h
 split at h
 ·rename_i d e
  cases h
  obtain⟨l⟩:=x
  have e:l.toList= [c]:=e
  have e2:l=#[c]:=by
   rw[<- Array.toArray_toList (xs:=l),e]
  rw[e2]
 ·cases h
theorem Zl7{neg:Bool}:OpP G (Zl5 K neg) (Zfg neg):=by
 intro O F H x y a b d al e ha hb Q k
 unfold Zfg at e
 split at e
 ·split at e
  ·split at e
   ·rename_i c hc
    cases e
    refine .inr ⟨c,_, ?_,hb.str,k _ _ (Xt H) (.bl _)⟩
    rw[ha.str,Zl6 hc]
   ·cases e
  ·cases e
 ·split at e
  ·rename_i ds hs
   split at e
   ·rename_i p ps e1 e2
    split at e
    ·rename_i hh
     cases e
     rw[Xp] at hh
     obtain⟨l,vs,e3,e4,e5⟩:=hb.seq hs
     refine .inl ⟨p,ps,ha.dp e1, ?_,hh.1,hh.2,k _ _ (Xt H) (.bl _)⟩
     rcases e4 with e4|e4
     ·rw[e3]
      exact .inl (.lst e4 (e5.dp e2))
     ·exact .inr (Dp.ofT e3 e4 (e5.dp e2))
    ·cases e
   ·cases e
  ·cases e
end
end Pu
namespace Pu
open PySem L2 PySem.Spec PyProof.Rows Pw
section
variable {K:PySem.W.Frag}{G:Gx K}{O:Addr->Prop}{F:List Addr}{H:Hp}
theorem Reps.get:∀{vs:List V}{ds:List D}{i:Nat}{d:D},Reps G O H vs ds->ds[i]?=some d->∃v,vs[i]?=some v∧Rep G O H v d
 |_,_,_,_,.nil,e=>by simp at e
 |_,_,0,_,.cons r _,e=>by simp at e; subst e; exact⟨_,rfl,r⟩
 |_,_,i+1,d,.cons _ t,e=>by
  obtain⟨v,h1,h2⟩:=Reps.get (i:=i) (d:=d) t (by simpa using e)
  exact⟨v,by simpa using h1,h2⟩
theorem Reps.atI{vs:List V}{ds:List D}{i:Int}{d:D}(h:Reps G O H vs ds)(e:atI ds i=some d):∃v,L2.atI vs i=some v∧Rep G O H v d:=by
 unfold L2.atI at e ⊢
 rw[h.length]
 cases j:ixN ds.length i with
 |none=>rw[j] at e; cases e
 |some n =>
  rw[j] at e
  exact h.get e
def ZjW(a b:D):Option D:=match b with
 |.int i=>match a with
  |.str z=>if z.length<=line then (atI z.cps.toList i).map fun c=> .str ⟨#[c]⟩ else none
  |a=>match a.seq with
   |some ds=>atI ds i
   |none=>none
 |_=>none
theorem Zqm:OpP G (rIx K) ZjW:=by
 intro O F H x y a b d al e ha hb Q k
 unfold ZjW at e
 split at e
 ·rename_i i
  split at e
  ·rename_i z
   split at e
   ·rename_i hl
    obtain⟨c,e1,e2⟩:=Xh.mp e
    cases e2
    exact .inr (.inr ⟨z,i,c,ha.str,hb.int,XD hl Yw,e1,k _ _ (Xt H) (.str _)⟩)
   ·cases e
  ·split at e
   ·rename_i ds hs
    obtain⟨p,vs,e1,e2,e3⟩:=ha.seq hs
    obtain⟨v,e4,e5⟩:=e3.atI e
    rcases e2 with e2|e2
    ·exact .inl ⟨p,vs,i,v,e1,hb.int,e2,e4,k _ _ (Xt H) e5⟩
    ·exact .inr (.inl ⟨p,vs,i,v,e1,hb.int,e2,e4,k _ _ (Xt H) e5⟩)
   ·cases e
 ·cases e
def Yp(a b:D):Bool:=match a.key,b.key with
 |some x,some y=>decide (x=y)
 |none,none=>match a.tkey,b.tkey with
  |some x,some y=>decide (x=y)
  |_,_=>false
 |_,_=>false
def Jv(kvs:List (D × D))(k:D):Option D:=(kvs.find? fun e=>Yp e.1 k).map (·.2)
theorem ZbW{v:V}{d:D}{k:Key}(h:Rep G O H v d)(e:d.key=some k):v=kV k:=by
 cases h with
 |int i=>cases e; rfl
 |str x=>cases e; rfl
 |_=>cases e
theorem Zfh:∀{ds:List D}{vs:List V}{ks:List Key},Reps G O H vs ds->D.keys ds=some ks->vs=ks.map kV
 |[],_,_,h,e=>by cases h; cases e; rfl
 |d::ds,_,_,h,e=>by
  cases h with
  |cons r t =>
   unfold D.keys at e
   split at e
   ·rename_i k ks e1 e2
    cases e
    rw[Xv,ZbW r e1,Zfh t e2]
   ·cases e
theorem Zdy{v:V}{d:D}{k:List Key}(h:Rep G O H v d)(e:d.tkey=some k):∃b,v= .ref b∧H b=some (.tup (k.map kV)):=by
 cases h with
 |tup r n t =>
  have:=Zfh t e
  subst this
  exact⟨_,rfl,r⟩
 |_=>cases e
theorem J4{d:D}{k:List Key}(e:d.tkey=some k):d.key=none:=by
 cases d <;> first|rfl|cases e
theorem Zk7{k:Key}{kd:D}(e:kd.key=some k):∀{ks:List (Key × V)}{kvs:List (D × D)},RepK G O H ks kvs->(∀d,Jv kvs kd=some d->∃v,valV ks k=some v∧Rep G O H v d)∧(Jv kvs kd=none->valV ks k=none)
 |_,_,.nil=>⟨fun d h=>(by cases h),fun _=>rfl⟩
 |_,_,.cons (k:=k1) (kd:=kd1) e1 r t=>by
  have ih:=Zk7 e t
  have hb:Yp kd1 kd=decide (k1=k):=by unfold Yp; rw[e1,e]
  unfold Jv valV at ih ⊢
  by_cases hk:k1=k
  ·rw[Vv (by rw[hb]; exact X5 hk),Vv (by exact X5 hk)]
   exact⟨fun d h=>⟨_,rfl,(by cases h; exact r)⟩,fun h=>(by cases h)⟩
  ·rw[Vw (by rw[hb]; simpa using hk),Vw (by simpa using hk)]
   exact ih
theorem Zk8{k:List Key}{kd:D}(e:kd.tkey=some k):∀{ks:List (List Key × V)}{kvs:List (D × D)},RepT G O H ks kvs->(∀d,Jv kvs kd=some d->∃v,valV ks k=some v∧Rep G O H v d)∧(Jv kvs kd=none->valV ks k=none)
 |_,_,.nil=>⟨fun d h=>(by cases h),fun _=>rfl⟩
 |_,_,.cons (k:=k1) (kd:=kd1) e1 r t=>by
  have ih:=Zk8 e t
  have hb:Yp kd1 kd=decide (k1=k):=by unfold Yp; rw[J4 e1,J4 e]; dsimp only; rw[e1,e]
  unfold Jv valV at ih ⊢
  by_cases hk:k1=k
  ·rw[Vv (by rw[hb]; exact X5 hk),Vv (by exact X5 hk)]
   exact⟨fun d h=>⟨_,rfl,(by cases h; exact r)⟩,fun h=>(by cases h)⟩
  ·rw[Vw (by rw[hb]; simpa using hk),Vw (by simpa using hk)]
   exact ih
def Zew(a k:D):Option D:=match a with
 |.dct kvs=>if k.key.isSome then Jv kvs k else none
 |.dtt kvs=>if k.tkey.isSome then Jv kvs k else none
 |_=>none
def Zbh(a k:D):Option (Option D):=match a with
 |.dct kvs=>if k.key.isSome then some (Jv kvs k) else none
 |.dtt kvs=>if k.tkey.isSome then some (Jv kvs k) else none
 |_=>none
def Zk9{K:PySem.W.Frag}(G:Gx K)(O:Addr->Prop)(H:Hp):Option V->Option D->Prop
 |some v,some d=>Rep G O H v d
 |none,none=>True
 |_,_=>False
theorem Zg9{v:V}{d:D}(h:BRep G O F H v d)(e:d.key.isSome=true∨d.tkey.isSome=true):Rep G O H v d:=by
 cases d with
 |lst _=>rcases e with e|e <;> cases e
 |dct _=>rcases e with e|e <;> cases e
 |dtt _=>rcases e with e|e <;> cases e
 |dnk _=>rcases e with e|e <;> cases e
 |obj _ _=>rcases e with e|e <;> cases e
 |_=>exact h.shared (by intro _ z; cases z) (by intro _; exact⟨(by intro z; cases z),(by intro z; cases z)⟩) (by intro _ _ z; cases z)
theorem Zfi{x y:V}{a k:D}{o:Option D}(ha:BRep G O F H x a)(hk:BRep G O F H y k)(e:Zbh a k=some o):∃p r,x= .ref p∧DGet H p y r∧Zk9 G O H r o:=by
 unfold Zbh at e
 split at e
 ·rename_i kvs
  split at e
  ·rename_i hs
   cases e
   obtain⟨p,ks,e1,e2,e3⟩:=ha.dct
   obtain⟨q,hq⟩:=Xy.mp hs
   have:=ZbW (Zg9 hk (.inl hs)) hq
   subst this
   refine⟨p,valV ks q,e1,.inl ⟨ks,q,e2,rfl,rfl⟩, ?_⟩
   obtain⟨l1,l2⟩:=Zk7 hq e3
   cases hl:Jv kvs k with
   |none=>rw[l2 hl]; exact True.intro
   |some d =>
    obtain⟨v,hv,r⟩:=l1 d hl
    rw[hv]
    exact r
  ·cases e
 ·rename_i kvs
  split at e
  ·rename_i hs
   cases e
   obtain⟨p,ks,e1,e2,e3⟩:=ha.dtt
   obtain⟨q,hq⟩:=Xy.mp hs
   obtain⟨b,eb,hb⟩:=Zdy (Zg9 hk (.inr hs)) hq
   subst eb
   refine⟨p,valV ks q,e1,.inr ⟨ks,q,b,e2,rfl,hb,rfl⟩, ?_⟩
   obtain⟨l1,l2⟩:=Zk8 hq e3
   cases hl:Jv kvs k with
   |none=>rw[l2 hl]; exact True.intro
   |some d =>
    obtain⟨v,hv,r⟩:=l1 d hl
    rw[hv]
    exact r
  ·cases e
 ·cases e
end
end Pu
namespace Pu
open PySem L2 PySem.Spec PyProof.Rows Pw
section
variable {K:PySem.W.Frag}{S:Sx K}{X:Cx}{e a b c o:Expr}{es:List Expr}{f fa fb fc:Env->R D}{fs:Env->R (List D)}{pos p apos cpos:Pos}
theorem PE.or2{f1 f2:Env->R D}(h1:PE X e (lE S f1))(h2:PE X e (lE S f2))(hf:∀ρ,f ρ=f1 ρ∨f ρ=f2 ρ):PE X e (lE S f):=by
 refine⟨fun pins s σ H Q I ⟨B,O,Fs,ρ,w,r⟩=> ?_⟩
 rcases hf ρ with h|h
 ·exact h1.run pins s σ H Q I ⟨B,O,Fs,ρ,w,h ▸ r⟩
 ·exact h2.run pins s σ H Q I ⟨B,O,Fs,ρ,w,h ▸ r⟩
theorem PT.or2{f f1 f2:Env->R Bool}(h1:PT X e (lT S f1))(h2:PT X e (lT S f2))(hf:∀ρ,f ρ=f1 ρ∨f ρ=f2 ρ):PT X e (lT S f):=by
 refine⟨fun pins s σ H Q I ⟨B,O,Fs,ρ,w,r⟩=> ?_⟩
 rcases hf ρ with h|h
 ·exact h1.run pins s σ H Q I ⟨B,O,Fs,ρ,w,h ▸ r⟩
 ·exact h2.run pins s σ H Q I ⟨B,O,Fs,ρ,w,h ▸ r⟩
def sB(f:Env->R D):Env->R Bool:=fun ρ=>(f ρ).bind fun d ρ1=>match d with
 |.bl b=> .ok b ρ1
 |_=> .bad
theorem Zbi{σ:L2.St}{H:Hp}{Q:Bool->Hp->Prop}(h:lT S (sB f) σ H Q):lE S f σ H fun x H'=>∃k,x= .bl k∧Q k H':=by
 obtain⟨B,O,Fs,ρ,w,run⟩:=h
 refine⟨B,O,Fs,ρ,w,run.bind fun x ρ1 v O1 Fs1 H1 _ ev1 w1 r1 run1=> ?_⟩
 cases x with
 |bl k =>
  cases r1
  exact⟨k,rfl,run1.use w1 rfl⟩
 |_=>exact run1.elim
theorem ZF(h:PE X e (lE S f))(he:∀whole,isTrue e X.env whole=(do let v <- whole; standAt e.pos; holding [v] (truthy v)):=by intro _; rfl):PT X e (lT S (sB f)) :=
  PT.of (pt_val h he) fun _ _ _ h=>Zbi h
theorem Zbj{op:CmpOp}{r:R2}{g:D->D->Option D}(ho:OpR X (compareOp op) r)(hg:OpP S.G r g)(ha:PE X a (lB S fa))(hb:PE X b (lB S fb))(hm:behindInMarks op b=false):PT X (.Compare a [op] [b] pos) (lT S (sB (sOp g fa fb))) :=
 PT.of (pt_cmpR ho ha hb hm) fun _ _ _ h=>lOp hg (Zbi h)
def Zcj(t u:Env->R Bool):Env->R Bool:=fun ρ=>(t ρ).bind fun k ρ1=>if k then u ρ1 else .ok false ρ1
def sOr(t u:Env->R Bool):Env->R Bool:=fun ρ=>(t ρ).bind fun k ρ1=>if k then .ok true ρ1 else u ρ1
def ZS(t:Env->R Bool):Env->R Bool:=fun ρ=>(t ρ).bind fun k ρ1=> .ok (!k) ρ1
variable {ta tb:Env->R Bool}{rest:List Expr}
theorem ZbX(ha:PT X a (lT S ta)):PW X (.BoolOp .And [a] pos) (lT S ta):=pw_and1 ha
theorem YU(ha:PT X a (lT S ta)):PW X (.BoolOp .Or [a] pos) (lT S ta):=pw_or1 ha
theorem Zbk(ha:PT X a (lT S ta))(hb:PW X (.BoolOp .And (b::rest) pos) (lT S tb)):PW X (.BoolOp .And (a::b::rest) pos) (lT S (Zcj ta tb)):=by
 refine PW.of (pw_and ha hb) fun σ H Q ⟨B,O,Fs,ρ,w,run⟩=>⟨B,O,Fs,ρ,w,run.bind fun k ρ1 v O1 Fs1 H1 _ ev1 w1 r1 run1=> ?_⟩
 cases (show v=k from r1)
 cases k with
 |true=>rw[if_pos rfl] at run1 ⊢; exact⟨B,O1,Fs1,ρ1,w1,run1⟩
 |false=>rw[if_neg (by decide)] at run1 ⊢; exact run1.use w1 rfl
theorem Yj(ha:PT X a (lT S ta))(hb:PW X (.BoolOp .Or (b::rest) pos) (lT S tb)):PW X (.BoolOp .Or (a::b::rest) pos) (lT S (sOr ta tb)):=by
 refine PW.of (pw_or ha hb) fun σ H Q ⟨B,O,Fs,ρ,w,run⟩=>⟨B,O,Fs,ρ,w,run.bind fun k ρ1 v O1 Fs1 H1 _ ev1 w1 r1 run1=> ?_⟩
 cases (show v=k from r1)
 cases k with
 |true=>rw[if_pos rfl] at run1 ⊢; exact run1.use w1 rfl
 |false=>rw[if_neg (by decide)] at run1 ⊢; exact⟨B,O1,Fs1,ρ1,w1,run1⟩
theorem ZI(ha:PT X a (lT S ta)):PT X (.UnaryOp .Not a pos) (lT S (ZS ta)):=by
 refine PT.of (pt_not ha) fun σ H Q ⟨B,O,Fs,ρ,w,run⟩=>⟨B,O,Fs,ρ,w,run.bind fun k ρ1 v O1 Fs1 H1 _ ev1 w1 r1 run1=> ?_⟩
 cases (show v=k from r1)
 exact run1.use w1 rfl
def Z9(fa fb:Env->R D):Env->R D:=fun ρ=>(fa ρ).bind fun d ρ1=>match d with
 |.bl true=>fb ρ1
 |.bl false=> .ok (.bl false) ρ1
 |_=> .bad
def ZgB(fa:Env->R D):Env->R D:=fun ρ=>(fa ρ).bind fun d ρ1=>match d with
 |.bl k=> .ok (.bl (!k)) ρ1
 |_=> .bad
theorem Y2{op}(h:PE X a (lE S fa)):PE X (.BoolOp op [a] pos) (lE S fa):=pe_one h
theorem YA(ha:PE X a (lE S fa))(hb:PE X (.BoolOp .And (b::rest) pos) (lE S fb)):PE X (.BoolOp .And (a::b::rest) pos) (lE S (Z9 fa fb)):=by
 refine PE.of (pe_and ha hb) fun σ H Q ⟨B,O,Fs,ρ,w,run⟩=>⟨B,O,Fs,ρ,w,run.bind fun k ρ1 v O1 Fs1 H1 _ ev1 w1 r1 run1=> ?_⟩
 cases k with
 |bl k =>
  cases r1
  refine⟨k,rfl, ?_⟩
  cases k with
  |true=>rw[if_pos rfl]; exact⟨B,O1,Fs1,ρ1,w1,run1⟩
  |false=>rw[if_neg (by decide)]; exact run1.use w1 (.bl _)
 |_=>exact run1.elim
theorem Zng(ha:PE X a (lE S fa)):PE X (.UnaryOp .Not a pos) (lE S (ZgB fa)):=by
 refine PE.of (pe_not ha) fun σ H Q ⟨B,O,Fs,ρ,w,run⟩=>⟨B,O,Fs,ρ,w,run.bind fun k ρ1 v O1 Fs1 H1 _ ev1 w1 r1 run1=> ?_⟩
 cases k with
 |bl k =>
  cases r1
  exact⟨k,rfl,run1.use w1 (.bl _)⟩
 |_=>exact run1.elim
def sIf(t:Env->R Bool)(fa fb:Env->R D):Env->R D:=fun ρ=>(t ρ).bind fun k ρ1=>if k then fa ρ1 else fb ρ1
theorem Zck(hc:PT X c (lT S ta))(ha:PE X a (lE S fa))(hb:PE X b (lE S fb)):PE X (.IfExp c a b pos) (lE S (sIf ta fa fb)):=by
 refine PE.of (pe_ifExp hc ha hb) fun σ H Q ⟨B,O,Fs,ρ,w,run⟩=>⟨B,O,Fs,ρ,w,run.bind fun k ρ1 v O1 Fs1 H1 _ ev1 w1 r1 run1=> ?_⟩
 cases (show v=k from r1)
 cases k with
 |true=>rw[if_pos rfl] at run1 ⊢; exact⟨B,O1,Fs1,ρ1,w1,run1⟩
 |false=>rw[if_neg (by decide)] at run1 ⊢; exact⟨B,O1,Fs1,ρ1,w1,run1⟩
def Zla(g':D->D->Option D)(fc:Env->R D)(y z:D)(ρ3:Env):R D:=match z with
 |.bl true=>(fc ρ3).bind fun w ρ4=>R.of (g' y w) ρ4
 |.bl false=> .ok (.bl false) ρ3
 |_=> .bad
def Zex(g g':D->D->Option D)(fa fb fc:Env->R D):Env->R D:=fun ρ=>(fa ρ).bind fun x ρ1=>(fb ρ1).bind fun y ρ2=>(R.of (g x y) ρ2).bind fun z ρ3=>Zla g' fc y z ρ3
theorem Zok{r r':R2}{g g':D->D->Option D}(hg:OpP S.G r g)(hg':OpP S.G r' g'){σ:L2.St}{H:Hp}{Q:VK}(h:lE S (Zex g g' fa fb fc) σ H Q):tChain r r' (lB S fa) (lB S fb) (lB S fc) σ H Q:=by
 obtain⟨B,O,Fs,ρ,w,run⟩:=h
 refine⟨B,O,Fs,ρ,w,run.bind fun x ρ1 v O1 Fs1 H1 _ ev1 w1 r1 run1=>⟨B,O1,Fs1,ρ1,w1,run1.bind fun y ρ2 u O2 Fs2 H2 _ ev2 w2 r2 run2=> ?_⟩⟩
 cases eg:g x y with
 |none=>rw[eg] at run2; exact run2.elim
 |some z =>
  rw[eg] at run2
  refine hg O2 Fs2.flatten H2 v u x y z w2.al eg (r1.ev w1 ev2) r2 _ fun v3 H3 sm r3=> ?_
  have ev3:Ev S.M O2 Fs2 H2 ρ2 O2 Fs2 H3 ρ2:=Ev.same sm
  have w3:=w2.same sm
  have run3:Run S (vE S) (Zla g' fc y z ρ2) B O2 Fs2 H3 σ ρ2 Q:=Run.shift run2 ev3
  cases z with
  |bl k =>
   cases r3
   refine⟨k,rfl, ?_⟩
   cases k with
   |false=>rw[if_neg (by decide)]; exact run3.use w3 (.bl _)
   |true =>
    rw[if_pos rfl]
    refine⟨B,O2,Fs2,ρ2,w3,run3.bind fun x4 ρ4 v4 O4 Fs4 H4 _ ev4 w4 r4 run4=> ?_⟩
    exact run4.of (r:=fun Q=>r' u v4 H4 Q) w4 fun d e k=>hg' O4 Fs4.flatten H4 u v4 y x4 d w4.al e ((r2.ev w2 ev3).ev w3 ev4) r4 Q k
  |_=>exact run3.elim
theorem Zjy{op op':CmpOp}{r r':R2}{g g':D->D->Option D}(ho:OpR X (compareOp op) r)(ho':OpR X (compareOp op') r')(hg:OpP S.G r g)(hg':OpP S.G r' g')(ha:PE X a (lB S fa))(hb:PE X b (lB S fb))(hc:PE X c (lB S fc))
  (hm:lastMarks [op,op'] [b,c]=false:=by with_unfolding_all rfl):PT X (.Compare a [op,op'] [b,c] pos) (lT S (sB (Zex g g' fa fb fc))) :=
 PT.of (pt_chain ho ho' ha hb hc hm) fun _ _ _ h=>Zok hg hg' (Zbi h)
def D.isNon:D->Bool
 |.non=>true
 |_=>false
def Zd7(x:D):Option D:=some (.bl x.isNon)
def Zdz(x:D):Option D:=some (.bl (!x.isNon))
theorem Zha{G:Gx K}{O:Addr->Prop}{F:List Addr}{H:Hp}{v:V}{d:D}(h:BRep G O F H v d):decide (v= .non)=d.isNon:=by
 have ref:∀{p:Addr},decide (V.ref p=V.non)=false:=by intro p; simp
 rcases h with h|⟨p,_,_,h|h|h⟩
 ·cases h <;> simp[D.isNon]
 ·obtain⟨a,vs,ds',Fs,e1,e2,_⟩:=h
  subst e1 e2
  simp[D.isNon]
 ·obtain⟨a,kvs,Fs,e1,e2,⟨_,e3,_⟩|⟨_,e3,_⟩⟩:=h <;> (subst e1 e3; simp[D.isNon])
 ·obtain⟨a,C,dx,fvs,c,fs,Fs,e1,e2,_⟩:=h
  subst e1 e2
  simp[D.isNon]
theorem Zqn{σ:L2.St}{H:Hp}{Q:VK}(h:lE S (sUn Zd7 fa) σ H Q):tIsN (lB S fa) σ H Q :=
 lUn (r:=fun x H Q=>Q (.bl (decide (x= .non))) H) (fun O F H x a d al e hb Q k=>by
  cases e
  rw[Zha hb]
  exact k _ _ (Xt H) (.bl _)) h
theorem Zpz{σ:L2.St}{H:Hp}{Q:VK}(h:lE S (sUn Zdz fa) σ H Q):tNotN (lB S fa) σ H Q :=
 lUn (r:=fun x H Q=>Q (.bl (!decide (x= .non))) H) (fun O F H x a d al e hb Q k=>by
  cases e
  rw[Zha hb]
  exact k _ _ (Xt H) (.bl _)) h
theorem Zey{j pos'}(ha:PE X a (lB S fa)):PT X (.Compare a [.Is] [.Constant .none j pos'] pos) (lT S (sB (sUn Zd7 fa))):=PT.of (pt_cmp (pc_isN ha)) fun _ _ _ h=>Zqn (Zbi h)
theorem Zez{j pos'}(ha:PE X a (lB S fa)):PT X (.Compare a [.IsNot] [.Constant .none j pos'] pos) (lT S (sB (sUn Zdz fa))):=PT.of (pt_cmp (pc_notN ha)) fun _ _ _ h=>Zpz (Zbi h)
def gIx(a b:D):Option D:=match a with
 |.dct _=>Zew a b
 |.dtt _=>Zew a b
 |_=>ZjW a b
theorem ZpA(hK:X.K=K)(ha:PE X a (lB S fa))(hb:PE X b (lB S fb))(hs:PlainIx b):PE X (.Subscript a b pos) (lE S (sOp ZjW fa fb)):=by
 subst hK
 exact PE.of (pe_ix ix_seq ha hb hs) fun _ _ _ h=>lOp Zqm h
theorem Zl8{x k d:D}(h:Zew x k=some d):Zbh x k=some (some d):=by
 unfold Zew at h
 unfold Zbh
 split at h
 ·split at h
  ·rename_i hs
   rw[if_pos hs,h]
  ·cases h
 ·split at h
  ·rename_i hs
   rw[if_pos hs,h]
  ·cases h
 ·cases h
theorem ZpB(hu:X.A.units+1 < cLine)(ha:PE X a (lB S fa))(hb:PE X b (lB S fb))(hs:NoSl b):PE X (.Subscript a b pos) (lE S (sOp Zew fa fb)):=by
 refine PE.of (pe_dget hu ha hb hs) fun σ H Q h=> ?_
 refine lOp (r:=fun x y H Q=>∃a v,x= .ref a∧DGet H a y (some v)∧Q v H) ?_ h
 intro O F H x y a b d al e ha hb Q k
 obtain⟨p,r,e1,e2,e3⟩:=Zfi ha hb (Zl8 e)
 cases r with
 |none=>exact e3.elim
 |some v=>exact⟨p,v,e1,e2,k _ _ (Xt H) e3⟩
theorem Zol{g g1 g2:D->D->Option D}(h:∀x,(∀y,g x y=g1 x y)∨(∀y,g x y=g2 x y))(ρ:Env):sOp g fa fb ρ=sOp g1 fa fb ρ∨sOp g fa fb ρ=sOp g2 fa fb ρ:=by
 unfold sOp
 cases e:fa ρ with
 |ok x ρ1 =>
  rcases h x with h|h
  ·exact .inl (by simp only[R.bind,h])
  ·exact .inr (by simp only[R.bind,h])
 |ex x ρ1=>exact .inl rfl
 |bad=>exact .inl rfl
theorem Zr(hK:X.K=K)(hu:X.A.units+1 < cLine)(ha:PE X a (lB S fa))(hb:PE X b (lB S fb))(hs:PlainIx b):PE X (.Subscript a b pos) (lE S (sOp gIx fa fb)) :=
 PE.or2 (ZpA hK ha hb hs) (ZpB hu ha hb hs) (Zol fun x=>by cases x <;> first|exact .inl fun _=>rfl|exact .inr fun _=>rfl)
def Zfj(neg:Bool)(k a:D):Option D:=(Zbh a k).map fun o=> .bl (if neg then !o.isSome else o.isSome)
def gIn(neg:Bool)(x y:D):Option D:=match y with
 |.dct _=>Zfj neg x y
 |.dtt _=>Zfj neg x y
 |_=>Zfg neg x y
theorem Zfk{g g1 g2:D->D->Option D}(h:∀y,(∀x,g x y=g1 x y)∨(∀x,g x y=g2 x y))(ρ:Env):sOp g fa fb ρ=sOp g1 fa fb ρ∨sOp g fa fb ρ=sOp g2 fa fb ρ:=by
 unfold sOp
 cases e:fa ρ with
 |ok x ρ1 =>
  cases e2:fb ρ1 with
  |ok y ρ2 =>
   rcases h y with h|h
   ·exact .inl (by simp only[R.bind,e2,h])
   ·exact .inr (by simp only[R.bind,e2,h])
  |ex x ρ1=>exact .inl (by simp only[R.bind,e2])
  |bad=>exact .inl (by simp only[R.bind,e2])
 |ex x ρ1=>exact .inl rfl
 |bad=>exact .inl rfl
theorem Zl9{neg:Bool}{G:Gx K}:OpP G (fun y x H Q=>∃a o,x= .ref a∧DGet H a y o∧Q (.bl (if neg then !o.isSome else o.isSome)) H) (Zfj neg):=by
 intro O F H x y a b d al e ha hb Q k
 obtain⟨o,e1,e2⟩:=Xh.mp e
 obtain⟨p,r,e3,e4,e5⟩:=Zfi hb ha e1
 have hs:r.isSome=o.isSome:=by
  cases r with
  |none=>cases o with
   |none=>rfl
   |some _=>exact e5.elim
  |some _=>cases o with
   |none=>exact e5.elim
   |some _=>rfl
 refine⟨p,r,e3,e4, ?_⟩
 cases e2
 rw[hs]
 exact k _ _ (Xt H) (.bl _)
theorem ZpC(hK:X.K=K)(hu:X.A.units+65 < cLine)(ha:PE X a (lB S fa))(hb:PE X b (lB S fb))(hm:behindInMarks .In b=false):PE X (.Compare a [.In] [b] pos) (lE S (sOp (Zfg false) fa fb)):=by
 subst hK
 exact Zci (Zk6 hu) Zl7 ha hb hm
theorem ZaZ(hK:X.K=K)(hu:X.A.units+65 < cLine)(ha:PE X a (lB S fa))(hb:PE X b (lB S fb))(hm:behindInMarks .In b=false):PE X (.Compare a [.In] [b] pos) (lE S (sOp (gIn false) fa fb)) :=
 PE.or2 (ZpC hK hu ha hb hm) (PE.of (pe_cmp (pc_din (by omega) ha hb) hm) fun _ _ _ h=>lOp (g:=Zfj false) Zl9 h) (Zfk fun x=>by cases x <;> first|exact .inl fun _=>rfl|exact .inr fun _=>rfl)
theorem ZpD(hK:X.K=K)(hu:X.A.units+65 < cLine)(ha:PE X a (lB S fa))(hb:PE X b (lB S fb))(hm:behindInMarks .In b=false):PT X (.Compare a [.In] [b] pos) (lT S (sB (sOp (Zfg false) fa fb))):=by
 subst hK
 exact Zbj (Zk6 hu) Zl7 ha hb hm
theorem Zom(hK:X.K=K)(hu:X.A.units+65 < cLine)(ha:PE X a (lB S fa))(hb:PE X b (lB S fb))(hm:behindInMarks .NotIn b=false):PT X (.Compare a [.NotIn] [b] pos) (lT S (sB (sOp (Zfg true) fa fb))):=by
 subst hK
 exact Zbj (ZnE hu) Zl7 ha hb hm
theorem Znh{f f1 f2:Env->R D}(h:∀ρ,f ρ=f1 ρ∨f ρ=f2 ρ)(ρ:Env):sB f ρ=sB f1 ρ∨sB f ρ=sB f2 ρ:=by
 unfold sB
 rcases h ρ with h|h
 ·exact .inl (by rw[h])
 ·exact .inr (by rw[h])
theorem ZbH(hK:X.K=K)(hu:X.A.units+65 < cLine)(ha:PE X a (lB S fa))(hb:PE X b (lB S fb))(hm:behindInMarks .In b=false):PT X (.Compare a [.In] [b] pos) (lT S (sB (sOp (gIn false) fa fb))) :=
 PT.or2 (ZpD hK hu ha hb hm) (PT.of (pt_cmp (pc_din (by omega) ha hb) hm) fun _ _ _ h=>lOp (g:=Zfj false) Zl9 (Zbi h)) (Znh (Zfk fun x=>by cases x <;> first|exact .inl fun _=>rfl|exact .inr fun _=>rfl))
theorem ZdA(hK:X.K=K)(hu:X.A.units+65 < cLine)(ha:PE X a (lB S fa))(hb:PE X b (lB S fb))(hm:behindInMarks .NotIn b=false):PT X (.Compare a [.NotIn] [b] pos) (lT S (sB (sOp (gIn true) fa fb))) :=
 PT.or2 (Zom hK hu ha hb hm) (PT.of (pt_cmp (pc_dnotin (by omega) ha hb) hm) fun _ _ _ h=>lOp (g:=Zfj true) Zl9 (Zbi h)) (Znh (Zfk fun x=>by cases x <;> first|exact .inl fun _=>rfl|exact .inr fun _=>rfl))
end
end Pu
namespace Pu
open PySem L2 PySem.Spec PyProof.Rows Pw
section
variable {K:PySem.W.Frag}{S:Sx K}{X:Cx}{e a b c o:Expr}{es:List Expr}{f fa fb fc:Env->R D}{fs:Env->R (List D)}{pos p apos cpos:Pos}
def Zy(n:Str):D->Option D
 |.obj _ fs=>fs.lookup n
 |_=>none
theorem Zc1{G:Gx K}{O:Addr->Prop}{H:Hp}{n:Str}{d:D}:∀{fvs:List (Str × V)}{fs:List (Str × D)},RepF G O H fvs fs->fs.lookup n=some d->∃v,fvs.lookup n=some v∧Rep G O H v d∧n∈fs.map (·.1)
 |_,_,.nil,e=>by cases e
 |(m,v)::_,_,.cons r t,e=>by
  by_cases hn:n=m
  ·subst hn
   rw[List.lookup_cons_self] at e ⊢
   cases e
   exact⟨v,rfl,r,by simp⟩
  ·have hb:(n == m)=false:=VE.mpr hn
   rw[Vs,hb] at e ⊢
   obtain⟨u,h1,h2,h3⟩:=Zc1 t e
   exact⟨u,h1,h2,Xm _ h3⟩
theorem Zz{n:Str}(hK:X.K=K)(ha:PE X e (lB S fa))(hb:attributeBase e n X.env (eval e X.env)=eval e X.env):PE X (.Attribute e n pos) (lE S (sUn (Zy n) fa)):=by
 subst hK
 refine PE.of (pe_fld ha hb) fun σ H Q h=> ?_
 refine lUn (r:=fun x H1 Q=>∃a C dx fs v,x= .ref a∧H1 a=some (.ins C dx fs)∧Cls X.K C∧NoAttr X.K C n∧fs.lookup n=some v∧Q v H1) ?_ h
 intro O F H x a d al e hb Q k
 cases a with
 |obj c fs =>
  obtain⟨a,C,dx,fvs,e1,e2,e3,e4,e5⟩:=hb.obj
  obtain⟨v,h1,h2,h3⟩:=Zc1 e5 e
  exact⟨a,C,dx,fvs,v,e1,e3,(S.G.oc e2).cl,e4 n h3,h1,k _ _ (Xt H) h2⟩
 |_=>cases e
theorem J5{id:String}{x:Str}{r:List V->Hp->VK->Prop}{g:List D->Option D}(hc:CallR X (.builtin id) r)(hg:Q9 S.G r g)(hgl:Gl X x)(hm:X.mg x=none)(hv:bootBuiltins x=some (.builtin id))(ha:PA X (e::es) (lBs S fs))(hn:x≠"__name__" :=by decide)(hdb:(x ==("__debug__" :Str))=false:=by decide)
  (he:starEach (e::es) X.env=(false,eval e X.env)::starEach es X.env:=by rfl)(hpl:(backTo pos (starEach es X.env)).any (·.1)=false:=by rfl):PE X (.Call (.Name x p) (e::es) [] pos) (lE S (sAs g fs)) :=
 PE.of (pe_callB hc hgl hm hv ha hn hdb he hpl) fun _ _ _ h=>Znd hg h
theorem Zfl{T:String}{x:Str}{r:List V->Hp->VK->Prop}{g:List D->Option D}(hc:CallR X (.type T) r)(hg:Q9 S.G r g)(hgl:Gl X x)(hm:X.mg x=none)(hv:bootBuiltins x=some (.type T))(ha:PA X (e::es) (lBs S fs))(hn:x≠"__name__" :=by decide)(hdb:(x ==("__debug__" :Str))=false:=by decide)
  (he:starEach (e::es) X.env=(false,eval e X.env)::starEach es X.env:=by rfl)(hpl:(backTo pos (starEach es X.env)).any (·.1)=false:=by rfl):PE X (.Call (.Name x p) (e::es) [] pos) (lE S (sAs g fs)) :=
 PE.of (pe_callTy hc hgl hm hv ha hn hdb he hpl) fun _ _ _ h=>Znd hg h
theorem Zlb{G:Gx K}{O:Addr->Prop}{F:List Addr}{H:Hp}{vs:List V}{d:D}(h:BReps G O F H vs [d]):∃v,vs= [v]∧BRep G O F H v d:=by
 cases h with
 |cons r t=>cases t; exact⟨_,rfl,r⟩
def g1(g:D->Option D):List D->Option D
 |[d]=>g d
 |_=>none
theorem c1{G:Gx K}{r:List V->Hp->VK->Prop}{g:D->Option D}(h:UnP G (fun x=>r [x]) g):Q9 G r (g1 g):=by
 intro O F H xs as d al e hb Q k
 match as,e with
 |[z],e =>
  obtain⟨v,e1,r1⟩:=Zlb hb
  subst e1
  exact h O F H v z d al e r1 Q k
def Yo:D->Option D
 |.str x=>if x.length<=line then some (.int x.length) else none
 |.dct kvs=>some (.int kvs.length)
 |.dtt kvs=>some (.int kvs.length)
 |d=>d.seq.map fun ds=> .int ds.length
def Zma(K:PySem.W.Frag):List V->Hp->VK->Prop:=fun xs H Q=>(∃p ys,xs= [.ref p]∧(SqL K H p ys∨SqT K H p ys)∧Q (.int ys.length) H)∨(∃z,xs= [.str z]∧z.length<=sizeLine∧Q (.int z.length) H)∨
 (∃a kvs,xs= [V.ref a]∧Rd H a (.dK kvs)∧Q (.int kvs.length) H)∨∃(p:Addr) (kvs:List (List Key × V)),xs= [.ref p]∧Rd H p (.dT kvs)∧Q (.int ((kvs.length:Nat):Int)) H
theorem Zlc:CallR X (.builtin "len") (Zma X.K):=by
 refine call_len_seq.or (call_len_str.or (CallR.or ?_ ?_))
 ·intro pins s σ H xs us Q I r h
  obtain⟨a,kvs,rfl,ha,q⟩:=h
  obtain⟨u,rfl,ru⟩:=vals1 r
  cases ru
  exact d_len I ha fun t s' I'=>⟨.int kvs.length,H,I',⟨t,rfl⟩,q⟩
 ·intro pins s σ H xs us Q I r h
  obtain⟨p,kvs,rfl,hp,q⟩:=h
  obtain⟨u,rfl,rx⟩:=vals1 r
  obtain rfl:u= .ref p:=rx
  obtain⟨z,hd,ys,rel,dd⟩:=dt_rd I.hok hp
  have hl:kvs.length=ys.length:=VG rel
  refine call_len_dictH hd dd (by rw[<- hl]; rw[sizeLine_eq] at z; omega) ?_
  rw[<- hl]
  exact⟨.int ((kvs.length:Nat):Int),H,I.tok _,⟨_,rfl⟩,q⟩
theorem RepK.length{G:Gx K}{O:Addr->Prop}{H:Hp}:∀{ks:List (Key × V)}{kvs:List (D × D)},RepK G O H ks kvs->ks.length=kvs.length
 |_,_,.nil=>rfl
 |_,_,.cons _ _ t=>by rw[Xs,Xs,RepK.length t]
theorem RepT.length{G:Gx K}{O:Addr->Prop}{H:Hp}:∀{ks:List (List Key × V)}{kvs:List (D × D)},RepT G O H ks kvs->ks.length=kvs.length
 |_,_,.nil=>rfl
 |_,_,.cons _ _ t=>by rw[Xs,Xs,RepT.length t]
theorem Zqo{G:Gx K}:Q9 G (Zma K) (g1 Yo):=by
 refine c1 fun O F H x a d al e hb Q k=> ?_
 have seqc:∀ds,a.seq=some ds->d= .int ds.length->Zma K [x] H Q:=fun ds hs ed=>by
  obtain⟨p,vs,e1,e2,e3⟩:=hb.seq hs
  refine .inl ⟨p,vs,by rw[e1],e2, ?_⟩
  rw[e3.length]
  subst ed
  exact k _ _ (Xt H) (.int _)
 cases a with
 |str z =>
  unfold Yo at e
  dsimp only at e
  split at e
  ·rename_i hl
   cases e
   exact .inr (.inl ⟨z,by rw[hb.str],XD hl Yw,k _ _ (Xt H) (.int _)⟩)
  ·cases e
 |dct kvs =>
  cases e
  obtain⟨p,ks,e1,e2,e3⟩:=hb.dct
  refine .inr (.inr (.inl ⟨p,ks,by rw[e1],e2, ?_⟩))
  rw[e3.length]
  exact k _ _ (Xt H) (.int _)
 |dtt kvs =>
  cases e
  obtain⟨p,ks,e1,e2,e3⟩:=hb.dtt
  refine .inr (.inr (.inr ⟨p,ks,by rw[e1],e2, ?_⟩))
  rw[e3.length]
  exact k _ _ (Xt H) (.int _)
 |lst ds=>cases e; exact seqc ds rfl rfl
 |tup ds=>cases e; exact seqc ds rfl rfl
 |ktp ds=>cases e; exact seqc ds rfl rfl
 |_=>cases e
theorem Ya(hK:X.K=K)(hm:X.mg "len" =none)(ha:PA X [e] (lBs S fs))(hgl:Gl X "len")(he:starEach (e:: []) X.env=(false,eval e X.env)::starEach [] X.env:=by rfl):PE X (.Call (.Name "len" p) [e] [] pos) (lE S (sAs (g1 Yo) fs)):=by
 subst hK
 exact J5 Zlc Zqo hgl hm (by decide +kernel) ha (by decide) (by decide) he (by rfl)
def D.bls:List D->Option (List Bool)
 |[]=>some []
 |.bl b::ds=>(D.bls ds).map (b:: ·)
 |_=>none
def D.ints:List D->Option (List Int)
 |[]=>some []
 |.int b::ds=>(D.ints ds).map (b:: ·)
 |_=>none
def D.strs:List D->Option (List Str)
 |[]=>some []
 |.str b::ds=>(D.strs ds).map (b:: ·)
 |_=>none
theorem Zd8{G:Gx K}{O:Addr->Prop}{H:Hp}:∀{ds:List D}{vs:List V}{bs:List Bool},Reps G O H vs ds->D.bls ds=some bs->vs=bs.map V.bl
 |[],_,_,h,e=>by cases h; cases e; rfl
 |d::ds,_,_,h,e=>by
  cases h with
  |cons r t =>
   cases r <;> try cases e
   obtain⟨bs,e1,e2⟩:=Xh.mp e
   cases e2
   rw[Xv,Zd8 t e1]
theorem ZfW{G:Gx K}{O:Addr->Prop}{H:Hp}:∀{ds:List D}{vs:List V}{bs:List Int},Reps G O H vs ds->D.ints ds=some bs->vs=bs.map V.int
 |[],_,_,h,e=>by cases h; cases e; rfl
 |d::ds,_,_,h,e=>by
  cases h with
  |cons r t =>
   cases r <;> try cases e
   obtain⟨bs,e1,e2⟩:=Xh.mp e
   cases e2
   rw[Xv,ZfW t e1]
theorem ZfX{G:Gx K}{O:Addr->Prop}{H:Hp}:∀{ds:List D}{vs:List V}{bs:List Str},Reps G O H vs ds->D.strs ds=some bs->vs=bs.map V.str
 |[],_,_,h,e=>by cases h; cases e; rfl
 |d::ds,_,_,h,e=>by
  cases h with
  |cons r t =>
   cases r <;> try cases e
   obtain⟨bs,e1,e2⟩:=Xh.mp e
   cases e2
   rw[Xv,ZfX t e1]
def Zay:D->Option D
 |.lst ds=>(D.bls ds).map fun bs=> .bl (bs.all id)
 |_=>none
def Zhb:D->Option D
 |.lst ds=>(D.bls ds).map fun bs=> .bl (bs.any id)
 |_=>none
def Zmb:D->Option D
 |.lst ds=>(D.ints ds).map fun bs=> .int bs.sum
 |_=>none
theorem Zqp{G:Gx K}:Q9 G (rAll K) (g1 Zay):=by
 refine c1 fun O F H x a d al e hb Q k=> ?_
 cases a with
 |lst ds =>
  obtain⟨bs,e1,e2⟩:=Xh.mp e
  cases e2
  obtain⟨p,vs,e3,e4,e5⟩:=hb.lst
  exact⟨p,bs,by rw[e3],by rw[<- Zd8 e5 e1]; exact .inl e4,k _ _ (Xt H) (.bl _)⟩
 |_=>cases e
theorem Zqq{G:Gx K}:Q9 G (rAny K) (g1 Zhb):=by
 refine c1 fun O F H x a d al e hb Q k=> ?_
 cases a with
 |lst ds =>
  obtain⟨bs,e1,e2⟩:=Xh.mp e
  cases e2
  obtain⟨p,vs,e3,e4,e5⟩:=hb.lst
  exact⟨p,bs,by rw[e3],by rw[<- Zd8 e5 e1]; exact .inl e4,k _ _ (Xt H) (.bl _)⟩
 |_=>cases e
theorem Zqr{G:Gx K}:Q9 G (rSum K) (g1 Zmb):=by
 refine c1 fun O F H x a d al e hb Q k=> ?_
 cases a with
 |lst ds =>
  obtain⟨bs,e1,e2⟩:=Xh.mp e
  cases e2
  obtain⟨p,vs,e3,e4,e5⟩:=hb.lst
  exact⟨p,bs,by rw[e3],by rw[<- ZfW e5 e1]; exact .inl e4,k _ _ (Xt H) (.int _)⟩
 |_=>cases e
theorem Zah(hK:X.K=K)(hcm:X.calm=true)(hm:X.mg "all" =none)(ha:PA X [e] (lBs S fs))(hgl:Gl X "all")(he:starEach (e:: []) X.env=(false,eval e X.env)::starEach [] X.env:=by rfl):PE X (.Call (.Name "all" p) [e] [] pos) (lE S (sAs (g1 Zay) fs)):=by
 subst hK
 exact J5 (cr_all hcm) Zqp hgl hm (by decide +kernel) ha (by decide) (by decide) he (by rfl)
theorem ZjX(hK:X.K=K)(hcm:X.calm=true)(hm:X.mg "any" =none)(ha:PA X [e] (lBs S fs))(hgl:Gl X "any")(he:starEach (e:: []) X.env=(false,eval e X.env)::starEach [] X.env:=by rfl):PE X (.Call (.Name "any" p) [e] [] pos) (lE S (sAs (g1 Zhb) fs)):=by
 subst hK
 exact J5 (cr_any hcm) Zqq hgl hm (by decide +kernel) ha (by decide) (by decide) he (by rfl)
theorem ZpE(hK:X.K=K)(hcm:X.calm=true)(hm:X.mg "sum" =none)(ha:PA X [e] (lBs S fs))(hgl:Gl X "sum")(he:starEach (e:: []) X.env=(false,eval e X.env)::starEach [] X.env:=by rfl):PE X (.Call (.Name "sum" p) [e] [] pos) (lE S (sAs (g1 Zmb) fs)):=by
 subst hK
 exact J5 (cr_sum hcm) Zqr hgl hm (by decide +kernel) ha (by decide) (by decide) he (by rfl)
def Yd(d:D):Option D:=match d with
 |.lst ds=>some (.tup ds)
 |.tup ds=>some (.tup ds)
 |.ktp ds=>some (.ktp ds)
 |_=>none
theorem Zmc{G:Gx K}:Q9 G (fun xs H Q=>∃p ys,xs= [.ref p]∧((SqL K H p ys∧∀l,H l=none->Q (.ref l) (upd H l (.tup ys)))∨(SqT K H p ys∧Q (.ref p) H))) (g1 Yd):=by
 refine c1 fun O F H x a d al e hb Q k=> ?_
 cases a with
 |lst ds =>
  cases e
  obtain⟨p,vs,e3,e4,e5⟩:=hb.lst
  exact⟨p,vs,by rw[e3],.inl ⟨.inl e4,fun l hl=>k _ _ (ZG hl) (.tup Xi (Al.no al hl) (e5.keep (Kept.same (ZG hl))))⟩⟩
 |tup ds =>
  cases e
  obtain⟨p,vs,e3,e4,e5,e6⟩:=hb.tpl rfl
  subst e3
  exact⟨p,vs,rfl,.inr ⟨e4,k _ _ (Xt H) e6⟩⟩
 |ktp ds =>
  cases e
  obtain⟨p,vs,e3,e4,e5,e6⟩:=hb.tpl rfl
  subst e3
  exact⟨p,vs,rfl,.inr ⟨e4,k _ _ (Xt H) e6⟩⟩
 |_=>cases e
theorem Yc(hK:X.K=K)(hm:X.mg "tuple" =none)(ha:PA X [e] (lBs S fs))(hgl:Gl X "tuple")(he:starEach (e:: []) X.env=(false,eval e X.env)::starEach [] X.env:=by rfl):PE X (.Call (.Name "tuple" p) [e] [] pos) (lE S (sAs (g1 Yd) fs)):=by
 subst hK
 exact Zfl call_tuple_of Zmc hgl hm (by decide +kernel) ha (by decide) (by decide) he (by rfl)
def Zbl:D->Option D
 |.int i=>some (.int i)
 |.bl k=>some (.int (if k then 1 else 0))
 |.str a=>if a.length<=640 then (intText? a).map .int else none
 |_=>none
theorem ZpF{G:Gx K}:Q9 G (fun xs H Q=>((∃i,xs= [.int i]∧Q (.int i) H)∨∃k,xs= [.bl k]∧Q (.int (if k then 1 else 0)) H)∨∃a n,xs= [.str a]∧PySem.intText? a=some n∧a.length<=640∧Q (.int n) H) (g1 Zbl):=by
 refine c1 fun O F H x a d al e hb Q k=> ?_
 cases a with
 |int i=>cases e; exact .inl (.inl ⟨i,by rw[hb.int],k _ _ (Xt H) (.int _)⟩)
 |bl b=>cases e; exact .inl (.inr ⟨b,by rw[hb.bl],k _ _ (Xt H) (.int _)⟩)
 |str z =>
  unfold Zbl at e
  dsimp only at e
  split at e
  ·rename_i hl
   obtain⟨n,e1,e2⟩:=Xh.mp e
   cases e2
   exact .inr ⟨z,n,by rw[hb.str],e1,hl,k _ _ (Xt H) (.int _)⟩
  ·cases e
 |_=>cases e
theorem Zhc(hm:X.mg "int" =none)(ha:PA X [e] (lBs S fs))(hgl:Gl X "int")(he:starEach (e:: []) X.env=(false,eval e X.env)::starEach [] X.env:=by rfl):PE X (.Call (.Name "int" p) [e] [] pos) (lE S (sAs (g1 Zbl) fs)) :=
 Zfl (call_int1.or call_int_str) ZpF hgl hm (by decide +kernel) ha (by decide) (by decide) he (by rfl)
def Zhd:D->Option D
 |.int i=>some (.int (if i < 0 then -i else i))
 |_=>none
theorem ZpG(hm:X.mg "abs" =none)(ha:PA X [e] (lBs S fs))(hgl:Gl X "abs")(he:starEach (e:: []) X.env=(false,eval e X.env)::starEach [] X.env:=by rfl):PE X (.Call (.Name "abs" p) [e] [] pos) (lE S (sAs (g1 Zhd) fs)) :=
 J5 call_abs (c1 fun O F H x a d al e hb Q k=>by
  cases a with
  |int i=>cases e; exact⟨i,by rw[hb.int],k _ _ (Xt H) (.int _)⟩
  |_=>cases e) hgl hm (by decide +kernel) ha (by decide) (by decide) he (by rfl)
end
end Pu
namespace Pu
open PySem L2 PySem.Spec PyProof.Rows Pw
theorem Zs{Fs:List (List Addr)}{j:Nat}{F':List Addr}{b:Addr}(h:b∈(Fs.set j F').flatten):b∈F'∨∃i F,i≠j∧Fs[i]?=some F∧b∈F:=by
 obtain⟨F,hF,hb⟩:=VP.mp h
 obtain⟨i,hi⟩:=List.getElem?_of_mem hF
 by_cases e:i=j
 ·subst e
  rw[List.getElem?_set_self' ] at hi
  cases q:Fs[i]? with
  |none=>rw[q] at hi; cases hi
  |some G=>rw[q] at hi; cases hi; exact .inl hb
 ·rw[Xf (XI e)] at hi
  exact .inr ⟨i,F,e,hi,hb⟩
theorem YI:∀{Fs:List (List Addr)},Fs.flatten.Nodup->∀{i j:Nat}{F F':List Addr},i≠j->Fs[i]?=some F->Fs[j]?=some F'->∀b∈F,b∉F'
 |[],_,_,_,_,_,_,e,_=>by simp at e
 |G::Gs,nd,i,j,F,F',hij,e1,e2=>by
  rw[Xw,X2] at nd
  intro b hb hb'
  cases i with
  |zero =>
   cases j with
   |zero=>exact hij rfl
   |succ j =>
    cases e1
    exact nd.2.2 b hb b (Zj (Xa (by simpa using e2)) hb') rfl
  |succ i =>
   cases j with
   |zero =>
    cases e2
    exact nd.2.2 b hb' b (Zj (Xa (by simpa using e1)) hb) rfl
   |succ j=>exact YI (i:=i) (j:=j) nd.2.1 (by omega) (by simpa using e1) (by simpa using e2) b hb hb'
theorem Y3:∀{Fs:List (List Addr)},Fs.flatten.Nodup->∀{i:Nat}{F:List Addr},Fs[i]?=some F->F.Nodup
 |[],_,_,_,e=>by simp at e
 |G::Gs,nd,i,F,e=>by
  rw[Xw,X2] at nd
  cases i with
  |zero=>cases e; exact nd.1
  |succ i=>exact Y3 nd.2.1 (by simpa using e)
theorem Y4:∀{Fs:List (List Addr)}{j:Nat}{F':List Addr},Fs.flatten.Nodup->F'.Nodup->(∀i F,i≠j->Fs[i]?=some F->∀b∈F',b∉F)->(Fs.set j F').flatten.Nodup
 |[],_,_,nd,_,_=>nd
 |G::Gs,0,F',nd,n',h=>by
  rw[Xw,X2] at nd
  rw[List.set_cons_zero,Xw,X2]
  refine⟨n',nd.2.1,fun a ha b hb e=> ?_⟩
  subst e
  obtain⟨F,hF,hb⟩:=VP.mp hb
  obtain⟨i,hi⟩:=List.getElem?_of_mem hF
  exact h (i+1) F (by omega) (by simpa using hi) a ha hb
 |G::Gs,j+1,F',nd,n',h=>by
  rw[Xw,X2] at nd
  rw[List.set_cons_succ,Xw,X2]
  refine⟨nd.1,Y4 nd.2.1 n' (fun i F hi e=>h (i+1) F (by omega) (by simpa using e)),fun a ha b hb e=> ?_⟩
  subst e
  rcases Zs hb with hb|⟨i,F,hi,e,hb⟩
  ·exact h 0 G (by omega) rfl a hb ha
  ·exact nd.2.2 a ha a (Zj (Xa e) hb) rfl
section
variable {K:PySem.W.Frag}{G:Gx K}{B O O':Addr->Prop}{Fs Fs':List (List Addr)}{H H':Hp}{σ:L2.St}{ρ ρ':Env}{M:List Md}
structure Upd (j:Nat) (O:Addr->Prop) (F:List Addr) (H:Hp) (O':Addr->Prop) (F':List Addr) (H':Hp):Prop where
 chg:∀b o,H b=some o->b∉F->H' b=some o
 dom:∀b o,H b=some o->∃o',H' b=some o'
 mono:∀b,O b->O' b
 grow:∀b,O' b->O b∨H b=none
 al:Al O' H'
 fgrow:∀b∈F',b∈F∨H b=none
 sub:∀b∈F',O' b
 nd:F'.Nodup
theorem Wd.put{j:Nat}{m:Md}{t:Shp}{v:V}{d':D}{F F':List Addr}(w:Wd G B O Fs H σ ρ M)(hm:M[j]?=some m)(ht:m= .ow t∨m= .op t)(hv:σ[j]?=some (some v))(hF:Fs[j]?=some F)(u:Upd j O F H O' F' H')(ow:Own G O' H' t v d' F') :
  Wd G B O' (Fs.set j F') H' σ (ρ.set j (some d')) M∧Ev M O Fs H ρ O' (Fs.set j F') H' (ρ.set j (some d')):=by
 have hj:j < M.length:=(Xu.mp hm).1
 have hF0:∀b∈F,b∈Fs.flatten:=fun b hb=>Zj (Xa hF) hb
 have ev:Ev M O Fs H ρ O' (Fs.set j F') H' (ρ.set j (some d')):=by
  refine⟨fun b o h n=>u.chg b o h fun z=>n (hF0 b z),u.dom,u.mono,u.grow,fun b hb=> ?_,fun i m' hi ho=> ?_⟩
  ·rcases Zs hb with hb|⟨i,F1,_,e,hb⟩
   ·exact(u.fgrow b hb).imp (hF0 b) id
   ·exact .inl (Zj (Xa e) hb)
  ·have:i≠j:=fun z=>by
    subst z
    rw[hm] at hi
    cases hi
    rcases ht with rfl|rfl <;> cases ho
   rw[Xf (XI this)]
 refine⟨⟨?_,fun a ha=> ?_,fun a h=>u.mono a (w.bo a h),u.al,w.ls,by rw[Xl]; exact w.lr,by rw[Xl]; exact w.lf,fun i m' v' d f h1 h2 h3 h4=> ?_⟩,ev⟩
 ·refine Y4 w.nd u.nd fun i F1 hi e b hb hb1=> ?_
  rcases u.fgrow b hb with z|z
  ·exact YI w.nd hi e hF b hb1 z
  ·obtain⟨o,ho⟩:=w.al b (w.sub b (Zj (Xa e) hb1))
   rw[z] at ho
   cases ho
 ·rcases Zs ha with ha|⟨i,F1,_,e,hb⟩
  ·exact u.sub a ha
  ·exact u.mono a (w.sub a (Zj (Xa e) hb))
 ·by_cases e:i=j
  ·subst e
   rw[hm] at h1
   cases h1
   rw[Xj (by rw[w.lr]; exact hj)] at h3
   rw[Xj (by rw[w.lf]; exact hj)] at h4
   rw[hv] at h2
   cases h2
   cases h3
   cases h4
   rcases ht with rfl|rfl
   ·refine⟨fun a ha=> ?_,v,d',rfl,rfl,ow⟩
    obtain⟨v0,d0,F0,e1,e2,e3,sl⟩:=w.get hm
    rw[hF] at e3
    cases e3
    rcases u.fgrow a ha with z|z
    ·exact sl.1 a z
    ·exact fun zb=>by
      obtain⟨o,ho⟩:=w.al a (w.bo a zb)
      rw[z] at ho
      cases ho
   ·exact⟨v,d',rfl,rfl,ow⟩
  ·rw[Xf (XI e)] at h3 h4
   have sl:=w.sl i m' v' d f h1 h2 h3 h4
   have k:Kept O H O' H':=ev.kept w.sub
   refine sl.keep k ev.chg (fun b hb=> ?_) (fun b o hb n z=> ?_)
   ·have hb2:b∈Fs.flatten:=Zj (Xa h4) hb
    obtain⟨o,ho⟩:=w.al b (w.sub b hb2)
    rw[ho]
    exact u.chg b o ho (YI w.nd e h4 hF b hb)
   ·rcases ev.fgrow b z with z|z
    ·exact n z
    ·rw[hb] at z; cases z
end
inductive RF where
 |ok (d:D) (ds:List D)
 |ex (x:Exn) (ds:List D)
 |bad
section
variable {K:PySem.W.Frag}{G:Gx K}{xa:String->Option Addr}
def SpF(G:Gx K)(xa:String->Option Addr)(pm:List Md)(g:List D->RF):Sp:=fun vs H Q E=>∃(O:Addr->Prop) (Fs:List (List Addr)) (ds:List D),Wd G O O Fs H (vs.map some) (ds.map some) pm∧
 match g ds with
 |.ok d ds'=>∀v O' Fs' H',Ev pm O Fs H (ds.map some) O' Fs' H' (ds'.map some)->Wd G O O' Fs' H' (vs.map some) (ds'.map some) pm->Rep G O' H' v d->Q v H'
 |.ex x ds'=>∀cls dd O' Fs' H',Ev pm O Fs H (ds.map some) O' Fs' H' (ds'.map some)->Wd G O O' Fs' H' (vs.map some) (ds'.map some) pm->XRep G xa O' H' cls dd x->E cls dd H'
 |.bad=>False
inductive AReps (G:Gx K) (O:Addr->Prop) (F:List Addr) (H:Hp):List Md->List V->List D->Prop
 |nil:AReps G O F H [] [] []
 |sh {ms:List Md}{v:V}{d:D}{vs:List V}{ds:List D}:Rep G O H v d->AReps G O F H ms vs ds->AReps G O F H (.sh::ms) (v::vs) (d::ds)
 |br {ms:List Md}{v:V}{d:D}{vs:List V}{ds:List D}:BRep G O F H v d->AReps G O F H ms vs ds->AReps G O F H (.br::ms) (v::vs) (d::ds)
theorem BRep.less{O:Addr->Prop}{F F':List Addr}{H:Hp}{v:V}{d:D}(h:BRep G O F H v d)(s:∀b∈F',b∈F):BRep G O F' H v d:=by
 rcases h with h|⟨p,n,r⟩
 ·exact .inl h
 ·exact .inr ⟨p,fun z=>n (s p z),r⟩
theorem AReps.len{O:Addr->Prop}{F:List Addr}{H:Hp}:∀{ms:List Md}{vs:List V}{ds:List D},AReps G O F H ms vs ds->vs.length=ms.length∧ds.length=ms.length
 |_,_,_,.nil=>⟨rfl,rfl⟩
 |_,_,_,.sh _ t=>by rw[Xs,Xs,Xs,t.len.1,t.len.2]; exact⟨rfl,rfl⟩
 |_,_,_,.br _ t=>by rw[Xs,Xs,Xs,t.len.1,t.len.2]; exact⟨rfl,rfl⟩
theorem AReps.slot{B O:Addr->Prop}{F F':List Addr}{H:Hp}(s:∀b∈F',b∈F):∀{ms:List Md}{vs:List V}{ds:List D}{i:Nat}{m:Md}{v:Option V}{d:Option D},AReps G O F H ms vs ds->ms[i]?=some m->(vs.map some)[i]?=some v->(ds.map some)[i]?=some d->SlOk G B O F' H m v d []
 |_,_,_,_,_,_,_,.nil,e,_,_=>by simp at e
 |_,_,_,0,_,_,_,.sh r _,e1,e2,e3=>by
  cases e1; cases e2; cases e3
  exact⟨rfl,_,_,rfl,rfl,r⟩
 |_,_,_,0,_,_,_,.br r _,e1,e2,e3=>by
  cases e1; cases e2; cases e3
  exact⟨rfl,_,_,rfl,rfl,r.less s⟩
 |_,_,_,i+1,_,_,_,.sh _ t,e1,e2,e3=>AReps.slot s t (by simpa using e1) (by simpa using e2) (by simpa using e3)
 |_,_,_,i+1,_,_,_,.br _ t,e1,e2,e3=>AReps.slot s t (by simpa using e1) (by simpa using e2) (by simpa using e3)
theorem YO:∀(n:Nat),(List.replicate n ([]:List Addr)).flatten= []
 |0=>rfl
 |n+1=>by rw[List.replicate_succ,Xw,YO n]; rfl
theorem AReps.wd{B O:Addr->Prop}{Fs:List (List Addr)}{H:Hp}{σ:L2.St}{ρ:Env}{M ms:List Md}{vs:List V}{ds:List D}(h:AReps G O Fs.flatten H ms vs ds)(w:Wd G B O Fs H σ ρ M) :
  Wd G O O (List.replicate ms.length []) H (vs.map some) (ds.map some) ms:=by
 refine⟨by rw[YO]; exact .nil,fun a ha=> ?_,fun _ h=>h,w.al,by rw[Xx]; exact h.len.1,by rw[Xx]; exact h.len.2,by simp,fun i m v d f e1 e2 e3 e4=> ?_⟩
 ·rw[YO] at ha; cases ha
 ·have:f= []:=by
   have:=Xa e4
   exact(Vy.mp this).2
  subst this
  exact h.slot (by rw[YO]; intro b hb; cases hb) e1 e2 e3
theorem Rep.anti{O O':Addr->Prop}{H:Hp}{v:V}{d:D}(h:Rep G O' H v d)(s:∀b,O b->O' b):Rep G O H v d :=
 h.keep ⟨fun _ _ _ _ r=>r,fun _ _ _ r=>r,fun _ _ _ r=>r,fun _ _ _ _ r=>r,fun _ _ _ _ _ r=>r,fun b z=> .inl (s b z)⟩
theorem RepF.anti{O O':Addr->Prop}{H:Hp}{v:List (Str × V)}{d:List (Str × D)}(h:RepF G O' H v d)(s:∀b,O b->O' b):RepF G O H v d :=
 h.keep ⟨fun _ _ _ _ r=>r,fun _ _ _ r=>r,fun _ _ _ r=>r,fun _ _ _ _ r=>r,fun _ _ _ _ _ r=>r,fun b z=> .inl (s b z)⟩
theorem XRep.anti{O O':Addr->Prop}{H:Hp}{cls:Value}{dd:Option Addr}{x:Exn}(h:XRep G xa O' H cls dd x)(s:∀b,O b->O' b):XRep G xa O H cls dd x:=by
 obtain⟨C,e1,e2,dx,fvs,e3,n,e4,e5⟩:=h
 exact⟨C,e1,e2,dx,fvs,e3,fun z=>n (s dx z),e4,e5.anti s⟩
end
section
variable {K:PySem.W.Frag}{S:Sx K}{X:Cx}{e:Expr}{es:List Expr}{fa:Env->R D}{fs:Env->R (List D)}{pos p apos:Pos}{ms:List Md}
abbrev vAs(S:Sx K)(ms:List Md):QI (List D) (List V):=fun O Fs H v d=>AReps S.G O Fs.flatten H ms v d
abbrev lAs(S:Sx K)(ms:List Md)(f:Env->R (List D)):TA:=lX S (vAs S ms) f
theorem Zd:PA X [] (lAs S [] Zb):=PA.of pa_nil fun _ _ _ ⟨_,_,_,_,w,r⟩=>r.use w .nil
theorem Zn(ha:PE X e (lE S fa))(hr:PA X es (lAs S ms fs))(hs:starEach (e::es) X.env=(false,eval e X.env)::starEach es X.env:=by rfl):PA X (e::es) (lAs S (.sh::ms) (Za fa fs)):=by
 refine PA.of (pa_cons ha hr hs) fun σ H Q ⟨B,O,Fs,ρ,w,run⟩=> ?_
 refine⟨B,O,Fs,ρ,w,run.bind fun x ρ1 v O1 Fs1 H1 _ ev1 w1 r1 run1=>⟨B,O1,Fs1,ρ1,w1,run1.bind fun y ρ2 u O2 Fs2 H2 _ ev2 w2 r2 run2=> ?_⟩⟩
 exact run2.use w2 (.sh (r1.ev w1 ev2) r2)
theorem Zt(ha:PE X e (lB S fa))(hr:PA X es (lAs S ms fs))(hs:starEach (e::es) X.env=(false,eval e X.env)::starEach es X.env:=by rfl):PA X (e::es) (lAs S (.br::ms) (Za fa fs)):=by
 refine PA.of (pa_cons ha hr hs) fun σ H Q ⟨B,O,Fs,ρ,w,run⟩=> ?_
 refine⟨B,O,Fs,ρ,w,run.bind fun x ρ1 v O1 Fs1 H1 _ ev1 w1 r1 run1=>⟨B,O1,Fs1,ρ1,w1,run1.bind fun y ρ2 u O2 Fs2 H2 _ ev2 w2 r2 run2=> ?_⟩⟩
 exact run2.use w2 (.br (r1.ev w1 ev2) r2)
def RF.toR(r:RF)(ρ:Env):R D:=match r with
 |.ok d _=> .ok d ρ
 |.ex x _=> .ex x ρ
 |.bad=> .bad
def Zo(g:List D->RF)(fs:Env->R (List D)):Env->R D:=fun ρ=>(fs ρ).bind fun ds ρ1=>(g ds).toR ρ1
theorem Zcl{g:List D->RF}{B O:Addr->Prop}{Fs:List (List Addr)}{H:Hp}{σ:L2.St}{ρ:Env}{vs:List V}{ds:List D}{Q:VK}(w:Wd S.G B O Fs H σ ρ S.M)(h:AReps S.G O Fs.flatten H ms vs ds)(run:Run S (vE S) ((g ds).toR ρ) B O Fs H σ ρ Q):SpF S.G S.xa ms g vs H Q (WE S.W σ):=by
 refine⟨O,List.replicate ms.length [],ds,h.wd w, ?_⟩
 have same:∀{O' Fs' H' ρ'},Ev ms O (List.replicate ms.length []) H (ds.map some) O' Fs' H' ρ'->Same H H':=fun e b o hb=>e.chg b o hb (by rw[YO]; intro z; cases z)
 cases e:g ds with
 |ok d ds' =>
  rw[e] at run
  exact fun v O' Fs' H' ev wd r=>run v O Fs H' (Ev.same (same ev)) (w.same (same ev)) (r.anti ev.mono)
 |ex x ds' =>
  rw[e] at run
  exact fun cls dd O' Fs' H' ev wd r=>run cls dd O Fs H' (Ev.same (same ev)) (w.same (same ev)) (r.anti ev.mono)
 |bad =>
  rw[e] at run
  exact run.elim
theorem Zon{CX:CXT}{k:Nat}{f:Addr}{fd:FuncData}{ps:List Str}{x:Str}{g:List D->RF}(F:FnOkG X.prog X.w X.K X.mg X.base (L2.CX X.prog X.w) k f fd ps (SpF S.G S.xa ms g))(hr:RoomG k X.A)(hg:Gl X x)(hm:X.mg x=some (.ref f))(hk:PySem.W.keepIn X.K (.ref f)=true)(hb:Binds X.K fd ps [])(tk:Takes X S.W)
  (ha:PA X (e::es) (lAs S ms fs))(hdb:(x ==("__debug__" :Str))=false:=by decide)(he:starEach (e::es) X.env=(false,eval e X.env)::starEach es X.env:=by rfl)(hpl:(backTo pos (starEach es X.env)).any (·.1)=false:=by rfl) :
  PE X (.Call (.Name x p) (e::es) [] pos) (lE S (Zo g fs)):=by
 refine PE.of (ZgY (E:=WE S.W) F hr hg hm hk hb .nil (fun σ=>passAt tk σ) ha hdb he hpl) fun σ H Q ⟨B,O,Fs,ρ,w,run⟩=> ?_
 refine⟨B,O,Fs,ρ,w,run.bind fun ds ρ1 vs O1 Fs1 H1 _ ev1 w1 r1 run1=> ?_⟩
 rw[Vd]
 exact Zcl w1 r1 run1
end
end Pu
namespace Pu
open PySem L2 PySem.Spec PyProof.Rows Pw
section
variable {K:PySem.W.Frag}{S:Sx K}{X:Cx}{e e0:Expr}{es:List Expr}{fa:Env->R D}{fs:Env->R (List D)}{pos p apos:Pos}{ms:List Md}{t:Shp}{j:Nat}
def Md.is(m:Md)(t:Shp):Prop:=m= .ow t∨m= .op t
theorem Wd.own{G:Gx K}{B O:Addr->Prop}{Fs:List (List Addr)}{H:Hp}{σ:L2.St}{ρ:Env}{M:List Md}{m:Md}(w:Wd G B O Fs H σ ρ M)(hm:M[j]?=some m)(ht:m.is t):∃v d F,σ[j]?=some (some v)∧ρ[j]?=some (some d)∧Fs[j]?=some F∧Own G O H t v d F:=by
 obtain⟨v,d,F,h1,h2,h3,sl⟩:=w.get hm
 rcases ht with rfl|rfl
 ·obtain⟨_,v',d',e1,e2,o⟩:=sl
  subst e1 e2
  exact⟨v',d',F,h1,h2,h3,o⟩
 ·obtain⟨v',d',e1,e2,o⟩:=sl
  subst e1 e2
  exact⟨v',d',F,h1,h2,h3,o⟩
def Shp.flat:Shp->Bool
 |.lst .sh=>true
 |.dct .sh=>true
 |_=>false
theorem ZjY{G:Gx K}{O:Addr->Prop}{H:Hp}{v:V}{d:D}{F:List Addr}(hf:t.flat=true∨t= .obj Z2)(h:Own G O H t v d F):∃p,F= [p]∧(∃o,H p=some o)∧(Own G O H (.lst .sh) v d [p]∨Own G O H (.dct .sh) v d [p]∨Own G O H (.obj Z2) v d [p]):=by
 have nil3:∀{α β:Type}{P:α->β->List Addr->Prop}{as:List α}{bs:List β}{Fs:List (List Addr)},All3 P as bs Fs->(∀a b c,P a b c->c= [])->Fs.flatten= []:=by
  intro α β P as bs Fs h hn
  induction h with
  |nil=>rfl
  |cons h t ih=>rw[Xw,ih,hn _ _ _ h]; rfl
 rcases hf with hf|hf
 ·cases t with
  |lst s =>
   cases s with
   |sh =>
    obtain⟨p,vs,ds,Fs,e1,e2,e3,e4,e5⟩:=id h
    have:=nil3 e5 fun _ _ _ h=>h.1
    rw[this] at e4
    subst e4
    exact⟨p,rfl,⟨_,e3⟩,.inl h⟩
   |_=>cases hf
  |dct s =>
   cases s with
   |sh =>
    obtain⟨p,kvs,Fs,e1,e4,⟨ks,e2,e3,e5⟩|⟨ks,e2,e3,e5⟩⟩:=id h
    ·have:=nil3 e5 fun _ _ _ h=>h.2.1
     rw[this] at e4
     subst e4
     exact⟨p,rfl,⟨_,e3⟩,.inr (.inl h)⟩
    ·have:=nil3 e5 fun _ _ _ h=>h.2.1
     rw[this] at e4
     subst e4
     exact⟨p,rfl,⟨_,e3⟩,.inr (.inl h)⟩
   |_=>cases hf
  |_=>cases hf
 ·subst hf
  obtain⟨p,C,dx,fvs,c,fs,Fs,e1,e2,e3,e6,e4,e7,e5⟩:=id h
  have:=nil3 e5 fun _ _ _ h=>h.2.1
  rw[this] at e4
  subst e4
  exact⟨p,rfl,⟨_,e6⟩,.inr (.inr h)⟩
theorem Wd.hide{G:Gx K}{B O:Addr->Prop}{Fs:List (List Addr)}{H:Hp}{σ:L2.St}{ρ:Env}{M:List Md}{m:Md}(w:Wd G B O Fs H σ ρ M)(hm:M[j]?=some m)(ht:m.is t)(hf:t.flat=true∨t= .obj Z2):Wd G B O (Fs.set j []) H σ ρ (M.set j .br):=by
 obtain⟨v,d,F,h1,h2,h3,ow⟩:=w.own hm ht
 have hj:j < M.length:=(Xu.mp hm).1
 have sub:∀b∈(Fs.set j []).flatten,b∈Fs.flatten:=fun b hb=>by
  rcases Zs hb with hb|⟨i,F1,_,e,hb⟩
  ·cases hb
  ·exact Zj (Xa e) hb
 refine⟨Y4 w.nd .nil (fun _ _ _ _ b hb=>by cases hb),fun a ha=>w.sub a (sub a ha),w.bo,w.al,by rw[Xl]; exact w.ls,by rw[Xl]; exact w.lr,by rw[Xl,Xl]; exact w.lf,fun i m' v' d' f e1 e2 e3 e4=> ?_⟩
 by_cases e:i=j
 ·subst e
  rw[Xj hj] at e1
  rw[Xj (by rw[w.lf]; exact hj)] at e4
  rw[h1] at e2
  rw[h2] at e3
  cases e1; cases e2; cases e3; cases e4
  obtain⟨p,rfl,ho,r⟩:=ZjY hf ow
  refine⟨rfl,v,d,rfl,rfl,.inr ⟨p,fun z=> ?_,ho,r⟩⟩
  rcases Zs z with z|⟨i',F1,hi,e,hb⟩
  ·cases z
  ·exact YI w.nd hi e h3 p hb (Xb.mpr rfl)
 ·rw[Xf (XI e)] at e1 e4
  have sl:=w.sl i m' v' d' f e1 e2 e3 e4
  exact sl.keep ⟨fun _ _ _ _ r=>r,fun _ _ _ r=>r,fun _ _ _ r=>r,fun _ _ _ _ r=>r,fun _ _ _ _ _ r=>r,fun _ z=> .inl z⟩ (fun _ _ h _=>h) (fun _ _=>rfl) (fun b _ _ n z=>n (sub b z))
theorem Wd.hideH{G:Gx K}{B O:Addr->Prop}{Fs:List (List Addr)}{H:Hp}{σ:L2.St}{ρ:Env}{M:List Md}{m:Md}(w:Wd G B O Fs H σ ρ M)(hm:M[j]?=some m):Wd G B O (Fs.set j []) H σ ρ (M.set j .hd):=by
 have hj:j < M.length:=(Xu.mp hm).1
 have sub:∀b∈(Fs.set j []).flatten,b∈Fs.flatten:=fun b hb=>by
  rcases Zs hb with hb|⟨i,F1,_,e,hb⟩
  ·cases hb
  ·exact Zj (Xa e) hb
 refine⟨Y4 w.nd .nil (fun _ _ _ _ b hb=>by cases hb),fun a ha=>w.sub a (sub a ha),w.bo,w.al,by rw[Xl]; exact w.ls,by rw[Xl]; exact w.lr,by rw[Xl,Xl]; exact w.lf,fun i m' v' d' f e1 e2 e3 e4=> ?_⟩
 by_cases e:i=j
 ·subst e
  rw[Xj hj] at e1
  rw[Xj (by rw[w.lf]; exact hj)] at e4
  cases e1; cases e4
  exact rfl
 ·rw[Xf (XI e)] at e1 e4
  have sl:=w.sl i m' v' d' f e1 e2 e3 e4
  exact sl.keep ⟨fun _ _ _ _ r=>r,fun _ _ _ r=>r,fun _ _ _ r=>r,fun _ _ _ _ r=>r,fun _ _ _ _ _ r=>r,fun _ z=> .inl z⟩ (fun _ _ h _=>h) (fun _ _=>rfl) (fun b _ _ n z=>n (sub b z))
theorem Wd.unhide{G:Gx K}{B O O':Addr->Prop}{Fs Fs':List (List Addr)}{H H':Hp}{σ:L2.St}{ρ ρ':Env}{M:List Md}{m:Md}(w:Wd G B O Fs H σ ρ M)(hm:M[j]?=some m)(ht:m.is t)
  {mo:Md}(hmo:mo= .br∨mo= .hd)(w':Wd G B O' Fs' H' σ ρ' (M.set j mo))(ev:Ev (M.set j mo) O (Fs.set j []) H ρ O' Fs' H' ρ'):∃Fs2,Wd G B O' Fs2 H' σ ρ' M∧Ev M O Fs H ρ O' Fs2 H' ρ'∧(∀b∈Fs'.flatten,b∈Fs2.flatten)∧(∀b∈Fs2.flatten,b∈Fs'.flatten∨b∈Fs.flatten)∧Fs2[j]?=Fs[j]?:=by
 obtain⟨v,d,F,h1,h2,h3,ow⟩:=w.own hm ht
 have hj:j < M.length:=(Xu.mp hm).1
 have hFO:∀b∈F,O b:=fun b hb=>w.sub b (Zj (Xa h3) hb)
 have nF:∀b∈F,b∉(Fs.set j []).flatten:=fun b hb z=>by
  rcases Zs z with z|⟨i,F1,hi,e,hb1⟩
  ·cases z
  ·exact YI w.nd hi e h3 b hb1 hb
 have sub:∀b∈(Fs.set j []).flatten,b∈Fs.flatten:=fun b hb=>by
  rcases Zs hb with hb|⟨i,F1,_,e,hb⟩
  ·cases hb
  ·exact Zj (Xa e) hb
 have kF:∀b∈F,H' b=H b:=fun b hb=>by
  obtain⟨o,ho⟩:=w.al b (hFO b hb)
  rw[ho]
  exact ev.chg b o ho (nF b hb)
 have hj':j < (M.set j mo).length:=by rw[Xl]; exact hj
 have ef:Fs'[j]?=some []:=by
  obtain⟨_,_,f,_,_,e3,sl⟩:=w'.get (i:=j) (m:=mo) (Xj hj)
  rcases hmo with rfl|rfl
  ·rw[e3,sl.1]
  ·rw[e3,sl]
 have nF':∀b∈F,b∉Fs'.flatten:=fun b hb z=>by
  rcases ev.fgrow b z with z|z
  ·exact nF b hb z
  ·obtain⟨o,ho⟩:=w.al b (hFO b hb)
   rw[ho] at z; cases z
 have sup:∀b∈Fs'.flatten,b∈(Fs'.set j F).flatten:=fun b hb=>by
  obtain⟨F1,hF1,hb1⟩:=VP.mp hb
  obtain⟨i,hi⟩:=List.getElem?_of_mem hF1
  have:i≠j:=fun z=>by
   subst z
   rw[ef] at hi
   cases hi
   cases hb1
  exact Zj (Xa (by rw[Xf (XI this)]; exact hi)) hb1
 have kp:Kept O H O' H':=ev.kept fun a ha=>w.sub a (sub a ha)
 refine⟨Fs'.set j F,⟨Y4 w'.nd (Y3 w.nd h3) (fun i F1 hi e b hb hb1=>nF' b hb (Zj (Xa e) hb1)),fun a ha=> ?_,w'.bo,w'.al,by rw[w'.ls,Xl],by rw[w'.lr,Xl],by rw[Xl,w'.lf,Xl],fun i m' v' d' f e1 e2 e3 e4=> ?_⟩,⟨fun b o h n=>ev.chg b o h fun z=>n (sub b z),ev.dom,ev.mono,ev.grow,fun b hb=> ?_,fun i m' e ho=> ?_⟩,sup,fun b hb=> ?_,by rw[Xj (by rw[w'.lf]; exact hj'),h3]⟩
 ·rcases Zs ha with ha|⟨i,F1,_,e,hb⟩
  ·exact ev.mono a (hFO a ha)
  ·exact w'.sub a (Zj (Xa e) hb)
 ·by_cases e:i=j
  ·subst e
   rw[hm] at e1
   rw[Xj (by rw[w'.lf]; exact hj')] at e4
   have hk:=ev.keep i mo (Xj hj) (by rcases hmo with rfl|rfl <;> rfl)
   rw[h2] at hk
   rw[hk] at e3
   rw[h1] at e2
   cases e1; cases e2; cases e3; cases e4
   have ow':=Own.keep kp t kF ow
   rcases ht with rfl|rfl
   ·obtain⟨v0,d0,F0,q1,q2,q3,sl⟩:=w.get hm
    rw[h3] at q3
    cases q3
    exact⟨sl.1,v,d,rfl,rfl,ow'⟩
   ·exact⟨v,d,rfl,rfl,ow'⟩
  ·rw[Xf (XI e)] at e4
   have sl:=w'.sl i m' v' d' f (by rw[Xf (XI e)]; exact e1) e2 e3 e4
   cases m' with
   |br =>
    obtain⟨q1,v1,d1,q2,q3,r⟩:=sl
    refine⟨q1,v1,d1,q2,q3, ?_⟩
    obtain⟨v2,d2,f2,g1,g2,g3,sl2⟩:=w.get e1
    obtain⟨_,v3,d3,g4,g5,r2⟩:=sl2
    subst g4 g5
    have hk:=ev.keep i .br (by rw[Xf (XI e)]; exact e1) rfl
    rw[e3,g2,q3] at hk
    rw[e2,q2] at g1
    cases hk
    cases g1
    rcases r2 with r2|⟨p,n,⟨o,ho⟩,r2⟩
    ·exact .inl (r2.keep kp)
    ·have np:p∉(Fs.set j []).flatten:=fun z=>n (sub p z)
     have kp1:∀b∈ [p],H' b=H b:=fun b hb=>by
      rw[Xb.mp hb,ho]
      exact ev.chg p o ho np
     refine .inr ⟨p,fun z=> ?_,⟨o,ev.chg p o ho np⟩, ?_⟩
     ·rcases Zs z with z|⟨i',F1,_,e',hb⟩
      ·exact n (Zj (Xa h3) z)
      ·rcases ev.fgrow p (Zj (Xa e') hb) with z|z
       ·exact np z
       ·rw[ho] at z; cases z
     ·rcases r2 with r2|r2|r2
      ·exact .inl (Own.keep kp _ kp1 r2)
      ·exact .inr (.inl (Own.keep kp _ kp1 r2))
      ·exact .inr (.inr (Own.keep kp _ kp1 r2))
   |na=>exact sl
   |hd=>exact sl
   |mb=>exact sl
   |th _ _ _ _=>exact sl
   |sh=>exact sl
   |ow t=>exact sl
   |op t=>exact sl
 ·rcases Zs hb with hb|⟨i,F1,_,e,hb⟩
  ·exact .inl (Zj (Xa h3) hb)
  ·exact(ev.fgrow b (Zj (Xa e) hb)).imp (sub b) id
 ·refine ev.keep i m' ?_ ho
  have:i≠j:=fun z=>by
   subst z
   rw[hm] at e
   cases e
   rcases ht with rfl|rfl <;> cases ho
  rw[Xf (XI this)]
  exact e
 ·rcases Zs hb with hb|⟨i,F1,_,e,hb⟩
  ·exact .inr (Zj (Xa h3) hb)
  ·exact .inl (Zj (Xa e) hb)
abbrev Sx.br(S:Sx K)(j:Nat):Sx K:= { S with M:=S.M.set j .br }
variable {m:Md}{f:Env->R D}
theorem Zmd{α β:Type}{VR:QI α β}{r:R α}{B O:Addr->Prop}{Fs:List (List Addr)}{H:Hp}{σ:L2.St}{ρ:Env}{Q:β->Hp->Prop}(w:Wd S.G B O Fs H σ ρ S.M)(hm:S.M[j]?=some m)(ht:m.is t)(hv:∀O Fs Fs' H v d,(∀b∈Fs.flatten,b∈Fs'.flatten)->VR O Fs H v d->VR O Fs' H v d)
  (run:Run S VR r B O Fs H σ ρ Q):Run (S.br j) VR r B O (Fs.set j []) H σ ρ Q:=by
 cases r with
 |ok d ρ' =>
  intro v O' Fs' H' ev wd x
  obtain⟨Fs2,w2,ev2,sp,_⟩:=w.unhide hm ht (.inl rfl) wd ev
  exact run v O' Fs2 H' ev2 w2 (hv _ _ _ _ _ _ sp x)
 |ex x ρ' =>
  intro cls dd O' Fs' H' ev wd x
  obtain⟨Fs2,w2,ev2,sp,_⟩:=w.unhide hm ht (.inl rfl) wd ev
  exact run cls dd O' Fs2 H' ev2 w2 x
 |bad=>exact run
theorem JL(hm:S.M[j]?=some m)(ht:m.is t)(hf:t.flat=true∨t= .obj Z2)(h:PE X e (lE (S.br j) f)):PE X e (lE S f) :=
 PE.of h fun σ H Q ⟨B,O,Fs,ρ,w,run⟩=>⟨B,O,Fs.set j [],ρ,w.hide hm ht hf,Zmd w hm ht (fun _ _ _ _ _ _ _ h=>h) run⟩
end
end Pu
namespace Pu
open PySem L2 PySem.Spec PyProof.Rows Pw
inductive Wk:List Md->List Md->Prop
 |refl (M:List Md):Wk M M
 |na {M M':List Md}(j:Nat):Wk (M.set j .na) M'->Wk M M'
 |fr {M M':List Md}(j:Nat) (t:Shp):M[j]?=some (.ow t)->Wk (M.set j .sh) M'->Wk M M'
 |br {M M':List Md}(j:Nat):M[j]?=some .sh->Wk (M.set j .br) M'->Wk M M'
 |mb {M M':List Md}(j:Nat):M[j]?=some .sh->Wk (M.set j .mb) M'->Wk M M'
section
variable {K:PySem.W.Frag}{G:Gx K}{B O O1:Addr->Prop}{Fs:List (List Addr)}{H:Hp}{σ:L2.St}{ρ:Env}{M M':List Md}
theorem Zbm(s:∀b,O1 b->O b):Kept O H O1 H:=⟨fun _ _ _ _ r=>r,fun _ _ _ r=>r,fun _ _ _ r=>r,fun _ _ _ _ r=>r,fun _ _ _ _ _ r=>r,fun b z=> .inl (s b z)⟩
theorem ZeA{t:Shp}(ih:∀{v:V}{d:D}{F:List Addr},(∀a∈F,¬ O1 a)->Own G O H t v d F->Rep G O1 H v d):∀{vs:List V}{ds:List D}{Fs:List (List Addr)},(∀a∈Fs.flatten,¬ O1 a)->All3 (Own G O H t) vs ds Fs->Reps G O1 H vs ds
 |_,_,_,_,.nil=> .nil
 |_,_,_,n,.cons h t=> .cons (ih (fun a ha=>n a (by rw[Xw]; exact Vg _ ha)) h) (ZeA ih (fun a ha=>n a (by rw[Xw]; exact XC _ ha)) t)
theorem ZeB{t:Shp}(ih:∀{v:V}{d:D}{F:List Addr},(∀a∈F,¬ O1 a)->Own G O H t v d F->Rep G O1 H v d):∀{ks:List (Key × V)}{kvs:List (D × D)}{Fs:List (List Addr)},(∀a∈Fs.flatten,¬ O1 a)->All3 (fun(a:Key × V) (e:D × D) F=>e.1.key=some a.1∧Own G O H t a.2 e.2 F) ks kvs Fs->RepK G O1 H ks kvs
 |_,_,_,_,.nil=> .nil
 |_,_,_,n,.cons h t=> .cons h.1 (ih (fun a ha=>n a (by rw[Xw]; exact Vg _ ha)) h.2) (ZeB ih (fun a ha=>n a (by rw[Xw]; exact XC _ ha)) t)
theorem ZeC{t:Shp}(ih:∀{v:V}{d:D}{F:List Addr},(∀a∈F,¬ O1 a)->Own G O H t v d F->Rep G O1 H v d):∀{ks:List (List Key × V)}{kvs:List (D × D)}{Fs:List (List Addr)},(∀a∈Fs.flatten,¬ O1 a)->All3 (fun(a:List Key × V) (e:D × D) F=>e.1.tkey=some a.1∧Own G O H t a.2 e.2 F) ks kvs Fs->RepT G O1 H ks kvs
 |_,_,_,_,.nil=> .nil
 |_,_,_,n,.cons h t=> .cons h.1 (ih (fun a ha=>n a (by rw[Xw]; exact Vg _ ha)) h.2) (ZeC ih (fun a ha=>n a (by rw[Xw]; exact XC _ ha)) t)
theorem ZeD{f:Str->Shp}(ih:∀(n:Str){v:V}{d:D}{F:List Addr},(∀a∈F,¬ O1 a)->Own G O H (f n) v d F->Rep G O1 H v d):∀{ks:List (Str × V)}{kvs:List (Str × D)}{Fs:List (List Addr)},(∀a∈Fs.flatten,¬ O1 a)->All3 (fun(a:Str × V) (b:Str × D) F=>a.1=b.1∧Own G O H (f a.1) a.2 b.2 F) ks kvs Fs->RepF G O1 H ks kvs
 |_,_,_,_,.nil=> .nil
 |(x,v)::_,(y,d)::_,_,n,.cons h t=>by
  obtain⟨e,h⟩:=h
  cases (show x=y from e)
  exact .cons (ih x (fun a ha=>n a (by rw[Xw]; exact Vg _ ha)) h) (ZeD ih (fun a ha=>n a (by rw[Xw]; exact XC _ ha)) t)
theorem Reps.ints:∀xs:List Int,Reps G O1 H (xs.map V.int) (xs.map D.int)
 |[]=> .nil
 |x::xs=> .cons (.int x) (Reps.ints xs)
theorem Own.freeze(s:∀b,O1 b->O b):∀(t:Shp){v:V}{d:D}{F:List Addr},(∀a∈F,¬ O1 a)->Own G O H t v d F->Rep G O1 H v d
 |.sh,_,_,_,_,⟨_,h⟩=>h.anti s
 |.deal,_,_,_,n,⟨p,l,xs,i,h1,h2,h3,h4,h5⟩=>by
  subst h1 h2 h5
  exact .lst (.inl h3) (n p (by simp)) (.cons (.lst (.inl h4) (n l (by simp)) (Reps.ints xs)) (.cons (.int i) .nil))
 |.tab,_,_,_,_,⟨_,h,_⟩=>h.anti s
 |.nk,_,_,_,n,⟨p,es,kvs,h1,h2,h3,h4,h5⟩=>by
  subst h1 h2 h5
  exact .dn h3 (n p (by simp)) (h4.keep (Zbm s))
 |.lst t,_,_,_,n,⟨p,vs,ds,Fs,h1,h2,h3,h4,h5⟩=>by
  subst h1 h2 h4
  exact .lst (.inl h3) (n p (Xg ..)) (ZeA (Own.freeze s t) (fun a ha=>n a (Xm _ ha)) h5)
 |.dct t,_,_,_,n,⟨p,kvs,Fs,h1,h4,h⟩=>by
  subst h1 h4
  rcases h with⟨ks,h2,h3,h5⟩|⟨ks,h2,h3,h5⟩
  ·subst h2
   exact .dk (.inl h3) (n p (Xg ..)) (ZeB (Own.freeze s t) (fun a ha=>n a (Xm _ ha)) h5)
  ·subst h2
   exact .dt (.inl h3) (n p (Xg ..)) (ZeC (Own.freeze s t) (fun a ha=>n a (Xm _ ha)) h5)
 |.obj f,_,_,_,n,⟨p,C,dx,fvs,c,fs,Fs,h1,h2,h3,h4,h5,h6,h7⟩=>by
  subst h1 h2 h5
  exact .obj h3 h4 (n p (Xg ..)) h6 (ZeD (fun x=>Own.freeze s (f x)) (fun a ha=>n a (Xm _ ha)) h7)
structure Less (O:Addr->Prop) (Fs:List (List Addr)) (O1:Addr->Prop) (Fs1:List (List Addr)):Prop where
 o:∀b,O1 b->O b
 f:∀b,b∈Fs1.flatten->b∈Fs.flatten
theorem Less.refl:Less O Fs O Fs:=⟨fun _ h=>h,fun _ h=>h⟩
theorem Less.trans{O2:Addr->Prop}{Fs1 Fs2:List (List Addr)}(a:Less O Fs O1 Fs1)(b:Less O1 Fs1 O2 Fs2):Less O Fs O2 Fs2:=⟨fun c h=>a.o c (b.o c h),fun c h=>a.f c (b.f c h)⟩
theorem Y5{j:Nat}:∀b∈(Fs.set j []).flatten,b∈Fs.flatten:=fun b hb=>by
 rcases Zs hb with hb|⟨i,F1,_,e,hb⟩
 ·cases hb
 ·exact Zj (Xa e) hb
theorem Wd.dropNa(w:Wd G B O Fs H σ ρ M)(j:Nat):Wd G B O (Fs.set j []) H σ ρ (M.set j .na):=by
 refine⟨Y4 w.nd .nil (fun _ _ _ _ b hb=>by cases hb),fun a ha=>w.sub a (Y5 a ha),w.bo,w.al,by rw[Xl]; exact w.ls,by rw[Xl]; exact w.lr,by rw[Xl,Xl]; exact w.lf,fun i m v d f e1 e2 e3 e4=> ?_⟩
 by_cases e:i=j
 ·subst e
  by_cases hj:i < M.length
  ·rw[Xj hj] at e1
   rw[Xj (by rw[w.lf]; exact hj)] at e4
   cases e1
   cases e4
   exact rfl
  ·rw[List.set_eq_of_length_le (by omega)] at e1
   have:=(Xu.mp e1).1
   omega
 ·rw[Xf (XI e)] at e1 e4
  exact(w.sl i m v d f e1 e2 e3 e4).keep (Zbm fun _ h=>h) (fun _ _ h _=>h) (fun _ _=>rfl) (fun b _ _ n z=>n (Y5 b z))
theorem Wd.toSh{j:Nat}{t:Shp}(w:Wd G B O Fs H σ ρ M)(hm:M[j]?=some (.ow t)):∃O1,Wd G B O1 (Fs.set j []) H σ ρ (M.set j .sh)∧∀b,O1 b->O b:=by
 obtain⟨v,d,F,h1,h2,h3,nb,v',d',e1,e2,ow⟩:=w.get hm
 subst e1 e2
 have hj:j < M.length:=(Xu.mp hm).1
 refine⟨fun a=>O a∧a∉F,⟨Y4 w.nd .nil (fun _ _ _ _ b hb=>by cases hb),fun a ha=> ?_,fun a h=>⟨w.bo a h,fun z=>nb a z h⟩,fun a h=>w.al a h.1,by rw[Xl]; exact w.ls,by rw[Xl]; exact w.lr,by rw[Xl,Xl]; exact w.lf,fun i m v d f e1 e2 e3 e4=> ?_⟩,fun b h=>h.1⟩
 ·refine⟨w.sub a (Y5 a ha),fun z=> ?_⟩
  rcases Zs ha with ha|⟨i,F1,hi,e,hb⟩
  ·cases ha
  ·exact YI w.nd hi e h3 a hb z
 ·by_cases e:i=j
  ·subst e
   rw[Xj hj] at e1
   rw[Xj (by rw[w.lf]; exact hj)] at e4
   rw[h1] at e2
   rw[h2] at e3
   cases e1; cases e2; cases e3; cases e4
   exact⟨rfl,_,_,rfl,rfl,Own.freeze (fun b h=>h.1) t (fun a ha h=>h.2 ha) ow⟩
  ·rw[Xf (XI e)] at e1 e4
   exact(w.sl i m v d f e1 e2 e3 e4).keep (Zbm fun b h=>h.1) (fun _ _ h _=>h) (fun _ _=>rfl) (fun b _ _ n z=>n (Y5 b z))
theorem Wd.toBr{j:Nat}(w:Wd G B O Fs H σ ρ M)(hm:M[j]?=some .sh):Wd G B O Fs H σ ρ (M.set j .br):=by
 have hj:j < M.length:=(Xu.mp hm).1
 refine⟨w.nd,w.sub,w.bo,w.al,by rw[Xl]; exact w.ls,by rw[Xl]; exact w.lr,by rw[Xl]; exact w.lf,fun i m v d f e1 e2 e3 e4=> ?_⟩
 by_cases e:i=j
 ·subst e
  rw[Xj hj] at e1
  cases e1
  obtain⟨q,v',d',e5,e6,r⟩:=w.sl i .sh v d f hm e2 e3 e4
  exact⟨q,v',d',e5,e6,.inl r⟩
 ·rw[Xf (XI e)] at e1
  exact w.sl i m v d f e1 e2 e3 e4
theorem Wd.toMb{j:Nat}(w:Wd G B O Fs H σ ρ M)(hm:M[j]?=some .sh):Wd G B O Fs H σ ρ (M.set j .mb):=by
 have hj:j < M.length:=(Xu.mp hm).1
 refine⟨w.nd,w.sub,w.bo,w.al,by rw[Xl]; exact w.ls,by rw[Xl]; exact w.lr,by rw[Xl]; exact w.lf,fun i m v d f e1 e2 e3 e4=> ?_⟩
 by_cases e:i=j
 ·subst e
  rw[Xj hj] at e1
  cases e1
  obtain⟨q,v',d',e5,e6,r⟩:=w.sl i .sh v d f hm e2 e3 e4
  refine⟨q,fun d2 hd=> ?_⟩
  rw[e6] at hd
  cases hd
  exact⟨v',e5,r⟩
 ·rw[Xf (XI e)] at e1
  exact w.sl i m v d f e1 e2 e3 e4
theorem Wd.wk(k:Wk M M'):∀{O:Addr->Prop}{Fs:List (List Addr)},Wd G B O Fs H σ ρ M->∃O1 Fs1,Wd G B O1 Fs1 H σ ρ M'∧Less O Fs O1 Fs1:=by
 induction k with
 |refl M=>exact fun {O Fs} w=>⟨O,Fs,w,Less.refl⟩
 |na j k ih =>
  intro O Fs w
  obtain⟨O1,Fs1,w1,l1⟩:=ih (w.dropNa j)
  exact⟨O1,Fs1,w1,Less.trans ⟨fun _ h=>h,Y5⟩ l1⟩
 |fr j t hm k ih =>
  intro O Fs w
  obtain⟨O0,w0,s0⟩:=w.toSh hm
  obtain⟨O1,Fs1,w1,l1⟩:=ih w0
  exact⟨O1,Fs1,w1,Less.trans ⟨s0,Y5⟩ l1⟩
 |br j hm k ih =>
  intro O Fs w
  obtain⟨O1,Fs1,w1,l1⟩:=ih (w.toBr hm)
  exact⟨O1,Fs1,w1,l1⟩
 |mb j hm k ih =>
  intro O Fs w
  obtain⟨O1,Fs1,w1,l1⟩:=ih (w.toMb hm)
  exact⟨O1,Fs1,w1,l1⟩
end
def Md.fix:Md->Bool
 |.br=>true
 |.op _=>true
 |.hd=>true
 |_=>false
def Ye:List Md->List Md->Bool
 |.br::M,m::M'=>(match m with|.br=>true|_=>false) && Ye M M'
 |.op _::M,m::M'=>m.fix && Ye M M'
 |.hd::M,m::M'=>m.fix && Ye M M'
 |_::M,_::M'=>Ye M M'
 |[],_=>true
 |_::_,[]=>false
theorem Zd9:∀{M M':List Md}{j:Nat}{m:Md},Ye M M'=true->M[j]?=some m->m.fix=true->∃m',M'[j]?=some m'∧m'.fix=true∧(m= .br->m'= .br)
 |[],_,_,_,_,e,_=>by simp at e
 |a::M,[],_,_,h,_,_=>by cases a <;> cases h
 |a::M,b::M',0,m,h,e,f=>by
  cases e
  cases a with
  |br =>
   unfold Ye at h
   cases b with
   |br=>exact⟨.br,rfl,rfl,fun _=>rfl⟩
   |_=>cases h
  |op t =>
   unfold Ye at h
   rw[Xp] at h
   exact⟨b,rfl,h.1,fun z=>by cases z⟩
  |hd =>
   unfold Ye at h
   rw[Xp] at h
   exact⟨b,rfl,h.1,fun z=>by cases z⟩
  |_=>cases f
 |a::M,b::M',j+1,m,h,e,f=>by
  have h':Ye M M'=true:=by
   cases a with
   |br=>unfold Ye at h; rw[Xp] at h; exact h.2
   |op t=>unfold Ye at h; rw[Xp] at h; exact h.2
   |hd=>unfold Ye at h; rw[Xp] at h; exact h.2
   |_=>exact h
  obtain⟨m',e1,e2,e3⟩:=Zd9 h' (by simpa using e) f
  exact⟨m',by simpa using e1,e2,e3⟩
structure EvS (M:List Md) (O:Addr->Prop) (Fs:List (List Addr)) (H:Hp) (σ:L2.St) (ρ:Env) (O':Addr->Prop) (Fs':List (List Addr)) (H':Hp) (σ':L2.St) (ρ':Env):Prop where
 chg:∀b o,H b=some o->b∉Fs.flatten->H' b=some o
 dom:∀b o,H b=some o->∃o',H' b=some o'
 grow:∀b,O' b->O b∨H b=none
 fgrow:∀b,b∈Fs'.flatten->b∈Fs.flatten∨H b=none
 sig:∀(j:Nat) (m:Md),M[j]?=some m->m.fix=true->σ'[j]?=σ[j]?
 keep:∀(j:Nat),M[j]?=some .br->ρ'[j]?=ρ[j]?
section
variable {O O' O'' O1:Addr->Prop}{Fs Fs' Fs'' Fs1:List (List Addr)}{H H' H'':Hp}{σ σ' σ'':L2.St}{ρ ρ' ρ'':Env}{M M1:List Md}
theorem EvS.refl:EvS M O Fs H σ ρ O Fs H σ ρ:=⟨fun _ _ h _=>h,fun _ o h=>⟨o,h⟩,fun _ h=> .inl h,fun _ h=> .inl h,fun _ _ _ _=>rfl,fun _ _=>rfl⟩
theorem EvS.trans(a:EvS M O Fs H σ ρ O' Fs' H' σ' ρ')(fx:Ye M M1=true)(b:EvS M1 O' Fs' H' σ' ρ' O'' Fs'' H'' σ'' ρ''):EvS M O Fs H σ ρ O'' Fs'' H'' σ'' ρ'':=by
 have none_of:∀c,H' c=none->H c=none:=fun c h=>by
  cases e:H c with
  |none=>rfl
  |some o=>obtain⟨o',h'⟩:=a.dom c o e; rw[h] at h'; cases h'
 refine⟨fun c o h n=>b.chg c o (a.chg c o h n) fun z=> ?_,fun c o h=> ?_,fun c h=> ?_,fun c h=> ?_,fun j m h1 h2=> ?_,fun j h1=> ?_⟩
 ·rcases a.fgrow c z with z|z
  ·exact n z
  ·rw[h] at z; cases z
 ·obtain⟨o',h'⟩:=a.dom c o h
  exact b.dom c o' h'
 ·rcases b.grow c h with h|h
  ·exact a.grow c h
  ·exact .inr (none_of c h)
 ·rcases b.fgrow c h with h|h
  ·exact a.fgrow c h
  ·exact .inr (none_of c h)
 ·obtain⟨m',e1,e2,_⟩:=Zd9 fx h1 h2
  exact(b.sig j m' e1 e2).trans (a.sig j m h1 h2)
 ·obtain⟨m',e1,e2,e3⟩:=Zd9 fx h1 rfl
  have:=e3 rfl
  subst this
  exact(b.keep j e1).trans (a.keep j h1)
theorem Ev.toS(e:Ev M O Fs H ρ O' Fs' H' ρ'):EvS M O Fs H σ ρ O' Fs' H' σ ρ':=⟨e.chg,e.dom,e.grow,e.fgrow,fun _ _ _ _=>rfl,fun j h=>e.keep j .br h rfl⟩
theorem EvS.less(e:EvS M O Fs H σ ρ O' Fs' H' σ' ρ')(l:Less O' Fs' O1 Fs1):EvS M O Fs H σ ρ O1 Fs1 H' σ' ρ':=⟨e.chg,e.dom,fun b h=>e.grow b (l.o b h),fun b h=>e.fgrow b (l.f b h),e.sig,e.keep⟩
theorem EvS.less0(l:Less O Fs O1 Fs1)(e:EvS M O1 Fs1 H σ ρ O' Fs' H' σ' ρ'):EvS M O Fs H σ ρ O' Fs' H' σ' ρ':=⟨fun b o h n=>e.chg b o h fun z=>n (l.f b z),e.dom,fun b h=>(e.grow b h).imp (l.o b) id,fun b h=>(e.fgrow b h).imp (l.f b) id,e.sig,e.keep⟩
end
structure Tx (K:PySem.W.Frag) where
 G:Gx K
 xa:String->Option Addr
 W:WX
 Mb:List Md
 Mr:List Md
 Mx:List Md
abbrev Tx.ex{K:PySem.W.Frag}(T:Tx K)(M:List Md):Sx K:=⟨T.G,T.xa,T.W,M⟩
section
variable {K:PySem.W.Frag}
def RunS(T:Tx K)(M Mn:List Md)(r:RS)(B O:Addr->Prop)(Fs:List (List Addr))(H:Hp)(σ:L2.St)(ρ:Env)(E:Ends):Prop:=match r with
 |.nx ρ'=>∀O' Fs' H' σ',EvS M O Fs H σ ρ O' Fs' H' σ' ρ'->Wd T.G B O' Fs' H' σ' ρ' Mn->E.nx σ' H'
 |.rt d ρ'=>∀v O' Fs' H' σ',EvS M O Fs H σ ρ O' Fs' H' σ' ρ'->Wd T.G B O' Fs' H' σ' ρ' T.Mr->Rep T.G O' H' v d->E.rt v H'
 |.bk ρ'=>∀O' Fs' H' σ',EvS M O Fs H σ ρ O' Fs' H' σ' ρ'->Wd T.G B O' Fs' H' σ' ρ' T.Mb->E.bk σ' H'
 |.ct ρ'=>∀O' Fs' H' σ',EvS M O Fs H σ ρ O' Fs' H' σ' ρ'->Wd T.G B O' Fs' H' σ' ρ' T.Mb->E.ct σ' H'
 |.ex x ρ'=>∀cls dd O' Fs' H' σ',EvS M O Fs H σ ρ O' Fs' H' σ' ρ'->Wd T.G B O' Fs' H' σ' ρ' T.Mx->XRep T.G T.xa O' H' cls dd x->T.W cls dd σ' H'
 |.bad=>False
def lS(T:Tx K)(M Mn:List Md)(g:Env->RS):TS:=fun E σ H=>∃B O Fs ρ,Wd T.G B O Fs H σ ρ M∧RunS T M Mn (g ρ) B O Fs H σ ρ E
variable {T:Tx K}{M M1 M2 Mn:List Md}{B O O1:Addr->Prop}{Fs Fs1:List (List Addr)}{H H1:Hp}{σ σ1:L2.St}{ρ ρ1:Env}{r:RS}{E:Ends}
theorem RunS.shift(h:RunS T M Mn r B O Fs H σ ρ E)(fx:Ye M M1=true)(e:EvS M O Fs H σ ρ O1 Fs1 H1 σ1 ρ1):RunS T M1 Mn r B O1 Fs1 H1 σ1 ρ1 E:=by
 cases r with
 |nx ρ'=>exact fun O' Fs' H' σ' e2 w=>h O' Fs' H' σ' (e.trans fx e2) w
 |rt d ρ'=>exact fun v O' Fs' H' σ' e2 w x=>h v O' Fs' H' σ' (e.trans fx e2) w x
 |bk ρ'=>exact fun O' Fs' H' σ' e2 w=>h O' Fs' H' σ' (e.trans fx e2) w
 |ct ρ'=>exact fun O' Fs' H' σ' e2 w=>h O' Fs' H' σ' (e.trans fx e2) w
 |ex x ρ'=>exact fun c dd O' Fs' H' σ' e2 w x=>h c dd O' Fs' H' σ' (e.trans fx e2) w x
 |bad=>exact h
theorem RunS.bindE{α β:Type}{VA:QI α β}{f:R α}{k:α->Env->RS}{Q1:β->Hp->Prop}(h:RunS T M Mn (f.bindS k) B O Fs H σ ρ E)(wk:Wk M T.Mx)
  (hk:∀a ρ1 v O1 Fs1 H1,f= .ok a ρ1->Ev M O Fs H ρ O1 Fs1 H1 ρ1->Wd T.G B O1 Fs1 H1 σ ρ1 M->VA O1 Fs1 H1 v a->RunS T M Mn (k a ρ1) B O1 Fs1 H1 σ ρ1 E->Q1 v H1)(fx:Ye M M=true):Run (T.ex M) VA f B O Fs H σ ρ Q1:=by
 cases f with
 |ok a ρ1=>exact fun v O' Fs' H' e w x=>hk a ρ1 v O' Fs' H' rfl e w x (RunS.shift h fx e.toS)
 |ex x ρ' =>
  intro cls dd O' Fs' H' e w x
  obtain⟨O1,Fs1,w1,l⟩:=w.wk wk
  exact h cls dd O1 Fs1 H' σ (e.toS.less l) w1 (x.anti l.o)
 |bad=>exact h
theorem RunS.use(h:RunS T M Mn (.nx ρ) B O Fs H σ ρ E)(w:Wd T.G B O Fs H σ ρ Mn):E.nx σ H:=h O Fs H σ EvS.refl w
end
theorem ZM:∀M:List Md,Ye M M=true
 |[]=>rfl
 |.br::M=>by unfold Ye; rw[ZM M]; rfl
 |.op t::M=>by unfold Ye; rw[ZM M]; rfl
 |.na::M=>by unfold Ye; exact ZM M
 |.hd::M=>by unfold Ye; rw[ZM M]; rfl
 |.sh::M=>by unfold Ye; exact ZM M
 |.th _ _ _ _::M=>by unfold Ye; exact ZM M
 |.mb::M=>by unfold Ye; exact ZM M
 |.ow t::M=>by unfold Ye; exact ZM M
section
variable {K:PySem.W.Frag}{T:Tx K}{M M1 M2 Mn:List Md}{X:Cx}{st:Stmt}{sts:List Stmt}{g g':Env->RS}{pos:Pos}{e c:Expr}{f:Env->R D}{t:Env->R Bool}
def Zg(g g':Env->RS):Env->RS:=fun ρ=>(g ρ).bind g'
def sNx:Env->RS:=fun ρ=> .nx ρ
theorem ZJ:PSs X [] (lS T M M sNx):=PSs.of pss_nil fun E σ H ⟨B,O,Fs,ρ,w,run⟩=>run.use w
theorem Zc(h1:PS X st (lS T M M1 g))(h2:PSs X sts (lS T M1 Mn g'))(fx:Ye M M1=true:=by rfl):PSs X (st::sts) (lS T M Mn (Zg g g')):=by
 refine PSs.of (pss_cons h1 h2) fun E σ H ⟨B,O,Fs,ρ,w,run⟩=>⟨B,O,Fs,ρ,w, ?_⟩
 unfold Zg at run
 cases e:g ρ with
 |nx ρ' =>
  rw[e] at run
  exact fun O' Fs' H' σ' ev wd=>⟨B,O',Fs',ρ',wd,RunS.shift run fx ev⟩
 |rt d ρ'=>rw[e] at run; exact run
 |bk ρ'=>rw[e] at run; exact run
 |ct ρ'=>rw[e] at run; exact run
 |ex x ρ'=>rw[e] at run; exact run
 |bad=>rw[e] at run; exact run
theorem Zf(h1:PS X st (lS T M Mn g)):PSs X [st] (lS T M Mn g):=pss_one h1
theorem ZqI(wk:Wk M M1)(fx:Ye M M1=true)(h:PSs X sts (lS T M1 Mn g)):PSs X sts (lS T M Mn g):=by
 refine PSs.of h fun E σ H ⟨B,O,Fs,ρ,w,run⟩=> ?_
 obtain⟨O1,Fs1,w1,l⟩:=w.wk wk
 refine⟨B,O1,Fs1,ρ,w1,RunS.shift run fx (EvS.less0 l ⟨fun _ _ h _=>h,fun _ o h=>⟨o,h⟩,fun _ h=> .inl h,fun _ h=> .inl h,fun _ _ _ _=>rfl,fun _ _=>rfl⟩)⟩
theorem YS(wk:Wk M M1)(fx:Ye M M1=true)(h:PS X st (lS T M1 Mn g)):PS X st (lS T M Mn g):=by
 refine PS.of h fun E σ H ⟨B,O,Fs,ρ,w,run⟩=> ?_
 obtain⟨O1,Fs1,w1,l⟩:=w.wk wk
 refine⟨B,O1,Fs1,ρ,w1,RunS.shift run fx (EvS.less0 l ⟨fun _ _ h _=>h,fun _ o h=>⟨o,h⟩,fun _ h=> .inl h,fun _ h=> .inl h,fun _ _ _ _=>rfl,fun _ _=>rfl⟩)⟩
theorem Zhe{r:RS}{B O:Addr->Prop}{Fs:List (List Addr)}{H:Hp}{σ:L2.St}{ρ:Env}{E:Ends}(wk:Wk M1 Mn)(run:RunS T M Mn r B O Fs H σ ρ E):RunS T M M1 r B O Fs H σ ρ E:=by
 cases r with
 |nx ρ' =>
  intro O' Fs' H' σ' ev wd
  obtain⟨O1,Fs1,w1,l⟩:=wd.wk wk
  exact run O1 Fs1 H' σ' (ev.less l) w1
 |rt d ρ'=>exact run
 |bk ρ'=>exact run
 |ct ρ'=>exact run
 |ex x ρ'=>exact run
 |bad=>exact run
theorem Jn(wk:Wk M1 Mn)(h:PSs X sts (lS T M M1 g)):PSs X sts (lS T M Mn g) :=
 PSs.of h fun E σ H ⟨B,O,Fs,ρ,w,run⟩=>⟨B,O,Fs,ρ,w,Zhe wk run⟩
theorem ZQ(wk:Wk M1 Mn)(h:PS X st (lS T M M1 g)):PS X st (lS T M Mn g) :=
 PS.of h fun E σ H ⟨B,O,Fs,ρ,w,run⟩=>⟨B,O,Fs,ρ,w,Zhe wk run⟩
def sCt:Env->RS:=fun ρ=> .ct ρ
theorem ZjZ(wk:Wk M T.Mb):PS X (.Continue pos) (lS T M Mn sCt):=PS.of ps_continue fun E σ H ⟨B,O,Fs,ρ,w,run⟩=>by
 obtain⟨O1,Fs1,w1,l⟩:=w.wk wk
 exact run O1 Fs1 H σ (EvS.refl.less l) w1
def sDo(f:Env->R D):Env->RS:=fun ρ=>(f ρ).bindS fun _ ρ1=> .nx ρ1
theorem Yg(he:PE X e (lE (T.ex M) f))(wx:Wk M T.Mx)(hs:swapsWith e none pos.line X.env=pure false:=by rfl):PS X (.Expr e pos) (lS T M M (sDo f)) :=
 PS.of (ps_expr he hs) fun E σ H ⟨B,O,Fs,ρ,w,run⟩=>⟨B,O,Fs,ρ,w,run.bindE wx (fun a ρ1 v O1 Fs1 H1 _ ev w1 r1 run1=>run1.use w1) (ZM M)⟩
def Zu(f:Env->R D):Env->RS:=fun ρ=>(f ρ).bindS fun d ρ1=> .rt d ρ1
theorem Zp(he:PE X e (lE (T.ex M) f))(wx:Wk M T.Mx)(wr:Wk M T.Mr):PS X (.Return (some e) pos) (lS T M Mn (Zu f)) :=
 PS.of (ps_ret he) fun E σ H ⟨B,O,Fs,ρ,w,run⟩=>⟨B,O,Fs,ρ,w,run.bindE wx (fun a ρ1 v O1 Fs1 H1 _ ev w1 r1 run1=>by
  obtain⟨O2,Fs2,w2,l⟩:=w1.wk wr
  exact run1 v O2 Fs2 H1 σ (EvS.refl.less l) w2 (r1.anti l.o)) (ZM M)⟩
def ZW(t:Env->R Bool)(g g':Env->RS):Env->RS:=fun ρ=>(t ρ).bindS fun k ρ1=>if k then g ρ1 else g' ρ1
theorem ZZ{a b:List Stmt}(hc:PT X c (lT (T.ex M) t))(wx:Wk M T.Mx)(ha:PSs X a (lS T M Mn g))(hb:PSs X b (lS T M Mn g')):PS X (.If c a b pos) (lS T M Mn (ZW t g g')):=by
 refine PS.of (ps_if hc ha hb) fun E σ H ⟨B,O,Fs,ρ,w,run⟩=>⟨B,O,Fs,ρ,w,run.bindE wx (fun k ρ1 v O1 Fs1 H1 _ ev w1 r1 run1=> ?_) (ZM M)⟩
 cases (show v=k from r1)
 cases k with
 |true=>rw[if_pos rfl] at run1 ⊢; exact⟨B,O1,Fs1,ρ1,w1,run1⟩
 |false=>rw[if_neg (by decide)] at run1 ⊢; exact⟨B,O1,Fs1,ρ1,w1,run1⟩
end
end Pu
namespace Pu
open PySem L2 PySem.Spec PyProof.Rows Pw
def nf(M:List Md)(i:Nat):Bool:=match M[i]? with
 |some m=> !m.fix
 |none=>false
theorem Zj0{M:List Md}{i:Nat}(h:nf M i=true):i < M.length:=by
 unfold nf at h
 split at h
 ·rename_i m e
  exact(Xu.mp e).1
 ·cases h
section
variable {K:PySem.W.Frag}{G:Gx K}{B O O':Addr->Prop}{Fs Fs':List (List Addr)}{H H':Hp}{σ σ':L2.St}{ρ ρ':Env}{M:List Md}
theorem Wd.set{i:Nat}{m:Md}{v:V}{d:D}{F:List Addr}(w:Wd G B O Fs H σ ρ M)(hn:nf M i=true)(nd:F.Nodup)(sub:∀b∈F,O b)(dj:∀b∈F,b∉Fs.flatten)(brn:∀(j:Nat) (v':V) (d':D),M[j]?=some .br->σ[j]?=some (some v')->ρ[j]?=some (some d')->BRep G O (Fs.set i F).flatten H v' d')
  (sl:SlOk G B O (Fs.set i F).flatten H m (some v) (some d) F):Wd G B O (Fs.set i F) H (σ.set i (some v)) (ρ.set i (some d)) (M.set i m):=by
 have hi:=Zj0 hn
 refine⟨Y4 w.nd nd (fun j F1 _ e b hb hb1=>dj b hb (Zj (Xa e) hb1)),fun a ha=> ?_,w.bo,w.al,by rw[Xl,Xl]; exact w.ls,by rw[Xl,Xl]; exact w.lr,by rw[Xl,Xl]; exact w.lf,fun j m' v' d' f e1 e2 e3 e4=> ?_⟩
 ·rcases Zs ha with ha|⟨j,F1,_,e,hb⟩
  ·exact sub a ha
  ·exact w.sub a (Zj (Xa e) hb)
 ·by_cases e:j=i
  ·subst e
   rw[Xj hi] at e1
   rw[Xj (by rw[w.ls]; exact hi)] at e2
   rw[Xj (by rw[w.lr]; exact hi)] at e3
   rw[Xj (by rw[w.lf]; exact hi)] at e4
   cases e1; cases e2; cases e3; cases e4
   exact sl
  ·rw[Xf (XI e)] at e1 e2 e3 e4
   have s0:=w.sl j m' v' d' f e1 e2 e3 e4
   cases m' with
   |br =>
    obtain⟨q1,v1,d1,q2,q3,r⟩:=s0
    subst q2 q3
    exact⟨q1,v1,d1,rfl,rfl,brn j v1 d1 e1 e2 e3⟩
   |na=>exact s0
   |th _ _ _ _=>exact s0
   |mb=>exact s0
   |hd=>exact s0
   |sh=>exact s0
   |ow t=>exact s0
   |op t=>exact s0
theorem Zj1{i:Nat}(w:Wd G B O Fs H σ ρ M):∀(j:Nat) (v':V) (d':D),M[j]?=some .br->σ[j]?=some (some v')->ρ[j]?=some (some d')->BRep G O (Fs.set i []).flatten H v' d':=fun j v' d' e1 e2 e3=>by
 obtain⟨v,d,f,h1,h2,h3,_,v1,d1,q2,q3,r⟩:=w.get e1
 subst q2 q3
 rw[e2] at h1
 rw[e3] at h2
 cases h1
 cases h2
 exact r.less Y5
theorem Wd.setSh{i:Nat}{v:V}{d:D}(w:Wd G B O Fs H σ ρ M)(hn:nf M i=true)(r:Rep G O H v d):Wd G B O (Fs.set i []) H (σ.set i (some v)) (ρ.set i (some d)) (M.set i .sh) :=
 w.set hn .nil (fun b hb=>by cases hb) (fun b hb=>by cases hb) (Zj1 w) ⟨rfl,v,d,rfl,rfl,r⟩
structure New (B O:Addr->Prop) (Fs:List (List Addr)) (Fv:List Addr) (H0:Hp):Prop where
 nd:Fv.Nodup
 sub:∀b∈Fv,O b
 dj:∀b∈Fv,b∉Fs.flatten
 fr:∀b∈Fv,H0 b=none
theorem Wd.setOw{i:Nat}{t:Shp}{v:V}{d:D}{Fv:List Addr}{H0:Hp}(w:Wd G B O Fs H σ ρ M)(hn:nf M i=true)(n:New B O Fs Fv H0)(nb:∀b∈Fv,¬ B b)(br:∀(j:Nat) (v':V) (d':D),M[j]?=some .br->σ[j]?=some (some v')->ρ[j]?=some (some d')->BRep G O (Fs.set i Fv).flatten H v' d')(r:Own G O H t v d Fv) :
  Wd G B O (Fs.set i Fv) H (σ.set i (some v)) (ρ.set i (some d)) (M.set i (.ow t)) :=
 w.set hn n.nd n.sub n.dj br ⟨nb,v,d,rfl,rfl,r⟩
theorem EvS.set{i:Nat}{v:V}{d:D}{F:List Addr}{H0:Hp}{O0:Addr->Prop}{Fs0:List (List Addr)}{ρ0:Env}(e:EvS M O0 Fs0 H0 σ ρ0 O Fs H σ ρ)(hn:nf M i=true)(hF:∀b∈F,b∈Fs0.flatten∨H0 b=none):EvS M O0 Fs0 H0 σ ρ0 O (Fs.set i F) H (σ.set i (some v)) (ρ.set i (some d)):=by
 have ne:∀j m,M[j]?=some m->m.fix=true->j≠i:=fun j m h1 h2 z=>by
  subst z
  unfold nf at hn
  rw[h1] at hn
  simp only[h2] at hn
  cases hn
 refine⟨e.chg,e.dom,e.grow,fun b hb=> ?_,fun j m h1 h2=> ?_,fun j h1=> ?_⟩
 ·rcases Zs hb with hb|⟨j,F1,_,e1,hb⟩
  ·exact hF b hb
  ·exact e.fgrow b (Zj (Xa e1) hb)
 ·rw[Xf (XI (ne j m h1 h2))]
 ·rw[Xf (XI (ne j .br h1 rfl))]
  exact e.keep j h1
end
section
variable {K:PySem.W.Frag}
def RunF(S:Sx K)(t:Shp)(r:R D)(B O:Addr->Prop)(Fs:List (List Addr))(H:Hp)(σ:L2.St)(ρ:Env)(Q:VK):Prop:=match r with
 |.ok d ρ'=>∀v O' Fs' H' Fv,Ev S.M O Fs H ρ O' Fs' H' ρ'->Wd S.G B O' Fs' H' σ ρ' S.M->Own S.G O' H' t v d Fv->New B O' Fs' Fv H->Q v H'
 |.ex x ρ'=>∀cls dd O' Fs' H',Ev S.M O Fs H ρ O' Fs' H' ρ'->Wd S.G B O' Fs' H' σ ρ' S.M->XRep S.G S.xa O' H' cls dd x->S.W cls dd σ H'
 |.bad=>False
def lF(S:Sx K)(t:Shp)(f:Env->R D):TE:=fun σ H Q=>∃B O Fs ρ,Wd S.G B O Fs H σ ρ S.M∧RunF S t (f ρ) B O Fs H σ ρ Q
variable {S:Sx K}{B O O1:Addr->Prop}{Fs Fs1:List (List Addr)}{H H1:Hp}{σ:L2.St}{ρ ρ1:Env}{t:Shp}
theorem New.back{Fv:List Addr}{M:List Md}{O2:Addr->Prop}{Fs2:List (List Addr)}(n:New B O2 Fs2 Fv H1)(e:Ev M O Fs H ρ O1 Fs1 H1 ρ1):New B O2 Fs2 Fv H:=⟨n.nd,n.sub,n.dj,fun b hb=>by
 cases h:H b with
 |none=>rfl
 |some o=>obtain⟨o',h'⟩:=e.dom b o h; rw[n.fr b hb] at h'; cases h'⟩
theorem RunF.shift{r:R D}{Q:VK}(h:RunF S t r B O Fs H σ ρ Q)(e:Ev S.M O Fs H ρ O1 Fs1 H1 ρ1):RunF S t r B O1 Fs1 H1 σ ρ1 Q:=by
 cases r with
 |ok d ρ'=>exact fun v O' Fs' H' Fv e2 w x n=>h v O' Fs' H' Fv (e.trans e2) w x (n.back e)
 |ex x ρ'=>exact fun c dd O' Fs' H' e2 w x=>h c dd O' Fs' H' (e.trans e2) w x
 |bad=>exact h
theorem RunF.bind{γ δ:Type}{VA:QI γ δ}{r:R γ}{k:γ->Env->R D}{Q:VK}{Q1:δ->Hp->Prop}(h:RunF S t (r.bind k) B O Fs H σ ρ Q)
  (hk:∀a ρ1 v O1 Fs1 H1,r= .ok a ρ1->Ev S.M O Fs H ρ O1 Fs1 H1 ρ1->Wd S.G B O1 Fs1 H1 σ ρ1 S.M->VA O1 Fs1 H1 v a->RunF S t (k a ρ1) B O1 Fs1 H1 σ ρ1 Q->Q1 v H1):Run S VA r B O Fs H σ ρ Q1:=by
 cases r with
 |ok a ρ1=>exact fun v O' Fs' H' e w x=>hk a ρ1 v O' Fs' H' rfl e w x (RunF.shift h e)
 |ex x ρ'=>exact h
 |bad=>exact h
theorem Wd.own1{G:Gx K}{M:List Md}{p:Addr}{o:HO}(w:Wd G B O Fs H σ ρ M)(hp:H p=none)(no:∀vs,o≠ .tup vs:=by intro _ z; cases z):Wd G B (fun a=>O a∨a=p) Fs (upd H p o) σ ρ M∧Ev M O Fs H ρ (fun a=>O a∨a=p) Fs (upd H p o) ρ∧New B (fun a=>O a∨a=p) Fs [p] H∧Kept O H (fun a=>O a∨a=p) (upd H p o):=by
 have ev:Ev M O Fs H ρ (fun a=>O a∨a=p) Fs (upd H p o) ρ :=
  ⟨fun b u h _=>by rw[upd_ne (Vm h hp)]; exact h,fun b u h=>⟨u,by rw[upd_ne (Vm h hp)]; exact h⟩,fun _ h=> .inl h,fun b h=>h.imp id (fun z=>by rw[z]; exact hp),fun _ h=> .inl h,fun _ _ _ _=>rfl⟩
 have k:=ev.kept w.sub
 refine⟨⟨w.nd,fun a ha=> .inl (w.sub a ha),fun a h=> .inl (w.bo a h),fun a h=> ?_,w.ls,w.lr,w.lf,fun i m v d f h1 h2 h3 h4=> ?_⟩,ev,⟨by simp,fun b hb=> .inr (Xb.mp hb),fun b hb z=> ?_,fun b hb=>by rw[Xb.mp hb]; exact hp⟩,k⟩
 ·rcases h with h|h
  ·obtain⟨u,hu⟩:=w.al a h
   exact⟨u,by rw[upd_ne (Vm hu hp)]; exact hu⟩
  ·exact⟨⟨o,no⟩,by rw[h,Xi]⟩
 ·refine(w.sl i m v d f h1 h2 h3 h4).keep k ev.chg (fun b hb=> ?_) (fun _ _ _ n=>n)
  obtain⟨u,hu⟩:=w.al b (w.sub b (Zj (Xa h4) hb))
  rw[upd_ne (Vm hu hp)]
 ·obtain⟨u,hu⟩:=w.al b (w.sub b z)
  rw[Xb.mp hb,hp] at hu
  cases hu
theorem ZaL{G:Gx K}{p:Addr}{vs:List V}{ds:List D}(h:H p=some (.lst vs))(r:Reps G O H vs ds):Own G O H (.lst .sh) (.ref p) (.lst ds) [p]:=by
 have all:∀{vs:List V}{ds:List D},Reps G O H vs ds->∃Fs:List (List Addr),Fs.flatten= []∧All3 (Own G O H .sh) vs ds Fs:=by
  intro vs ds h
  induction ds generalizing vs with
  |nil=>cases h; exact⟨[],rfl,.nil⟩
  |cons d ds ih =>
   cases h with
   |cons a t =>
    obtain⟨Fs,e,h⟩:=ih t
    exact⟨[]::Fs,e,.cons ⟨rfl,a⟩ h⟩
 obtain⟨Fs,e,h'⟩:=all r
 exact⟨p,vs,ds,Fs,rfl,rfl,h,by rw[e],h'⟩
theorem RunF.lst{p:Addr}{vs:List V}{ds:List D}{Q:VK}(h:RunF S (.lst .sh) (.ok (.lst ds) ρ) B O Fs H σ ρ Q)(w:Wd S.G B O Fs H σ ρ S.M)(hp:H p=none)(r:Reps S.G O H vs ds):Q (.ref p) (upd H p (.lst vs)):=by
 obtain⟨w1,ev,n,k⟩:=w.own1 (o:= .lst vs) hp
 exact h _ _ _ _ [p] ev w1 (ZaL Xi (r.keep k)) n
variable {X:Cx}{e:Expr}{es:List Expr}{fs:Env->R (List D)}{pos:Pos}
theorem Jw(h:PA X es (lEs S fs)):PE X (.List es pos) (lF S (.lst .sh) (sAs ZE fs)):=by
 refine PE.of (pe_lst h) fun σ H Q ⟨B,O,Fs,ρ,w,run⟩=> ?_
 refine⟨B,O,Fs,ρ,w,run.bind fun xs ρ1 vs O1 Fs1 H1 _ ev1 w1 r1 run1=> ?_⟩
 unfold ZE at run1
 by_cases hl:xs.length<=line
 ·rw[if_pos hl] at run1
  exact⟨by rw[Reps.length r1]; exact XD hl Yw,fun p hp=>run1.lst w1 hp r1⟩
 ·rw[if_neg hl] at run1
  exact run1.elim
theorem Zhf{G:Gx K}{p:Addr}(h:H p=some (.dK [])):Own G O H (.dct .sh) (.ref p) (.dct []) [p]:=⟨p,[],[],rfl,rfl,.inl ⟨[],rfl,h,.nil⟩⟩
theorem Zhg{G:Gx K}{p:Addr}(h:H p=some (.dT [])):Own G O H (.dct .sh) (.ref p) (.dtt []) [p]:=⟨p,[],[],rfl,rfl,.inr ⟨[],rfl,h,.nil⟩⟩
theorem Zoo:PE X (.Dict [] [] pos) (lF S (.dct .sh) (sC (.dct []))):=PE.of pe_dnewK fun σ H Q ⟨B,O,Fs,ρ,w,run⟩ p hp=>by
 obtain⟨w1,ev,n,k⟩:=w.own1 (o:= .dK []) hp
 exact run _ _ _ _ [p] ev w1 (Zhf Xi) n
theorem Zop:PE X (.Dict [] [] pos) (lF S (.dct .sh) (sC (.dtt []))):=PE.of pe_dnewT fun σ H Q ⟨B,O,Fs,ρ,w,run⟩ p hp=>by
 obtain⟨w1,ev,n,k⟩:=w.own1 (o:= .dT []) hp
 exact run _ _ _ _ [p] ev w1 (Zhg Xi) n
theorem RunF.of{r:R D}{Q:VK}(h:Run S (vE S) r B O Fs H σ ρ Q)(t:Shp)(w:Wd S.G B O Fs H σ ρ S.M):RunF S t r B O Fs H σ ρ Q:=by
 cases r with
 |ok d ρ' =>
  intro v O' Fs' H' Fv ev wd ow n
  have sub1:∀b∈Fv,¬ O b:=fun b hb z=>by
   obtain⟨o,ho⟩:=w.al b z
   rw[n.fr b hb] at ho
   cases ho
  have s:∀b,(O' b∧b∉Fv)->O' b:=fun b h=>h.1
  refine h v (fun b=>O' b∧b∉Fv) Fs' H' ⟨ev.chg,ev.dom,fun b hb=>⟨ev.mono b hb,fun z=>sub1 b z hb⟩,fun b h=>ev.grow b h.1,ev.fgrow,ev.keep⟩ ⟨wd.nd,fun a ha=>⟨wd.sub a ha,fun z=>n.dj a z ha⟩,fun a ha=>⟨wd.bo a ha,fun z=>sub1 a z (w.bo a ha)⟩,fun a ha=>wd.al a ha.1,wd.ls,wd.lr,wd.lf,fun i m v' d' f h1 h2 h3 h4=> ?_⟩ (Own.freeze s t (fun a ha z=>z.2 ha) ow)
  exact(wd.sl i m v' d' f h1 h2 h3 h4).keep (Zbm s) (fun _ _ h _=>h) (fun _ _=>rfl) (fun _ _ _ n=>n)
 |ex x ρ'=>exact h
 |bad=>exact h
theorem ZL{f:Env->R D}{t:Shp}(h:PE X e (lF S t f)):PE X e (lE S f) :=
 PE.of h fun σ H Q ⟨B,O,Fs,ρ,w,run⟩=>⟨B,O,Fs,ρ,w,RunF.of run t w⟩
end
section
variable {K:PySem.W.Frag}{T:Tx K}{M M1 Mn Mt:List Md}{X:Cx}{st:Stmt}{sts:List Stmt}{g g':Env->RS}{pos pos':Pos}{e c tg it:Expr}{f:Env->R D}{t:Env->R Bool}{i:Nat}{x:Str}{sh:Shp}
def ZB(i:Nat)(f:Env->R D):Env->RS:=fun ρ=>(f ρ).bindS fun d ρ1=> .nx (ρ1.set i (some d))
theorem ZY(hN:X.N.Nodup)(hi:X.N[i]?=some x)(hx:Loc X.env.scope x)(he:PE X e (lE (T.ex M) f))(wx:Wk M T.Mx)(hn:nf M i=true)(hs:swapsWith e (some (.Name x pos')) pos.line X.env=pure false:=by rfl)(hf:X.fn x=true∨X.env.scope.names.lookup x=some .local:=by first|exact .inl rfl|exact .inr rfl|assumption) :
  PS X (.Assign [.Name x pos'] e pos) (lS T M (M.set i .sh) (ZB i f)) :=
 PS.of (ps_set hN hi hx he hs hf) fun E σ H ⟨B,O,Fs,ρ,w,run⟩=>⟨B,O,Fs,ρ,w,run.bindE wx (fun a ρ1 v O1 Fs1 H1 _ ev w1 r1 run1 =>
  run1 O1 (Fs1.set i []) H1 _ (EvS.set EvS.refl hn (fun b hb=>by cases hb)) (w1.setSh hn r1)) (ZM M)⟩
theorem RunS.bindF{f:R D}{k:D->Env->RS}{Q1:VK}{B O:Addr->Prop}{Fs:List (List Addr)}{H:Hp}{σ:L2.St}{ρ:Env}{E:Ends}(h:RunS T M Mn (f.bindS k) B O Fs H σ ρ E)(wk:Wk M T.Mx)
  (hk:∀a ρ1 v O1 Fs1 H1 Fv,Ev M O Fs H ρ O1 Fs1 H1 ρ1->Wd T.G B O1 Fs1 H1 σ ρ1 M->Own T.G O1 H1 sh v a Fv->New B O1 Fs1 Fv H->RunS T M Mn (k a ρ1) B O Fs H σ ρ E->Q1 v H1):RunF (T.ex M) sh f B O Fs H σ ρ Q1:=by
 cases f with
 |ok a ρ1=>exact fun v O' Fs' H' Fv e w x n=>hk a ρ1 v O' Fs' H' Fv e w x n h
 |ex x ρ' =>
  intro cls dd O' Fs' H' e w x
  obtain⟨O1,Fs1,w1,l⟩:=w.wk wk
  exact h cls dd O1 Fs1 H' σ (e.toS.less l) w1 (x.anti l.o)
 |bad=>exact h
theorem ZeE{G:Gx K}{B O O1:Addr->Prop}{Fs Fs1:List (List Addr)}{H H1:Hp}{σ:L2.St}{ρ ρ1:Env}{Fv:List Addr}(w:Wd G B O Fs H σ ρ M)(ev:Ev M O Fs H ρ O1 Fs1 H1 ρ1)(w1:Wd G B O1 Fs1 H1 σ ρ1 M)(n:New B O1 Fs1 Fv H) :
  ∀(j:Nat) (v':V) (d':D),M[j]?=some .br->σ[j]?=some (some v')->ρ1[j]?=some (some d')->BRep G O1 (Fs1.set i Fv).flatten H1 v' d':=fun j v' d' e1 e2 e3=>by
 have hk:=ev.keep j .br e1 rfl
 rw[e3] at hk
 obtain⟨v,d,f,h1,h2,h3,_,v1,d1,q2,q3,r⟩:=w.get e1
 subst q2 q3
 rw[e2] at h1
 rw[h2] at hk
 cases h1
 cases hk
 have k:=ev.kept w.sub
 rcases r with r|⟨p,np,⟨o,ho⟩,r⟩
 ·exact .inl (r.keep k)
 ·have kp:∀b∈ [p],H1 b=H b:=fun b hb=>by
   rw[Xb.mp hb,ho]
   exact ev.chg p o ho np
  refine .inr ⟨p,fun z=> ?_,⟨o,ev.chg p o ho np⟩, ?_⟩
  ·rcases Zs z with z|⟨j',F1,_,e',hb⟩
   ·have:=n.fr p z
    rw[ho] at this
    cases this
   ·rcases ev.fgrow p (Zj (Xa e') hb) with z|z
    ·exact np z
    ·rw[ho] at z; cases z
  ·rcases r with r|r|r
   ·exact .inl (Own.keep k _ kp r)
   ·exact .inr (.inl (Own.keep k _ kp r))
   ·exact .inr (.inr (Own.keep k _ kp r))
theorem JM(hN:X.N.Nodup)(hi:X.N[i]?=some x)(hx:Loc X.env.scope x)(he:PE X e (lF (T.ex M) sh f))(wx:Wk M T.Mx)(hn:nf M i=true)(hs:swapsWith e (some (.Name x pos')) pos.line X.env=pure false:=by rfl)(hf:X.fn x=true∨X.env.scope.names.lookup x=some .local:=by first|exact .inl rfl|exact .inr rfl|assumption) :
  PS X (.Assign [.Name x pos'] e pos) (lS T M (M.set i (.ow sh)) (ZB i f)) :=
 PS.of (ps_set hN hi hx he hs hf) fun E σ H ⟨B,O,Fs,ρ,w,run⟩=>⟨B,O,Fs,ρ,w,run.bindF wx fun a ρ1 v O1 Fs1 H1 Fv ev w1 ow n run1=>by
  refine run1 O1 (Fs1.set i Fv) H1 _ (EvS.set ev.toS hn (fun b hb=> .inr (n.fr b hb))) (w1.setOw hn n (fun b hb z=> ?_) (ZeE w ev w1 n) ow)
  obtain⟨o,ho⟩:=w.al b (w.bo b z)
  rw[n.fr b hb] at ho
  cases ho⟩
end
end Pu
namespace Pu
open PySem L2 PySem.Spec PyProof.Rows Pw
section
variable {K:PySem.W.Frag}
def Out1{α:Type}(ts:List Nat)(σ σ':List α):Prop:=σ'.length=σ.length∧∀(j:Nat),j∉ts->σ'[j]?=σ[j]?
theorem Out1.refl{α:Type}(ts:List Nat)(σ:List α):Out1 ts σ σ:=⟨rfl,fun _ _=>rfl⟩
theorem Out1.set{α:Type}(i:Nat)(σ:List α)(a:α):Out1 [i] σ (σ.set i a):=⟨by rw[Xl],fun j hj=>by rw[Xf (fun z=>hj (by rw[z]; exact Xb.mpr rfl))]⟩
theorem Out1.trans{α:Type}{ts us:List Nat}{σ σ1 σ2:List α}(a:Out1 ts σ σ1)(b:Out1 us σ1 σ2):Out1 (ts++us) σ σ2:=⟨b.1.trans a.1,fun j h=>(b.2 j fun z=>h (XC _ z)).trans (a.2 j fun z=>h (Vg _ z))⟩
structure Out (ts:List Nat) (σ σ':L2.St) (ρ ρ':Env) (M M':List Md):Prop where
 s:Out1 ts σ σ'
 r:Out1 ts ρ ρ'
 m:Out1 ts M M'
theorem Out.refl(ts:List Nat)(σ:L2.St)(ρ:Env)(M:List Md):Out ts σ σ ρ ρ M M:=⟨.refl _ _,.refl _ _,.refl _ _⟩
theorem Out.trans{ts us:List Nat}{σ σ1 σ2:L2.St}{ρ ρ1 ρ2:Env}{M M1 M2:List Md}(a:Out ts σ σ1 ρ ρ1 M M1)(b:Out us σ1 σ2 ρ1 ρ2 M1 M2):Out (ts++us) σ σ2 ρ ρ2 M M2:=⟨a.s.trans b.s,a.r.trans b.r,a.m.trans b.m⟩
def lG(T:Tx K)(M Mt:List Md)(ts:List Nat)(tg:D->Env->Option Env):TG:=fun v σ H Q=>∃B O Fs ρ d,Wd T.G B O Fs H σ ρ M∧Rep T.G O H v d∧∃ρ',tg d ρ=some ρ'∧∀σ' Fs',EvS M O Fs H σ ρ O Fs' H σ' ρ'->Out ts σ σ' ρ ρ' M Mt->Wd T.G B O Fs' H σ' ρ' Mt->Q σ' H
def lGs(T:Tx K)(M Mt:List Md)(ts:List Nat)(tg:List D->Env->Option Env):TGs:=fun vs σ H Q=>∃B O Fs ρ ds,Wd T.G B O Fs H σ ρ M∧Reps T.G O H vs ds∧∃ρ',tg ds ρ=some ρ'∧∀σ' Fs',EvS M O Fs H σ ρ O Fs' H σ' ρ'->Out ts σ σ' ρ ρ' M Mt->Wd T.G B O Fs' H σ' ρ' Mt->Q σ' H
variable {T:Tx K}{M M1 Mt:List Md}{X:Cx}{e:Expr}{es:List Expr}{i:Nat}{x:Str}{pos:Pos}
def Zh(i:Nat)(d:D)(ρ:Env):Option Env:=some (ρ.set i (some d))
theorem Za0(hN:X.N.Nodup)(hi:X.N[i]?=some x)(hx:Loc X.env.scope x)(hn:nf M i=true)(hf:X.fn x=true∨X.env.scope.names.lookup x=some .local:=by first|exact .inl rfl|exact .inr rfl|assumption):PG X (.Name x pos) (lG T M (M.set i .sh) [i] (Zh i)):=by
 refine⟨fun pins s σ H v u Q I r hw=> ?_⟩
 obtain⟨B,O,Fs,ρ,d,w,rp,ρ',e,k⟩:=hw
 cases e
 exact(pg_name hN hi hx hf).run pins s σ H v u Q I r (k _ (Fs.set i []) (EvS.set EvS.refl hn (fun b hb=>by cases hb)) ⟨.set _ _ _,.set _ _ _,.set _ _ _⟩ (w.setSh hn rp))
def tNil(ds:List D)(ρ:Env):Option Env:=match ds with
 |[]=>some ρ
 |_=>none
def tCons(t:D->Env->Option Env)(ts:List D->Env->Option Env)(ds:List D)(ρ:Env):Option Env:=match ds with
 |d::ds=>(t d ρ).bind fun ρ1=>ts ds ρ1
 |[]=>none
theorem Z0:PGs X [] (lGs T M M [] tNil):=by
 refine⟨fun pins s σ H vs us Q I r hw=> ?_⟩
 obtain⟨B,O,Fs,ρ,ds,w,rp,ρ',e,k⟩:=hw
 cases ds with
 |nil =>
  cases e
  cases rp
  exact pgs_nil.run pins s σ H [] us Q I r ⟨rfl,k _ Fs EvS.refl (Out.refl _ _ _ _) w⟩
 |cons d ds=>cases e
theorem Zm{us ws:List Nat}{t:D->Env->Option Env}{ts:List D->Env->Option Env}(h1:PG X e (lG T M M1 us t))(h2:PGs X es (lGs T M1 Mt ws ts))(fx:Ye M M1=true:=by rfl)(hs:(assignEach (e::es) X.env).map (·.2)=assign e X.env::(assignEach es X.env).map (·.2):=by rfl):PGs X (e::es) (lGs T M Mt (us++ws) (tCons t ts)):=by
 refine⟨fun pins s σ H vs us Q I r hw=> ?_⟩
 obtain⟨B,O,Fs,ρ,ds,w,rp,ρ',e,k⟩:=hw
 cases ds with
 |nil=>cases e
 |cons d ds =>
  cases rp with
  |cons r1 r2 =>
   obtain⟨ρ1,e1,e2⟩:=Option.bind_eq_some_iff.mp e
   refine(pgs_cons h1 h2 hs).run pins s σ H _ us Q I r ⟨_,_,rfl,B,O,Fs,ρ,d,w,r1,ρ1,e1,fun σ1 Fs1 ev1 o1 w1=>⟨B,O,Fs1,ρ1,ds,w1,r2,ρ',e2,fun σ2 Fs2 ev2 o2 w2=>k σ2 Fs2 (ev1.trans fx ev2) (o1.trans o2) w2⟩⟩
def Yu(n:Nat)(ts:List D->Env->Option Env)(d:D)(ρ:Env):Option Env:=match d.seq with
 |some ds=>if ds.length=n then ts ds ρ else none
 |none=>none
theorem Yh{us:List Nat}{ts:List D->Env->Option Env}{k n:Nat}(hK:X.K=K)(hc:X.calm=true)(h:PGs X es (lGs T M Mt us ts))(hn:(assignEach es X.env).length=n:=by rfl)(hst:(assignEach es X.env).findIdx? (·.1)=none:=by rfl):PG X (.Tuple es k pos) (lG T M Mt us (Yu n ts)):=by
 subst hK
 refine⟨fun pins s σ H v u Q I r hw=> ?_⟩
 obtain⟨B,O,Fs,ρ,d,w,rp,ρ',e,kk⟩:=hw
 unfold Yu at e
 split at e
 ·rename_i ds hs
  split at e
  ·rename_i hl
   obtain⟨a,vs,e1,e2,e3⟩:=(show BRep T.G O [] H v d from .inl rp).seq hs
   subst e1
   have hl2:vs.length=n:=by rw[e3.length]; exact hl
   rcases e2 with e2|e2
   ·exact(pg_lst hc h hn hst).run pins s σ H _ u Q I r ⟨a,vs,rfl,e2,hl2,B,O,Fs,ρ,ds,w,e3,ρ',e,kk⟩
   ·exact(pg_tup hc h hn hst).run pins s σ H _ u Q I r ⟨a,vs,rfl,e2,hl2,B,O,Fs,ρ,ds,w,e3,ρ',e,kk⟩
  ·cases e
 ·cases e
def Zfm(f:Env->R D)(tg:D->Env->Option Env):Env->RS:=fun ρ=>(f ρ).bindS fun d ρ1=>match tg d ρ1 with
 |some ρ2=> .nx ρ2
 |none=> .bad
theorem ZeF{us:List Nat}{f:Env->R D}{tgt:Expr}{tg:D->Env->Option Env}(he:PE X e (lE (T.ex M) f))(wx:Wk M T.Mx)(hg:PG X tgt (lG T M Mt us tg))(hs:swapsWithSole [tgt] e pos.line X.env=pure false:=by rfl)(hw:swappedStores [tgt] e X.env=pure none:=by rfl)(ha:(assignEach [tgt] X.env).map (·.2)= [assign tgt X.env]:=by rfl):PS X (.Assign [tgt] e pos) (lS T M Mt (Zfm f tg)):=by
 refine PS.of (ps_asg he hg hs hw ha) fun E σ H ⟨B,O,Fs,ρ,w,run⟩=>⟨B,O,Fs,ρ,w,run.bindE wx (fun d ρ1 v O1 Fs1 H1 _ ev w1 r1 run1=> ?_) (ZM M)⟩
 cases e:tg d ρ1 with
 |none=>rw[e] at run1; exact run1.elim
 |some ρ2 =>
  rw[e] at run1
  exact⟨B,O1,Fs1,ρ1,d,w1,r1,ρ2,e,fun σ' Fs' ev' _ w'=>run1 O1 Fs' H1 σ' ev' w'⟩
end
def RS.loop(r:RS)(k:Env->RS):RS:=match r with
 |.nx ρ=>k ρ
 |.ct ρ=>k ρ
 |.bk ρ=> .nx ρ
 |r=>r
def Jo(c:Env->R Bool)(g:Env->RS):Nat->Env->RS
 |0,_=> .bad
 |n+1,ρ=>(c ρ).bindS fun k ρ1=>if k then (g ρ1).loop (Jo c g n) else .nx ρ1
def Za1(tg:D->Env->Option Env)(g:Env->RS):List D->Env->RS
 |[],ρ=> .nx ρ
 |x::xs,ρ=>match tg x ρ with
  |some ρ1=>(g ρ1).loop (Za1 tg g xs)
  |none=> .bad
section
variable {K:PySem.W.Frag}{T:Tx K}{M Mt Mn:List Md}{X:Cx}{st:Stmt}{body:List Stmt}{g:Env->RS}{pos:Pos}{e c tgt it:Expr}{t:Env->R Bool}
theorem Zhh{r:RS}{k:Env->RS}{B O:Addr->Prop}{Fs:List (List Addr)}{H:Hp}{σ:L2.St}{ρ:Env}{E:Ends}{N:L2.St->Hp->Prop}(run:RunS T Mt M (r.loop k) B O Fs H σ ρ E)
  (hN:∀ρ' O' Fs' H' σ',EvS Mt O Fs H σ ρ O' Fs' H' σ' ρ'->Wd T.G B O' Fs' H' σ' ρ' M->RunS T Mt M (k ρ') B O Fs H σ ρ E->N σ' H'):RunS { T with Mb:=M } Mt M r B O Fs H σ ρ { E with nx:=N,ct:=N,bk:=E.nx }:=by
 cases r with
 |nx ρ'=>exact fun O' Fs' H' σ' ev wd=>hN ρ' O' Fs' H' σ' ev wd run
 |ct ρ'=>exact fun O' Fs' H' σ' ev wd=>hN ρ' O' Fs' H' σ' ev wd run
 |bk ρ'=>exact run
 |rt d ρ'=>exact run
 |ex x ρ'=>exact run
 |bad=>exact run
theorem ZaM(n:Nat)(hp:PassesOwn (model X.prog X.w) X.A X.env X.xe)(hc:PT X c (lT (T.ex M) t))(wx:Wk M T.Mx)(hb:PSs X body (lS { T with Mb:=M } M M g)):PS X (.While c body [] pos) (lS T M M (Jo t g n)):=by
 refine PS.of (ps_while hp hc hb) fun E σ H ⟨B,O,Fs,ρ,w,run⟩=> ?_
 refine⟨fun m σ H=>∃B O Fs ρ,Wd T.G B O Fs H σ ρ M∧RunS T M M (Jo t g m ρ) B O Fs H σ ρ E,⟨n,B,O,Fs,ρ,w,run⟩, ?_⟩
 rintro m σ H ⟨B,O,Fs,ρ,w,run⟩
 cases m with
 |zero=>exact run.elim
 |succ m =>
  refine⟨B,O,Fs,ρ,w,RunS.bindE run wx (fun k ρ1 v O1 Fs1 H1 _ ev w1 r1 run1=> ?_) (ZM M)⟩
  cases (show v=k from r1)
  cases k with
  |false=>rw[if_neg (by decide)] at run1 ⊢; exact run1.use w1
  |true =>
   rw[if_pos rfl] at run1 ⊢
   refine⟨fun σ' H'=>∃B O Fs ρ,Wd T.G B O Fs H' σ' ρ M∧RunS T M M (Jo t g m ρ) B O Fs H' σ' ρ E,fun σ' H' h=>⟨m,Nat.lt_succ_self m,h⟩,B,O1,Fs1,ρ1,w1, ?_⟩
   exact Zhh run1 fun ρ' O' Fs' H' σ' ev' wd' run2=>⟨B,O',Fs',ρ',wd',RunS.shift run2 (ZM M) ev'⟩
structure Kp0 (O:Addr->Prop) (F:List Addr) (H:Hp) (O2:Addr->Prop) (H2:Hp):Prop where
 chg:∀b o,H b=some o->b∉F->H2 b=some o
 grow:∀b,O2 b->O b∨H b=none
structure ItOk (G:Gx K) (J:It) (xs:List D) (O:Addr->Prop) (F:List Addr) (H:Hp):Prop where
 go:∀i O2 H2,Kp0 O F H O2 H2->i < xs.length->J.go i H2
 yl:∀i O2 H2 x H3 d,Kp0 O F H O2 H2->Al O2 H2->J.yld i H2 x H3->xs[i]?=some d->Same H2 H3∧Rep G O2 H3 x d
 st:∀i O2 H2,Kp0 O F H O2 H2->xs.length<=i->J.stop i H2
abbrev vI(S:Sx K):QI (List D) It:=fun O Fs H J xs=>ItOk S.G J xs O Fs.flatten H
abbrev lI(S:Sx K)(f:Env->R (List D)):TI:=lX S (vI S) f
def Ym(f:Env->R (List D))(tg:D->Env->Option Env)(g:Env->RS):Env->RS:=fun ρ=>(f ρ).bindS fun xs ρ1=>Za1 tg g xs ρ1
theorem Zhi{us:List Nat}{f:Env->R (List D)}{tg:D->Env->Option Env}{wi:TI}{C:L2.St->Hp->Prop}(hp:PassesOwn (model X.prog X.w) X.A X.env X.xe)(hc:X.calm=true)(hi:PI X tgt it wi)(hw:∀σ H R,C σ H->lI (T.ex M) f σ H R->wi σ H R)(wx:Wk M T.Mx)(hg:PG X tgt (lG T M Mt us tg))(fx:Ye M Mt=true)(fx':Ye Mt M=true)(hb:PSs X body (lS { T with Mb:=M } Mt M g))
  (h1:∀x,foldedSetIterable it X.env x=pure x:=by intro _; rfl):PS X (.For tgt it body [] pos) (fun E σ H=>C σ H∧lS T M M (Ym f tg g) E σ H):=by
 refine PS.of (ps_for hp hc hi hg hb h1) fun E σ H ⟨hC,B,O,Fs,ρ,w,run⟩=> ?_
 refine hw σ H _ hC ⟨B,O,Fs,ρ,w,RunS.bindE run wx (fun xs ρ1 J O1 Fs1 H1 _ ev w1 r1 run1=> ?_) (ZM M)⟩
 refine⟨fun i m σ H=>∃O Fs ρ,m=xs.length - i∧Wd T.G B O Fs H σ ρ M∧Kp0 O1 Fs1.flatten H1 O H∧(∀b∈Fs.flatten,b∈Fs1.flatten∨H1 b=none)∧(∀b o,H1 b=some o->∃o',H b=some o')∧RunS T M M (Za1 tg g (xs.drop i) ρ) B O Fs H σ ρ E,⟨_,O1,Fs1,ρ1,rfl,w1,⟨fun _ _ h _=>h,fun _ h=> .inl h⟩,fun _ h=> .inl h,fun _ o h=>⟨o,h⟩,run1⟩, ?_⟩
 rintro i m σ H ⟨O,Fs,ρ,rfl,w,kp,fg,dm,run⟩
 by_cases hl:i < xs.length
 ·refine .inr ⟨r1.go i O H kp hl,fun σ' H'=>∃O Fs ρ,Wd T.G B O Fs H' σ' ρ M∧Kp0 O1 Fs1.flatten H1 O H'∧(∀b∈Fs.flatten,b∈Fs1.flatten∨H1 b=none)∧(∀b o,H1 b=some o->∃o',H' b=some o')∧RunS T M M (Za1 tg g (xs.drop (i+1)) ρ) B O Fs H' σ' ρ E,fun σ' H' ⟨O',Fs',ρ',h1,h2,h3,h4,h5⟩=>⟨xs.length - (i+1),by omega,O',Fs',ρ',rfl,h1,h2,h3,h4,h5⟩,fun x H3 hy=> ?_⟩
  have hd:xs[i]?=some (xs[i]'hl):=Xo hl
  obtain⟨sm,rp⟩:=r1.yl i O H x H3 _ kp w.al hy hd
  have w3:=w.same sm
  have dr:xs.drop i=xs[i]'hl::xs.drop (i+1):=XR hl
  rw[dr] at run
  unfold Za1 at run
  cases et:tg (xs[i]'hl) ρ with
  |none=>rw[et] at run; exact run.elim
  |some ρ2 =>
   rw[et] at run
   have run3:RunS T M M ((g ρ2).loop (Za1 tg g (xs.drop (i+1)))) B O Fs H3 σ ρ E:=RunS.shift run (ZM M) (Ev.same sm).toS
   refine⟨B,O,Fs,ρ,_,w3,rp,ρ2,et,fun σ2 Fs2 ev2 _ w2=>⟨B,O,Fs2,ρ2,w2, ?_⟩⟩
   refine Zhh (RunS.shift run3 fx ev2) fun ρ' O' Fs' H' σ' ev' wd' run4=>⟨O',Fs',ρ',wd',⟨fun b o hb n=> ?_,fun b hb=> ?_⟩,fun b hb=> ?_,fun b o hb=> ?_,RunS.shift run4 fx' ev'⟩
   ·have h3:=sm b o (kp.chg b o hb n)
    refine ev'.chg b o h3 fun z=> ?_
    rcases ev2.fgrow b z with z|z
    ·rcases fg b z with z|z
     ·exact n z
     ·rw[hb] at z; cases z
    ·rw[h3] at z; cases z
   ·rcases ev'.grow b hb with z|z
    ·exact kp.grow b z
    ·refine .inr ?_
     cases q:H1 b with
     |none=>rfl
     |some o=>obtain⟨o',ho⟩:=dm b o q; rw[sm b o' ho] at z; cases z
   ·rcases ev'.fgrow b hb with z|z
    ·rcases ev2.fgrow b z with z|z
     ·exact fg b z
     ·refine .inr ?_
      cases q:H1 b with
      |none=>rfl
      |some o=>obtain⟨o',ho⟩:=dm b o q; rw[sm b o' ho] at z; cases z
    ·refine .inr ?_
     cases q:H1 b with
     |none=>rfl
     |some o=>obtain⟨o',ho⟩:=dm b o q; rw[sm b o' ho] at z; cases z
   ·obtain⟨o',ho⟩:=dm b o hb
    exact ev'.dom b o' (sm b o' ho)
 ·refine .inl ⟨r1.st i O H kp (by omega), ?_⟩
  rw[XZ (by omega)] at run
  exact RunS.use run w
theorem Qm{us:List Nat}{f:Env->R (List D)}{tg:D->Env->Option Env}(hp:PassesOwn (model X.prog X.w) X.A X.env X.xe)(hc:X.calm=true)(hi:PI X tgt it (lI (T.ex M) f))(wx:Wk M T.Mx)(hg:PG X tgt (lG T M Mt us tg))(fx:Ye M Mt=true)(fx':Ye Mt M=true)(hb:PSs X body (lS { T with Mb:=M } Mt M g))
  (h1:∀x,foldedSetIterable it X.env x=pure x:=by intro _; rfl):PS X (.For tgt it body [] pos) (lS T M M (Ym f tg g)) :=
 PS.of (Zhi (C:=fun _ _=>True) hp hc hi (fun _ _ _ _ h=>h) wx hg fx fx' hb h1) fun _ _ _ h=>⟨True.intro,h⟩
end
section
variable {K:PySem.W.Frag}{S:Sx K}{X:Cx}{e tgt a b:Expr}{fa:Env->R D}{fs:Env->R (List D)}{pos p:Pos}
theorem PI.of{w w':TI}(h:PI X tgt e w)(i:∀σ H R,w' σ H R->w σ H R):PI X tgt e w':=⟨fun pins s σ H R I x=>h.run pins s σ H R I (i σ H R x)⟩
def sIt(g:D->Option (List D))(fa:Env->R D):Env->R (List D):=fun ρ=>(fa ρ).bind fun x ρ1=>R.of (g x) ρ1
theorem ZfY{G:Gx K}{O:Addr->Prop}{F:List Addr}{H:Hp}{a:Addr}{vs:List V}{ds:List D}(hk:∀O2 H2,Kp0 O F H O2 H2->Rd H2 a (.lst vs))(hF:∀b∈F,O b)(r:Reps G O H vs ds):ItOk G (Itl K a) ds O F H:=by
 have kept:∀O2 H2,Kp0 O F H O2 H2->Kept O H O2 H2:=fun O2 H2 k=>⟨fun b u n _ h=>by
   rcases h with h|⟨o,h⟩
   ·exact .inl (k.chg b _ h fun z=>n (hF b z))
   ·exact .inr ⟨o,k.chg b _ h fun z=>n (hF b z)⟩,fun b P n h=>k.chg b _ h fun z=>n (hF b z),fun b vs n h=>k.chg b _ h fun z=>n (hF b z),fun b o vs n h=>k.chg b _ h fun z=>n (hF b z),fun b C dx fs n h=>k.chg b _ h fun z=>n (hF b z),k.grow⟩
 refine⟨fun i O2 H2 k hi=> ?_,fun i O2 H2 x H3 d k al hy hd=> ?_,fun i O2 H2 k hi=>⟨vs,.inl (hk O2 H2 k),by rw[r.length]; exact hi⟩⟩
 ·have:i < vs.length:=by rw[r.length]; exact hi
  exact⟨vs,vs[i],.inl (hk O2 H2 k),Xo this⟩
 ·obtain⟨rfl,h⟩:=hy
  obtain⟨v,e1,e2⟩:=(r.keep (kept O2 H3 k)).get hd
  have:=h vs (.inl (hk O2 H3 k))
  rw[e1] at this
  cases this
  exact⟨Xt _,e2⟩
theorem Zhj{G:Gx K}{O:Addr->Prop}{F:List Addr}{H:Hp}{a:Addr}{vs:List V}{ds:List D}(hk:∀O2 H2,Kp0 O F H O2 H2->SqT K H2 a vs)(hF:∀b∈F,O b)(r:Reps G O H vs ds):ItOk G (Itt K a) ds O F H:=by
 have kept:∀O2 H2,Kp0 O F H O2 H2->Kept O H O2 H2:=fun O2 H2 k=>⟨fun b u n _ h=>by
   rcases h with h|⟨o,h⟩
   ·exact .inl (k.chg b _ h fun z=>n (hF b z))
   ·exact .inr ⟨o,k.chg b _ h fun z=>n (hF b z)⟩,fun b P n h=>k.chg b _ h fun z=>n (hF b z),fun b vs n h=>k.chg b _ h fun z=>n (hF b z),fun b o vs n h=>k.chg b _ h fun z=>n (hF b z),fun b C dx fs n h=>k.chg b _ h fun z=>n (hF b z),k.grow⟩
 refine⟨fun i O2 H2 k hi=> ?_,fun i O2 H2 x H3 d k al hy hd=> ?_,fun i O2 H2 k hi=>⟨vs,hk O2 H2 k,by rw[r.length]; exact hi⟩⟩
 ·have:i < vs.length:=by rw[r.length]; exact hi
  exact⟨vs,vs[i],hk O2 H2 k,Xo this⟩
 ·obtain⟨rfl,h⟩:=hy
  obtain⟨v,e1,e2⟩:=(r.keep (kept O2 H3 k)).get hd
  have:=h vs (hk O2 H3 k)
  rw[e1] at this
  cases this
  exact⟨Xt _,e2⟩
theorem BRep.lstK{G:Gx K}{O:Addr->Prop}{F:List Addr}{H:Hp}{v:V}{ds:List D}(h:BRep G O F H v (.lst ds))(hF:∀b∈F,O b):∃a vs,v= .ref a∧Reps G O H vs ds∧Rd H a (.lst vs)∧∀O2 H2,Kp0 O F H O2 H2->Rd H2 a (.lst vs):=by
 rcases h with h|⟨p,n,_,h|h|h⟩
 ·cases h with
  |lst r nO t =>
   refine⟨_,_,rfl,t,r,fun O2 H2 k=> ?_⟩
   rcases r with r|⟨o,r⟩
   ·exact .inl (k.chg _ _ r fun z=>nO (hF _ z))
   ·exact .inr ⟨o,k.chg _ _ r fun z=>nO (hF _ z)⟩
 ·obtain⟨a,vs,ds',Fs,e1,e2,e3,e4,e5⟩:=h
  cases e2
  have:a=p:=(X9 e4).1.symm
  subst this
  exact⟨a,vs,e1,Zbe e5,.inl e3,fun O2 H2 k=> .inl (k.chg _ _ e3 n)⟩
 ·obtain⟨a,kvs,Fs,e1,e2,⟨_,e3,_⟩|⟨_,e3,_⟩⟩:=h <;> cases e3
 ·obtain⟨a,C,dx,fvs,c,fs,Fs,e1,e2,_⟩:=h
  cases e2
theorem BRep.tplK{G:Gx K}{O:Addr->Prop}{F:List Addr}{H:Hp}{v:V}{d:D}{ds:List D}(h:BRep G O F H v d)(hs:d.tpl=some ds)(hF:∀b∈F,O b):∃a vs,v= .ref a∧Reps G O H vs ds∧SqT K H a vs∧∀O2 H2,Kp0 O F H O2 H2->SqT K H2 a vs:=by
 obtain⟨a,vs,e1,e2,e3,rp⟩:=h.tpl hs
 cases d with
 |tup xs =>
  obtain⟨a',vs',e4,e5,e6,e7⟩:=h.tup
  subst e4
  cases hs
  exact⟨a',vs',rfl,e7,SqT.of e5,fun O2 H2 k=>SqT.of (k.chg _ _ e5 fun z=>e6 (hF _ z))⟩
 |ktp xs =>
  cases rp with
  |ktp r t=>cases e1; cases hs; exact⟨_,_,rfl,t,r.sq,fun O2 H2 k=>r.sq⟩
  |ftp r n t =>
   cases e1; cases hs
   obtain⟨o,h,c,d⟩:=r
   exact⟨_,_,rfl,t,.inl (.inr ⟨o,h⟩),fun O2 H2 k=> .inl (.inr ⟨o,k.chg _ _ h fun z=>n (hF _ z)⟩)⟩
 |_=>cases hs
theorem ZA(hK:X.K=K)(ha:PE X e (lB S fa)):PI X tgt e (lI S (sIt D.seq fa)):=by
 subst hK
 refine⟨fun pins s σ H R I hw=> ?_⟩
 obtain⟨B,O,Fs,ρ,w,run⟩:=hw
 have go:(∀d ρ1,fa ρ= .ok d ρ1->∃ds,d= .lst ds)∨(∀d ρ1,fa ρ= .ok d ρ1->∀ds,d≠ .lst ds):=by
  cases hq:fa ρ with
  |ok d ρ1 =>
   cases d with
   |lst ds=>exact .inl fun d ρ1 e=>by cases e; exact⟨ds,rfl⟩
   |_=>exact .inr fun d ρ1 e ds z=>by cases e; cases z
  |ex x ρ1=>exact .inl fun d ρ1 e=>by cases e
  |bad=>exact .inl fun d ρ1 e=>by cases e
 rcases go with go|go
 ·refine(pi_list ha).run pins s σ H R I ⟨B,O,Fs,ρ,w,run.bind fun d ρ1 v O1 Fs1 H1 he ev1 w1 r1 run1=> ?_⟩
  obtain⟨ds,rfl⟩:=go d ρ1 he
  obtain⟨a,vs,e1,e2,e3,e4⟩:=r1.lstK w1.sub
  exact⟨a,e1,⟨vs,.inl e3⟩,run1.use w1 (ZfY e4 w1.sub e2)⟩
 ·refine(pi_tup ha).run pins s σ H R I ⟨B,O,Fs,ρ,w,run.bind fun d ρ1 v O1 Fs1 H1 he ev1 w1 r1 run1=> ?_⟩
  cases hs:d.seq with
  |none=>rw[hs] at run1; exact run1.elim
  |some ds =>
   rw[hs] at run1
   have ht:d.tpl=some ds:=by
    cases d with
    |lst xs=>exact absurd rfl (go _ ρ1 he xs)
    |tup xs=>exact hs
    |ktp xs=>exact hs
    |_=>cases hs
   obtain⟨a,vs,e1,e2,e3,e4⟩:=r1.tplK ht w1.sub
   exact⟨a,e1,⟨vs,e3⟩,run1.use w1 (Zhj e4 w1.sub e2)⟩
def Zj2:D->Option (List D)
 |.str x=>some (x.cps.toList.map fun c=> .str ⟨#[c]⟩)
 |_=>none
theorem Zni(ha:PE X e (lB S fa)):PI X tgt e (lI S (sIt Zj2 fa)):=by
 refine PI.of (pi_str ha) fun σ H R ⟨B,O,Fs,ρ,w,run⟩=>⟨B,O,Fs,ρ,w,run.bind fun d ρ1 v O1 Fs1 H1 he ev1 w1 r1 run1=> ?_⟩
 cases d with
 |str x =>
  refine⟨x,r1.str,run1.use w1 ⟨fun i O2 H2 _ hi=> ?_,fun i O2 H2 y H3 d k al hy hd=> ?_,fun i O2 H2 _ hi=> ?_⟩⟩
  ·rw[Xx] at hi
   exact(show i < x.cps.size by simpa using hi)
  ·obtain⟨rfl,c,hc,rfl⟩:=hy
   refine⟨Xt _, ?_⟩
   rw[XQ] at hd
   have hc':x.cps.toList[i]?=some c:=by simpa using hc
   rw[hc'] at hd
   cases hd
   exact .str _
  ·rw[Xx] at hi
   exact(show x.cps.size<=i by simpa using hi)
 |_=>exact run1.elim
def rng(lo:Int)(n:Nat):List D:=(List.range n).map fun(i:Nat)=> .int (lo+(i:Int))
theorem Zme{G:Gx K}{O:Addr->Prop}{F:List Addr}{H:Hp}{lo:Int}{n:Nat}:ItOk G (Itr lo n) (rng lo n) O F H:=by
 have hl:(rng lo n).length=n:=by unfold rng; simp
 refine⟨fun i O2 H2 _ hi=>by rw[hl] at hi; exact hi,fun i O2 H2 y H3 d k al hy hd=> ?_,fun i O2 H2 _ hi=>by rw[hl] at hi; exact hi⟩
 obtain⟨rfl,rfl⟩:=hy
 refine⟨Xt _, ?_⟩
 unfold rng at hd
 rw[XQ] at hd
 cases hq:(List.range n)[i]? with
 |none=>rw[hq] at hd; cases hd
 |some j =>
  rw[hq] at hd
  cases hd
  have:j=i:=by
   have:=Xu.mp hq
   obtain⟨h1,h2⟩:=this
   simpa using h2.symm
  subst this
  exact .int _
def Zmf:List D->Option (List D)
 |[.int j]=>if -(2 ^ 62)<=j∧j < 2 ^ 62 then some (rng 0 j.toNat) else none
 |[.int i,.int j]=>if -(2 ^ 62)<=i∧i < 2 ^ 62∧ -(2 ^ 62)<=j∧j < 2 ^ 62 then some (rng i (j - i).toNat) else none
 |_=>none
def Zoq(g:List D->Option (List D))(fs:Env->R (List D)):Env->R (List D):=fun ρ=>(fs ρ).bind fun x ρ1=>R.of (g x) ρ1
theorem Zmg(hg:Gl X "range")(hm:X.mg "range" =none)(ha:PA X [a] (lBs S fs))(hs:starEach [a] X.env= [(false,eval a X.env)]:=by rfl)(h1:∀ρ ds ρ1,fs ρ= .ok ds ρ1->ds.length=1):PI X tgt (.Call (.Name "range" p) [a] [] pos) (lI S (Zoq Zmf fs)):=by
 refine PI.of (pi_range1 hg hm ha hs) fun σ H R ⟨B,O,Fs,ρ,w,run⟩=>⟨B,O,Fs,ρ,w,run.bind fun ds ρ1 vs O1 Fs1 H1 he ev1 w1 r1 run1=> ?_⟩
 have hl:=h1 ρ ds ρ1 he
 unfold Zmf at run1
 split at run1
 ·rename_i j
  split at run1
  ·rename_i hj
   obtain⟨v,e1,r2⟩:=Zlb r1
   exact⟨j,by rw[e1,r2.int],hj.1,hj.2,run1.use w1 Zme⟩
  ·exact run1.elim
 ·cases hl
 ·exact run1.elim
theorem ZnF:∀ρ ds ρ1,Zb ρ= .ok ds ρ1->ds.length=0:=fun ρ ds ρ1 h=>by cases h; rfl
theorem Zmh{n:Nat}{fa:Env->R D}{fs:Env->R (List D)}(h:∀ρ ds ρ1,fs ρ= .ok ds ρ1->ds.length=n):∀ρ ds ρ1,Za fa fs ρ= .ok ds ρ1->ds.length=n+1:=fun ρ ds ρ1 e=>by
 unfold Za at e
 cases e1:fa ρ with
 |ok a ρ2 =>
  rw[e1] at e
  cases e2:fs ρ2 with
  |ok as ρ3 =>
   simp only[R.bind,e2] at e
   cases e
   rw[Xs,h _ _ _ e2]
  |ex x ρ3=>simp only[R.bind,e2] at e; cases e
  |bad=>simp only[R.bind,e2] at e; cases e
 |ex x ρ2=>rw[e1] at e; cases e
 |bad=>rw[e1] at e; cases e
end
end Pu
namespace Pu
open PySem L2 PySem.Spec PyProof.Rows Pw
def Y8:List Md->List D->Env->List D
 |.op _::pm,d::ds,some d'::ρ=>d'::Y8 pm ds ρ
 |_::pm,d::ds,_::ρ=>d::Y8 pm ds ρ
 |_,_,_=> []
def Zx(pm:List Md)(n:Nat)(g:Env->RS)(ds:List D):RF:=match g (ds.map some++List.replicate n none) with
 |.nx ρ=> .ok .non (Y8 pm ds ρ)
 |.rt d ρ=> .ok d (Y8 pm ds ρ)
 |.ex x ρ=> .ex x (Y8 pm ds ρ)
 |_=> .bad
def Md.ret:Md->Md
 |.op t=> .op t
 |_=> .na
def Zcm:List Md->Bool
 |[]=>true
 |.ow _::_=>false
 |_::ms=>Zcm ms
def J6(pm:List Md)(n:Nat):List Md:=pm.map Md.ret++List.replicate n .na
abbrev Zfn{K:PySem.W.Frag}(G:Gx K)(xa:String->Option Addr)(E:XK)(pm:List Md)(n:Nat):Tx K:=⟨G,xa,fun c d _ H=>E c d H,[],J6 pm n,J6 pm n⟩
theorem Zhk:∀{pm:List Md}{ds:List D}{ρ:Env},ds.length=pm.length->pm.length<=ρ.length->(Y8 pm ds ρ).length=pm.length
 |[],ds,ρ,h,_=>by unfold Y8; cases ds <;> first|rfl|cases h
 |m::pm,[],_,h,_=>by cases h
 |m::pm,d::ds,[],_,h=>by cases h
 |m::pm,d::ds,r::ρ,h1,h2=>by
  have ih:=Zhk (pm:=pm) (ds:=ds) (ρ:=ρ) (by simpa using h1) (by simpa using h2)
  cases m with
  |op t =>
   cases r with
   |none=>unfold Y8; rw[Xs,Xs,ih]
   |some r=>unfold Y8; rw[Xs,Xs,ih]
  |_=>unfold Y8; rw[Xs,Xs,ih]
theorem Zc2:∀{pm:List Md}{ds:List D}{ρ:Env}{i:Nat}{m:Md},ds.length=pm.length->pm.length<=ρ.length->pm[i]?=some m->m.isOw=false->(Y8 pm ds ρ)[i]?=ds[i]?
 |[],_,_,_,_,_,_,e,_=>by simp at e
 |a::pm,[],_,_,_,h,_,_,_=>by cases h
 |a::pm,d::ds,[],_,_,_,h,_,_=>by cases h
 |a::pm,d::ds,r::ρ,0,m,_,_,e,ho=>by
  cases e
  cases a with
  |op t=>cases ho
  |_=>unfold Y8; rfl
 |a::pm,d::ds,r::ρ,i+1,m,h1,h2,e,ho=>by
  have ih:=Zc2 (pm:=pm) (ds:=ds) (ρ:=ρ) (i:=i) (m:=m) (by simpa using h1) (by simpa using h2) (by simpa using e) ho
  cases a with
  |op t =>
   cases r with
   |none=>unfold Y8; simpa using ih
   |some r=>unfold Y8; simpa using ih
  |_=>unfold Y8; simpa using ih
theorem Zjz:∀{pm:List Md}{ds:List D}{ρ:Env}{i:Nat}{t:Shp}{d':D},ds.length=pm.length->pm[i]?=some (.op t)->ρ[i]?=some (some d')->(Y8 pm ds ρ)[i]?=some d'
 |[],_,_,_,_,_,_,e,_=>by simp at e
 |a::pm,[],_,_,_,_,h,_,_=>by cases h
 |a::pm,d::ds,[],_,_,_,_,_,e=>by simp at e
 |a::pm,d::ds,r::ρ,0,t,d',_,e,e2=>by
  cases e
  cases e2
  unfold Y8
  rfl
 |a::pm,d::ds,r::ρ,i+1,t,d',h1,e,e2=>by
  have ih:=Zjz (pm:=pm) (ds:=ds) (ρ:=ρ) (i:=i) (t:=t) (d':=d') (by simpa using h1) (by simpa using e) (by simpa using e2)
  cases a with
  |op t =>
   cases r with
   |none=>unfold Y8; simpa using ih
   |some r=>unfold Y8; simpa using ih
  |_=>unfold Y8; simpa using ih
section
variable {K:PySem.W.Frag}{G:Gx K}{xa:String->Option Addr}{B O O':Addr->Prop}{Fs Fs':List (List Addr)}{H H':Hp}{σ σ':L2.St}{ρ ρ':Env}{M:List Md}
theorem EvS.kept(e:EvS M O Fs H σ ρ O' Fs' H' σ' ρ')(s:∀a∈Fs.flatten,O a):Kept O H O' H' where
 rd:=fun b u n _ h=>by
  rcases h with h|⟨o,h⟩
  ·exact .inl (e.chg b _ h fun z=>n (s b z))
  ·exact .inr ⟨o,e.chg b _ h fun z=>n (s b z)⟩
 ext:=fun b P n h=>e.chg b _ h fun z=>n (s b z)
 tup:=fun b vs n h=>e.chg b _ h fun z=>n (s b z)
 ftp:=fun b o vs n h=>e.chg b _ h fun z=>n (s b z)
 ins:=fun b C dx fs n h=>e.chg b _ h fun z=>n (s b z)
 grow:=e.grow
theorem Zhl{pm:List Md}{n:Nat}{vs:List V}{ds:List D}(w:Wd G O O Fs H (vs.map some) (ds.map some) pm)(ok:Zcm pm=true)(ev:EvS (pm++List.replicate n .na) O (Fs++List.replicate n []) H (vs.map some++List.replicate n none) (ds.map some++List.replicate n none) O' Fs' H' σ' ρ')(w':Wd G O O' Fs' H' σ' ρ' (J6 pm n)) :
  ∃Fs2,Ev pm O Fs H (ds.map some) O' Fs2 H' ((Y8 pm ds ρ').map some)∧Wd G O O' Fs2 H' (vs.map some) ((Y8 pm ds ρ').map some) pm:=by
 have fl:(Fs++List.replicate n []).flatten=Fs.flatten:=by rw[VF,YO,Vd]
 have lv:vs.length=pm.length:=by simpa using w.ls
 have ld:ds.length=pm.length:=by simpa using w.lr
 have lf:Fs.length=pm.length:=w.lf
 have lr':ρ'.length=pm.length+n:=by rw[w'.lr]; unfold J6; simp
 have lf':Fs'.length=pm.length+n:=by rw[w'.lf]; unfold J6; simp
 have lo:=Zhk (pm:=pm) (ds:=ds) (ρ:=ρ') ld (by omega)
 have subT:∀b∈(Fs'.take pm.length).flatten,b∈Fs'.flatten:=fun b hb=>by
  obtain⟨F,hF,hb⟩:=VP.mp hb
  exact Zj (List.mem_of_mem_take hF) hb
 have chg:∀b o,H b=some o->b∉Fs.flatten->H' b=some o:=fun b o h z=>ev.chg b o h (by rw[fl]; exact z)
 have fgr:∀b∈Fs'.flatten,b∈Fs.flatten∨H b=none:=fun b hb=>by have:=ev.fgrow b hb; rwa[fl] at this
 have k:Kept O H O' H':=ev.kept (by rw[fl]; exact w.sub)
 have nowm:∀(i:Nat) (t:Shp),pm[i]?≠some (Md.ow t):=by
  intro i t
  clear ev w w' lv ld lf lr' lf' lo subT
  induction pm generalizing i with
  |nil=>simp
  |cons m ms ih =>
   cases i with
   |zero =>
    intro z
    cases z
    cases ok
   |succ i =>
    have ok':Zcm ms=true:=by cases m <;> first|exact ok|cases ok
    simpa using ih ok' i
 refine⟨Fs'.take pm.length,⟨chg,ev.dom,fun b hb=>w'.bo b hb,ev.grow,fun b hb=>fgr b (subT b hb),fun j m hj ho=> ?_⟩,⟨?_,fun a ha=>w'.sub a (subT a ha),w'.bo,w'.al,by simpa using lv,by rw[Xx]; exact lo,by rw[List.length_take]; omega,fun i m v d f e1 e2 e3 e4=> ?_⟩⟩
 ·rw[XQ,XQ,Zc2 ld (by omega) hj ho]
 ·have:=w'.nd
  rw[<- List.take_append_drop pm.length Fs',VF,X2] at this
  exact this.1
 ·have hi:i < pm.length:=(Xu.mp e1).1
  have e4':Fs'[i]?=some f:=by
   rw[List.getElem?_take] at e4
   simpa[hi] using e4
  obtain⟨v0,d0,F0,h1,h2,h3,sl⟩:=w.get e1
  rw[e2] at h1
  cases h1
  have hr:(J6 pm n)[i]?=some m.ret:=by
   unfold J6
   rw[X0 (by simpa using hi),XQ,e1]
   rfl
  obtain⟨v1,d1,F1,g1,g2,g3,sl'⟩:=w'.get hr
  rw[e4'] at g3
  cases g3
  have same:m.isOw=false->d=d0:=fun ho=>by
   rw[XQ,Zc2 ld (by omega) e1 ho,<- XQ,h2] at e3
   exact(XJ e3).symm
  cases m with
  |na=>exact sl'
  |hd=>exact sl'
  |sh =>
   have:=same rfl
   subst this
   obtain⟨_,v',d',q1,q2,r⟩:=sl
   exact⟨sl',v',d',q1,q2,r.keep k⟩
  |mb =>
   have:=same rfl
   subst this
   obtain⟨_,h⟩:=sl
   exact⟨sl',fun d' hd=>by obtain⟨v',e1,r⟩:=h d' hd; exact⟨v',e1,r.keep k⟩⟩
  |th a c q l =>
   obtain⟨_,q1,⟨h1,h2⟩,h3⟩:=sl
   exact⟨sl',q1,⟨k.no h2 h1,k.ext _ _ h1 h2⟩,fun p hp=>(h3 p hp).keep k⟩
  |br =>
   have:=same rfl
   subst this
   obtain⟨_,v',d',q1,q2,r⟩:=sl
   refine⟨sl',v',d',q1,q2, ?_⟩
   rcases r with r|⟨p,np,⟨o,ho⟩,r⟩
   ·exact .inl (r.keep k)
   ·have kp:∀b∈ [p],H' b=H b:=fun b hb=>by
     rw[Xb.mp hb,ho]
     exact chg p o ho np
    refine .inr ⟨p,fun z=> ?_,⟨o,chg p o ho np⟩, ?_⟩
    ·rcases fgr p (subT p z) with z|z
     ·exact np z
     ·rw[ho] at z; cases z
    ·rcases r with r|r|r
     ·exact .inl (Own.keep k _ kp r)
     ·exact .inr (.inl (Own.keep k _ kp r))
     ·exact .inr (.inr (Own.keep k _ kp r))
  |ow t=>exact absurd e1 (nowm i t)
  |op t =>
   obtain⟨v',d',q1,q2,ow⟩:=sl'
   subst q1 q2
   have hs:=ev.sig i (.op t) (by rw[X0 hi]; exact e1) rfl
   rw[g1,X0 (by rw[Xx]; omega),e2] at hs
   rw[XQ,Zjz ld e1 g2] at e3
   cases hs
   cases e3
   exact⟨v',d',rfl,rfl,ow⟩
theorem Zfo{pm:List Md}{n:Nat}{g:Env->RS}{vs:List V}{Q:VK}{E:XK}(ok:Zcm pm=true)(h:SpF G xa pm (Zx pm n g) vs H Q E):lS (Zfn G xa E pm n) (pm++List.replicate n .na) (J6 pm n) g { nx:=fun _ H'=>Q .non H',rt:=Q } (vs.map some++List.replicate n none) H:=by
 obtain⟨O,Fs,ds,w,run⟩:=h
 have fl:(Fs++List.replicate n []).flatten=Fs.flatten:=by rw[VF,YO,Vd]
 have w0:Wd G O O (Fs++List.replicate n []) H (vs.map some++List.replicate n none) (ds.map some++List.replicate n none) (pm++List.replicate n .na):=by
  refine⟨by rw[fl]; exact w.nd,by rw[fl]; exact w.sub,w.bo,w.al,by rw[XX,XX,w.ls]; simp,by rw[XX,XX,w.lr]; simp,by rw[XX,XX,w.lf]; simp,fun i m v d f e1 e2 e3 e4=> ?_⟩
  rw[fl]
  by_cases hi:i < pm.length
  ·rw[X0 hi] at e1
   rw[X0 (by rw[w.ls]; exact hi)] at e2
   rw[X0 (by rw[w.lr]; exact hi)] at e3
   rw[X0 (by rw[w.lf]; exact hi)] at e4
   exact w.sl i m v d f e1 e2 e3 e4
  ·rw[List.getElem?_append_right (by omega)] at e1
   rw[List.getElem?_append_right (by rw[w.lf]; omega)] at e4
   have h1:=(Vy.mp (Xa e1)).2
   have h2:=(Vy.mp (Xa e4)).2
   subst h1 h2
   exact rfl
 refine⟨O,O,_,_,w0, ?_⟩
 unfold Zx at run
 cases e:g (ds.map some++List.replicate n none) with
 |nx ρ' =>
  rw[e] at run
  intro O' Fs' H' σ' ev wd
  obtain⟨Fs2,ev2,w2⟩:=Zhl w ok ev wd
  exact run .non O' Fs2 H' ev2 w2 .non
 |rt d ρ' =>
  rw[e] at run
  intro v O' Fs' H' σ' ev wd r
  obtain⟨Fs2,ev2,w2⟩:=Zhl w ok ev wd
  exact run v O' Fs2 H' ev2 w2 r
 |ex x ρ' =>
  rw[e] at run
  intro cls dd O' Fs' H' σ' ev wd r
  obtain⟨Fs2,ev2,w2⟩:=Zhl w ok ev wd
  exact run cls dd O' Fs2 H' ev2 w2 r
 |bk ρ'=>rw[e] at run; exact run.elim
 |ct ρ'=>rw[e] at run; exact run.elim
 |bad=>rw[e] at run; exact run.elim
end
theorem ZgC{P:Program}{w:World}{K:PySem.W.Frag}{G:Gx K}{xa:String->Option Addr}{mg:Str->Option Value}{base:Heap}{x qual:Str}{st:Stmt}{f:Addr}{fd:FuncData}{N ps:List Str}{k n:Nat}{pm:List Md}{g:Env->RS}(F:Fun K x qual st f fd)(S:FnScope N ps (defScope st))(hl:pm.length=ps.length)(ok:Zcm pm=true)(hn:N.length=ps.length+n)
  (hbody:∀(cdv:Value) (A:Around) (outer:List PySem.Env) (s:Shared) (H:Hp) (E:XK),RoomG k (A.deeper (envOfC qual (defScope st) s.heap.objs.size f cdv))->
   PSs (cxOf (L2.CX P w) P w K mg base N qual (defScope st) f cdv A outer s H E) (defBody st) (lS (Zfn G xa E pm n) (pm++List.replicate n .na) (J6 pm n) g)):FnOkG P w K mg base (L2.CX P w) (k+1) f fd ps (SpF G xa pm (Zx pm n g)):=by
 have len:∀vs H Q E,SpF G xa pm (Zx pm n g) vs H Q E->vs.length=ps.length:=fun vs H Q E ⟨O,Fs,ds,w,_⟩=>by
  have:=w.ls
  rw[Xx] at this
  omega
 refine okG F S len fun cdv A outer s H vs Q E hr h=>⟨_,hbody cdv A outer s H E hr, ?_⟩
 have hv:=len vs H Q E h
 have es:L2.start N vs=vs.map some++List.replicate n none:=by
  unfold L2.start
  rw[hn,hv,Nat.add_sub_cancel_left]
 rw[es]
 exact Zfo ok h
theorem Zhm{P:Program}{w:World}{K:PySem.W.Frag}{G:Gx K}{xa:String->Option Addr}{mg:Str->Option Value}{base:Heap}{x qual:Str}{params:Arguments}{body:List Stmt}{scope:Scope}{dvs:List V}{kws:List (Str × V)}{f:Addr}{fd:FuncData}{N ps:List Str}{k n:Nat}{pm:List Md}{g:Env->RS}(F:FunD K x qual params body scope dvs kws f fd)(S:FnScope N ps scope)(hl:pm.length=ps.length)(ok:Zcm pm=true)(hn:N.length=ps.length+n)
  (hbody:∀(cdv:Value) (A:Around) (outer:List PySem.Env) (s:Shared) (H:Hp) (E:XK),RoomG k (A.deeper (envOfC qual scope s.heap.objs.size f cdv))->
   PSs (cxOf (L2.CX P w) P w K mg base N qual scope f cdv A outer s H E) body (lS (Zfn G xa E pm n) (pm++List.replicate n .na) (J6 pm n) g)):FnOkG P w K mg base (L2.CX P w) (k+1) f fd ps (SpF G xa pm (Zx pm n g)):=by
 have len:∀vs H Q E,SpF G xa pm (Zx pm n g) vs H Q E->vs.length=ps.length:=fun vs H Q E ⟨O,Fs,ds,w,_⟩=>by
  have:=w.ls
  rw[Xx] at this
  omega
 refine Zqa F S len fun cdv A outer s H vs Q E hr h=>⟨_,hbody cdv A outer s H E hr, ?_⟩
 have hv:=len vs H Q E h
 have es:L2.start N vs=vs.map some++List.replicate n none:=by
  unfold L2.start
  rw[hn,hv,Nat.add_sub_cancel_left]
 rw[es]
 exact Zfo ok h
end Pu
namespace Pu
open PySem L2 PySem.Spec PyProof.Rows Pw
def Ze(ρ:Env):List Nat->Env
 |[]=>ρ
 |v::vs=>(Ze ρ vs).set v none
def R.noX{α:Type}:R α->R α
 |.ex _ _=> .bad
 |r=>r
def lcL(tg:D->Env->Option Env)(tt:Env->R Bool)(te:Env->R D)(vs:List Nat):List D->Env->R (List D)
 |[],ρ=> .ok [] ρ
 |x::xs,ρ=>match tg x ρ with
  |none=> .bad
  |some ρ1=>(tt ρ1).noX.bind fun k ρ2=>if k then (te ρ2).noX.bind fun y ρ3=>(lcL tg tt te vs xs (Ze ρ3 vs)).bind fun ys ρ4=> .ok (y::ys) ρ4 else lcL tg tt te vs xs (Ze ρ2 vs)
def sLc(f:Env->R (List D))(tg:D->Env->Option Env)(tt:Env->R Bool)(te:Env->R D)(vs:List Nat):Env->R D:=fun ρ=>(f ρ).bind fun xs ρ1=>if xs.length<=line then (lcL tg tt te vs xs (Ze ρ1 vs)).bind fun ys ρ2=> .ok (.lst ys) ρ2 else .bad
def Yi(M:List Md):List Nat->Bool
 |[]=>true
 |v::vs=>(match M[v]? with|some .na=>true|_=>false) && Yi M vs
theorem Qk{M:List Md}:∀{vs:List Nat}{v:Nat},Yi M vs=true->v∈vs->M[v]?=some .na
 |[],_,_,h=>by cases h
 |u::us,v,h,hv=>by
  unfold Yi at h
  rw[Xp] at h
  rcases XB.mp hv with rfl|hv
  ·have:=h.1
   split at this
   ·assumption
   ·cases this
  ·exact Qk h.2 hv
theorem wipe_out:∀{vs:List Nat}{σ:L2.St}{j:Nat},j∉vs->(wipe σ vs)[j]?=σ[j]?
 |[],_,_,_=>rfl
 |v::vs,σ,j,h=>by
  unfold wipe
  rw[Xf (fun z=>h (by rw[z]; exact Xg ..)),wipe_out (fun z=>h (Xm _ z))]
theorem Zq:∀{vs:List Nat}{ρ:Env}{j:Nat},j∉vs->(Ze ρ vs)[j]?=ρ[j]?
 |[],_,_,_=>rfl
 |v::vs,σ,j,h=>by
  unfold Ze
  rw[Xf (fun z=>h (by rw[z]; exact Xg ..)),Zq (fun z=>h (Xm _ z))]
theorem ZR:∀{vs:List Nat}{ρ:Env},(Ze ρ vs).length=ρ.length
 |[],_=>rfl
 |v::vs,σ=>by unfold Ze; rw[Xl,ZR]
theorem Zfp:∀{vs:List Nat}{σ:L2.St}{j:Nat},j∈vs->j < σ.length->(wipe σ vs)[j]?=some none
 |v::vs,σ,j,h,hl=>by
  unfold wipe
  by_cases e:v=j
  ·subst e
   rw[Xj (by rw[Vj]; exact hl)]
  ·rw[Xf e]
   rcases XB.mp h with z|z
   ·exact absurd z.symm e
   ·exact Zfp z hl
theorem Zea:∀{vs:List Nat}{ρ:Env}{j:Nat},j∈vs->j < ρ.length->(Ze ρ vs)[j]?=some none
 |v::vs,σ,j,h,hl=>by
  unfold Ze
  by_cases e:v=j
  ·subst e
   rw[Xj (by rw[ZR]; exact hl)]
  ·rw[Xf e]
   rcases XB.mp h with z|z
   ·exact absurd z.symm e
   ·exact Zea z hl
theorem Z6{vs:List Nat}{ρ:Env}:Ze (Ze ρ vs) vs=Ze ρ vs:=by
 apply List.ext_getElem?
 intro j
 by_cases h:j∈vs
 ·by_cases hl:j < ρ.length
  ·rw[Zea h (by rw[ZR]; exact hl),Zea h hl]
  ·rw[Vz (by rw[ZR,ZR]; omega),Vz (by rw[ZR]; omega)]
 ·rw[Zq h]
theorem J7{vs ts:List Nat}{σ σ2:L2.St}(o:Out1 ts (wipe σ vs) σ2)(hs:∀t∈ts,t∈vs):wipe σ2 vs=wipe σ vs:=by
 apply List.ext_getElem?
 intro j
 by_cases h:j∈vs
 ·by_cases hl:j < σ.length
  ·rw[Zfp h hl,Zfp h (by rw[o.1,Vj]; exact hl)]
  ·rw[Vz (by rw[Vj,o.1,Vj]; omega),Vz (by rw[Vj]; omega)]
 ·rw[wipe_out h,o.2 j fun z=>h (hs j z)]
section
variable {K:PySem.W.Frag}{G:Gx K}{B O O':Addr->Prop}{Fs Fs':List (List Addr)}{H H':Hp}{σ σ':L2.St}{ρ ρ':Env}{M:List Md}
theorem Wd.swap(w:Wd G B O Fs H σ ρ M)(hs:σ'.length=σ.length)(hr:ρ'.length=ρ.length)(h:∀(j:Nat),M[j]?≠some Md.na->σ'[j]?=σ[j]?∧ρ'[j]?=ρ[j]?):Wd G B O Fs H σ' ρ' M:=by
 refine⟨w.nd,w.sub,w.bo,w.al,by rw[hs]; exact w.ls,by rw[hr]; exact w.lr,w.lf,fun i m v d f e1 e2 e3 e4=> ?_⟩
 cases m with
 |na =>
  obtain⟨v0,d0,f0,_,_,h3,sl⟩:=w.get e1
  rw[e4] at h3
  cases h3
  exact sl
 |hd=>obtain⟨a,b⟩:=h i (by rw[e1]; intro z; cases z); exact w.sl i _ v d f e1 (a ▸ e2) (b ▸ e3) e4
 |sh=>obtain⟨a,b⟩:=h i (by rw[e1]; intro z; cases z); exact w.sl i _ v d f e1 (a ▸ e2) (b ▸ e3) e4
 |th _ _ _ _=>obtain⟨a,b⟩:=h i (by rw[e1]; intro z; cases z); exact w.sl i _ v d f e1 (a ▸ e2) (b ▸ e3) e4
 |mb=>obtain⟨a,b⟩:=h i (by rw[e1]; intro z; cases z); exact w.sl i _ v d f e1 (a ▸ e2) (b ▸ e3) e4
 |br=>obtain⟨a,b⟩:=h i (by rw[e1]; intro z; cases z); exact w.sl i _ v d f e1 (a ▸ e2) (b ▸ e3) e4
 |ow t=>obtain⟨a,b⟩:=h i (by rw[e1]; intro z; cases z); exact w.sl i _ v d f e1 (a ▸ e2) (b ▸ e3) e4
 |op t=>obtain⟨a,b⟩:=h i (by rw[e1]; intro z; cases z); exact w.sl i _ v d f e1 (a ▸ e2) (b ▸ e3) e4
theorem Ev.swap{ρ0:Env}{O0:Addr->Prop}{Fs0:List (List Addr)}{H0:Hp}(e:Ev M O0 Fs0 H0 ρ0 O Fs H ρ)(h:∀(j:Nat),M[j]?≠some Md.na->ρ'[j]?=ρ[j]?):Ev M O0 Fs0 H0 ρ0 O Fs H ρ' :=
 ⟨e.chg,e.dom,e.mono,e.grow,e.fgrow,fun j m h1 h2=>(h j (by rw[h1]; intro z; cases z; cases h2)).trans (e.keep j m h1 h2)⟩
end
inductive Nk:List Md->List Md->Prop
 |refl (M:List Md):Nk M M
 |na {M M':List Md}(j:Nat):Nk (M.set j .na) M'->Nk M M'
theorem Wd.nk{K:PySem.W.Frag}{G:Gx K}{B O:Addr->Prop}{H:Hp}{σ:L2.St}{ρ:Env}{M M':List Md}(k:Nk M M'):∀{Fs:List (List Addr)},Wd G B O Fs H σ ρ M->∃Fs1,Wd G B O Fs1 H σ ρ M'∧∀b∈Fs1.flatten,b∈Fs.flatten:=by
 induction k with
 |refl M=>exact fun {Fs} w=>⟨Fs,w,fun _ h=>h⟩
 |na j k ih =>
  intro Fs w
  obtain⟨Fs1,w1,l1⟩:=ih (w.dropNa j)
  exact⟨Fs1,w1,fun b h=>Y5 b (l1 b h)⟩
abbrev Sx.tx{K:PySem.W.Frag}(S:Sx K):Tx K:=⟨S.G,S.xa,fun _ _ _ _=>False,[],[],[]⟩
abbrev Sx.inn{K:PySem.W.Frag}(S:Sx K)(Mt:List Md):Sx K:=⟨S.G,S.xa,fun _ _ _ _=>False,Mt⟩
section
variable {K:PySem.W.Frag}{S:Sx K}{X:Cx}{elt tg iter c:Expr}{ifs:List Expr}{scope:Scope}{own:List (Str × Nat)}{pos:Pos}{f:Env->R (List D)}{tgf:D->Env->Option Env}{tt:Env->R Bool}{te:Env->R D}{Mt:List Md}{us:List Nat}
def ZO:Env->R Bool:=fun ρ=> .ok true ρ
theorem PTs.of{X:Cx}{e:List Expr}{t t':TT}(h:PTs X e t)(i:∀σ H Q,t' σ H Q->t σ H Q):PTs X e t':=⟨fun pins s σ H Q I x=>h.run pins s σ H Q I (i σ H Q x)⟩
theorem ZC:PTs X [] (lT S ZO):=PTs.of pts_nil fun σ H Q ⟨B,O,Fs,ρ,w,run⟩=>run.use w rfl
theorem Qp{t:Env->R Bool}(h:PT X c (lT S t)):PTs X [c] (lT S t):=pts_one h
theorem Wd.emb{G:Gx K}{B O:Addr->Prop}{Fs:List (List Addr)}{H:Hp}{σ:L2.St}{ρ:Env}{vs:List Nat}{M:List Md}(w:Wd G B O Fs H σ ρ M)(hv:Yi M vs=true):Wd G B O Fs H (wipe σ vs) (Ze ρ vs) M :=
 w.swap (Vj _ _) ZR fun j h=>⟨wipe_out fun z=>h (Qk hv z),Zq fun z=>h (Qk hv z)⟩
theorem Zqs{vs:List Nat}{σ:L2.St}{H:Hp}{Q:VK}{wi:TI}{B O:Addr->Prop}{Fs:List (List Addr)}{ρ:Env}(w:Wd S.G B O Fs H σ ρ S.M)(run:RunF S (.lst .sh) (sLc f tgf tt te vs ρ) B O Fs H σ ρ Q)(hw:∀R,Run S (vI S) (f ρ) B O Fs H σ ρ R->wi σ H R)(hv:Yi S.M vs=true)(hu:∀t∈us,t∈vs)(wk:Nk Mt S.M):tLc wi (lG S.tx S.M Mt us tgf) (lT (S.inn Mt) tt) (lE (S.inn Mt) te) vs σ H Q:=by
 refine hw _ (run.bind fun xs ρ1 J O1 Fs1 H1 _ ev1 w1 r1 run1 p hp=> ?_)
 have run1:RunF S (.lst .sh) (if xs.length<=line then (lcL tgf tt te vs xs (Ze ρ1 vs)).bind fun ys ρ2=> .ok (.lst ys) ρ2 else .bad) B O1 Fs1 H1 σ ρ1 Q:=run1
 by_cases hl:xs.length<=line
 case neg=>rw[if_neg hl] at run1; exact run1.elim
 rw[if_pos hl] at run1
 obtain⟨wp,evp,np,kp⟩:=w1.own1 (o:= .lst []) hp
 have neqa:∀j,S.M[j]?≠some .na->j∉vs:=fun j h z=>h (Qk hv z)
 refine⟨fun i m H=>∃O Fs ρ acc ds,m=xs.length - i∧Wd S.G B O Fs H σ ρ S.M∧Ev S.M O1 Fs1 H1 ρ1 O Fs H ρ∧O p∧p∉Fs.flatten∧H p=some (.lst acc)∧Reps S.G O H acc ds∧acc.length<=i∧
   RunF S (.lst .sh) ((lcL tgf tt te vs (xs.drop i) (Ze ρ vs)).bind fun ys ρ2=> .ok (.lst (ds++ys)) ρ2) B O1 Fs1 H1 σ ρ1 Q,
  ⟨_,_,Fs1,ρ1,[],[],rfl,wp,evp,.inr rfl,fun z=> ?_,Xi,.nil,XS _,run1⟩, ?_⟩
 ·obtain⟨o,ho⟩:=w1.al p (w1.sub p z)
  rw[hp] at ho
  cases ho
 rintro i m H2 ⟨O2,Fs2,ρ2,acc,ds,rfl,w2,ev2,op,pf,hp2,rs,la,run2⟩
 have kp0:Kp0 O1 Fs1.flatten H1 O2 H2:=⟨ev2.chg,ev2.grow⟩
 by_cases hi:i < xs.length
 ·refine .inr ⟨r1.go i O2 H2 kp0 hi,fun H=>∃O Fs ρ acc ds,Wd S.G B O Fs H σ ρ S.M∧Ev S.M O1 Fs1 H1 ρ1 O Fs H ρ∧O p∧p∉Fs.flatten∧H p=some (.lst acc)∧Reps S.G O H acc ds∧acc.length<=i+1∧
   RunF S (.lst .sh) ((lcL tgf tt te vs (xs.drop (i+1)) (Ze ρ vs)).bind fun ys ρ2=> .ok (.lst (ds++ys)) ρ2) B O1 Fs1 H1 σ ρ1 Q,fun H' ⟨O',Fs',ρ',acc',ds',h1,h2,h3,h4,h5,h6,h7,h8⟩=>⟨xs.length - (i+1),by omega,O',Fs',ρ',acc',ds',rfl,h1,h2,h3,h4,h5,h6,h7,h8⟩,fun x H3 hy=> ?_⟩
  have hd:xs[i]?=some (xs[i]'hi):=Xo hi
  obtain⟨sm,rp⟩:=r1.yl i O2 H2 x H3 _ kp0 w2.al hy hd
  have dr:xs.drop i=xs[i]'hi::xs.drop (i+1):=XR hi
  rw[dr] at run2
  have ev3:Ev S.M O1 Fs1 H1 ρ1 O2 Fs2 H3 ρ2:=ev2.trans (Ev.same sm)
  have w3:Wd S.G B O2 Fs2 H3 (wipe σ vs) (Ze ρ2 vs) S.M:=(w2.same sm).emb hv
  have rs3:=rs.keep (Kept.same (O:=O2) sm)
  have hp3:=sm _ _ hp2
  unfold lcL at run2
  cases et:tgf (xs[i]'hi) (Ze ρ2 vs) with
  |none=>rw[et] at run2; exact run2.elim
  |some ρ4 =>
   rw[et] at run2
   have run2:RunF S (.lst .sh) (((tt ρ4).noX.bind fun k ρ2=>if k then (te ρ2).noX.bind fun y ρ3=>(lcL tgf tt te vs (xs.drop (i+1)) (Ze ρ3 vs)).bind fun ys ρ4=> .ok (y::ys) ρ4 else lcL tgf tt te vs (xs.drop (i+1)) (Ze ρ2 vs)).bind fun ys ρ2=> .ok (.lst (ds++ys)) ρ2) B O1 Fs1 H1 σ ρ1 Q:=run2
   refine⟨B,O2,Fs2,Ze ρ2 vs,_,w3,rp,ρ4,et,fun σ4 Fs4 ev4 o4 w4=>⟨J7 o4.s hu,B,O2,Fs4,ρ4,w4, ?_⟩⟩
   have huv:∀j,j∉vs->j∉us:=fun j h z=>h (hu j z)
   have back:∀{O5:Addr->Prop}{Fs5:List (List Addr)}{H5:Hp}{ρ5:Env},Ev Mt O2 Fs4 H3 ρ4 O5 Fs5 H5 ρ5->Wd S.G B O5 Fs5 H5 σ4 ρ5 Mt->∃Fs6,Wd S.G B O5 Fs6 H5 σ (Ze ρ5 vs) S.M∧Ev S.M O1 Fs1 H1 ρ1 O5 Fs6 H5 (Ze ρ5 vs)∧O5 p∧p∉Fs6.flatten∧H5 p=some (.lst acc)∧Kept O2 H3 O5 H5:=fun {O5 Fs5 H5 ρ5} ev5 w5=>by
    obtain⟨Fs6,w6,l6⟩:=w5.nk wk
    have f4:∀b∈Fs4.flatten,b∈Fs2.flatten∨H3 b=none:=ev4.fgrow
    have n4:∀b o,H3 b=some o->b∉Fs2.flatten->b∉Fs4.flatten:=fun b o h n z=>by
     rcases f4 b z with z|z
     ·exact n z
     ·rw[h] at z; cases z
    have e25:Ev S.M O2 Fs2 H3 ρ2 O5 Fs6 H5 (Ze ρ5 vs):=by
     refine⟨fun b o h n=>ev5.chg b o h (n4 b o h n),ev5.dom,ev5.mono,ev5.grow,fun b hb=> ?_,fun j m hj ho=> ?_⟩
     ·rcases ev5.fgrow b (l6 b hb) with z|z
      ·exact f4 b z
      ·exact .inr z
     ·have hjv:j∉vs:=neqa j (by rw[hj]; intro z; cases z; cases ho)
      have hm:Mt[j]?=some m:=(o4.m.2 j (huv j hjv)).trans hj
      rw[Zq hjv,ev5.keep j m hm ho,o4.r.2 j (huv j hjv),Zq hjv]
    have hp5:H5 p=some (.lst acc):=e25.chg p _ hp3 pf
    refine⟨Fs6,w6.swap ?_ ZR fun j h=>⟨?_,Zq (neqa j h)⟩,ev3.trans e25,ev5.mono p op,fun z=> ?_,hp5,e25.kept w2.sub⟩
    ·have:=w6.ls
     rw[this,w2.ls]
    ·rw[o4.s.2 j (huv j (neqa j h)),wipe_out (neqa j h)]
    ·rcases e25.fgrow p z with z|z
     ·exact pf z
     ·rw[hp3] at z; cases z
   cases ek:tt ρ4 with
   |ex x ρ5=>rw[ek] at run2; exact run2.elim
   |bad=>rw[ek] at run2; exact run2.elim
   |ok k ρ5 =>
    rw[ek] at run2
    intro k' O5 Fs5 H5 ev5 w5 hk
    cases (show k'=k from hk)
    cases k with
    |false =>
     rw[if_neg (by decide)]
     obtain⟨Fs6,w6,ev6,op6,pf6,hp6,kp6⟩:=back ev5 w5
     exact⟨O5,Fs6,Ze ρ5 vs,acc,ds,w6,ev6,op6,pf6,hp6,rs3.keep kp6,by omega,by rw[Z6]; exact run2⟩
    |true =>
     rw[if_pos rfl]
     refine⟨B,O5,Fs5,ρ5,w5, ?_⟩
     have run2:RunF S (.lst .sh) (((te ρ5).noX.bind fun y ρ3=>(lcL tgf tt te vs (xs.drop (i+1)) (Ze ρ3 vs)).bind fun ys ρ4=> .ok (y::ys) ρ4).bind fun ys ρ2=> .ok (.lst (ds++ys)) ρ2) B O1 Fs1 H1 σ ρ1 Q:=run2
     cases ey:te ρ5 with
     |ex x ρ6=>rw[ey] at run2; exact run2.elim
     |bad=>rw[ey] at run2; exact run2.elim
     |ok y ρ6 =>
      rw[ey] at run2
      intro v O7 Fs7 H7 ev7 w7 rv
      obtain⟨Fs6,w6,ev6,op6,pf6,hp6,kp6⟩:=back (ev5.trans ev7) w7
      have rs7:=rs3.keep kp6
      refine⟨acc,hp6, ?_, ?_⟩
      ·have:=rs.length
       exact Nat.lt_of_lt_of_le (Nat.lt_of_le_of_lt la hi) (XD hl Yw)
      ·-- the cell is written
       have ne:∀b,b≠p->upd H7 p (.lst (acc++ [v])) b=H7 b:=fun b hb=>upd_ne hb
       have kw:Kept O7 H7 O7 (upd H7 p (.lst (acc++ [v]))):=⟨fun b u n _ h=>by
         have hb:b≠p:=fun z=>n (by rw[z]; exact op6)
         rcases h with h|⟨o,h⟩
         ·exact .inl (by rw[ne b hb]; exact h)
         ·exact .inr ⟨o,by rw[ne b hb]; exact h⟩,fun b P n h=>by
         rw[ne b fun z=>n (by rw[z]; exact op6)]; exact h,fun b vs n h=>by
         rw[ne b fun z=>n (by rw[z]; exact op6)]; exact h,fun b o vs n h=>by
         rw[ne b fun z=>n (by rw[z]; exact op6)]; exact h,fun b C dx fs n h=>by
         rw[ne b fun z=>n (by rw[z]; exact op6)]; exact h,fun _ h=> .inl h⟩
       have hpO:¬ (∃o,H1 p=some o):=fun⟨o,h⟩=>by rw[hp] at h; cases h
       refine⟨O7,Fs6,Ze ρ6 vs,acc++ [v],ds++ [y],⟨w6.nd,w6.sub,w6.bo,fun a ha=> ?_,w6.ls,w6.lr,w6.lf,fun j m v' d' f e1 e2 e3 e4=> ?_⟩,⟨fun b o h n=> ?_,fun b o h=> ?_,ev6.mono,ev6.grow,ev6.fgrow,ev6.keep⟩,op6,pf6,Xi,(rs7.append (.cons rv .nil)).keep kw,by rw[XX]; simpa using la, ?_⟩
       ·by_cases hb:a=p
        ·exact⟨⟨.lst (acc++ [v]),fun _ z=>nomatch z⟩,by rw[hb,Xi]⟩
        ·obtain⟨o,ho⟩:=w6.al a ha
         exact⟨o,by rw[ne a hb]; exact ho⟩
       ·have sl:=w6.sl j m v' d' f e1 e2 e3 e4
        have kf:∀b∈f,upd H7 p (.lst (acc++ [v])) b=H7 b:=fun b hb=>ne b fun z=>pf6 (by rw[<- z]; exact Zj (Xa e4) hb)
        cases m with
        |mb =>
         obtain⟨q0,h⟩:=sl
         exact⟨q0,fun d' hd=>by obtain⟨v',e1,r⟩:=h d' hd; exact⟨v',e1,r.keep kw⟩⟩
        |th a c q l =>
         obtain⟨q0,q1,⟨h1,h2⟩,h3⟩:=sl
         exact⟨q0,q1,⟨kw.no h2 h1,kw.ext _ _ h1 h2⟩,fun p hp=>(h3 p hp).keep kw⟩
        |br =>
         obtain⟨q1,v1,d1,q2,q3,r⟩:=sl
         refine⟨q1,v1,d1,q2,q3, ?_⟩
         rcases r with r|⟨a,na,⟨o,ho⟩,r⟩
         ·exact .inl (r.keep kw)
         ·-- a borrowed cell is older than the comprehension
          have hap:a≠p:=fun z=>by
           subst z
           obtain⟨v2,d2,f2,g1,g2,g3,_,v3,d3,g4,g5,r2⟩:=w1.get e1
           subst g4 g5 q2
           rw[e2] at g1
           cases g1
           have ed:d1=d3:=by
            have:=ev6.keep j .br e1 rfl
            rw[e3,q3,g2] at this
            exact XJ (XJ this)
           have nk:∀ds,d1≠ .ktp ds:=by
            intro ds z
            subst z
            rcases r with r|r|r
            ·obtain⟨_,_,_,_,_,z2,_⟩:=r
             cases z2
            ·obtain⟨_,_,_,_,_,⟨_,z2,_⟩|⟨_,z2,_⟩⟩:=r <;> cases z2
            ·obtain⟨_,_,_,_,_,_,_,_,z2,_⟩:=r
             cases z2
           have nc:∀ds,d1≠ .cls ds:=by
            intro ds z
            subst z
            rcases r with r|r|r
            ·obtain⟨_,_,_,_,_,z2,_⟩:=r
             cases z2
            ·obtain⟨_,_,_,_,_,⟨_,z2,_⟩|⟨_,z2,_⟩⟩:=r <;> cases z2
            ·obtain⟨_,_,_,_,_,_,_,_,z2,_⟩:=r
             cases z2
           have nl:∀ds,d1≠ .klt ds:=by
            intro ds z
            subst z
            rcases r with r|r|r
            ·obtain⟨_,_,_,_,_,z2,_⟩:=r
             cases z2
            ·obtain⟨_,_,_,_,_,⟨_,z2,_⟩|⟨_,z2,_⟩⟩:=r <;> cases z2
            ·obtain⟨_,_,_,_,_,_,_,_,z2,_⟩:=r
             cases z2
           have old:BRep S.G O1 Fs1.flatten H1 v1 d1->v1= .ref a->False:=fun rr ev=>by
            subst ev
            rcases rr with rr|⟨c,_,⟨o,ho⟩,rr⟩
            ·cases rr with
             |lst q _ _=>rcases q with q|⟨_,q⟩ <;> (rw[hp] at q; cases q)
             |tup q _ _=>rw[hp] at q; cases q
             |ktp q _=>exact nk _ rfl
             |ftp q _ _=>exact nk _ rfl
             |cls q=>exact nc _ rfl
             |klt q=>exact nl _ rfl
             |dk q _ _=>rcases q with q|⟨_,q⟩ <;> (rw[hp] at q; cases q)
             |dt q _ _=>rcases q with q|⟨_,q⟩ <;> (rw[hp] at q; cases q)
             |dn q _ _=>rw[hp] at q; cases q
             |obj _ q _ _ _=>rw[hp] at q; cases q
            ·rcases rr with rr|rr|rr
             ·obtain⟨_,_,_,_,z1,_,z3,_⟩:=rr
              cases z1
              rw[hp] at z3
              cases z3
             ·obtain⟨_,_,_,z1,_,⟨_,_,z3,_⟩|⟨_,_,z3,_⟩⟩:=rr <;> (cases z1; rw[hp] at z3; cases z3)
             ·obtain⟨_,_,_,_,_,_,_,z1,_,_,z3,_⟩:=rr
              cases z1
              rw[hp] at z3
              cases z3
           refine old (ed ▸ r2) ?_
           rcases r with r|r|r
           ·obtain⟨_,_,_,_,z1,_,_,z4,_⟩:=r
            have:=(X9 z4).1
            rw[z1,this]
           ·obtain⟨_,_,_,z1,z4,_⟩:=r
            have:=(X9 z4).1
            rw[z1,this]
           ·obtain⟨_,_,_,_,_,_,_,z1,_,_,_,z4,_⟩:=r
            have:=(X9 z4).1
            rw[z1,this]
          have k1:∀b∈ [a],upd H7 p (.lst (acc++ [v])) b=H7 b:=fun b hb=>by rw[Xb.mp hb]; exact ne a hap
          refine .inr ⟨a,na,⟨o,by rw[ne a hap]; exact ho⟩, ?_⟩
          rcases r with r|r|r
          ·exact .inl (Own.keep kw _ k1 r)
          ·exact .inr (.inl (Own.keep kw _ k1 r))
          ·exact .inr (.inr (Own.keep kw _ k1 r))
        |na=>exact sl
        |hd=>exact sl
        |sh=>obtain⟨q1,v1,d1,q2,q3,r⟩:=sl; exact⟨q1,v1,d1,q2,q3,r.keep kw⟩
        |ow t=>obtain⟨q0,v1,d1,q2,q3,r⟩:=sl; exact⟨q0,v1,d1,q2,q3,Own.keep kw t kf r⟩
        |op t=>obtain⟨v1,d1,q2,q3,r⟩:=sl; exact⟨v1,d1,q2,q3,Own.keep kw t kf r⟩
       ·have hb:b≠p:=fun z=>by rw[z,hp] at h; cases h
        rw[ne b hb]
        exact ev6.chg b o h n
       ·have hb:b≠p:=fun z=>by rw[z,hp] at h; cases h
        rw[ne b hb]
        exact ev6.dom b o h
       ·rw[Z6]
        have:(fun ys ρ2=>R.ok (D.lst ((ds++ [y])++ys)) ρ2)=fun(ys:List D) (ρ2:Env)=>R.ok (D.lst (ds++(y::ys))) ρ2:=by
         funext ys ρ2
         rw[List.append_assoc]
         rfl
        rw[this]
        have:((lcL tgf tt te vs (xs.drop (i+1)) (Ze ρ6 vs)).bind fun ys ρ2=>(R.ok (D.lst (ds++(y::ys))) ρ2:R D))=(((R.ok y ρ6).noX.bind fun y ρ3=>(lcL tgf tt te vs (xs.drop (i+1)) (Ze ρ3 vs)).bind fun ys ρ4=> .ok (y::ys) ρ4).bind fun ys ρ2=>(R.ok (D.lst (ds++ys)) ρ2:R D)):=by
         show _=R.bind (R.bind (lcL tgf tt te vs (xs.drop (i+1)) (Ze ρ6 vs)) fun ys ρ4=> .ok (y::ys) ρ4) _
         cases lcL tgf tt te vs (xs.drop (i+1)) (Ze ρ6 vs) <;> rfl
        rw[this]
        exact run2
 ·refine .inl ⟨r1.st i O2 H2 kp0 (by omega), ?_⟩
  rw[XZ (by omega)] at run2
  have run2:RunF S (.lst .sh) (.ok (.lst (ds++ [])) (Ze ρ2 vs)) B O1 Fs1 H1 σ ρ1 Q:=run2
  rw[Vd] at run2
  have e:=(ev2.swap (ρ':=Ze ρ2 vs) fun j h=>Zq (neqa j h))
  refine run2 (.ref p) O2 Fs2 H2 [p] e (w2.swap rfl ZR fun j h=>⟨rfl,Zq (neqa j h)⟩) (ZaL hp2 rs) ⟨by simp,fun b hb=>by rw[Xb.mp hb]; exact op,fun b hb=>by rw[Xb.mp hb]; exact pf,fun b hb=>by rw[Xb.mp hb]; exact hp⟩
theorem Zor{vs:List Nat}{σ:L2.St}{H:Hp}{Q:VK}{wi:TI}(hw:∀R,lI S f σ H R->wi σ H R)(hv:Yi S.M vs=true)(hu:∀t∈us,t∈vs)(wk:Nk Mt S.M)(h:lF S (.lst .sh) (sLc f tgf tt te vs) σ H Q):tLc wi (lG S.tx S.M Mt us tgf) (lT (S.inn Mt) tt) (lE (S.inn Mt) te) vs σ H Q:=by
 obtain⟨B,O,Fs,ρ,w,run⟩:=h
 exact Zqs w run (fun R r=>hw R ⟨B,O,Fs,ρ,w,r⟩) hv hu wk
theorem lLc{vs:List Nat}{σ:L2.St}{H:Hp}{Q:VK}(hv:Yi S.M vs=true)(hu:∀t∈us,t∈vs)(wk:Nk Mt S.M)(h:lF S (.lst .sh) (sLc f tgf tt te vs) σ H Q):tLc (lI S f) (lG S.tx S.M Mt us tgf) (lT (S.inn Mt) tt) (lE (S.inn Mt) te) vs σ H Q:=Zor (fun _ h=>h) hv hu wk h
theorem ZpH{wi:TI}{C:L2.St->Hp->Prop}(hc:X.calm=true)(hN:X.N.Nodup)(hi:PI X tg iter wi)(hw:∀σ H R,C σ H->lI S f σ H R->wi σ H R)(ok:BlkOk X.N X.env.scope scope own)(hv:Yi S.M (own.map (·.2))=true)(hu:∀t∈us,t∈own.map (·.2))(wk:Nk Mt S.M)
  (hg:∀(s:Shared) (H:Hp) (C:Addr) (cl:List (Str × Addr)) (fp:List Addr),PG (X.blk s H scope (compEnvC scope cl C X.env) fp) tg (lG S.tx S.M Mt us tgf))(ht:∀(s:Shared) (H:Hp) (C:Addr) (cl:List (Str × Addr)) (fp:List Addr),PTs (X.blk s H scope (compEnvC scope cl C X.env) fp) ifs (lT (S.inn Mt) tt))
  (he:∀(s:Shared) (H:Hp) (C:Addr) (cl:List (Str × Addr)) (fp:List Addr),PE (X.blk s H scope (compEnvC scope cl C X.env) fp) elt (lE (S.inn Mt) te))(hs:∀x,foldedSetIterable iter X.env x=pure x:=by intro _; rfl) :
  PE X (.ListComp elt [⟨tg,iter,ifs,0⟩] scope pos) (fun σ H Q=>C σ H∧lF S (.lst .sh) (sLc f tgf tt te (own.map (·.2))) σ H Q) :=
 PE.of (pe_lc hc hN hi ok hg ht he hs) fun σ H Q ⟨hC,h⟩=>Zor (fun R=>hw σ H R hC) hv hu wk h
theorem Zmi(hc:X.calm=true)(hN:X.N.Nodup)(hi:PI X tg iter (lI S f))(ok:BlkOk X.N X.env.scope scope own)(hv:Yi S.M (own.map (·.2))=true)(hu:∀t∈us,t∈own.map (·.2))(wk:Nk Mt S.M)
  (hg:∀(s:Shared) (H:Hp) (C:Addr) (cl:List (Str × Addr)) (fp:List Addr),PG (X.blk s H scope (compEnvC scope cl C X.env) fp) tg (lG S.tx S.M Mt us tgf))(ht:∀(s:Shared) (H:Hp) (C:Addr) (cl:List (Str × Addr)) (fp:List Addr),PTs (X.blk s H scope (compEnvC scope cl C X.env) fp) ifs (lT (S.inn Mt) tt))
  (he:∀(s:Shared) (H:Hp) (C:Addr) (cl:List (Str × Addr)) (fp:List Addr),PE (X.blk s H scope (compEnvC scope cl C X.env) fp) elt (lE (S.inn Mt) te))(hs:∀x,foldedSetIterable iter X.env x=pure x:=by intro _; rfl) :
  PE X (.ListComp elt [⟨tg,iter,ifs,0⟩] scope pos) (lF S (.lst .sh) (sLc f tgf tt te (own.map (·.2)))) :=
 PE.of (pe_lc hc hN hi ok hg ht he hs) fun σ H Q h=>lLc hv hu wk h
end
section
variable {K:PySem.W.Frag}{T:Tx K}{M Mt:List Md}{X:Cx}{elt tg iter:Expr}{ifs:List Expr}{scope:Scope}{own:List (Str × Nat)}{pos spos py:Pos}{f:Env->R (List D)}{tgf:D->Env->Option Env}{tt:Env->R Bool}{te:Env->R D}{us:List Nat}{i:Nat}{y:Str}
theorem Zfq(hc:X.calm=true)(hN:X.N.Nodup)(hy:X.N[i]?=some y)(hyl:X.env.scope.names.lookup y=some .local)(hsw:swapsWith (.ListComp elt [⟨tg,iter,ifs,0⟩] scope pos) (some (.Name y py)) spos.line X.env=pure true)(hi:PI X tg iter (lI (T.ex M) f))(ok:BlkOk X.N X.env.scope scope own)(hv:Yi M (own.map (·.2))=true)(hu:∀t∈us,t∈own.map (·.2))(wk:Nk Mt M)
  (hg:∀(s:Shared) (H:Hp) (C:Addr) (cl:List (Str × Addr)) (fp:List Addr),PG (X.blk s H scope (compEnvC scope cl C X.env) fp) tg (lG (T.ex M).tx M Mt us tgf))(ht:∀(s:Shared) (H:Hp) (C:Addr) (cl:List (Str × Addr)) (fp:List Addr),PTs (X.blk s H scope (compEnvC scope cl C X.env) fp) ifs (lT ((T.ex M).inn Mt) tt))
  (he:∀(s:Shared) (H:Hp) (C:Addr) (cl:List (Str × Addr)) (fp:List Addr),PE (X.blk s H scope (compEnvC scope cl C X.env) fp) elt (lE ((T.ex M).inn Mt) te))(wx:Wk M T.Mx)(hn:nf M i=true)(hs:∀x,foldedSetIterable iter X.env x=pure x:=by intro _; rfl) :
  PS X (.Assign [.Name y py] (.ListComp elt [⟨tg,iter,ifs,0⟩] scope pos) spos) (lS T M (M.set i (.ow (.lst .sh))) (ZB i (sLc f tgf tt te (own.map (·.2))))):=by
 refine PS.of (ps_setLc hc hN hy hyl hsw hi ok hg ht he hs) fun E σ H ⟨B,O,Fs,ρ,w,run⟩=> ?_
 refine lLc (S:=T.ex M) hv hu wk ⟨B,O,Fs,ρ,w,RunS.bindF run wx fun a ρ1 v O1 Fs1 H1 Fv ev w1 ow n run1=> ?_⟩
 refine run1 O1 (Fs1.set i Fv) H1 _ (EvS.set ev.toS hn (fun b hb=> .inr (n.fr b hb))) (w1.setOw hn n (fun b hb z=> ?_) (ZeE w ev w1 n) ow)
 obtain⟨o,ho⟩:=w.al b (w.bo b z)
 rw[n.fr b hb] at ho
 cases ho
end
end Pu
namespace Pu
open PySem L2 PySem.Spec PyProof.Rows Pw
theorem Wk.trans{M M1 M2:List Md}(a:Wk M M1)(b:Wk M1 M2):Wk M M2:=by
 induction a with
 |refl M=>exact b
 |na j k ih=>exact .na j (ih b)
 |fr j t h k ih=>exact .fr j t h (ih b)
 |mb j h k ih=>exact .mb j h (ih b)
 |br j h k ih=>exact .br j h (ih b)
theorem Zld:∀(M L:List Md),Wk (L++M) (L++M.map Md.ret)
 |[],L=> .refl _
 |m::M,L=>by
  have ih:=Zld M (L++ [m.ret])
  rw[List.append_assoc,List.append_assoc] at ih
  refine Wk.trans ?_ ih
  have set:(L++m::M).set L.length .na=L++ .na::M:=by simp
  cases m with
  |op t=>exact .refl _
  |na=>exact .refl _
  |hd=>exact .na L.length (by rw[set]; exact .refl _)
  |sh=>exact .na L.length (by rw[set]; exact .refl _)
  |br=>exact .na L.length (by rw[set]; exact .refl _)
  |th _ _ _ _=>exact .na L.length (by rw[set]; exact .refl _)
  |mb=>exact .na L.length (by rw[set]; exact .refl _)
  |ow t=>exact .na L.length (by rw[set]; exact .refl _)
theorem wkR{M M':List Md}(h:M.map Md.ret=M'):Wk M M':=h ▸ Zld M []
theorem u65{k:Nat}{A:Around}(r:RoomG k A):A.units+65 < cLine:=by have:=r.un; omega
theorem u64{k:Nat}{A:Around}(r:RoomG k A):A.units+64 < cLine:=by have:=r.un; omega
theorem u1{k:Nat}{A:Around}(r:RoomG k A):A.units+1 < cLine:=by have:=r.un; omega
section
variable {K:PySem.W.Frag}{S:Sx K}{T:Tx K}{M Mn:List Md}{X:Cx}{e a b c o e0:Expr}{es:List Expr}{st:Stmt}{f fa fb fc:Env->R D}{fs:Env->R (List D)}{pos p apos cpos:Pos}{ms:List Md}{j:Nat}{m:Md}{t:Shp}
theorem JN(hK:X.K=K)(hu:X.A.units+64 < cLine)(ha:PE X a (lB S fa))(hb:PE X b (lB S fb)):PE X (.Compare a [.Eq] [b] pos) (lE S (sOp gEq fa fb)):=by subst hK; exact Zci (op_eqD hu) oEq ha hb (nomark _)
theorem Zqt(hK:X.K=K)(hu:X.A.units+64 < cLine)(ha:PE X a (lB S fa))(hb:PE X b (lB S fb)):PE X (.Compare a [.NotEq] [b] pos) (lE S (sOp gNe fa fb)):=by subst hK; exact Zci (op_neD hu) oNe ha hb (nomark _)
theorem Zeb(hK:X.K=K)(hu:X.A.units+64 < cLine)(ha:PE X a (lB S fa))(hb:PE X b (lB S fb)):PT X (.Compare a [.Eq] [b] pos) (lT S (sB (sOp gEq fa fb))):=by subst hK; exact Zbj (op_eqD hu) oEq ha hb (nomark _)
theorem JF(hK:X.K=K)(hu:X.A.units+64 < cLine)(ha:PE X a (lB S fa))(hb:PE X b (lB S fb)):PT X (.Compare a [.NotEq] [b] pos) (lT S (sB (sOp gNe fa fb))):=by subst hK; exact Zbj (op_neD hu) oNe ha hb (nomark _)
theorem Zqu(ha:PE X a (lB S fa))(hb:PE X b (lB S fb)):PE X (.Compare a [.Gt] [b] pos) (lE S (sOp gGt fa fb)):=Zci op_gt oGt ha hb (nomark _)
theorem Zmj(ha:PE X a (lB S fa))(hb:PE X b (lB S fb)):PE X (.Compare a [.GtE] [b] pos) (lE S (sOp gGe fa fb)):=Zci op_ge oGe ha hb (nomark _)
theorem Zec(ha:PE X a (lB S fa))(hb:PE X b (lB S fb)):PT X (.Compare a [.Lt] [b] pos) (lT S (sB (sOp gLt fa fb))):=Zbj (op_lt.or op_lt_str) oLt ha hb (nomark _)
theorem Zed(ha:PE X a (lB S fa))(hb:PE X b (lB S fb)):PT X (.Compare a [.Gt] [b] pos) (lT S (sB (sOp gGt fa fb))):=Zbj op_gt oGt ha hb (nomark _)
theorem Zqv(ha:PE X a (lB S fa))(hb:PE X b (lB S fb)):PT X (.Compare a [.GtE] [b] pos) (lT S (sB (sOp gGe fa fb))):=Zbj op_ge oGe ha hb (nomark _)
theorem ZpI(hK:X.K=K)(ha:PE X a (lB S fa))(hb:PE X b (lB S fb)):PE X (.BinOp a .Add b pos) (lE S (sOp Zg8 fa fb)):=by subst hK; exact Zl3 ZnC Zql ha hb
theorem Zj3(ha:PE X a (lB S fa))(hb:PE X b (lB S fb)):PE X (.BinOp a .Sub b pos) (lE S (sOp Zg7 fa fb)):=Zl3 op_sub Zqj ha hb
theorem ZpJ(ha:PE X a (lB S fa))(hb:PE X b (lB S fb)):PE X (.BinOp a .Mod b pos) (lE S (sOp Zff fa fb)):=Zl3 op_mod Zqk ha hb
def D.kd{K:PySem.W.Frag}(G:Gx K):D->Option Kd
 |.non=>some .non
 |.bl _=>some .bl
 |.int _=>some .int
 |.str _=>some .str
 |.lst _=>some .lst
 |.tup _=>some .tup
 |.ktp _=>some .tup
 |.dct _=>none
 |.dtt _=>none
 |.dnk _=>none
 |.obj c _=>(G.ca c).map .own
 |.cls _=>none
 |.klt _=>none
theorem ZeG{G:Gx K}{O:Addr->Prop}{F:List Addr}{H:Hp}{v:V}{d:D}{k:Kd}(h:BRep G O F H v d)(e:d.kd G=some k):Any K H v k:=by
 cases d with
 |non=>cases e; rw[h.non]; exact .non
 |bl b=>cases e; rw[h.bl]; exact .bl b
 |int i=>cases e; rw[h.int]; exact .int i
 |str x=>cases e; rw[h.str]; exact .str x
 |lst ds=>cases e; obtain⟨a,vs,e1,e2,_⟩:=h.lst; rw[e1]; exact .lst (.inl e2)
 |tup ds=>cases e; obtain⟨a,vs,e1,e2,_⟩:=h.tpl rfl; rw[e1]; exact .tup e2
 |ktp ds=>cases e; obtain⟨a,vs,e1,e2,_⟩:=h.tpl rfl; rw[e1]; exact .tup e2
 |dct _=>cases e
 |dtt _=>cases e
 |dnk _=>cases e
 |cls _=>cases e
 |klt _=>cases e
 |obj c fs =>
  obtain⟨a,C,dx,fvs,e1,e2,e3,_⟩:=h.obj
  obtain⟨C',e4,e5⟩:=Xh.mp (show (G.ca c).map Kd.own=some k from e)
  rw[e2] at e4
  cases e4
  cases e5
  rw[e1]
  exact .own e3 (G.oc e2)
def Zj4(t:String):D->Option Bool
 |.cls _=>none
 |.klt _=>none
 |.dct _=>none
 |.dtt _=>none
 |.dnk _=>none
 |.int _=>some (t == "int")
 |.bl _=>some (t == "int" || t == "bool")
 |.str _=>some (t == "str")
 |.lst _=>some (t == "list")
 |.tup _=>some (t == "tuple")
 |.ktp _=>some (t == "tuple")
 |_=>some false
def Zmk(t:String):Bool:=t == "int" || t == "bool" || t == "str" || t == "list" || t == "tuple"
theorem Zos{G:Gx K}{O:Addr->Prop}{F:List Addr}{H:Hp}{v:V}{d:D}{t:String}{k:Bool}(h:BRep G O F H v d)(ht:Zmk t=true)(e:Zj4 t d=some k):∃kd,Any K H v kd∧PySem.W.kitOne K kd.ty (.type t)=some k:=by
 have ex:∃kd,d.kd G=some kd:=by
  cases d with
  |dct _=>cases e
  |dtt _=>cases e
  |dnk _=>cases e
  |cls _=>cases e
  |klt _=>cases e
  |obj c fs =>
   obtain⟨a,C,dx,fvs,e1,e2,e3,_⟩:=h.obj
   exact⟨.own C,by show (G.ca c).map Kd.own=_; rw[e2]; rfl⟩
  |_=>exact⟨_,rfl⟩
 obtain⟨kd,hk⟩:=ex
 have an:=ZeG h hk
 refine⟨kd,an, ?_⟩
 have five:t="int"∨t="bool"∨t="str"∨t="list"∨t="tuple" :=by
  unfold Zmk at ht
  simp only[VB,Vh] at ht
  rcases ht with(((h|h)|h)|h)|h
  ·exact .inl h
  ·exact .inr (.inl h)
  ·exact .inr (.inr (.inl h))
  ·exact .inr (.inr (.inr (.inl h)))
  ·exact .inr (.inr (.inr (.inr h)))
 have val:∀(q:Kd->Bool),(∀{v k},Any K H v k->PySem.W.kitOne K k.ty (.type t)=some (q k))->q kd=k->PySem.W.kitOne K kd.ty (.type t)=some k:=fun q hq eq=>by rw[hq an,eq]
 rcases five with rfl|rfl|rfl|rfl|rfl
 ·refine val Kd.isInt (fun h=>h.kInt) ?_
  cases d <;> first|(cases hk; cases e; rfl)|(obtain⟨_,_,z⟩:=Xh.mp hk; cases z; cases e; rfl)|cases e
 ·refine val Kd.isBool (fun h=>h.kBool) ?_
  cases d <;> first|(cases hk; cases e; rfl)|(obtain⟨_,_,z⟩:=Xh.mp hk; cases z; cases e; rfl)|cases e
 ·refine val Kd.isStr (fun h=>h.kStr) ?_
  cases d <;> first|(cases hk; cases e; rfl)|(obtain⟨_,_,z⟩:=Xh.mp hk; cases z; cases e; rfl)|cases e
 ·refine val Kd.isLst (fun h=>h.kLst) ?_
  cases d <;> first|(cases hk; cases e; rfl)|(obtain⟨_,_,z⟩:=Xh.mp hk; cases z; cases e; rfl)|cases e
 ·refine val Kd.isTup (fun h=>h.kTup) ?_
  cases d <;> first|(cases hk; cases e; rfl)|(obtain⟨_,_,z⟩:=Xh.mp hk; cases z; cases e; rfl)|cases e
def ZbI(t:String)(d:D):Option D:=(Zj4 t d).map .bl
theorem Zbn{t:String}(hK:X.K=K)(ht:Zmk t=true)(hm:X.mg "isinstance" =none)(hgl:Gl X "isinstance")(ha:PE X a (lB S fa))(hb:PE X b (tC (.ty t)))(he:starEach (a:: [b]) X.env=(false,eval a X.env)::starEach [b] X.env:=by rfl)(he2:starEach (b:: []) X.env=(false,eval b X.env)::starEach [] X.env:=by rfl)(hpl:(backTo pos (starEach [b] X.env)).any (·.1)=false:=by rfl) :
  PE X (.Call (.Name "isinstance" p) [a,b] [] pos) (lE S (sUn (ZbI t) fa)):=by
 subst hK
 refine PE.of (pe_callB call_isi hgl hm (by decide +kernel) (VI ha (VI hb L2.pa_nil he2) he) (by decide) (by decide) he hpl) fun σ H Q h=> ?_
 refine lUn (g:=ZbI t) (r:=fun x H Q=>rIsi X.K [x,.ty t] H Q) ?_ h
 intro O F H x a d al e hb Q k
 obtain⟨q,e1,e2⟩:=Xh.mp e
 cases e2
 obtain⟨kd,an,hk⟩:=Zos hb ht e1
 exact⟨_,_,_,_,_,rfl,.ty _,an.ty,hk,k _ _ (Xt H) (.bl _)⟩
def ZpK(c:String):D->Option Bool
 |.cls _=>none
 |.klt _=>none
 |.dct _=>none
 |.dtt _=>none
 |.dnk _=>none
 |.obj c' _=>some (c' == c)
 |_=>some false
def Zfr(c:String)(d:D):Option D:=(ZpK c d).map .bl
theorem ZgD{c:String}{C:Addr}(hK:X.K=K)(hC:S.G.ca c=some C)(hm:X.mg "isinstance" =none)(hgl:Gl X "isinstance")(ha:PE X a (lB S fa))(hb:PE X b (tC (.ref C)))(he:starEach (a:: [b]) X.env=(false,eval a X.env)::starEach [b] X.env:=by rfl)(he2:starEach (b:: []) X.env=(false,eval b X.env)::starEach [] X.env:=by rfl)(hpl:(backTo pos (starEach [b] X.env)).any (·.1)=false:=by rfl) :
  PE X (.Call (.Name "isinstance" p) [a,b] [] pos) (lE S (sUn (Zfr c) fa)):=by
 subst hK
 refine PE.of (pe_callB call_isi hgl hm (by decide +kernel) (VI ha (VI hb L2.pa_nil he2) he) (by decide) (by decide) he hpl) fun σ H Q h=> ?_
 refine lUn (g:=Zfr c) (r:=fun x H Q=>rIsi X.K [x,.ref C] H Q) ?_ h
 intro O F H x a d al e hb Q k
 obtain⟨q,e1,e2⟩:=Xh.mp e
 cases e2
 have plain:∀kd,a.kd S.G=some kd->kd.plain=true->q=false->rIsi X.K [x,.ref C] H Q:=fun kd hk hp hq=>by
  have an:=ZeG hb hk
  refine⟨_,_,_,_,_,rfl,.own _,an.ty,Kd.kitOwn (S.G.oc hC) hp, ?_⟩
  subst hq
  exact k _ _ (Xt H) (.bl _)
 cases a with
 |obj c' fs =>
  obtain⟨y,C',dx,fvs,e1',e2',e3,_⟩:=hb.obj
  have an:Any X.K H x (.own C'):=by rw[e1']; exact .own e3 (S.G.oc e2')
  have eq:(c' == c)=q:=XJ e1
  by_cases hc:c'=c
  ·subst hc
   rw[hC] at e2'
   cases e2'
   refine⟨_,_,_,_,_,rfl,.own _,an.ty,Zl1, ?_⟩
   rw[X7] at eq
   subst eq
   exact k _ _ (Xt H) (.bl _)
  ·refine⟨_,_,_,_,_,rfl,.own _,an.ty,S.G.di e2' hC hc, ?_⟩
   rw[VE.mpr hc] at eq
   subst eq
   exact k _ _ (Xt H) (.bl _)
 |dct _=>cases e1
 |dtt _=>cases e1
 |dnk _=>cases e1
 |cls _=>cases e1
 |klt _=>cases e1
 |non=>exact plain _ rfl rfl (by cases e1; rfl)
 |bl _=>exact plain _ rfl rfl (by cases e1; rfl)
 |int _=>exact plain _ rfl rfl (by cases e1; rfl)
 |str _=>exact plain _ rfl rfl (by cases e1; rfl)
 |lst _=>exact plain _ rfl rfl (by cases e1; rfl)
 |tup _=>exact plain _ rfl rfl (by cases e1; rfl)
 |ktp _=>exact plain _ rfl rfl (by cases e1; rfl)
def ZgE(d:D):Option D:=match Zj4 "list" d,Zj4 "tuple" d with
 |some x,some y=>some (.bl (x || y))
 |_,_=>none
theorem Zot{x1:Nat}{b1 b2:Expr}{p2:Pos}(hK:X.K=K)(hm:X.mg "isinstance" =none)(hgl:Gl X "isinstance")(ha:PE X a (lB S fa))(h1:PE X b1 (tC (.ty "list")))(h2:PE X b2 (tC (.ty "tuple")))(he:starEach (a:: [.Tuple [b1,b2] x1 p2]) X.env=(false,eval a X.env)::starEach [.Tuple [b1,b2] x1 p2] X.env:=by rfl)(he2:starEach (.Tuple [b1,b2] x1 p2:: []) X.env=(false,eval (.Tuple [b1,b2] x1 p2) X.env)::starEach [] X.env:=by rfl)
  (e1:starEach (b1:: [b2]) X.env=(false,eval b1 X.env)::starEach [b2] X.env:=by rfl)(e2:starEach (b2:: []) X.env=(false,eval b2 X.env)::starEach [] X.env:=by rfl)(hpl:(backTo pos (starEach [.Tuple [b1,b2] x1 p2] X.env)).any (·.1)=false:=by rfl) :
  PE X (.Call (.Name "isinstance" p) [a,.Tuple [b1,b2] x1 p2] [] pos) (lE S (sUn ZgE fa)):=by
 subst hK
 refine PE.of (pe_callB call_isiT hgl hm (by decide +kernel) (VI ha (VI (pe_tup (VI h1 (VI h2 L2.pa_nil e2) e1)) L2.pa_nil he2) he) (by decide) (by decide) he hpl) fun σ H Q h=> ?_
 refine lUn (g:=ZgE) (r:=fun x H Q=>2<=sizeLine∧∀p,H p=none->rIsiT X.K [x,.ref p] (upd H p (.tup [.ty "list",.ty "tuple"])) Q) ?_ h
 intro O F H x a d al e hb Q k
 refine⟨by decide,fun p hp=> ?_⟩
 unfold ZgE at e
 split at e
 ·rename_i y z h1 h2
  cases e
  have ex:∃kd,a.kd S.G=some kd∧(y || z)=(kd.isLst || kd.isTup):=by
   cases a with
   |dct _=>cases h1
   |dtt _=>cases h1
   |dnk _=>cases h1
   |cls _=>cases h1
   |klt _=>cases h1
   |obj c fs =>
    obtain⟨a,C,dx,fvs,e1,e2,e3,_⟩:=hb.obj
    refine⟨.own C,by show (S.G.ca c).map Kd.own=_; rw[e2]; rfl, ?_⟩
    cases h1; cases h2; rfl
   |_=>exact⟨_,rfl,by cases h1; cases h2; rfl⟩
  obtain⟨kd,hk,hv⟩:=ex
  have an:=ZeG hb hk
  have sm:Same H (upd H p (.tup [.ty "list",.ty "tuple"])):=ZG hp
  refine⟨_,p,_,_,_,_,rfl,Xi,.cons (.ty _) (.cons (.ty _) .nil),(an.same sm).ty,an.kSeq, ?_⟩
  rw[<- hv]
  exact k _ _ sm (.bl _)
 ·cases e
def Zee(r:V->List V->Hp->VK->Prop)(u:List D->List D->Option (D × List D)):Prop:=∀{K:PySem.W.Frag}(G:Gx K) (O:Addr->Prop) (H:Hp) (l:Addr) (vs args:List V) (ds as:List D) (d:D) (ds':List D),u ds as=some (d,ds')->H l=some (.lst vs)->Reps G O H vs ds->Reps G O H args as->O l->
 ∀Q:VK,(∀v vs',Rep G O H v d->Reps G O H vs' ds'->Q v (upd H l (.lst vs')))->r (.ref l) args H Q
def Zml(j:Nat)(u:List D->List D->Option (D × List D))(as:List D)(ρ:Env):R D:=match ρ[j]? with
 |some (some (.lst ds))=>match u ds as with
  |some (d,ds')=> .ok d (ρ.set j (some (.lst ds')))
  |none=> .bad
 |_=> .bad
def Yk(j:Nat)(u:List D->List D->Option (D × List D))(fs:Env->R (List D)):Env->R D:=fun ρ=>(fs ρ).bind fun as ρ1=>Zml j u as ρ1
theorem J8{G:Gx K}{O:Addr->Prop}{H:Hp}{v:V}{d:D}{F:List Addr}(h:Own G O H (.lst .sh) v d F):∃p vs ds,v= .ref p∧d= .lst ds∧H p=some (.lst vs)∧F= [p]∧Reps G O H vs ds:=by
 obtain⟨p,e,_,_⟩:=ZjY (t:= .lst .sh) (.inl rfl) h
 obtain⟨q,vs,ds,Fs,e1,e2,e3,e4,e5⟩:=h
 rw[e] at e4
 have:=(X9 e4).1
 subst this
 exact⟨p,vs,ds,e1,e2,e3,e,Zbe e5⟩
theorem ZjA{r:V->List V->Hp->VK->Prop}{u:List D->List D->Option (D × List D)}(hu:Zee r u){B O:Addr->Prop}{Fs:List (List Addr)}{H:Hp}{σ:L2.St}{ρ:Env}{Q:VK}{v:V}{args:List V}{as:List D}(w:Wd S.G B O Fs H σ ρ S.M)(hj:S.M[j]?=some m)(ht:m.is (.lst .sh))(hv:σ[j]?=some (some v))(ra:Reps S.G O H args as)(run:Run S (vE S) (Zml j u as ρ) B O Fs H σ ρ Q):r v args H Q:=by
 obtain⟨v',d0,F,h1,h2,h3,ow⟩:=w.own hj ht
 rw[hv] at h1
 cases h1
 obtain⟨l,vs,ds,e1,e2,e3,e4,e5⟩:=J8 ow
 subst e1 e2 e4
 unfold Zml at run
 rw[h2] at run
 dsimp only at run
 have lO:O l:=w.sub l (Zj (Xa h3) (Xb.mpr rfl))
 cases hq:u ds as with
 |none=>rw[hq] at run; exact run.elim
 |some q =>
  obtain⟨d,ds'⟩:=q
  rw[hq] at run
  refine hu S.G O H l vs args ds as d ds' hq e3 e5 ra lO Q fun v' vs' rv rs=> ?_
  have ne:∀b,b≠l->upd H l (.lst vs') b=H b:=fun b hb=>upd_ne hb
  have kw:Kept O H O (upd H l (.lst vs')):=⟨fun b u n _ h=>by
    have hb:b≠l:=fun z=>n (by rw[z]; exact lO)
    rcases h with h|⟨o,h⟩
    ·exact .inl (by rw[ne b hb]; exact h)
    ·exact .inr ⟨o,by rw[ne b hb]; exact h⟩,fun b P n h=>by
    rw[ne b fun z=>n (by rw[z]; exact lO)]; exact h,fun b vs n h=>by
    rw[ne b fun z=>n (by rw[z]; exact lO)]; exact h,fun b o vs n h=>by
    rw[ne b fun z=>n (by rw[z]; exact lO)]; exact h,fun b C dx fs n h=>by
    rw[ne b fun z=>n (by rw[z]; exact lO)]; exact h,fun _ h=> .inl h⟩
  have al':Al O (upd H l (.lst vs')):=fun a ha=>by
   by_cases hb:a=l
   ·exact⟨⟨.lst vs',fun _ z=>nomatch z⟩,by rw[hb,Xi]⟩
   ·obtain⟨o,ho⟩:=w.al a ha
    exact⟨o,by rw[ne a hb]; exact ho⟩
  obtain⟨w2,ev2⟩:=w.put hj ht hv h3 (O':=O) (F':= [l]) (H':=upd H l (.lst vs')) (d':= .lst ds') ⟨fun b o h n=>by rw[ne b fun z=>n (by rw[z]; exact Xb.mpr rfl)]; exact h,fun b o h=>by
   by_cases hb:b=l
   ·exact⟨_,by rw[hb,Xi]⟩
   ·exact⟨o,by rw[ne b hb]; exact h⟩,fun _ h=>h,fun _ h=> .inl h,al',fun b hb=> .inl hb,fun b hb=>by rw[Xb.mp hb]; exact lO,by simp⟩ (ZaL Xi (rs.keep kw))
  exact run v' O _ _ ev2 w2 (rv.keep kw)
theorem Yq{T id:String}{name:Str}{r:V->List V->Hp->VK->Prop}{u:List D->List D->Option (D × List D)}(hu:Zee r u)(hT:T="list")(pa:PlainAttrs T)(slot:Slot T name id)(hty:typeOf (.builtin id)=pure (.type "method_descriptor"))(hm:MtR X id r)(hK:X.K=K)(h0:PE X o (tVar j))(hj:S.M[j]?=some m)(ht:m.is (.lst .sh))(ha:PA X (e::es) (lEs S fs))
  (hbase:attributeBase o name X.env (eval o X.env)=eval o X.env:=by rfl)
  (hfew:((backTo cpos (starEach (e::es) X.env)).all (fun x=> !x.1) && (backToKw cpos (keywordEach [] X.env)).all (fun x=>x.1.isSome) && decide ((e::es).length+([]:List Keyword).length+(if ([]:List Keyword).isEmpty then 0 else 1) < 30))=true:=by rfl)
  (hline:(apos.endLine == cpos.line)=true:=by rfl)(hs:starEach (e::es) X.env=(false,eval e X.env)::starEach es X.env:=by rfl)(hplain:(backTo cpos (starEach es X.env)).any (·.1)=false:=by rfl):PE X (.Call (.Attribute o name apos) (e::es) [] cpos) (lE S (Yk j u fs)):=by
 subst hK
 refine PE.of (pe_bm pa slot hty hm h0 ha hbase hfew hline hs hplain) fun σ H Q ⟨B,O,Fs,ρ,w,run⟩=> ?_
 obtain⟨v,d,F,h1,h2,h3,ow⟩:=w.own hj ht
 obtain⟨l,vs,ds,e1,e2,e3,e4,e5⟩:=J8 ow
 refine⟨v,h1, ?_,B,O,Fs,ρ,w,run.bind fun as ρ1 args O1 Fs1 H1 _ ev1 w1 r1 run1=>ZjA hu w1 hj ht h1 r1 run1⟩
 subst e1 hT
 exact .inl ⟨rfl,vs,SqL.of e3⟩
theorem ZnG{T id:String}{name:Str}{r:V->List V->Hp->VK->Prop}{u:List D->List D->Option (D × List D)}(hu:Zee r u)(hT:T="list")(pa:PlainAttrs T)(slot:Slot T name id)(hty:typeOf (.builtin id)=pure (.type "method_descriptor"))(hm:MtR X id r)(hK:X.K=K)(h0:PE X o (tVar j))(hj:S.M[j]?=some m)(ht:m.is (.lst .sh))
  (hbase:attributeBase o name X.env (eval o X.env)=eval o X.env:=by rfl)(hline:(apos.endLine == cpos.line)=true:=by rfl):PE X (.Call (.Attribute o name apos) [] [] cpos) (lE S (Yk j u Zb)):=by
 subst hK
 refine PE.of (pe_bm0 pa slot hty hm h0 hbase hline) fun σ H Q ⟨B,O,Fs,ρ,w,run⟩=> ?_
 obtain⟨v,d,F,h1,h2,h3,ow⟩:=w.own hj ht
 obtain⟨l,vs,ds,e1,e2,e3,e4,e5⟩:=J8 ow
 refine⟨v,h1, ?_,ZjA hu w hj ht h1 .nil run⟩
 subst e1 hT
 exact .inl ⟨rfl,vs,SqL.of e3⟩
def Yn(ds as:List D):Option (D × List D):=match as with
 |[d]=>if ds.length < line then some (.non,ds++ [d]) else none
 |_=>none
theorem Ja{n:Nat}(h:n < line):n < sizeLine:=Nat.lt_of_lt_of_le h Yw
theorem Yr:Zee rAppend Yn:=by
 intro K G O H l vs args ds as d ds' e hl rs ra hO Q k
 match as,e with
 |[z],e =>
  unfold Yn at e
  dsimp only at e
  split at e
  ·rename_i hz
   cases e
   cases ra with
   |cons r t =>
    cases t
    have l1:=rs.length
    refine⟨l,vs,_,rfl,rfl,hl,by rw[l1]; exact Ja hz,k _ _ .non (rs.append (.cons r .nil))⟩
  ·cases e
def Zou(ds as:List D):Option (D × List D):=match as with
 |[]=>(ds[ds.length - 1]?).map fun d=>(d,ds.dropLast)
 |_=>none
theorem Reps.dropLast{G:Gx K}{O:Addr->Prop}{H:Hp}:∀{ds:List D}{vs:List V},Reps G O H vs ds->Reps G O H vs.dropLast ds.dropLast
 |[],_,h=>by cases h; exact .nil
 |[d],_,h=>by cases h with|cons r t=>cases t; exact .nil
 |d::e::ds,_,h=>by
  cases h with
  |cons r t=>cases t with|cons r2 t2=>exact .cons r (Reps.dropLast (.cons r2 t2))
theorem Zov:Zee rPop Zou:=by
 intro K G O H l vs args ds as d ds' e hl rs ra hO Q k
 match as,e with
 |[],e =>
  cases ra
  obtain⟨z,e1,e2⟩:=Xh.mp (show (ds[ds.length - 1]?).map (fun d=>(d,ds.dropLast))=some (d,ds') from e)
  cases e2
  obtain⟨v,h1,h2⟩:=rs.get e1
  have l1:=rs.length
  refine⟨l,vs,v,rfl,rfl,hl,by rw[l1]; exact h1,k _ _ h2 rs.dropLast⟩
end
end Pu
namespace Pu
open PySem L2 PySem.Spec PyProof.Rows Pw
section
variable {K:PySem.W.Frag}{S:Sx K}{T:Tx K}{M Mn:List Md}{X:Cx}{e a b c o e0 value:Expr}{es:List Expr}{st:Stmt}{f fa fb fc fv:Env->R D}{fs:Env->R (List D)}{pos p apos cpos pos':Pos}{ms:List Md}{j:Nat}{m:Md}{t:Shp}
theorem Zle{t:Str}(h:PE X e (tC (.str t))):PE X e (lE S (sC (.str t))):=PE.of h fun _ _ _ ⟨_,_,_,_,w,r⟩=>r.use w (.str t)
theorem Zow{t':Shp}(hm:S.M[j]?=some m)(ht:m.is t)(hf:t.flat=true∨t= .obj Z2)(h:PE X e (lF (S.br j) t' f)):PE X e (lF S t' f) :=
 PE.of h fun σ H Q ⟨B,O,Fs,ρ,w,run⟩=>⟨B,O,Fs.set j [],ρ,w.hide hm ht hf,by
  cases hr:f ρ with
  |ok d ρ' =>
   rw[hr] at run
   intro v O' Fs' H' Fv ev wd ow n
   obtain⟨Fs2,w2,ev2,sp,sp2,_⟩:=w.unhide hm ht (.inl rfl) wd ev
   refine run v O' Fs2 H' Fv ev2 w2 ow ⟨n.nd,n.sub,fun b hb z=> ?_,n.fr⟩
   rcases sp2 b z with z2|z2
   ·exact n.dj b hb z2
   ·obtain⟨u,hu⟩:=w.al b (w.sub b z2)
    rw[n.fr b hb] at hu
    cases hu
  |ex x ρ' =>
   rw[hr] at run
   intro cls dd O' Fs' H' ev wd x
   obtain⟨Fs2,w2,ev2,sp,_⟩:=w.unhide hm ht (.inl rfl) wd ev
   exact run cls dd O' Fs2 H' ev2 w2 x
  |bad=>rw[hr] at run; exact run⟩
def Jh{α:Type}(xs:List α)(lo hi:Option Int):List α:=(xs.drop (HT.sIx xs.length 0 lo)).take (HT.sIx xs.length xs.length hi - HT.sIx xs.length 0 lo)
theorem Reps.drop{G:Gx K}{O:Addr->Prop}{H:Hp}:∀{ds:List D}{vs:List V}(n:Nat),Reps G O H vs ds->Reps G O H (vs.drop n) (ds.drop n)
 |[],_,n,h=>by cases h; simp; exact .nil
 |d::ds,_,0,h=>h
 |d::ds,_,n+1,h=>by cases h with|cons r t=>exact Reps.drop n t
theorem Reps.take{G:Gx K}{O:Addr->Prop}{H:Hp}:∀{ds:List D}{vs:List V}(n:Nat),Reps G O H vs ds->Reps G O H (vs.take n) (ds.take n)
 |[],_,n,h=>by cases h; simp; exact .nil
 |d::ds,_,0,h=> .nil
 |d::ds,_,n+1,h=>by cases h with|cons r t=>exact .cons r (Reps.take n t)
theorem Reps.cut{G:Gx K}{O:Addr->Prop}{H:Hp}{ds:List D}{vs:List V}(lo hi:Option Int)(h:Reps G O H vs ds):Reps G O H (cutV vs lo hi) (Jh ds lo hi):=by
 unfold cutV Jh
 rw[h.length]
 exact(h.drop _).take _
abbrev vO:QI (Option Int) (Option Int):=fun _ _ _ v d=>v=d
abbrev lO(S:Sx K)(f:Env->R (Option Int)):TO:=lX S vO f
theorem PO.of{e:Option Expr}{t t':TO}(h:PO X e t)(i:∀σ H Q,t' σ H Q->t σ H Q):PO X e t':=⟨fun pins s σ H Q I x=>h.run pins s σ H Q I (i σ H Q x)⟩
def Zbo:Env->R (Option Int):=fun ρ=> .ok none ρ
def Zai(f:Env->R D):Env->R (Option Int):=fun ρ=>(f ρ).bind fun d ρ1=>match d with
 |.int i=> .ok (some i) ρ1
 |_=> .bad
theorem ZbY:PO X none (lO S Zbo):=PO.of po_none fun σ H Q ⟨B,O,Fs,ρ,w,run⟩=>run.use w rfl
theorem Zao(ha:PE X a (lB S fa)):PO X (some a) (lO S (Zai fa)):=by
 refine PO.of (po_some ha) fun σ H Q ⟨B,O,Fs,ρ,w,run⟩=>⟨B,O,Fs,ρ,w,run.bind fun d ρ1 v O1 Fs1 H1 _ ev1 w1 r1 run1=> ?_⟩
 cases d with
 |int i=>exact⟨i,r1.int,run1.use w1 rfl⟩
 |_=>exact run1.elim
def whole(n:Nat)(lo hi:Option Int):Bool:=HT.sIx n 0 lo == 0 && HT.sIx n n hi == n
def Zcn(d:D)(lo hi:Option Int):Option D:=match d with
 |.lst ds=>some (.lst (Jh ds lo hi))
 |.str z=>if z.length<=line then some (.str (cutS z lo hi)) else none
 |.tup ds=>if whole ds.length lo hi then some (.tup ds) else some (.tup (Jh ds lo hi))
 |.ktp ds=>if whole ds.length lo hi then some (.ktp ds) else some (.tup (Jh ds lo hi))
 |_=>none
def Za2(fa:Env->R D)(fl fh:Env->R (Option Int)):Env->R D:=fun ρ=>(fa ρ).bind fun x ρ1=>(fl ρ1).bind fun l ρ2=>(fh ρ2).bind fun h ρ3=>R.of (Zcn x l h) ρ3
def Zfs(K:PySem.W.Frag):V->Option Int->Option Int->Hp->VK->Prop:=fun x lo hi H Q=>rSlL K x lo hi H Q∨rSlA K x lo hi H Q∨rSlS x lo hi H Q
theorem Zlf:SlR X (Zfs X.K):=sl_list.or (sl_tupA.or sl_str)
theorem Zlg{G:Gx K}{O:Addr->Prop}{F:List Addr}{H:Hp}{x:V}{a d:D}{lo hi:Option Int}(al:Al O H)(e:Zcn a lo hi=some d)(h:BRep G O F H x a)(Q:VK)(k:∀v H',Same H H'->Rep G O H' v d->Q v H'):Zfs K x lo hi H Q:=by
 have tupc:∀{ds:List D},a.tpl=some ds->(whole ds.length lo hi=true->d=a)->(whole ds.length lo hi=false->d= .tup (Jh ds lo hi))->Zfs K x lo hi H Q:=fun {ds} ht h1 h2=>by
  obtain⟨q,vs,e1,e2,e3,rp⟩:=h.tpl ht
  refine .inr (.inl ⟨q,vs,e1,e2,fun z=> ?_,fun z q' hq=> ?_⟩)
  ·rw[e3.length] at z
   have:d=a:=h1 (by unfold whole; rw[z.1,z.2]; simp)
   subst this
   subst e1
   exact k _ _ (Xt H) rp
  ·rw[e3.length] at z
   have:d= .tup (Jh ds lo hi):=h2 (by
    unfold whole
    rw[<- Vf,Xp,Vh,Vh]
    exact z)
   subst this
   exact k _ _ (ZG hq) (.tup Xi (Al.no al hq) ((e3.cut lo hi).keep (Kept.same (ZG hq))))
 cases a with
 |lst ds =>
  cases e
  obtain⟨q,vs,e1,e2,e3⟩:=h.lst
  exact .inl ⟨q,vs,e1,.inl e2,fun q' hq=>k _ _ (ZG hq) (.lst (.inl Xi) (Al.no al hq) ((e3.cut lo hi).keep (Kept.same (ZG hq))))⟩
 |str z =>
  unfold Zcn at e
  dsimp only at e
  split at e
  ·rename_i hl
   cases e
   exact .inr (.inr ⟨z,h.str,XD hl Yw,k _ _ (Xt H) (.str _)⟩)
  ·cases e
 |tup ds =>
  unfold Zcn at e
  dsimp only at e
  refine tupc rfl (fun z=> ?_) (fun z=> ?_)
  ·rw[if_pos z] at e; exact(XJ e).symm
  ·rw[if_neg (by rw[z]; decide)] at e; exact(XJ e).symm
 |ktp ds =>
  unfold Zcn at e
  dsimp only at e
  refine tupc rfl (fun z=> ?_) (fun z=> ?_)
  ·rw[if_pos z] at e; exact(XJ e).symm
  ·rw[if_neg (by rw[z]; decide)] at e; exact(XJ e).symm
 |_=>cases e
theorem ZaN{lo hi:Option Expr}{p2:Pos}{fl fh:Env->R (Option Int)}(hK:X.K=K)(ha:PE X a (lB S fa))(hl:PO X lo (lO S fl))(hh:PO X hi (lO S fh)):PE X (.Subscript a (.Slice lo hi none p2) pos) (lE S (Za2 fa fl fh)):=by
 subst hK
 refine PE.of (pe_slice Zlf ha hl hh) fun σ H Q ⟨B,O,Fs,ρ,w,run⟩=>⟨B,O,Fs,ρ,w,run.bind fun x ρ1 v O1 Fs1 H1 _ ev1 w1 r1 run1=>⟨B,O1,Fs1,ρ1,w1,run1.bind fun l ρ2 l' O2 Fs2 H2 _ ev2 w2 r2 run2=>⟨B,O2,Fs2,ρ2,w2,run2.bind fun h ρ3 h' O3 Fs3 H3 _ ev3 w3 r3 run3=> ?_⟩⟩⟩
 cases (show l'=l from r2)
 cases (show h'=h from r3)
 exact run3.of (r:=fun Q=>Zfs X.K v l h H3 Q) w3 fun d e k=>Zlg w3.al e ((r1.ev w1 ev2).ev w2 ev3) Q k
def Zhn(ys:List Str):Nat:=(ys.map (·.length)).sum
def sM1(g:Str->D->Option D)(fa fb:Env->R D):Env->R D:=fun ρ=>(fa ρ).bind fun x ρ1=>match x with
 |.str z=>(fb ρ1).bind fun y ρ2=>R.of (g z y) ρ2
 |_=> .bad
def M1P(G:Gx K)(r:V->List V->Hp->VK->Prop)(g:Str->D->Option D):Prop:=∀(O:Addr->Prop) (F:List Addr) (H:Hp) (z:Str) (y:V) (b d:D),Al O H->g z b=some d->BRep G O F H y b->∀Q:VK,(∀v H',Same H H'->Rep G O H' v d->Q v H')->r (.str z) [y] H Q
theorem lM1{r:V->List V->Hp->VK->Prop}{g:Str->D->Option D}(hg:M1P S.G r g){σ:L2.St}{H:Hp}{Q:VK}(h:lE S (sM1 g fa fb) σ H Q):tM1 r (lB S fa) (lB S fb) σ H Q:=by
 obtain⟨B,O,Fs,ρ,w,run⟩:=h
 refine⟨B,O,Fs,ρ,w,run.bind fun x ρ1 v O1 Fs1 H1 _ ev1 w1 r1 run1=> ?_⟩
 cases x with
 |str z =>
  have ev:=r1.str
  subst ev
  refine⟨⟨z,rfl⟩,B,O1,Fs1,ρ1,w1,run1.bind fun y ρ2 u O2 Fs2 H2 _ ev2 w2 r2 run2=> ?_⟩
  exact run2.of (r:=fun Q=>r (.str z) [u] H2 Q) w2 fun d e k=>hg O2 Fs2.flatten H2 z u y d w2.al e r2 Q k
 |_=>exact run1.elim
def ZgF(z:Str)(b:D):Option D:=match b.seq with
 |some ds=>match D.strs ds with
  |some ys=>if Zhn ys+ys.length * z.length<=line then some (.str (Txt.join z ys)) else none
  |none=>none
 |none=>none
theorem Zox(hK:X.K=K)(ha:PE X a (lB S fa))(hb:PE X b (lB S fb))(hs:starEach [b] X.env= [(false,eval b X.env)]:=by rfl)(hbase:attributeBase a "join" X.env (eval a X.env)=eval a X.env:=by rfl)(hline:(apos.endLine == pos.line)=true:=by rfl):PE X (.Call (.Attribute a "join" apos) [b] [] pos) (lE S (sM1 ZgF fa fb)):=by
 subst hK
 refine PE.of (pe_join ha hb hs hbase hline) fun σ H Q h=>lM1 ?_ h
 intro O F H z y b d al e hb Q k
 unfold ZgF at e
 split at e
 ·rename_i ds h1
  split at e
  ·rename_i ys h2
   split at e
   ·rename_i hl
    cases e
    obtain⟨q,vs,e1,e2,e3⟩:=hb.seq h1
    have ev:=ZfX e3 h2
    subst ev
    exact⟨z,q,ys,rfl,by rw[e1],e2,XD hl Yw,k _ _ (Xt H) (.str _)⟩
   ·cases e
  ·cases e
 ·cases e
theorem Zef{G:Gx K}{O:Addr->Prop}{H:Hp}:∀ys:List Str,Reps G O H (ys.map V.str) (ys.map D.str)
 |[]=> .nil
 |y::ys=> .cons (.str y) (Zef ys)
def ZeH(z:Str)(b:D):Option D:=match b with
 |.str c=>if (c.length == 0)=false∧z.length+2<=line then some (.lst ((Txt.split z c).map .str)) else none
 |_=>none
theorem ZnH(hK:X.K=K)(ha:PE X a (lB S fa))(hb:PE X b (lB S fb))(hs:starEach [b] X.env= [(false,eval b X.env)]:=by rfl)(hbase:attributeBase a "split" X.env (eval a X.env)=eval a X.env:=by rfl)(hline:(apos.endLine == pos.line)=true:=by rfl):PE X (.Call (.Attribute a "split" apos) [b] [] pos) (lE S (sM1 ZeH fa fb)):=by
 refine PE.of (pe_split ha hb hs hbase hline) fun σ H Q h=>lM1 ?_ h
 intro O F H z y b d al e hb Q k
 cases b with
 |str c =>
  unfold ZeH at e
  dsimp only at e
  split at e
  ·rename_i hc
   cases e
   exact⟨z,c,rfl,by rw[hb.str],hc.1,XD hc.2 Yw,fun q hq=>k _ _ (ZG hq) (.lst (.inl Xi) (Al.no al hq) (Zef _))⟩
  ·cases e
 |_=>cases e
def ZaF(z:Str)(b:D):Option D:=match b with
 |.str c=>if (c.length == 0)=false∧z.length<=line then some (.tup [.str (Txt.partition z c).1,.str (Txt.partition z c).2.1,.str (Txt.partition z c).2.2]) else none
 |_=>none
theorem ZiK(hK:X.K=K)(ha:PE X a (lB S fa))(hb:PE X b (lB S fb))(hs:starEach [b] X.env= [(false,eval b X.env)]:=by rfl)(hbase:attributeBase a "partition" X.env (eval a X.env)=eval a X.env:=by rfl)(hline:(apos.endLine == pos.line)=true:=by rfl):PE X (.Call (.Attribute a "partition" apos) [b] [] pos) (lE S (sM1 ZaF fa fb)):=by
 refine PE.of (pe_partition ha hb hs hbase hline) fun σ H Q h=>lM1 ?_ h
 intro O F H z y b d al e hb Q k
 cases b with
 |str c =>
  unfold ZaF at e
  dsimp only at e
  split at e
  ·rename_i hc
   cases e
   exact⟨z,c,rfl,by rw[hb.str],hc.1,XD hc.2 Yw,fun q hq=>k _ _ (ZG hq) (.tup Xi (Al.no al hq) (.cons (.str _) (.cons (.str _) (.cons (.str _) .nil))))⟩
  ·cases e
 |_=>cases e
theorem ZgG{x j}:PE X (.Constant (.str x) j pos) (lE S (sC (.str x))):=Zv
def QR:D->Option D
 |.int i=>if i.natAbs.log2 < 1920 then some (.str (toString i)) else none
 |.str a=>if a.length<=line then some (.str a) else none
 |_=>none
theorem Zco(ha:PE X a (lB S fa)):PE X (.FormattedValue a (-1) none pos) (lE S (sUn QR fa)):=by
 refine PE.of (pe_fmt ha) fun σ H Q h=> ?_
 refine lUn (r:=fun x H1 Q=>(∃y:Str,x= .str y∧y.length<=sizeLine∧Q (.str y) H1)∨∃i:Int,x= .int i∧i.natAbs.log2 < 1920∧Q (.str (toString i)) H1) ?_ h
 intro O F H x a d al e hb Q k
 cases a with
 |int i =>
  unfold QR at e
  dsimp only at e
  split at e
  ·rename_i hl
   cases e
   exact .inr ⟨i,hb.int,hl,k _ _ (Xt H) (.str _)⟩
  ·cases e
 |str z =>
  unfold QR at e
  dsimp only at e
  split at e
  ·rename_i hl
   cases e
   exact .inl ⟨z,hb.str,XD hl Yw,k _ _ (Xt H) (.str _)⟩
  ·cases e
 |_=>cases e
end
end Pu
namespace Pu
open PySem L2 PySem.Spec PyProof.Rows Pw
section
variable {K:PySem.W.Frag}{S:Sx K}{T:Tx K}{M Mn:List Md}{X:Cx}{e a b c o e0 value:Expr}{es:List Expr}{st:Stmt}{f fa fb fc fv fk:Env->R D}{fs:Env->R (List D)}{pos p apos cpos pos':Pos}{ms:List Md}{i j:Nat}{m:Md}{t:Shp}{x n:Str}
def Znj(k:Str->Env->R D)(acc:Str)(d:D)(ρ:Env):R D:=match d with
 |.str y=>if (acc++y).length<=line then k (acc++y) ρ else .bad
 |_=> .bad
def ZdB:List (Env->R D)->Str->Env->R D
 |[],acc,ρ=> .ok (.str acc) ρ
 |f::fs,acc,ρ=>(f ρ).bind fun d ρ1=>Znj (ZdB fs) acc d ρ1
theorem lJs:∀(fs:List (Env->R D)) (acc:Str){σ:L2.St}{H:Hp}{Q:VK},lE S (ZdB fs acc) σ H Q->tJs (fs.map (lE S)) acc σ H (fun out H1=>Q (.str out) H1)
 |[],acc,σ,H,Q,⟨B,O,Fs,ρ,w,run⟩=>Run.use run w (.str acc)
 |f::fs,acc,σ,H,Q,⟨B,O,Fs,ρ,w,run⟩=>by
  refine⟨B,O,Fs,ρ,w,Run.bind run fun d ρ1 v O1 Fs1 H1 _ ev1 w1 r1 run1=> ?_⟩
  cases d with
  |str y =>
   have ev:=(show BRep S.G O1 [] H1 v (.str y) from .inl r1).str
   subst ev
   unfold Znj at run1
   dsimp only at run1
   by_cases hl:(acc++y).length<=line
   ·rw[if_pos hl] at run1
    exact⟨y,rfl,XD hl Yw,lJs fs (acc++y) ⟨B,O1,Fs1,ρ1,w1,run1⟩⟩
   ·rw[if_neg hl] at run1
    exact run1.elim
  |_=>exact run1.elim
theorem Zeg{v1 v2:Expr}{rest:List Expr}(fs:List (Env->R D))(h:PJ X (v1::v2::rest) (fs.map (lE S))):PE X (.JoinedStr (v1::v2::rest) pos) (lE S (ZdB fs Str.empty)) :=
 PE.of (pe_joined h) fun σ H Q h=>lJs fs Str.empty h
def Zft(i:Nat)(g:D->D->Option D)(f:Env->R D):Env->RS:=fun ρ=>match ρ[i]? with
 |some (some x)=>(f ρ).bindS fun y ρ1=>match g x y with
  |some d=> .nx (ρ1.set i (some d))
  |none=> .bad
 |_=> .bad
def Zcp:D->D->Option D:=gI0 fun i j=> .int (i+j)
theorem ZeI(hN:X.N.Nodup)(hi:X.N[i]?=some x)(hx:Loc X.env.scope x)(he:PE X e (lB (T.ex M) f))(wx:Wk M T.Mx)(hm:M[i]?=some .sh)(hf:X.fn x=true∨X.env.scope.names.lookup x=some .local:=by first|exact .inl rfl|exact .inr rfl|assumption) :
  PS X (.AugAssign (.Name x pos') .Add e pos) (lS T M (M.set i .sh) (Zft i Zcp f)):=by
 refine PS.of (ps_aug hN hi hx he ip_add hf) fun E σ H ⟨B,O,Fs,ρ,w,run⟩=> ?_
 obtain⟨v,d,F,h1,h2,h3,_,v',d',q1,q2,r⟩:=w.get hm
 subst q1 q2
 unfold Zft at run
 rw[h2] at run
 dsimp only at run
 have hn:nf M i=true:=by unfold nf; rw[hm]; rfl
 refine⟨v',h1,B,O,Fs,ρ,w,run.bindE wx (fun y ρ1 u O1 Fs1 H1 _ ev w1 r1 run1=> ?_) (ZM M)⟩
 cases hg:Zcp d' y with
 |none=>rw[hg] at run1; exact run1.elim
 |some z =>
  rw[hg] at run1
  unfold Zcp gI0 at hg
  split at hg
  ·rename_i a b _
   cases hg
   have e1:=(show BRep T.G O [] H v' (.int a) from .inl r).int
   subst e1
   refine⟨a,b,rfl,r1.int, ?_⟩
   exact run1 O1 (Fs1.set i []) H1 _ (EvS.set EvS.refl hn (fun b hb=>by cases hb)) (w1.setSh hn (.int _))
  ·cases hg
def Zcq(kvs:List (D × D))(k v:D):List (D × D):=if kvs.any (fun e=>Yp e.1 k) then kvs.map (fun e=>if Yp e.1 k then (e.1,v) else e) else kvs++ [(k,v)]
def Ji(a k v:D):Option D:=match a with
 |.dct kvs=>if k.key.isSome∧kvs.length < line then some (.dct (Zcq kvs k v)) else none
 |.dtt kvs=>if k.tkey.isSome∧kvs.length < line then some (.dtt (Zcq kvs k v)) else none
 |_=>none
def Zoy(j:Nat)(k v:D)(ρ:Env):RS:=match ρ[j]? with
 |some (some a)=>match Ji a k v with
  |some d=> .nx (ρ.set j (some d))
  |none=> .bad
 |_=> .bad
def Zc3(j:Nat)(fk fv:Env->R D):Env->RS:=fun ρ=>(fv ρ).bindS fun v ρ1=>(fk ρ1).bindS fun k ρ2=>Zoy j k v ρ2
theorem Zoz{G:Gx K}{O:Addr->Prop}{H:Hp}{k:Key}{kd:D}{v:V}{d:D}(e:kd.key=some k)(r:Rep G O H v d):∀{ks:List (Key × V)}{kvs:List (D × D)},RepK G O H ks kvs->(kvs.any fun e=>Yp e.1 kd)=(ks.any fun kv=>decide (kv.1=k))∧RepK G O H (ks.map fun kv=>if kv.1=k then (kv.1,v) else kv) (kvs.map fun e=>if Yp e.1 kd then (e.1,d) else e)
 |_,_,.nil=>⟨rfl,.nil⟩
 |_,_,.cons (k:=k1) (kd:=kd1) e1 r1 t=>by
  obtain⟨i1,i2⟩:=Zoz e r t
  have hb:Yp kd1 kd=decide (k1=k):=by unfold Yp; rw[e1,e]
  refine⟨by rw[Vb,Vb,hb,i1], ?_⟩
  rw[Xv,Xv]
  by_cases hk:k1=k
  ·rw[if_pos hk,if_pos (by rw[hb]; exact X5 hk)]
   exact .cons e1 r i2
  ·rw[if_neg hk,if_neg (by rw[hb]; simpa using hk)]
   exact .cons e1 r1 i2
theorem ZoA{G:Gx K}{O:Addr->Prop}{H:Hp}{k:List Key}{kd:D}{v:V}{d:D}(e:kd.tkey=some k)(r:Rep G O H v d):∀{ks:List (List Key × V)}{kvs:List (D × D)},RepT G O H ks kvs->(kvs.any fun e=>Yp e.1 kd)=(ks.any fun kv=>decide (kv.1=k))∧RepT G O H (ks.map fun kv=>if kv.1=k then (kv.1,v) else kv) (kvs.map fun e=>if Yp e.1 kd then (e.1,d) else e)
 |_,_,.nil=>⟨rfl,.nil⟩
 |_,_,.cons (k:=k1) (kd:=kd1) e1 r1 t=>by
  obtain⟨i1,i2⟩:=ZoA e r t
  have hb:Yp kd1 kd=decide (k1=k):=by unfold Yp; rw[J4 e1,J4 e]; dsimp only; rw[e1,e]
  refine⟨by rw[Vb,Vb,hb,i1], ?_⟩
  rw[Xv,Xv]
  by_cases hk:k1=k
  ·rw[if_pos hk,if_pos (by rw[hb]; exact X5 hk)]
   exact .cons e1 r i2
  ·rw[if_neg hk,if_neg (by rw[hb]; simpa using hk)]
   exact .cons e1 r1 i2
theorem RepK.snoc{G:Gx K}{O:Addr->Prop}{H:Hp}{k:Key}{kd:D}{v:V}{d:D}(e:kd.key=some k)(r:Rep G O H v d):∀{ks:List (Key × V)}{kvs:List (D × D)},RepK G O H ks kvs->RepK G O H (ks++ [(k,v)]) (kvs++ [(kd,d)])
 |_,_,.nil=> .cons e r .nil
 |_,_,.cons e1 r1 t=> .cons e1 r1 (RepK.snoc e r t)
theorem RepT.snoc{G:Gx K}{O:Addr->Prop}{H:Hp}{k:List Key}{kd:D}{v:V}{d:D}(e:kd.tkey=some k)(r:Rep G O H v d):∀{ks:List (List Key × V)}{kvs:List (D × D)},RepT G O H ks kvs->RepT G O H (ks++ [(k,v)]) (kvs++ [(kd,d)])
 |_,_,.nil=> .cons e r .nil
 |_,_,.cons e1 r1 t=> .cons e1 r1 (RepT.snoc e r t)
theorem RepK.put{G:Gx K}{O:Addr->Prop}{H:Hp}{k:Key}{kd:D}{v:V}{d:D}{ks:List (Key × V)}{kvs:List (D × D)}(h:RepK G O H ks kvs)(e:kd.key=some k)(r:Rep G O H v d):RepK G O H (putK ks k v) (Zcq kvs kd d):=by
 obtain⟨h1,h2⟩:=Zoz e r h
 unfold putK Zcq
 rw[<- h1]
 by_cases hc:(kvs.any fun e=>Yp e.1 kd)=true
 ·rw[if_pos hc,if_pos hc]; exact h2
 ·rw[if_neg hc,if_neg hc]; exact h.snoc e r
theorem RepT.put{G:Gx K}{O:Addr->Prop}{H:Hp}{k:List Key}{kd:D}{v:V}{d:D}{ks:List (List Key × V)}{kvs:List (D × D)}(h:RepT G O H ks kvs)(e:kd.tkey=some k)(r:Rep G O H v d):RepT G O H (putK ks k v) (Zcq kvs kd d):=by
 obtain⟨h1,h2⟩:=ZoA e r h
 unfold putK Zcq
 rw[<- h1]
 by_cases hc:(kvs.any fun e=>Yp e.1 kd)=true
 ·rw[if_pos hc,if_pos hc]; exact h2
 ·rw[if_neg hc,if_neg hc]; exact h.snoc e r
theorem ZgH{G:Gx K}{O:Addr->Prop}{H:Hp}{q:Addr}{ks:List (Key × V)}{kvs:List (D × D)}(h:H q=some (.dK ks))(r:RepK G O H ks kvs):Own G O H (.dct .sh) (.ref q) (.dct kvs) [q]:=by
 have all:∀{ks:List (Key × V)}{kvs:List (D × D)},RepK G O H ks kvs->∃Fs:List (List Addr),Fs.flatten= []∧All3 (fun(a:Key × V) (e:D × D) F=>e.1.key=some a.1∧Own G O H .sh a.2 e.2 F) ks kvs Fs:=by
  intro ks kvs h
  induction kvs generalizing ks with
  |nil=>cases h; exact⟨[],rfl,.nil⟩
  |cons d ds ih =>
   cases h with
   |cons e a t =>
    obtain⟨Fs,e',h⟩:=ih t
    exact⟨[]::Fs,e',.cons ⟨e,rfl,a⟩ h⟩
 obtain⟨Fs,e,h'⟩:=all r
 exact⟨q,kvs,Fs,rfl,by rw[e],.inl ⟨ks,rfl,h,h'⟩⟩
theorem Zj5{G:Gx K}{O:Addr->Prop}{H:Hp}{q:Addr}{ks:List (List Key × V)}{kvs:List (D × D)}(h:H q=some (.dT ks))(r:RepT G O H ks kvs):Own G O H (.dct .sh) (.ref q) (.dtt kvs) [q]:=by
 have all:∀{ks:List (List Key × V)}{kvs:List (D × D)},RepT G O H ks kvs->∃Fs:List (List Addr),Fs.flatten= []∧All3 (fun(a:List Key × V) (e:D × D) F=>e.1.tkey=some a.1∧Own G O H .sh a.2 e.2 F) ks kvs Fs:=by
  intro ks kvs h
  induction kvs generalizing ks with
  |nil=>cases h; exact⟨[],rfl,.nil⟩
  |cons d ds ih =>
   cases h with
   |cons e a t =>
    obtain⟨Fs,e',h⟩:=ih t
    exact⟨[]::Fs,e',.cons ⟨e,rfl,a⟩ h⟩
 obtain⟨Fs,e,h'⟩:=all r
 exact⟨q,kvs,Fs,rfl,by rw[e],.inr ⟨ks,rfl,h,h'⟩⟩
theorem Wd.cell{G:Gx K}{B O:Addr->Prop}{Fs:List (List Addr)}{H:Hp}{σ:L2.St}{ρ:Env}{q:Addr}{u:HO}{v:V}{d':D}(w:Wd G B O Fs H σ ρ M)(hm:M[j]?=some m)(ht:m.is t)(hv:σ[j]?=some (some v))(hF:Fs[j]?=some [q])(ow:∀O',O'=O->Kept O H O (upd H q u)->Own G O (upd H q u) t v d' [q])(no:∀vs,u≠ .tup vs:=by intro _ z; cases z) :
  Wd G B O (Fs.set j [q]) (upd H q u) σ (ρ.set j (some d')) M∧Ev M O Fs H ρ O (Fs.set j [q]) (upd H q u) (ρ.set j (some d')):=by
 have lO:O q:=w.sub q (Zj (Xa hF) (Xb.mpr rfl))
 have ne:∀b,b≠q->upd H q u b=H b:=fun b hb=>upd_ne hb
 have kw:Kept O H O (upd H q u):=⟨fun b u' n _ h=>by
   have hb:b≠q:=fun z=>n (by rw[z]; exact lO)
   rcases h with h|⟨o,h⟩
   ·exact .inl (by rw[ne b hb]; exact h)
   ·exact .inr ⟨o,by rw[ne b hb]; exact h⟩,fun b P n h=>by
   rw[ne b fun z=>n (by rw[z]; exact lO)]; exact h,fun b vs n h=>by
   rw[ne b fun z=>n (by rw[z]; exact lO)]; exact h,fun b o vs n h=>by
   rw[ne b fun z=>n (by rw[z]; exact lO)]; exact h,fun b C dx fs n h=>by
   rw[ne b fun z=>n (by rw[z]; exact lO)]; exact h,fun _ h=> .inl h⟩
 have al':Al O (upd H q u):=fun a ha=>by
  by_cases hb:a=q
  ·exact⟨⟨u,no⟩,by rw[hb,Xi]⟩
  ·obtain⟨o,ho⟩:=w.al a ha
   exact⟨o,by rw[ne a hb]; exact ho⟩
 exact w.put hm ht hv hF ⟨fun b o h n=>by rw[ne b fun z=>n (by rw[z]; exact Xb.mpr rfl)]; exact h,fun b o h=>by
  by_cases hb:b=q
  ·exact⟨_,by rw[hb,Xi]⟩
  ·exact⟨o,by rw[ne b hb]; exact h⟩,fun _ h=>h,fun _ h=> .inl h,al',fun b hb=> .inl hb,fun b hb=>by rw[Xb.mp hb]; exact lO,by simp⟩ (ow O rfl kw)
theorem Zcr(hu:X.A.units+1 < cLine)(h0:PE X o (tVar j))(hj:M[j]?=some m)(ht:m.is (.dct .sh))(hk:PE X a (lE (T.ex M) fk))(hv:PE X value (lE (T.ex M) fv))(wx:Wk M T.Mx)(hs:swapsWith value (some (.Subscript o a pos')) pos.line X.env=pure false:=by rfl) :
  PS X (.Assign [.Subscript o a pos'] value pos) (lS T M M (Zc3 j fk fv)):=by
 refine PS.of (ps_dput hu h0 hk hv hs) fun E σ H ⟨B,O,Fs,ρ,w,run⟩=> ?_
 refine⟨B,O,Fs,ρ,w,run.bindE wx (fun dv ρ1 v O1 Fs1 H1 _ ev1 w1 r1 run1=> ?_) (ZM M)⟩
 obtain⟨l0,d0,F0,h1,_⟩:=w1.own hj ht
 refine⟨l0,h1,B,O1,Fs1,ρ1,w1,run1.bindE wx (fun dk ρ2 y O2 Fs2 H2 _ ev2 w2 r2 run2=> ?_) (ZM M)⟩
 have rv:=r1.ev w1 ev2
 obtain⟨l,d,F,g1,g2,g3,ow⟩:=w2.own hj ht
 rw[h1] at g1
 cases g1
 unfold Zoy at run2
 rw[g2] at run2
 dsimp only at run2
 cases hp:Ji d dk dv with
 |none=>rw[hp] at run2; exact run2.elim
 |some d' =>
  rw[hp] at run2
  obtain⟨q,eF,⟨ob,hob⟩,_⟩:=ZjY (t:= .dct .sh) (.inl rfl) ow
  subst eF
  obtain⟨q',kvs,Fs',e1,e2,e3⟩:=ow
  have eq:q=q':=(X9 e2).1
  subst eq
  subst e1
  rcases e3 with⟨ks,e4,e5,e6⟩|⟨ks,e4,e5,e6⟩
  ·subst e4
   unfold Ji at hp
   dsimp only at hp
   split at hp
   ·rename_i hc
    cases hp
    obtain⟨k,hk'⟩:=Xy.mp hc.1
    have rk:=Zbf e6
    have ey:=ZbW r2 hk'
    subst ey
    refine⟨q,_,rfl,DPut.k e5 (by rw[rk.length]; exact Ja hc.2), ?_⟩
    obtain⟨w3,ev3⟩:=w2.cell (u:= .dK (putK ks k v)) (d':= .dct (Zcq kvs dk dv)) hj ht h1 g3 fun O' _ kw=>ZgH Xi ((rk.put hk' rv).keep kw)
    exact run2 O2 _ _ σ ev3.toS w3
   ·cases hp
  ·subst e4
   unfold Ji at hp
   dsimp only at hp
   split at hp
   ·rename_i hc
    cases hp
    obtain⟨k,hk'⟩:=Xy.mp hc.1
    have rk:=Zbg e6
    obtain⟨b,eb,hb⟩:=Zdy r2 hk'
    subst eb
    refine⟨q,_,rfl,DPut.t e5 hb (by rw[rk.length]; exact Ja hc.2), ?_⟩
    obtain⟨w3,ev3⟩:=w2.cell (u:= .dT (putK ks k v)) (d':= .dtt (Zcq kvs dk dv)) hj ht h1 g3 fun O' _ kw=>Zj5 Xi ((rk.put hk' rv).keep kw)
    exact run2 O2 _ _ σ ev3.toS w3
   ·cases hp
end
end Pu
namespace Pu
open PySem L2 PySem.Spec PyProof.Rows Pw
theorem All3.get{α β γ:Type}{P:α->β->γ->Prop}:∀{as:List α}{bs:List β}{cs:List γ}{i:Nat}{b:β},All3 P as bs cs->bs[i]?=some b->∃a c,as[i]?=some a∧cs[i]?=some c∧P a b c
 |_,_,_,_,_,.nil,e=>by simp at e
 |_,_,_,0,_,.cons h _,e=>by cases e; exact⟨_,_,rfl,rfl,h⟩
 |_,_,_,i+1,_,.cons _ t,e=>by
  obtain⟨a,c,h1,h2,h3⟩:=All3.get (i:=i) t (by simpa using e)
  exact⟨a,c,by simpa using h1,by simpa using h2,h3⟩
theorem All3.setK{α β γ:Type}{P P':α->β->γ->Prop}{a:α}{b':β}{c':γ}:∀{as:List α}{bs:List β}{cs:List γ}{i:Nat},All3 P as bs cs->as[i]?=some a->P' a b' c'->(∀(k:Nat) a b c,k≠i->cs[k]?=some c->P a b c->P' a b c)->All3 P' as (bs.set i b') (cs.set i c')
 |_,_,_,_,.nil,e,_,_=>by simp at e
 |_,_,_,0,.cons h t,e,n,o=>by
  cases e
  have rest:∀{as:List α}{bs:List β}{cs:List γ},All3 P as bs cs->(∀(k:Nat) a b c,cs[k]?=some c->P a b c->P' a b c)->All3 P' as bs cs:=by
   intro as bs cs h hh
   induction h with
   |nil=>exact .nil
   |cons h t ih=>exact .cons (hh 0 _ _ _ rfl h) (ih fun k a b c e=>hh (k+1) a b c (by simpa using e))
  exact .cons n (rest t fun k a b c e=>o (k+1) a b c (by omega) (by simpa using e))
 |_,_,_,i+1,.cons h t,e,n,o=> .cons (o 0 _ _ _ (by omega) rfl h) (All3.setK t (by simpa using e) n fun k a b c hk e=>o (k+1) a b c (by omega) (by simpa using e))
structure Fo {K:PySem.W.Frag}(G:Gx K) (O:Addr->Prop) (H:Hp) (t:Shp) (v:V) (F:List Addr) (t':Shp) (v':V) (d':D) (F':List Addr) (put:D->D):Prop where
 own:Own G O H t' v' d' F'
 nd:F'.Nodup
 sub:∀b∈F',b∈F
 back:∀(O2:Addr->Prop) (H2:Hp) (d2:D) (F2:List Addr),Own G O2 H2 t' v' d2 F2->Kept O H O2 H2->(∀b∈F,b∉F'->H2 b=H b)->(∀b∈F2,b∈F'∨H b=none)->F2.Nodup->(∀b∈F,∃o,H b=some o)->∃F3,Own G O2 H2 t v (put d2) F3∧F3.Nodup∧(∀b∈F3,b∈F2∨(b∈F∧b∉F'))
section
variable {K:PySem.W.Frag}{G:Gx K}{O:Addr->Prop}{H:Hp}{t t1 t2:Shp}{v v1 v2:V}{d d1 d2:D}{F F1 F2:List Addr}{put put1 put2:D->D}
theorem Fo.refl(h:Own G O H t v d F)(nd:F.Nodup):Fo G O H t v F t v d F id:=⟨h,nd,fun _ h=>h,fun O2 H2 d2 F2 ow _ _ _ n2 _=>⟨F2,ow,n2,fun b hb=> .inl hb⟩⟩
theorem Fo.trans(a:Fo G O H t v F t1 v1 d1 F1 put1)(b:Fo G O H t1 v1 F1 t2 v2 d2 F2 put2):Fo G O H t v F t2 v2 d2 F2 (put1 ∘ put2):=by
 refine⟨b.own,b.nd,fun c h=>a.sub c (b.sub c h),fun O2 H2 d2' F2' ow k fr nw n2 al=> ?_⟩
 obtain⟨F3,ow3,n3,s3⟩:=b.back O2 H2 d2' F2' ow k (fun c hc hn=>fr c (a.sub c hc) hn) nw n2 (fun c hc=>al c (a.sub c hc))
 obtain⟨F4,ow4,n4,s4⟩:=a.back O2 H2 (put2 d2') F3 ow3 k (fun c hc hn=>fr c hc fun z=>hn (b.sub c z)) (fun c hc=>by
  rcases s3 c hc with z|⟨z,_⟩
  ·exact(nw c z).imp (b.sub c) id
  ·exact .inl z) n3 al
 refine⟨F4,ow4,n4,fun c hc=> ?_⟩
 rcases s4 c hc with z|⟨z,zn⟩
 ·rcases s3 c z with z|⟨z,zn⟩
  ·exact .inl z
  ·exact .inr ⟨a.sub c z,zn⟩
 ·exact .inr ⟨z,fun q=>zn (b.sub c q)⟩
theorem ZjB{α β:Type}{P:(Addr->Prop)->Hp->α->β->List Addr->Prop}{q:Addr}{as:List α}{bs:List β}{Fs:List (List Addr)}{i:Nat}{a:α}{b:β}{mkV:β->D}{setV:β->D->β}{mkD:List β->D}(nd:(q::Fs.flatten).Nodup)
  (h:All3 (P O H) as bs Fs)(hb:bs[i]?=some b)(ha:as[i]?=some a)(sel:∀F',P O H a b F'->Own G O H t1 v1 (mkV b) F')(new:∀(O2:Addr->Prop) (H2:Hp) (d2:D) (F2:List Addr),Own G O2 H2 t1 v1 d2 F2->P O2 H2 a (setV b d2) F2)
  (keep:∀(O2:Addr->Prop) (H2:Hp) a b c,Kept O H O2 H2->(∀x∈c,H2 x=H x)->P O H a b c->P O2 H2 a b c)(top:∀(O2:Addr->Prop) (H2:Hp) (bs2:List β) (Fs2:List (List Addr)),H2 q=H q->All3 (P O2 H2) as bs2 Fs2->Own G O2 H2 t v (mkD bs2) (q::Fs2.flatten)) :
  ∃F',Fo G O H t v (q::Fs.flatten) t1 v1 (mkV b) F' (fun d2=>mkD (bs.set i (setV b d2))):=by
 obtain⟨a',Fi,h1,h2,h3⟩:=h.get hb
 rw[ha] at h1
 cases h1
 have ndf:Fs.flatten.Nodup:=(X6.mp nd).2
 have qn:q∉Fs.flatten:=(X6.mp nd).1
 have inF:∀x∈Fi,x∈Fs.flatten:=fun x hx=>Zj (Xa h2) hx
 refine⟨Fi,sel Fi h3,Y3 ndf h2,fun x hx=>Xm _ (inF x hx),fun O2 H2 d2 F2 ow k fr nw n2 al=>⟨q::(Fs.set i F2).flatten, ?_, ?_, ?_⟩⟩
 ·refine top O2 H2 _ _ (fr q (Xg ..) fun z=>qn (inF q z)) (h.setK ha (new O2 H2 d2 F2 ow) fun k' a b c hk hc p=>keep O2 H2 a b c k (fun x hx=>fr x (Xm _ (Zj (Xa hc) hx)) (YI ndf hk hc h2 x hx)) p)
 ·refine X6.mpr ⟨fun z=> ?_,Y4 ndf n2 fun k' F1 hk hc x hx hx1=> ?_⟩
  ·rcases Zs z with z|⟨k',F1,_,e,z⟩
   ·rcases nw q z with z|z
    ·exact qn (inF q z)
    ·obtain⟨o,ho⟩:=al q (Xg ..)
     rw[z] at ho; cases ho
   ·exact qn (Zj (Xa e) z)
  ·rcases nw x hx with z|z
   ·exact YI ndf hk hc h2 x hx1 z
   ·obtain⟨o,ho⟩:=al x (Xm _ (Zj (Xa hc) hx1))
    rw[z] at ho; cases ho
 ·intro x hx
  rcases XB.mp hx with rfl|hx
  ·exact .inr ⟨Xg ..,fun z=>qn (inF _ z)⟩
  ·rcases Zs hx with hx|⟨k',F1,hk,e,hx⟩
   ·exact .inl hx
   ·exact .inr ⟨Xm _ (Zj (Xa e) hx),YI ndf hk e h2 x hx⟩
theorem ZoB{f:Str->Shp}{c:String}{fs:List (Str × D)}{i:Nat}{n:Str}(h:Own G O H (.obj f) v (.obj c fs) F)(nd:F.Nodup)(hd:fs[i]?=some (n,d1)):∃q C dx fvs v1 F1,v= .ref q∧G.ca c=some C∧H q=some (.ins C dx fvs)∧(∀f,f∈fs.map (·.1)->NoAttr K C f)∧fvs.map (·.1)=fs.map (·.1)∧fvs[i]?=some (n,v1)∧Fo G O H (.obj f) v F (f n) v1 d1 F1 (fun d2=> .obj c (fs.set i (n,d2))):=by
 obtain⟨q,C,dx,fvs,c',fs',Fs,e1,e2,e3,e4,e5,e6,e7⟩:=h
 cases e2
 subst e5 e1
 obtain⟨⟨n',v1⟩,F',h1,h2,h3,h4⟩:=e7.get hd
 have hn:n'=n:=h3
 subst hn
 have names:∀{O:Addr->Prop}{H:Hp}{fvs:List (Str × V)}{fs:List (Str × D)}{Fs:List (List Addr)},All3 (fun(a:Str × V) (b:Str × D) F=>a.1=b.1∧Own G O H (f a.1) a.2 b.2 F) fvs fs Fs->fvs.map (·.1)=fs.map (·.1):=by
  intro O H fvs fs Fs h
  induction h with
  |nil=>rfl
  |cons h t ih=>rw[Xv,Xv,h.1,ih]
 obtain⟨F'',fo⟩:=ZjB (P:=fun O H (a:Str × V) (b:Str × D) F=>a.1=b.1∧Own G O H (f a.1) a.2 b.2 F) (mkV:=fun b=>b.2) (setV:=fun b d=>(b.1,d)) (mkD:=fun fs=>D.obj c fs) (t:= .obj f) (v:= .ref q) (t1:=f n') (v1:=v1) nd e7 hd h1 (fun F' h=>h.2) (fun O2 H2 d2 F2 h=>⟨rfl,h⟩) (fun O2 H2 a b c k kf h=>⟨h.1,Own.keep k _ kf h.2⟩) fun O2 H2 bs2 Fs2 hq all=>⟨q,C,dx,fvs,c,bs2,Fs2,rfl,rfl,e3,by rw[hq]; exact e4,rfl,fun x hx=>e6 x (by rw[<- names all,names e7] at hx; exact hx),all⟩
 exact⟨q,C,dx,fvs,v1,F'',rfl,e3,e4,e6,names e7,h1,fo⟩
theorem Zqw{kvs:List (D × D)}{i:Nat}{kd:D}(h:Own G O H (.dct t1) v (.dct kvs) F)(nd:F.Nodup)(hd:kvs[i]?=some (kd,d1)):∃q ks k v1 F1,v= .ref q∧H q=some (.dK ks)∧kd.key=some k∧ks[i]?=some (k,v1)∧(∀(n:Nat),(kvs[n]?).map (fun(e:D × D)=>e.1.key)=(ks[n]?).map fun(e:Key × V)=>some e.1)∧Fo G O H (.dct t1) v F t1 v1 d1 F1 (fun d2=> .dct (kvs.set i (kd,d2))):=by
 obtain⟨q,kvs',Fs,e1,e4,⟨ks,e2,e3,e5⟩|⟨ks,e2,e3,e5⟩⟩:=h
 ·cases e2
  subst e4 e1
  obtain⟨⟨k,v1⟩,F',h1,h2,h3,h4⟩:=e5.get hd
  obtain⟨F'',fo⟩:=ZjB (P:=fun O H (a:Key × V) (e:D × D) F=>e.1.key=some a.1∧Own G O H t1 a.2 e.2 F) (mkV:=fun b=>b.2) (setV:=fun b d=>(b.1,d)) (mkD:=fun l=>D.dct l) (t:= .dct t1) (v:= .ref q) (t1:=t1) (v1:=v1) nd e5 hd h1 (fun F' h=>h.2) (fun O2 H2 d2 F2 h=>⟨h3,h⟩) (fun O2 H2 a b c k kf h=>⟨h.1,Own.keep k _ kf h.2⟩) fun O2 H2 bs2 Fs2 hq all=>⟨q,bs2,Fs2,rfl,rfl,.inl ⟨ks,rfl,by rw[hq]; exact e3,all⟩⟩
  refine⟨q,ks,k,v1,F'',rfl,e3,h3,h1,fun n=> ?_,fo⟩
  clear fo h1 hd h2 nd e3
  induction e5 generalizing n with
  |nil=>rfl
  |cons h t ih =>
   cases n with
   |zero=>exact VC some h.1
   |succ n=>simpa using ih n
 ·cases e2
end
section
variable {K:PySem.W.Frag}{S:Sx K}{X:Cx}{e:Expr}{j:Nat}{m:Md}{t t1:Shp}{pos:Pos}
structure Ln where
 sel:Env->D->Option D
 put:Env->D->D->D
def Zeh(S:Sx K)(j:Nat)(t t1:Shp)(L:Ln):TE:=fun σ H Q=>∃B O Fs ρ v d F d1,Wd S.G B O Fs H σ ρ S.M∧σ[j]?=some (some v)∧ρ[j]?=some (some d)∧Fs[j]?=some F∧Own S.G O H t v d F∧L.sel ρ d=some d1∧
 ∀v1 F1,Fo S.G O H t v F t1 v1 d1 F1 (L.put ρ d)->Q v1 H
def Ln.here:Ln:=⟨fun _ d=>some d,fun _ _ d=>d⟩
theorem JO(h:PE X e (tVar j)):PE X e (Zeh S j t t Ln.here):=by
 refine PE.of h fun σ H Q ⟨B,O,Fs,ρ,v,d,F,d1,w,h1,h2,h3,ow,hs,k⟩=>⟨v,h1, ?_⟩
 cases hs
 exact k v F (Fo.refl ow (Y3 w.nd h3))
def Ln.ix(L:Ln)(i:Nat):Ln:=⟨fun ρ d=>(L.sel ρ d).bind fun x=>match x with
 |.lst ds=>ds[i]?
 |_=>none,fun ρ d d2=>match L.sel ρ d with
 |some (.lst ds)=>L.put ρ d (.lst (ds.set i d2))
 |_=>d⟩
theorem Fo.move{G:Gx K}{O O2:Addr->Prop}{H H2:Hp}{v v1:V}{d1:D}{F F1:List Addr}{put:D->D}(fo:Fo G O H t v F t1 v1 d1 F1 put)(k:Kept O H O2 H2)(fr:∀b∈F,H2 b=H b)(dm:∀b o,H b=some o->∃o',H2 b=some o')(kt:∀O3 H3,Kept O2 H2 O3 H3->Kept O H O3 H3):Fo G O2 H2 t v F t1 v1 d1 F1 put:=by
 refine⟨Own.keep k _ (fun b hb=>fr b (fo.sub b hb)) fo.own,fo.nd,fo.sub,fun O3 H3 d2 F2 ow k3 fr3 nw n2 al=> ?_⟩
 refine fo.back O3 H3 d2 F2 ow (kt O3 H3 k3) (fun b hb hn=>(fr3 b hb hn).trans (fr b hb)) (fun b hb=>(nw b hb).imp id fun z=> ?_) n2 fun b hb=> ?_
 ·cases q:H b with
  |none=>rfl
  |some o=>obtain⟨o',h'⟩:=dm b o q; rw[z] at h'; cases h'
 ·obtain⟨o,ho⟩:=al b hb
  exact⟨o,by rw[<- fr b hb]; exact ho⟩
theorem Kept.trans{O O2 O3:Addr->Prop}{H H2 H3:Hp}(a:Kept O H O2 H2)(b:Kept O2 H2 O3 H3)(dm:∀b o,H b=some o->∃o',H2 b=some o'):Kept O H O3 H3:=by
 have no:∀{c:Addr}{o:HO},H c=some o->¬ O c->¬ O2 c:=fun h n=>a.no h n
 refine⟨fun c u n nf h=>b.rd c u (a.no2 h n) nf (a.rd c u n nf h),fun c P n h=>b.ext c P (no h n) (a.ext c P n h),fun c vs n h=>b.tup c vs (no h n) (a.tup c vs n h),fun c o vs n h=>b.ftp c o vs (no h n) (a.ftp c o vs n h),fun c C dx fs n h=>b.ins c C dx fs (no h n) (a.ins c C dx fs n h),fun c h=> ?_⟩
 rcases b.grow c h with z|z
 ·exact a.grow c z
 ·refine .inr ?_
  cases q:H c with
  |none=>rfl
  |some o=>obtain⟨o',h'⟩:=dm c o q; rw[z] at h'; cases h'
abbrev Sx.hd(S:Sx K)(j:Nat):Sx K:= { S with M:=S.M.set j .hd }
def Zj6(j:Nat)(L:Ln)(u:List D->List D->Option (D × List D))(as:List D)(ρ:Env):R D:=match ρ[j]? with
 |some (some d)=>match L.sel ρ d with
  |some (.lst ds)=>match u ds as with
   |some (r,ds')=> .ok r (ρ.set j (some (L.put ρ d (.lst ds'))))
   |none=> .bad
  |_=> .bad
 |_=> .bad
def Ln.Ok(L:Ln)(M:List Md):Prop:=∀ρ ρ':Env,(∀(i:Nat) (m:Md),M[i]?=some m->m.isOw=false->ρ'[i]?=ρ[i]?)->(∀d,L.sel ρ' d=L.sel ρ d)∧∀d d2,L.put ρ' d d2=L.put ρ d d2
def Zj7(j:Nat)(L:Ln)(ρ:Env):Bool:=match ρ[j]? with
 |some (some d)=>match L.sel ρ d with
  |some (.lst _)=>true
  |_=>false
 |_=>false
def Zj8(j:Nat)(L:Ln)(u:List D->List D->Option (D × List D))(fs:Env->R (List D)):Env->R D:=fun ρ=>if Zj7 j L ρ then (fs ρ).bind fun as ρ1=>Zj6 j L u as ρ1 else .bad
theorem ZoC{T id:String}{name:Str}{o:Expr}{es:List Expr}{fs:Env->R (List D)}{apos cpos:Pos}{L:Ln}{r:V->List V->Hp->VK->Prop}{u:List D->List D->Option (D × List D)}(hu:Zee r u)(hT:T="list")(pa:PlainAttrs T)(slot:Slot T name id)(hty:typeOf (.builtin id)=pure (.type "method_descriptor"))(hm:MtR X id r)(hK:X.K=K)(h0:PE X o (Zeh S j t (.lst .sh) L))(hj:S.M[j]?=some m)(ht:m.is t)(hL:L.Ok (S.M.set j .hd))(ha:PA X (e::es) (lEs (S.hd j) fs))
  (hbase:attributeBase o name X.env (eval o X.env)=eval o X.env:=by rfl)
  (hfew:((backTo cpos (starEach (e::es) X.env)).all (fun x=> !x.1) && (backToKw cpos (keywordEach [] X.env)).all (fun x=>x.1.isSome) && decide ((e::es).length+([]:List Keyword).length+(if ([]:List Keyword).isEmpty then 0 else 1) < 30))=true:=by rfl)
  (hline:(apos.endLine == cpos.line)=true:=by rfl)(hs:starEach (e::es) X.env=(false,eval e X.env)::starEach es X.env:=by rfl)(hplain:(backTo cpos (starEach es X.env)).any (·.1)=false:=by rfl):PE X (.Call (.Attribute o name apos) (e::es) [] cpos) (lE S (Zj8 j L u fs)):=by
 subst hK
 refine PE.of (pe_bm pa slot hty hm h0 ha hbase hfew hline hs hplain) fun σ H Q ⟨B,O,Fs,ρ,w,run⟩=> ?_
 obtain⟨v,d,F,h1,h2,h3,ow⟩:=w.own hj ht
 unfold Zj8 at run
 by_cases hsel:Zj7 j L ρ=true
 case neg=>rw[if_neg hsel] at run; exact run.elim
 rw[if_pos hsel] at run
 have ⟨ds,hds⟩:∃ds,L.sel ρ d=some (.lst ds):=by
  unfold Zj7 at hsel
  rw[h2] at hsel
  dsimp only at hsel
  split at hsel
  ·exact⟨_,by assumption⟩
  ·cases hsel
 refine⟨B,O,Fs,ρ,v,d,F,.lst ds,w,h1,h2,h3,ow,hds,fun v1 F1 fo=> ?_⟩
 obtain⟨l,vs,ds',e1,e2,e3,e4,e5⟩:=J8 fo.own
 cases e2
 subst e1 e4 hT
 refine⟨.inl ⟨rfl,vs,SqL.of e3⟩,B,O,Fs.set j [],ρ,w.hideH hj, ?_⟩
 have key:∀{as:List D}{ρ1:Env}{args:List V}{O1:Addr->Prop}{Fs1:List (List Addr)}{H1:Hp},fs ρ= .ok as ρ1->Ev (S.M.set j .hd) O (Fs.set j []) H ρ O1 Fs1 H1 ρ1->Wd S.G B O1 Fs1 H1 σ ρ1 (S.M.set j .hd)->Reps S.G O1 H1 args as->r (.ref l) args H1 Q:=fun {as ρ1 args O1 Fs1 H1} hf ev wd ra=>by
  obtain⟨Fs2,w2,ev2,_,_,ef⟩:=w.unhide hj ht (.inr rfl) wd ev
  rw[h3] at ef
  rw[hf] at run
  have run2:Run S (vE S) (Zj6 j L u as ρ1) B O1 Fs2 H1 σ ρ1 Q:=Run.shift (show Run S (vE S) (Zj6 j L u as ρ1) B O Fs H σ ρ Q from run) ev2
  have hρ:ρ1[j]?=some (some d):=by
   rw[ev.keep j .hd (Xj (Xu.mp hj).1) rfl]
   exact h2
  obtain⟨hs1,hp1⟩:=hL ρ ρ1 ev.keep
  unfold Zj6 at run2
  rw[hρ] at run2
  dsimp only at run2
  rw[hs1,hds] at run2
  dsimp only at run2
  have hFO:∀b∈F,b∉(Fs.set j []).flatten:=fun b hb z=>by
   rcases Zs z with z|⟨i,F1,hi,e,hb1⟩
   ·cases z
   ·exact YI w.nd hi e h3 b hb1 hb
  have frF:∀b∈F,H1 b=H b:=fun b hb=>by
   obtain⟨o,ho⟩:=w.al b (w.sub b (Zj (Xa h3) hb))
   rw[ho]
   exact ev.chg b o ho (hFO b hb)
  have k01:Kept O H O1 H1:=ev2.kept w.sub
  have fo1:=fo.move k01 frF ev.dom fun O3 H3 k3=>k01.trans k3 ev.dom
  obtain⟨l2,vs2,ds2,q1,q2,q3,q4,q5⟩:=J8 fo1.own
  cases q1
  cases q2
  cases hq:u ds as with
  |none=>rw[hq] at run2; exact run2.elim
  |some z =>
   obtain⟨dr,ds3⟩:=z
   rw[hq] at run2
   dsimp only at run2
   have lF:l∈F:=fo.sub l (Xb.mpr rfl)
   have lO:O1 l:=w2.sub l (Zj (Xa ef) lF)
   refine hu S.G O1 H1 l vs2 args ds as dr ds3 hq q3 q5 ra lO Q fun v' vs' rv rs=> ?_
   have ne:∀b,b≠l->upd H1 l (.lst vs') b=H1 b:=fun b hb=>upd_ne hb
   have kw:Kept O1 H1 O1 (upd H1 l (.lst vs')):=⟨fun b u n _ h=>by
     have hb:b≠l:=fun z=>n (by rw[z]; exact lO)
     rcases h with h|⟨o,h⟩
     ·exact .inl (by rw[ne b hb]; exact h)
     ·exact .inr ⟨o,by rw[ne b hb]; exact h⟩,fun b P n h=>by
     rw[ne b fun z=>n (by rw[z]; exact lO)]; exact h,fun b vs n h=>by
     rw[ne b fun z=>n (by rw[z]; exact lO)]; exact h,fun b o vs n h=>by
     rw[ne b fun z=>n (by rw[z]; exact lO)]; exact h,fun b C dx fs n h=>by
     rw[ne b fun z=>n (by rw[z]; exact lO)]; exact h,fun _ h=> .inl h⟩
   have dm:∀b o,H1 b=some o->∃o',upd H1 l (.lst vs') b=some o':=fun b o h=>by
    by_cases hb:b=l
    ·exact⟨_,by rw[hb,Xi]⟩
    ·exact⟨o,by rw[ne b hb]; exact h⟩
   have alF:∀b∈F,∃o,H1 b=some o:=fun b hb=>by obtain⟨o,ho⟩:=w2.al b (w2.sub b (Zj (Xa ef) hb)); exact⟨o,ho⟩
   obtain⟨F3,ow3,n3,s3⟩:=fo1.back O1 (upd H1 l (.lst vs')) (.lst ds3) [l] (ZaL Xi (rs.keep kw)) kw (fun b hb hn=>ne b fun z=>hn (by rw[z]; exact Xb.mpr rfl)) (fun b hb=> .inl hb) (by simp) alF
   have in3:∀b∈F3,b∈F:=fun b hb=>by
    rcases s3 b hb with z|z
    ·rw[Xb.mp z]; exact lF
    ·exact z.1
   obtain⟨w3,ev3⟩:=w2.put hj ht h1 ef (O':=O1) (F':=F3) (H':=upd H1 l (.lst vs')) (d':=L.put ρ d (.lst ds3)) ⟨fun b o h n=>by rw[ne b fun z=>n (by rw[z]; exact lF)]; exact h,dm,fun _ h=>h,fun _ h=> .inl h,fun a ha=>by
    obtain⟨o,ho⟩:=w2.al a ha
    by_cases hb:a=l
    ·exact⟨⟨.lst vs',fun _ z=>nomatch z⟩,by rw[hb,Xi]⟩
    ·exact⟨o,by rw[ne a hb]; exact ho⟩,fun b hb=> .inl (in3 b hb),fun b hb=>w2.sub b (Zj (Xa ef) (in3 b hb)),n3⟩ ow3
   rw[hp1] at run2
   exact run2 v' O1 _ _ ev3 w3 (rv.keep kw)
 cases hf:fs ρ with
 |ok as ρ1=>exact fun args O1 Fs1 H1 ev wd ra=>key hf ev wd ra
 |ex x ρ1 =>
  rw[hf] at run
  intro cls dd O' Fs' H' ev wd x
  obtain⟨Fs2,w2,ev2,_,_,_⟩:=w.unhide hj ht (.inr rfl) wd ev
  exact run cls dd O' Fs2 H' ev2 w2 x
 |bad=>rw[hf] at run; exact run.elim
end
end Pu
namespace Pu
open PySem L2 PySem.Spec PyProof.Rows Pw
section
variable {X:Cx}{CX:CXT}{k:Nat}{f C:Addr}{fd:FuncData}{ps:List Str}{sp:Sp}{dvs:List V}{ds:List Value}{E:L2.St->XK}{x m:Str}{p pos apos:Pos}{e o:Expr}{es:List Expr}{ta:TE}{t:TA}
def ZoD(C:Addr)(sp:Sp)(dvs:List V)(E:L2.St->XK)(t:TA):TE:=fun σ H Q=>t σ H fun vs H1=>∀a dx,H1 a=none->H1 dx=none->dx≠a->
 sp (.ref a::(vs++dvs)) (upd (upd H1 dx (.own a)) a (.ins C dx [])) (fun v H2=>v= .non∧Q (.ref a) H2) (E σ)
theorem Zc4{pins:List (Addr × Obj)}{σ:L2.St}{H:Hp}{s:Shared}{Q:VK}{us:List Value}{vs:List V}
  (M:Mk X.K C f)(F:FnOkG X.prog X.w X.K X.mg X.base CX k f fd ps sp)
  (hr:RoomG (k+1) X.A)(hb:Binds X.K fd ps ds)(hd:Vals dvs ds)
  (hx:PassesAt CX X σ (E σ))(I:Inv X pins σ H s)(r:Vals vs us)
  (h:∀a dx,H a=none->H dx=none->dx≠a->sp (.ref a::(vs++dvs)) (upd (upd H dx (.own a)) a (.ins C dx [])) (fun v H2=>v= .non∧Q (.ref a) H2) (E σ)) :
  wpAny (model X.prog X.w) X.A (call (.ref C) us) (EP X pins σ Q) X.xe s:=by
 have n1:=I.hok.fresh (VM s.heap.objs.size)
 have n2:=I.hok.fresh (XS s.heap.objs.size)
 have want:=h _ _ n1 n2 (Va (Nat.lt_succ_self _))
 have J:=Inv.made (C:=C) I
 have all:Vals (V.ref (s.heap.objs.size+1)::(vs++dvs)) (Value.ref (s.heap.objs.size+1)::(us++ds)):= .cons rfl (r.append hd)
 have len:(Value.ref (s.heap.objs.size+1)::us++ds).length=ps.length:=by
  rw[<- F.len _ _ _ _ want]
  exact all.length.symm
 have fun_ok:=F.run _ X.stack _ _ ⟨Value.ref (s.heap.objs.size+1)::us,[]⟩ _ _ _ (E σ)
  (hr.make C us []) (J.env0.make C us []) (hb _ (Value.ref (s.heap.objs.size+1)::us) J.kIn len) all want
 refine Vl (make_map (f:=f) I.kIn M.makes M.init (Vh.mp M.fn) (Vi fun_ok fun out s' hq=> ?_))
 rcases out with e|fl
 ·exact hx pins _ _ e s' J hq
 ·cases fl with
  |ret u =>
   obtain⟨v,H',J3,rv,ev,q3⟩:=J.after hq
   subst ev
   exact⟨rv,⟨V.ref (s.heap.objs.size+1),H',J3,rfl,q3⟩⟩
  |next=>exact hq.elim
  |brk=>exact hq.elim
  |cont=>exact hq.elim
theorem Zmm(M:Mk X.K C f)(F:FnOkG X.prog X.w X.K X.mg X.base CX k f fd ps sp)
  (hr:RoomG (k+1) X.A)(hg:Gl X x)(hm:X.mg x=some (.ref C))(hb:Binds X.K fd ps ds)(hd:Vals dvs ds)(hx:∀σ,PassesAt CX X σ (E σ))(ha:PA X (e::es) t)
  (hdb:(x ==("__debug__" :Str))=false:=by decide)(he:starEach (e::es) X.env=(false,eval e X.env)::starEach es X.env:=by rfl)
  (hpl:(backTo pos (starEach es X.env)).any (·.1)=false:=by rfl):PE X (.Call (.Name x p) (e::es) [] pos) (ZoD C sp dvs E t) :=
 ⟨fun pins s σ H Q I h=>Ve (ld_glob I hg hm (VH (h₀:=X.base) I.ok.mod.kin M.kp
  (thn (ha.run pos pins s σ H _ I h) fun us s1 ⟨vs,H1,I1,r,q⟩=>⟨I1.kIn,Zc4 M F hr hb hd (hx σ) I1 r q⟩) he hpl) hdb)⟩
def ZoE(C:Addr)(m:Str)(sp:Sp)(dvs:List V)(E:L2.St->XK)(ta:TE)(t:TA):TE:=fun σ H Q=>ta σ H fun x H1=>∃a dx fs,x= .ref a∧H1 a=some (.ins C dx fs)∧fs.lookup m=none∧
 t σ H1 fun vs H2=>sp (.ref a::vs++dvs) H2 Q (E σ)
theorem ZfZ{pl:Sem Bool}(he:PE X o ta)(c:Cls X.K C)(hm:Meth X.K C m f)(F:FnOkG X.prog X.w X.K X.mg X.base CX k f fd ps sp)
  (hr:RoomG k X.A)(hb:Binds X.K fd ps ds)(hd:Vals dvs ds)(hx:∀σ,PassesAt CX X σ (E σ))(ha:PA X (e::es) t)
  (hst:starEach (e::es) X.env=(false,eval e X.env)::starEach es X.env:=by rfl)
  (hpl:(backTo pos (starEach es X.env)).any (·.1)=false:=by rfl)
  (ht:eval (.Call (.Attribute o m apos) (e::es) [] pos) X.env=(do
   let ov <- eval o X.env
   standAt apos.atName
   let (f,first) <- holding [ov] (getMethod ov m pl)
   callWith pos f first (backTo pos (starEach (e::es) X.env)) (backToKw pos (keywordEach [] X.env))):=by rfl):PE X (.Call (.Attribute o m apos) (e::es) [] pos) (ZoE C m sp dvs E ta t):=by
 constructor
 intro pins s σ H Q I h
 refine VN (pl:=pl) (thn (he.run pins s σ H _ I h) ?_) ht
 rintro u s1 ⟨x,H1,J,rx,a,dx,fs,ex,ea,l,q⟩
 subst ex
 obtain rfl:u=Value.ref a:=rx
 refine getmeth_ok J ea c hm l (VH (first:= [.ref a]) (h₀:=X.base) I.ok.mod.kin hm.kp (thn (ha.run pos pins s1 σ H1 _ J q) ?_) hst hpl)
 rintro us s2 ⟨vs,H2,J2,r,q2⟩
 exact⟨J2.kIn,Zjw (us:= .ref a::us) (vs:= .ref a::vs) F hr hb hd (hx σ) J2 (.cons rfl r) q2⟩
end
section
variable {K:PySem.W.Frag}{S:Sx K}{X:Cx}{e o:Expr}{es:List Expr}{fa:Env->R D}{fs:Env->R (List D)}{pos p apos:Pos}{ms ms2:List Md}{t:Shp}
inductive DReps (G:Gx K):List Md->List V->List D->Prop
 |nil:DReps G [] [] []
 |cons {ms:List Md}{v:V}{d:D}{vs:List V}{ds:List D}:(∀O H,Rep G O H v d)->DReps G ms vs ds->DReps G (.sh::ms) (v::vs) (d::ds)
 |consB {ms:List Md}{v:V}{d:D}{vs:List V}{ds:List D}:(∀O H,Rep G O H v d)->DReps G ms vs ds->DReps G (.br::ms) (v::vs) (d::ds)
theorem DReps.a{G:Gx K}{O:Addr->Prop}{F:List Addr}{H:Hp}:∀{ms:List Md}{vs:List V}{ds:List D},DReps G ms vs ds->AReps G O F H ms vs ds
 |_,_,_,.nil=> .nil
 |_,_,_,.cons r t=> .sh (r O H) t.a
 |_,_,_,.consB r t=> .br (.inl (r O H)) t.a
theorem AReps.app{G:Gx K}{O:Addr->Prop}{F:List Addr}{H:Hp}:∀{ms ms2:List Md}{vs vs2:List V}{ds ds2:List D},AReps G O F H ms vs ds->AReps G O F H ms2 vs2 ds2->AReps G O F H (ms++ms2) (vs++vs2) (ds++ds2)
 |_,_,_,_,_,_,.nil,h=>h
 |_,_,_,_,_,_,.sh r t,h=> .sh r (t.app h)
 |_,_,_,_,_,_,.br r t,h=> .br r (t.app h)
theorem AReps.keep{G:Gx K}{O O':Addr->Prop}{F F':List Addr}{H H':Hp}(k:Kept O H O' H')(kb:∀b o,b∉F->H b=some o->H' b=some o∧b∉F'):∀{ms:List Md}{vs:List V}{ds:List D},AReps G O F H ms vs ds->AReps G O' F' H' ms vs ds
 |_,_,_,.nil=> .nil
 |_,_,_,.sh r t=> .sh (r.keep k) (t.keep k kb)
 |_,_,_,.br r t=>by
  refine .br ?_ (t.keep k kb)
  rcases r with r|⟨p,np,⟨o,ho⟩,r⟩
  ·exact .inl (r.keep k)
  ·have kp:∀b∈ [p],H' b=H b:=fun b hb=>by
    rw[Xb.mp hb,ho]
    exact(kb p o np ho).1
   refine .inr ⟨p,(kb p o np ho).2,⟨o,(kb p o np ho).1⟩, ?_⟩
   rcases r with r|r|r
   ·exact .inl (Own.keep k _ kp r)
   ·exact .inr (.inl (Own.keep k _ kp r))
   ·exact .inr (.inr (Own.keep k _ kp r))
def RF.toNew(r:RF)(ρ:Env):R D:=match r with
 |.ok .non (d::_)=> .ok d ρ
 |.ok _ _=> .bad
 |.ex x _=> .ex x ρ
 |.bad=> .bad
def ZdC(c:String)(dd:List D)(g:List D->RF)(fs:Env->R (List D)):Env->R D:=fun ρ=>(fs ρ).bind fun ds ρ1=>(g (.obj c []::(ds++dd))).toNew ρ1
theorem ZdD{g:List D->RF}{B O:Addr->Prop}{Fs:List (List Addr)}{H:Hp}{σ:L2.St}{ρ:Env}{vs:List V}{ds:List D}{Q:VK}{a C dx:Addr}{c:String}{fsh:Str->Shp}(w:Wd S.G B O Fs H σ ρ S.M)(hC:S.G.ca c=some C)(h:AReps S.G O Fs.flatten H ms vs ds)(na:H a=none)(nx:H dx=none)(ne:dx≠a)
  (run:Run S (vE S) ((g (.obj c []::ds)).toNew ρ) B O Fs H σ ρ Q):SpF S.G S.xa (.op (.obj fsh)::ms) g (.ref a::vs) (upd (upd H dx (.own a)) a (.ins C dx [])) (fun v H2=>v= .non∧Q (.ref a) H2) (WE S.W σ):=by
 have old:∀b u,H b=some u->upd (upd H dx (.own a)) a (.ins C dx []) b=some u:=fun b u hb=>by
  rw[upd_ne (Vm hb na),upd_ne (Vm hb nx)]
  exact hb
 have same:Same H (upd (upd H dx (.own a)) a (.ins C dx [])):=old
 have k0:Kept O H (fun b=>O b∨b=a) (upd (upd H dx (.own a)) a (.ins C dx [])):=by
  have:=Kept.same (O:=O) same
  exact⟨this.rd,this.ext,this.tup,this.ftp,this.ins,fun b hb=>hb.imp id fun z=>by rw[z]; exact na⟩
 have A2:AReps S.G (fun b=>O b∨b=a) ([]:List Addr) (upd (upd H dx (.own a)) a (.ins C dx [])) ms vs ds:=h.keep k0 fun b u _ hb=>⟨old b u hb,fun z=>by cases z⟩
 have A3:AReps S.G (fun b=>O b∨b=a) ([a]:List Addr) (upd (upd H dx (.own a)) a (.ins C dx [])) ms vs ds:=h.keep k0 fun b u _ hb=>⟨old b u hb,fun z=>Vm hb na (Xb.mp z)⟩
 have fl:([a]::List.replicate ms.length []).flatten= [a]:=by rw[Xw,YO]; rfl
 have al2:∀b,(O b∨b=a)->∃o:NTO,upd (upd H dx (.own a)) a (.ins C dx []) b=some o.1:=fun b hb=>by
  rcases hb with hb|hb
  ·obtain⟨u,hu⟩:=w.al b hb
   exact⟨u,old b u hu⟩
  ·exact⟨⟨.ins C dx [],fun _ z=>nomatch z⟩,by rw[hb,Xi]⟩
 refine⟨fun b=>O b∨b=a,[a]::List.replicate ms.length [],.obj c []::ds,⟨by rw[fl]; simp,by rw[fl]; exact fun b hb=> .inr (Xb.mp hb),fun _ h=>h,al2,by simp[h.len.1],by simp[h.len.2],by simp,fun i m v d f e1 e2 e3 e4=> ?_⟩, ?_⟩
 ·cases i with
  |zero =>
   cases e1; cases e2; cases e3; cases e4
   exact⟨_,_,rfl,rfl,a,C,dx,[],c,[],[],rfl,rfl,hC,Xi,rfl,(fun f hf=>by cases hf),.nil⟩
  |succ i =>
   have:f= []:=(Vy.mp (Xa (by simpa using e4))).2
   subst this
   rw[fl]
   exact A3.slot (fun b hb=>hb) (by simpa using e1) (by simpa using e2) (by simpa using e3)
 ·have fin:∀{O':Addr->Prop}{Fs':List (List Addr)}{H':Hp}{ds':List D},Ev (.op (.obj fsh)::ms) (fun b=>O b∨b=a) ([a]::List.replicate ms.length []) (upd (upd H dx (.own a)) a (.ins C dx [])) ((D.obj c []::ds).map some) O' Fs' H' (ds'.map some)->Same H H'∧(∀b,O b->O' b)∧∀b∈Fs'.flatten,¬ O b:=fun {O' Fs' H' ds'} ev=>by
   refine⟨fun b u hb=>ev.chg b u (old b u hb) (by rw[fl]; exact fun z=>Vm hb na (Xb.mp z)),fun b hb=>ev.mono b (.inl hb),fun b hb z=> ?_⟩
   obtain⟨u,hu⟩:=w.al b z
   rcases ev.fgrow b hb with q|q
   ·rw[fl] at q
    exact Vm hu na (Xb.mp q)
   ·rw[old b u hu] at q; cases q
  cases e:g (.obj c []::ds) with
  |ok d ds' =>
   rw[e] at run
   intro v O' Fs' H' ev wd r
   obtain⟨sm,mo,no⟩:=fin ev
   cases d with
   |non =>
    cases r
    refine⟨rfl, ?_⟩
    cases ds' with
    |nil=>exact run.elim
    |cons d1 ds1 =>
     obtain⟨v1,d2,F,h1,h2,h3,ow⟩:=wd.own (j:=0) (t:= .obj fsh) (m:= .op (.obj fsh)) rfl (.inr rfl)
     cases h1
     cases h2
     refine run (.ref a) O Fs H' (Ev.same sm) (w.same sm) (Own.freeze mo _ (fun b hb=>no b ?_) ow)
     exact Zj (Xa h3) hb
   |_=>exact run.elim
  |ex x ds' =>
   rw[e] at run
   intro cls dd O' Fs' H' ev wd r
   obtain⟨sm,mo,no⟩:=fin ev
   exact run cls dd O Fs H' (Ev.same sm) (w.same sm) (r.anti mo)
  |bad=>rw[e] at run; exact run.elim
theorem Zc5{k:Nat}{f C:Addr}{fd:FuncData}{ps:List Str}{x:Str}{c:String}{fsh:Str->Shp}{g:List D->RF}{dvs:List V}{dds:List D}{dvl:List Value}(M:Mk X.K C f)(F:FnOkG X.prog X.w X.K X.mg X.base (L2.CX X.prog X.w) k f fd ps (SpF S.G S.xa (.op (.obj fsh)::(ms++ms2)) g))(hC:S.G.ca c=some C)(hr:RoomG (k+1) X.A)(hg:Gl X x)(hm:X.mg x=some (.ref C))(hb:Binds X.K fd ps dvl)(hd:Vals dvs dvl)(hdd:DReps S.G ms2 dvs dds)(tk:Takes X S.W)
  (ha:PA X (e::es) (lAs S ms fs))(hdb:(x ==("__debug__" :Str))=false:=by decide)(he:starEach (e::es) X.env=(false,eval e X.env)::starEach es X.env:=by rfl)(hpl:(backTo pos (starEach es X.env)).any (·.1)=false:=by rfl) :
  PE X (.Call (.Name x p) (e::es) [] pos) (lE S (ZdC c dds g fs)):=by
 refine PE.of (Zmm (E:=WE S.W) M F hr hg hm hb hd (fun σ=>passAt tk σ) ha hdb he hpl) fun σ H Q ⟨B,O,Fs,ρ,w,run⟩=> ?_
 refine⟨B,O,Fs,ρ,w,run.bind fun ds ρ1 vs O1 Fs1 H1 _ ev1 w1 r1 run1=> ?_⟩
 exact fun a dx na nx ne=>ZdD w1 hC (r1.app hdd.a) na nx ne run1
def isC(c:String)(m:Str):D->Bool
 |.obj c' fs=>c' == c && (fs.lookup m).isNone
 |_=>false
def Ys(c:String)(m:Str)(dd:List D)(g:List D->RF)(fa:Env->R D)(fs:Env->R (List D)):Env->R D:=fun ρ=>(fa ρ).bind fun x ρ1=>if isC c m x then (fs ρ1).bind fun ds ρ2=>(g (x::(ds++dd))).toR ρ2 else .bad
theorem Zc6{G:Gx K}{O:Addr->Prop}{H:Hp}{n:Str}:∀{fs:List (Str × D)}{fvs:List (Str × V)},RepF G O H fvs fs->fs.lookup n=none->fvs.lookup n=none
 |[],_,h,_=>by cases h; rfl
 |(f,d)::fs,_,h,e=>by
  cases h with
  |cons r t =>
   cases hb:n == f with
   |true=>rw[Vs,hb] at e; cases e
   |false =>
    rw[Vs,hb] at e ⊢
    exact Zc6 t e
theorem Zho{pl:Sem Bool}{k:Nat}{f C:Addr}{fd:FuncData}{ps:List Str}{m:Str}{c:String}{g:List D->RF}{dvs:List V}{dds:List D}{dvl:List Value}(hK:X.K=K)(hC:S.G.ca c=some C)(hm:Meth X.K C m f)(F:FnOkG X.prog X.w X.K X.mg X.base (L2.CX X.prog X.w) k f fd ps (SpF S.G S.xa (.br::(ms++ms2)) g))(hr:RoomG k X.A)(hb:Binds X.K fd ps dvl)(hd:Vals dvs dvl)(hdd:DReps S.G ms2 dvs dds)(tk:Takes X S.W)
  (ho:PE X o (lB S fa))(ha:PA X (e::es) (lAs S ms fs))(hst:starEach (e::es) X.env=(false,eval e X.env)::starEach es X.env:=by rfl)(hpl:(backTo pos (starEach es X.env)).any (·.1)=false:=by rfl)
  (ht:eval (.Call (.Attribute o m apos) (e::es) [] pos) X.env=(do
   let ov <- eval o X.env
   standAt apos.atName
   let (f,first) <- holding [ov] (getMethod ov m pl)
   callWith pos f first (backTo pos (starEach (e::es) X.env)) (backToKw pos (keywordEach [] X.env))):=by rfl):PE X (.Call (.Attribute o m apos) (e::es) [] pos) (lE S (Ys c m dds g fa fs)):=by
 subst hK
 refine PE.of (ZfZ (E:=WE S.W) ho (S.G.oc hC).cl hm F hr hb hd (fun σ=>passAt tk σ) ha hst hpl ht) fun σ H Q ⟨B,O,Fs,ρ,w,run⟩=> ?_
 refine⟨B,O,Fs,ρ,w,run.bind fun x ρ1 v O1 Fs1 H1 _ ev1 w1 r1 run1=> ?_⟩
 cases hx:isC c m x with
 |false=>rw[hx] at run1; exact run1.elim
 |true =>
  rw[hx,if_pos rfl] at run1
  cases x with
  |obj c' fs' =>
   have hx:(c' == c && (fs'.lookup m).isNone)=true:=hx
   rw[Xp,Vh,Option.isNone_iff_eq_none] at hx
   obtain⟨rfl,hn⟩:=hx
   obtain⟨a,C',dx,fvs,e1,e2,e3,e4,e5⟩:=r1.obj
   rw[hC] at e2
   cases e2
   subst e1
   refine⟨a,dx,fvs,rfl,e3,Zc6 e5 hn,B,O1,Fs1,ρ1,w1,run1.bind fun ds ρ2 vs O2 Fs2 H2 _ ev2 w2 r2 run2=> ?_⟩
   exact Zcl w2 (.br (r1.ev w1 ev2) (r2.app hdd.a)) run2
  |_=>cases hx
end
end Pu
namespace Pu
open PySem L2 PySem.Spec PyProof.Rows Pw
def Jx(f:Str)(d:D):List (Str × D)->List (Str × D)
 |[]=> [(f,d)]
 |(g,x)::r=>if g=f then (g,d)::r else (g,x)::Jx f d r
theorem ZbJ{f:Str}{d:D}:∀{fs:List (Str × D)}{x:Str},x∈(Jx f d fs).map (·.1)->x=f∨x∈fs.map (·.1)
 |[],x,h=>by
  unfold Jx at h
  exact .inl (by simpa using h)
 |(g,y)::r,x,h=>by
  unfold Jx at h
  split at h
  ·exact .inr h
  ·rw[Xv] at h
   rcases XB.mp h with h|h
   ·exact .inr (by rw[h]; exact Xg ..)
   ·exact(ZbJ h).imp id (Xm _)
section
variable {K:PySem.W.Frag}{G:Gx K}{O:Addr->Prop}{H:Hp}{fsh:Str->Shp}{f:Str}{v:V}{d:D}
abbrev OwF(G:Gx K)(O:Addr->Prop)(H:Hp)(fsh:Str->Shp):Str × V->Str × D->List Addr->Prop:=fun a b F=>a.1=b.1∧Own G O H (fsh a.1) a.2 b.2 F
theorem Zf0(hf:fsh f= .sh)(r:Rep G O H v d):∀{fvs:List (Str × V)}{fs:List (Str × D)}{Fs:List (List Addr)},All3 (OwF G O H fsh) fvs fs Fs->∃Fs',All3 (OwF G O H fsh) (putF f v fvs) (Jx f d fs) Fs'∧Fs'.flatten=Fs.flatten
 |_,_,_,.nil=>⟨[[]],.cons ⟨rfl,by rw[hf]; exact⟨rfl,r⟩⟩ .nil,rfl⟩
 |(g,x)::fvs,(g',y)::fs,F::Fs,.cons h t=>by
  obtain⟨e,h⟩:=h
  cases (show g=g' from e)
  unfold putF Jx
  by_cases hg:g=f
  ·subst hg
   rw[if_pos rfl,if_pos rfl]
   have h:Own G O H (fsh g) x y F:=h
   rw[hf] at h
   obtain⟨eF,_⟩:=h
   subst eF
   exact⟨[]::Fs,.cons ⟨rfl,by rw[hf]; exact⟨rfl,r⟩⟩ t,rfl⟩
  ·rw[if_neg hg,if_neg hg]
   obtain⟨Fs',h1,h2⟩:=Zf0 hf r t
   exact⟨F::Fs',.cons ⟨rfl,h⟩ h1,by rw[Xw,Xw,h2]⟩
theorem Zf1{Fv:List Addr}(r:Own G O H (fsh f) v d Fv):∀{fvs:List (Str × V)}{fs:List (Str × D)}{Fs:List (List Addr)},All3 (OwF G O H fsh) fvs fs Fs->fs.lookup f=none->All3 (OwF G O H fsh) (putF f v fvs) (Jx f d fs) (Fs++ [Fv])
 |_,_,_,.nil,_=> .cons ⟨rfl,r⟩ .nil
 |(g,x)::fvs,(g',y)::fs,F::Fs,.cons h t,hn=>by
  obtain⟨e,h⟩:=h
  cases (show g=g' from e)
  unfold putF Jx
  by_cases hg:g=f
  ·subst hg
   rw[Vs,X7] at hn
   cases hn
  ·rw[if_neg hg,if_neg hg]
   have:(f == g)=false:=by rw[VE]; exact XI hg
   rw[Vs,this] at hn
   exact .cons ⟨rfl,h⟩ (Zf1 r t hn)
theorem Ql{q:Addr}{u:HO}(lO:O q):Kept O H O (upd H q u):=by
 have ne:∀b,¬ O b->b≠q:=fun b n z=>n (by rw[z]; exact lO)
 refine⟨fun b u' n _ h=> ?_,fun b P n h=>by rw[upd_ne (ne b n)]; exact h,fun b vs n h=>by rw[upd_ne (ne b n)]; exact h,fun b o vs n h=>by rw[upd_ne (ne b n)]; exact h,fun b C dx fs n h=>by rw[upd_ne (ne b n)]; exact h,fun _ h=> .inl h⟩
 rcases h with h|⟨o,h⟩
 ·exact .inl (by rw[upd_ne (ne b n)]; exact h)
 ·exact .inr ⟨o,by rw[upd_ne (ne b n)]; exact h⟩
theorem Zfu{q:Addr}{u:HO}:∀b o,H b=some o->∃o',upd H q u b=some o':=fun b o h=>by
 by_cases hb:b=q
 ·exact⟨_,by rw[hb,Xi]⟩
 ·exact⟨o,by rw[upd_ne hb]; exact h⟩
theorem ZeJ{q:Addr}{u:HO}(al:Al O H)(no:∀vs,u≠ .tup vs:=by intro _ z; cases z):Al O (upd H q u):=fun b h=>by
 obtain⟨o,ho⟩:=al b h
 by_cases hb:b=q
 ·exact⟨⟨u,no⟩,by rw[hb,Xi]⟩
 ·exact⟨o,by rw[upd_ne hb]; exact ho⟩
theorem Zcs{α β γ:Type}{P:α->β->γ->Prop}{as:List α}{bs:List β}{cs:List γ}(h:All3 P as bs cs):as.length=bs.length:=by
 induction h with
 |nil=>rfl
 |cons _ _ ih=>rw[Xs,Xs,ih]
theorem Wd.put2{B:Addr->Prop}{Fs:List (List Addr)}{H':Hp}{σ:L2.St}{ρ:Env}{M:List Md}{j:Nat}{m:Md}{t:Shp}{v:V}{d':D}{F F':List Addr}(w:Wd G B O Fs H σ ρ M)(hm:M[j]?=some m)(ht:m.is t)(hv:σ[j]?=some (some v))(hF:Fs[j]?=some F)(chg:∀b o,H b=some o->b∉F->H' b=some o)(al:Al O H')(k:Kept O H O H')
  (fgr:∀b∈F',b∈F∨(b∉Fs.flatten∧O b∧¬ B b))(nd:F'.Nodup)(brn:∀(i:Nat) (v':V) (d':D),M[i]?=some .br->σ[i]?=some (some v')->ρ[i]?=some (some d')->BRep G O (Fs.set j F').flatten H' v' d')(ow:Own G O H' t v d' F'):Wd G B O (Fs.set j F') H' σ (ρ.set j (some d')) M:=by
 have hj:j < M.length:=(Xu.mp hm).1
 refine⟨?_,fun a ha=> ?_,w.bo,fun a ha=> ?_,w.ls,by rw[Xl]; exact w.lr,by rw[Xl]; exact w.lf,fun i m' v' d f h1 h2 h3 h4=> ?_⟩
 ·refine Y4 w.nd nd fun i F1 hi e b hb hb1=> ?_
  rcases fgr b hb with z|z
  ·exact YI w.nd hi e hF b hb1 z
  ·exact z.1 (Zj (Xa e) hb1)
 ·rcases Zs ha with ha|⟨i,F1,_,e,hb⟩
  ·rcases fgr a ha with z|z
   ·exact w.sub a (Zj (Xa hF) z)
   ·exact z.2.1
  ·exact w.sub a (Zj (Xa e) hb)
 ·exact al a ha
 ·by_cases e:i=j
  ·subst e
   rw[hm] at h1
   cases h1
   rw[Xj (by rw[w.lr]; exact hj)] at h3
   rw[Xj (by rw[w.lf]; exact hj)] at h4
   rw[hv] at h2
   cases h2
   cases h3
   cases h4
   rcases ht with rfl|rfl
   ·refine⟨fun a ha=> ?_,v,d',rfl,rfl,ow⟩
    obtain⟨v0,d0,F0,e1,e2,e3,sl⟩:=w.get hm
    rw[hF] at e3
    cases e3
    rcases fgr a ha with z|z
    ·exact sl.1 a z
    ·exact z.2.2
   ·exact⟨v,d',rfl,rfl,ow⟩
  ·rw[Xf (XI e)] at h3 h4
   have sl:=w.sl i m' v' d f h1 h2 h3 h4
   have kf:∀b∈f,H' b=H b:=fun b hb=>by
    have hb2:b∈Fs.flatten:=Zj (Xa h4) hb
    obtain⟨o,ho⟩:=w.al b (w.sub b hb2)
    rw[ho]
    exact chg b o ho (YI w.nd e h4 hF b hb)
   cases m' with
   |mb =>
    obtain⟨q0,h⟩:=sl
    exact⟨q0,fun d' hd=>by obtain⟨v',e1,r⟩:=h d' hd; exact⟨v',e1,r.keep k⟩⟩
   |th a c q l =>
    obtain⟨q0,q1,⟨h1,h2⟩,h3⟩:=sl
    exact⟨q0,q1,⟨k.no h2 h1,k.ext _ _ h1 h2⟩,fun p hp=>(h3 p hp).keep k⟩
   |br =>
    obtain⟨q1,v1,d1,q2,q3,r⟩:=sl
    subst q2 q3
    exact⟨q1,v1,d1,rfl,rfl,brn i v1 d1 h1 h2 h3⟩
   |na=>exact sl
   |hd=>exact sl
   |sh =>
    obtain⟨q1,v1,d1,q2,q3,r⟩:=sl
    exact⟨q1,v1,d1,q2,q3,r.keep k⟩
   |ow t =>
    obtain⟨q1,v1,d1,q2,q3,r⟩:=sl
    exact⟨q1,v1,d1,q2,q3,Own.keep k _ kf r⟩
   |op t =>
    obtain⟨v1,d1,q2,q3,r⟩:=sl
    exact⟨v1,d1,q2,q3,Own.keep k _ kf r⟩
end
section
variable {K:PySem.W.Frag}{T:Tx K}{M M1 Mn Mt:List Md}{X:Cx}{pos pos':Pos}{e o value:Expr}{f:Env->R D}{j:Nat}{m:Md}{n:Str}{c:String}{C:Addr}{fsh:Str->Shp}
def ZoF(j:Nat)(c:String)(n:Str)(d:D)(ρ:Env):RS:=match ρ[j]? with
 |some (some (.obj c' fs))=>if c'=c∧fs.length < 1000 then .nx (ρ.set j (some (.obj c' (Jx n d fs)))) else .bad
 |_=> .bad
def ZoG(j:Nat)(c:String)(n:Str)(d:D)(ρ:Env):RS:=match ρ[j]? with
 |some (some (.obj c' fs))=>if c'=c∧fs.length < 1000∧fs.lookup n=none then .nx (ρ.set j (some (.obj c' (Jx n d fs)))) else .bad
 |_=> .bad
def Qy(j:Nat)(c:String)(n:Str)(f:Env->R D):Env->RS:=fun ρ=>(f ρ).bindS fun d ρ1=>ZoF j c n d ρ1
def Znk(j:Nat)(c:String)(n:Str)(f:Env->R D):Env->RS:=fun ρ=>(f ρ).bindS fun d ρ1=>ZoG j c n d ρ1
theorem QL(hK:X.K=K)(h0:PE X o (tVar j))(hj:M[j]?=some m)(ht:m.is (.obj fsh))(hf:fsh n= .sh)(hC:T.G.ca c=some C)(hN:NoAttr K C n)(hv:PE X value (lE (T.ex M) f))(wx:Wk M T.Mx)(hs:swapsWith value (some (.Attribute o n pos')) pos.line X.env=pure false:=by rfl) :
  PS X (.Assign [.Attribute o n pos'] value pos) (lS T M M (Qy j c n f)):=by
 subst hK
 refine PS.of (ps_fld h0 hv hs) fun E σ H ⟨B,O,Fs,ρ,w,run⟩=> ?_
 refine⟨B,O,Fs,ρ,w,run.bindE wx (fun d ρ1 v O1 Fs1 H1 _ ev1 w1 r1 run1=> ?_) (ZM M)⟩
 obtain⟨v0,d0,F,h1,h2,h3,ow⟩:=w1.own hj ht
 obtain⟨p,C',dx,fvs,c',fs,Fq,e1,e2,e3,e4,e5,e6,e7⟩:=ow
 subst e1 e2 e5
 unfold ZoF at run1
 rw[h2] at run1
 dsimp only at run1
 split at run1
 ·rename_i hc
  obtain⟨rfl,hl⟩:=hc
  rw[hC] at e3
  cases e3
  refine⟨.ref p,h1,p,C,dx,fvs,rfl,e4,(T.G.oc hC).cl,hN,by rw[Zcs e7]; exact hl, ?_⟩
  have nd:=Y3 w1.nd h3
  have pO:O1 p:=w1.sub p (Zj (Xa h3) (Xg ..))
  have kw:Kept O1 H1 O1 (upd H1 p (.ins C dx (putF n v fvs))):=Ql pO
  have e8:All3 (OwF T.G O1 (upd H1 p (.ins C dx (putF n v fvs))) fsh) fvs fs Fq:=e7.imp fun a b F hF h=>⟨h.1,Own.keep kw _ (fun x hx=>upd_ne fun z=>(X6.mp nd).1 (by rw[<- z]; exact Zj hF hx)) h.2⟩
  obtain⟨Fq',g1,g2⟩:=Zf0 hf (r1.keep kw) e8
  obtain⟨w3,ev3⟩:=w1.put hj ht h1 h3 (O':=O1) (F':=p::Fq.flatten) (H':=upd H1 p (.ins C dx (putF n v fvs))) (d':= .obj c' (Jx n d fs)) ⟨fun b o h n=>by rw[upd_ne fun z=>n (by rw[z]; exact Xg ..)]; exact h,Zfu,fun _ h=>h,fun _ h=> .inl h,ZeJ w1.al,fun b hb=> .inl hb,fun b hb=>w1.sub b (Zj (Xa h3) hb),nd⟩
   ⟨p,C,dx,_,c',_,Fq',rfl,rfl,hC,Xi,by rw[g2],fun x hx=>by
    rcases ZbJ hx with hx|hx
    ·rw[hx]; exact hN
    ·exact e6 x hx,g1⟩
  exact run1 O1 _ _ σ ev3.toS w3
 ·exact run1.elim
theorem ZoH{t:Shp}(hK:X.K=K)(h0:PE X o (tVar j))(hj:M[j]?=some m)(ht:m.is (.obj fsh))(hf:fsh n=t)(hC:T.G.ca c=some C)(hN:NoAttr K C n)(hv:PE X value (lF (T.ex M) t f))(wx:Wk M T.Mx)(hs:swapsWith value (some (.Attribute o n pos')) pos.line X.env=pure false:=by rfl) :
  PS X (.Assign [.Attribute o n pos'] value pos) (lS T M M (Znk j c n f)):=by
 subst hK hf
 refine PS.of (ps_fld h0 hv hs) fun E σ H ⟨B,O,Fs,ρ,w,run⟩=> ?_
 refine⟨B,O,Fs,ρ,w,run.bindF wx fun d ρ1 v O1 Fs1 H1 Fv ev1 w1 r1 nw run1=> ?_⟩
 obtain⟨v0,d0,F,h1,h2,h3,ow⟩:=w1.own hj ht
 obtain⟨p,C',dx,fvs,c',fs,Fq,e1,e2,e3,e4,e5,e6,e7⟩:=ow
 subst e1 e2 e5
 unfold ZoG at run1
 rw[h2] at run1
 dsimp only at run1
 split at run1
 ·rename_i hc
  obtain⟨rfl,hl,hn⟩:=hc
  rw[hC] at e3
  cases e3
  refine⟨.ref p,h1,p,C,dx,fvs,rfl,e4,(T.G.oc hC).cl,hN,by rw[Zcs e7]; exact hl, ?_⟩
  have nd:=Y3 w1.nd h3
  have inF:∀b∈p::Fq.flatten,b∈Fs1.flatten:=fun b hb=>Zj (Xa h3) hb
  have pv:∀b∈Fv,b≠p:=fun b hb z=>nw.dj b hb (by rw[z]; exact inF p (Xg ..))
  have pO:O1 p:=w1.sub p (inF p (Xg ..))
  have kw:Kept O1 H1 O1 (upd H1 p (.ins C dx (putF n v fvs))):=Ql pO
  have e8:All3 (OwF T.G O1 (upd H1 p (.ins C dx (putF n v fvs))) fsh) fvs fs Fq:=e7.imp fun a b F hF h=>⟨h.1,Own.keep kw _ (fun x hx=>upd_ne fun z=>(X6.mp nd).1 (by rw[<- z]; exact Zj hF hx)) h.2⟩
  have g1:=Zf1 (Own.keep kw _ (fun b hb=>upd_ne (pv b hb)) r1) e8 hn
  have fl:p::(Fq++ [Fv]).flatten=(p::Fq.flatten)++Fv:=by rw[VF]; simp
  have chg:∀b u,H1 b=some u->b∉p::Fq.flatten->upd H1 p (.ins C dx (putF n v fvs)) b=some u:=fun b u h n=>by rw[upd_ne fun z=>n (by rw[z]; exact Xg ..)]; exact h
  have fgr:∀b∈(p::Fq.flatten)++Fv,b∈p::Fq.flatten∨(b∉Fs1.flatten∧O1 b∧¬ B b):=fun b hb=>by
   rcases VJ.mp hb with hb|hb
   ·exact .inl hb
   ·refine .inr ⟨nw.dj b hb,nw.sub b hb,fun z=> ?_⟩
    obtain⟨o,ho⟩:=w.al b (w.bo b z)
    rw[nw.fr b hb] at ho
    cases ho
  have ev3:Ev M O Fs H ρ O1 (Fs1.set j ((p::Fq.flatten)++Fv)) (upd H1 p (.ins C dx (putF n v fvs))) (ρ1.set j (some (.obj c' (Jx n d fs)))):=by
   refine⟨fun b u h z=>chg b u (ev1.chg b u h z) fun q=> ?_,fun b u h=> ?_,ev1.mono,ev1.grow,fun b hb=> ?_,fun i m' hi ho=> ?_⟩
   ·rcases ev1.fgrow b (inF b q) with q|q
    ·exact z q
    ·rw[h] at q; cases q
   ·obtain⟨u1,h1⟩:=ev1.dom b u h
    exact Zfu b u1 h1
   ·rcases Zs hb with hb|⟨i,F1,_,e,hb⟩
    ·rcases VJ.mp hb with hb|hb
     ·exact ev1.fgrow b (inF b hb)
     ·exact .inr (nw.fr b hb)
    ·exact ev1.fgrow b (Zj (Xa e) hb)
   ·have:i≠j:=fun z=>by
     subst z
     rw[hj] at hi
     cases hi
     rcases ht with rfl|rfl <;> cases ho
    rw[Xf (XI this)]
    exact ev1.keep i m' hi ho
  have w3:=w1.put2 hj ht h1 h3 chg (ZeJ w1.al) kw fgr (by
   rw[X2]
   exact⟨nd,nw.nd,fun a ha b hb z=>nw.dj b hb (by rw[<- z]; exact inF a ha)⟩) (fun i v' d' g1 g2 g3=>by
   have hk:=ev1.keep i .br g1 rfl
   rw[g3] at hk
   obtain⟨v,d,f,q1,q2,q3,_,v1,d1,q4,q5,r⟩:=w.get g1
   subst q4 q5
   rw[g2] at q1
   rw[q2] at hk
   cases q1
   cases hk
   have k:=ev3.kept w.sub
   rcases r with r|⟨q,nq,⟨o,ho⟩,r⟩
   ·exact .inl (r.keep k)
   ·have hq:upd H1 p (.ins C dx (putF n _ fvs)) q=some o:=ev3.chg q o ho nq
    have kp:∀b∈ [q],upd H1 p (.ins C dx (putF n _ fvs)) b=H b:=fun b hb=>by
     rw[Xb.mp hb,ho]
     exact hq
    refine .inr ⟨q,fun z=> ?_,⟨o,hq⟩, ?_⟩
    ·rcases ev3.fgrow q z with z|z
     ·exact nq z
     ·rw[ho] at z; cases z
    ·rcases r with r|r|r
     ·exact .inl (Own.keep k _ kp r)
     ·exact .inr (.inl (Own.keep k _ kp r))
     ·exact .inr (.inr (Own.keep k _ kp r)))
   ⟨p,C,dx,_,c',_,Fq++ [Fv],rfl,rfl,hC,Xi,fl.symm,fun x hx=>by
    rcases ZbJ hx with hx|hx
    ·rw[hx]; exact hN
    ·exact e6 x hx,g1⟩
  exact run1 O1 _ _ σ ev3.toS w3
 ·exact run1.elim
end
section
variable {K:PySem.W.Frag}{S:Sx K}{X:Cx}{e b:Expr}{j i:Nat}{m:Md}{t t1:Shp}{pos:Pos}{L:Ln}
def ixF(n:Str)(fs:List (Str × D)):Nat:=fs.findIdx fun e=>e.1 == n
def Ln.fld(L:Ln)(n:Str):Ln:=⟨fun ρ d=>(L.sel ρ d).bind fun x=>match x with
 |.obj _ fs=>(fs[ixF n fs]?).map (·.2)
 |_=>none,fun ρ d d2=>match L.sel ρ d with
 |some (.obj c fs)=>L.put ρ d (.obj c (fs.set (ixF n fs) (n,d2)))
 |_=>d⟩
theorem ZjC{n:Str}:∀{fs:List (Str × D)}{fvs:List (Str × V)}{d1:D}{v1:V},fvs.map (·.1)=fs.map (·.1)->fvs[ixF n fs]?=some (n,v1)->fvs.lookup n=some v1
 |[],[],_,_,_,h=>by cases h
 |[],_::_,_,_,e,_=>by cases e
 |_::_,[],_,_,e,_=>by cases e
 |(f,d)::fs,(f',v)::fvs,d1,v1,e,h=>by
  rw[Xv,Xv] at e
  obtain⟨ef,e⟩:=X9 e
  have ef:f'=f:=ef
  unfold ixF at h
  rw[List.findIdx_cons] at h
  cases hb:(f == n) with
  |true =>
   have:=Vh.mp hb
   rw[hb] at h
   cases h
   rw[Vs,X7]
  |false =>
   rw[hb] at h
   have hb2:(n == f')=false:=by rw[ef]; rw[VE] at hb ⊢; exact XI hb
   rw[Vs,hb2]
   exact ZjC (d1:=d1) e (by unfold ixF; simpa using h)
theorem Zmn{n:Str}{fs:List (Str × D)}{a:Str × D}(h:fs[ixF n fs]?=some a):a.1=n:=by
 have hl:ixF n fs < fs.length:=(Xu.mp h).1
 have hg:(fs[ixF n fs].1 == n)=true:=List.findIdx_getElem (w:=hl)
 rw[(Xu.mp h).2] at hg
 exact Vh.mp hg
theorem JP{n:Str}{fsh:Str->Shp}(hK:X.K=K)(ha:PE X e (Zeh S j t (.obj fsh) L))(hb:attributeBase e n X.env (eval e X.env)=eval e X.env):PE X (.Attribute e n pos) (Zeh S j t (fsh n) (L.fld n)):=by
 subst hK
 refine PE.of (pe_fld ha hb) fun σ H Q ⟨B,O,Fs,ρ,v,d,F,d1,w,h1,h2,h3,ow,hs,k⟩=> ?_
 obtain⟨x,e1,e2⟩:=Option.bind_eq_some_iff.mp hs
 cases x with
 |obj c fs =>
  refine⟨B,O,Fs,ρ,v,d,F,.obj c fs,w,h1,h2,h3,ow,e1,fun v1 F1 fo=> ?_⟩
  obtain⟨a,e3,e4⟩:=Xh.mp e2
  obtain⟨n',d'⟩:=a
  have hn:n'=n:=Zmn e3
  subst hn
  have e4:d'=d1:=e4
  rw[e4] at e3
  obtain⟨q,C,dx,fvs,v2,F2,g1,g2,g3,g4,g5,g6,g7⟩:=ZoB fo.own fo.nd e3
  refine⟨q,C,dx,fvs,v2,g1,g3,(S.G.oc g2).cl,g4 n' ?_,ZjC (d1:=d1) g5 g6, ?_⟩
  ·exact XW.mpr ⟨_,Xa e3,rfl⟩
  ·refine k v2 F2 ?_
   have:=fo.trans g7
   have ep:(L.put ρ d ∘ fun d2=>D.obj c (fs.set (ixF n' fs) (n',d2)))=(L.fld n').put ρ d:=by
    funext d2
    show _=match L.sel ρ d with|some (.obj c fs)=>L.put ρ d (.obj c (fs.set (ixF n' fs) (n',d2)))|_=>d
    rw[e1]
    rfl
   rw[ep] at this
   exact this
 |_=>cases e2
def ixK(kd:D)(kvs:List (D × D)):Nat:=kvs.findIdx fun e=>Yp e.1 kd
def ZaG(ρ:Env)(i:Nat):Option D:=match ρ[i]? with
 |some (some d)=>if d.key.isSome then some d else none
 |_=>none
def Ln.key(L:Ln)(i:Nat):Ln:=⟨fun ρ d=>(L.sel ρ d).bind fun x=>match x,ZaG ρ i with
 |.dct kvs,some kd=>(kvs[ixK kd kvs]?).map (·.2)
 |_,_=>none,fun ρ d d2=>match L.sel ρ d,ZaG ρ i with
 |some (.dct kvs),some kd=>L.put ρ d (.dct (kvs.set (ixK kd kvs) (((kvs[ixK kd kvs]?).map (fun(e:D × D)=>e.1)).getD kd,d2)))
 |_,_=>d⟩
theorem Zlh{kd:D}{k:Key}(hk:kd.key=some k):∀{kvs:List (D × D)}{ks:List (Key × V)}{a:Key × V},(∀n:Nat,(kvs[n]?).map (fun(e:D × D)=>e.1.key)=(ks[n]?).map fun(e:Key × V)=>some e.1)->ks[ixK kd kvs]?=some a->valV ks k=some a.2
 |[],ks,a,e,h=>by
  have:=e 0
  unfold ixK at h
  rw[List.findIdx_nil] at h
  rw[h] at this
  cases this
 |(k1,d1)::kvs,[],a,e,h=>by simp at h
 |(k1,d1)::kvs,(q,v)::ks,a,e,h=>by
  have e0:k1.key=some q:=by simpa using e 0
  have hb:Yp k1 kd=decide (q=k):=by unfold Yp; rw[e0,hk]
  unfold ixK at h
  rw[List.findIdx_cons] at h
  unfold valV
  by_cases hq:q=k
  ·rw[show Yp (k1,d1).1 kd=true by rw[hb]; exact X5 hq] at h
   cases h
   rw[Vv (by exact X5 hq)]
   rfl
  ·rw[show Yp (k1,d1).1 kd=false by rw[hb]; exact decide_eq_false hq] at h
   rw[Vw (by simpa using hq)]
   exact Zlh hk (fun n=>by simpa using e (n+1)) (by unfold ixK; simpa using h)
theorem ZpL(hK:X.K=K)(hu:X.A.units+1 < cLine)(ha:PE X e (Zeh S j t (.dct t1) L))(hi:PE X b (tVar i))(hm:S.M[i]?=some .sh)(hs:NoSl b):PE X (.Subscript e b pos) (Zeh S j t t1 (L.key i)):=by
 subst hK
 refine PE.of (pe_dget hu ha hi hs) fun σ H Q ⟨B,O,Fs,ρ,v,d,F,d1,w,h1,h2,h3,ow,hs,k⟩=> ?_
 obtain⟨x,e1,e2⟩:=Option.bind_eq_some_iff.mp hs
 cases hk:ZaG ρ i with
 |none=>rw[hk] at e2; cases x <;> cases e2
 |some kd =>
  rw[hk] at e2
  cases x with
  |dct kvs =>
   refine⟨B,O,Fs,ρ,v,d,F,.dct kvs,w,h1,h2,h3,ow,e1,fun v1 F1 fo=> ?_⟩
   obtain⟨a,e3,e4⟩:=Xh.mp e2
   obtain⟨n',d'⟩:=a
   have e4:d'=d1:=e4
   rw[e4] at e3
   obtain⟨q,ks,k0,v2,F2,g1,g2,g3,g4,g5,g6⟩:=Zqw fo.own fo.nd e3
   obtain⟨vi,di,Fi,p1,p2,p3,_,vi',di',p4,p5,ri⟩:=w.get hm
   subst p4 p5
   have hk0:=hk
   unfold ZaG at hk
   rw[p2] at hk
   dsimp only at hk
   split at hk
   ·rename_i hks
    have hk:di'=kd:=XJ hk
    rw[hk] at hks ri
    obtain⟨k1,hk1⟩:=Xy.mp hks
    have:=ZbW ri hk1
    subst this
    refine⟨kV k1,p1,q,v2,g1, ?_,k v2 F2 ?_⟩
    ·have:=Zlh hk1 g5 g4
     rw[<- this]
     exact DGet.k g2
    ·have:=fo.trans g6
     have ep:(L.put ρ d ∘ fun d2=>D.dct (kvs.set (ixK kd kvs) (n',d2)))=(L.key i).put ρ d:=by
      funext d2
      show _=match L.sel ρ d,ZaG ρ i with
       |some (.dct kvs),some kd=>L.put ρ d (.dct (kvs.set (ixK kd kvs) (((kvs[ixK kd kvs]?).map (fun(e:D × D)=>e.1)).getD kd,d2)))
       |_,_=>d
      rw[e1,hk0]
      dsimp only
      rw[e3]
      rfl
     rw[ep] at this
     exact this
   ·cases hk
  |_=>cases e2
def J9(j:Nat)(L:Ln):Env->R D:=fun ρ=>match ρ[j]? with
 |some (some d)=>R.of (L.sel ρ d) ρ
 |_=> .bad
theorem ZbK(h:PE X e (Zeh S j t .sh L))(hj:S.M[j]?=some m)(ht:m.is t):PE X e (lE S (J9 j L)):=by
 refine PE.of h fun σ H Q ⟨B,O,Fs,ρ,w,run⟩=> ?_
 obtain⟨v,d,F,h1,h2,h3,ow⟩:=w.own hj ht
 have run:Run S (vE S) (J9 j L ρ) B O Fs H σ ρ Q:=run
 unfold J9 at run
 rw[h2] at run
 dsimp only at run
 cases hs:L.sel ρ d with
 |none=>rw[hs] at run; exact run.elim
 |some d1 =>
  rw[hs] at run
  exact⟨B,O,Fs,ρ,v,d,F,d1,w,h1,h2,h3,ow,hs,fun v1 F1 fo=>run.use w fo.own.2⟩
theorem ZnI{M:List Md}:Ln.here.Ok M:=fun _ _ _=>⟨fun _=>rfl,fun _ _=>rfl⟩
theorem ZoI{M:List Md}{n:Str}(h:L.Ok M):(L.fld n).Ok M:=fun ρ ρ' e=>by
 obtain⟨a,b⟩:=h ρ ρ' e
 exact⟨fun d=>by show Option.bind _ _=Option.bind _ _; rw[a d],fun d d2=>by simp only[Ln.fld]; rw[a d]; cases L.sel ρ d with|none=>rfl|some x=>cases x <;> first|rfl|exact b _ _⟩
theorem ZoJ{M:List Md}{i:Nat}{m:Md}(h:L.Ok M)(hi:M[i]?=some m)(ho:m.isOw=false):(L.key i).Ok M:=fun ρ ρ' e=>by
 obtain⟨a,b⟩:=h ρ ρ' e
 have hk:ZaG ρ' i=ZaG ρ i:=by unfold ZaG; rw[e i m hi ho]
 refine⟨fun d=> ?_,fun d d2=> ?_⟩
 ·simp only[Ln.key]
  rw[a d,hk]
 ·simp only[Ln.key]
  rw[a d,hk]
  cases L.sel ρ d with
  |none=>rfl
  |some x=>cases x <;> cases ZaG ρ i <;> first|rfl|exact b _ _
end
end Pu
namespace Pu
open PySem L2 PySem.Spec PyProof.Rows Pw
def isDct(u:HO):Prop:=(∃ks,u= .dK ks)∨∃ks,u= .dT ks
theorem isDct.nf{u:HO}(h:isDct u):NF u:=fun o x z=>by
 rcases h with⟨ks,rfl⟩|⟨ks,rfl⟩ <;> cases z
theorem isDct.mut{u:HO}(h:isDct u):Mut (some u):=by
 rcases h with⟨ks,rfl⟩|⟨ks,rfl⟩ <;> exact True.intro
def Zct(i:Nat)(σ:L2.St)(H:Hp):Prop:=∀a u,σ[i]?=some (some (.ref a))->isDct u->Rd H a u->∃o,H a=some (.frz o u)
section
variable {K:PySem.W.Frag}{G:Gx K}{B O O':Addr->Prop}{Fs Fs':List (List Addr)}{H H':Hp}{σ σ':L2.St}{ρ ρ':Env}{M:List Md}{a:Addr}{u:HO}{od:Obj}
theorem Zf2(ha:H a=some u)(du:isDct u):Kept O H O (upd H a (.frz od u)):=by
 refine⟨fun b v n nf h=> ?_,fun b P n h=> ?_,fun b vs n h=> ?_,fun b o vs n h=> ?_,fun b C dx fs n h=> ?_,fun _ h=> .inl h⟩
 ·by_cases hb:b=a
  ·subst hb
   rcases h with h|⟨o,h⟩
   ·rw[ha] at h
    cases h
    exact .inr ⟨od,Xi⟩
   ·rw[ha] at h
    cases h
    exact absurd rfl (du.nf _ _)
  ·rcases h with h|⟨o,h⟩
   ·exact .inl (by rw[upd_ne hb]; exact h)
   ·exact .inr ⟨o,by rw[upd_ne hb]; exact h⟩
 ·rw[upd_ne fun z=>by
   subst z
   rw[ha] at h
   cases h
   rcases du with⟨ks,z⟩|⟨ks,z⟩ <;> cases z]
  exact h
 ·rw[upd_ne fun z=>by
   subst z
   rw[ha] at h
   cases h
   rcases du with⟨ks,z⟩|⟨ks,z⟩ <;> cases z]
  exact h
 ·rw[upd_ne fun z=>by
   subst z
   rw[ha] at h
   cases h
   rcases du with⟨ks,z⟩|⟨ks,z⟩ <;> cases z]
  exact h
 ·rw[upd_ne fun z=>by
   subst z
   rw[ha] at h
   cases h
   rcases du with⟨ks,z⟩|⟨ks,z⟩ <;> cases z]
  exact h
theorem QS(ha:H a=some (.frz od u))(du:isDct u):Kept O H O (upd H a u):=by
 refine⟨fun b v n nf h=> ?_,fun b P n h=> ?_,fun b vs n h=> ?_,fun b o vs n h=> ?_,fun b C dx fs n h=> ?_,fun _ h=> .inl h⟩
 ·by_cases hb:b=a
  ·subst hb
   rcases h with h|⟨o,h⟩
   ·rw[ha] at h
    cases h
    exact absurd rfl (nf _ _)
   ·rw[ha] at h
    cases h
    exact .inl Xi
  ·rcases h with h|⟨o,h⟩
   ·exact .inl (by rw[upd_ne hb]; exact h)
   ·exact .inr ⟨o,by rw[upd_ne hb]; exact h⟩
 ·rw[upd_ne fun z=>by subst z; rw[ha] at h; cases h]
  exact h
 ·rw[upd_ne fun z=>by subst z; rw[ha] at h; cases h]
  exact h
 ·rw[upd_ne fun z=>by
   subst z
   rw[ha] at h
   cases h
   rcases du with⟨ks,z⟩|⟨ks,z⟩ <;> cases z]
  exact h
 ·rw[upd_ne fun z=>by subst z; rw[ha] at h; cases h]
  exact h
theorem BRep.free{F:List Addr}{v:V}{d:D}{p:Addr}(n:¬ O p)(h:Own G O H (.lst .sh) v d [p]∨Own G O H (.dct .sh) v d [p]∨Own G O H (.obj Z2) v d [p]):Rep G O H v d:=by
 have no:∀a∈ [p],¬ O a:=fun a ha=>by rw[Xb.mp ha]; exact n
 rcases h with h|h|h
 ·exact Own.freeze (fun _ h=>h) _ no h
 ·exact Own.freeze (fun _ h=>h) _ no h
 ·exact Own.freeze (fun _ h=>h) _ no h
theorem BRep.keep2{F:List Addr}{v:V}{d:D}(h:BRep G O F H v d)(k:Kept O H O H')(nO:¬ O a)(st:∀b,b≠a->H' b=H b):BRep G O F H' v d:=by
 rcases h with h|⟨p,np,⟨o,ho⟩,h⟩
 ·exact .inl (h.keep k)
 ·by_cases hp:p=a
  ·subst hp
   exact .inl ((BRep.free (F:=F) nO h).keep k)
  ·have kp:∀b∈ [p],H' b=H b:=fun b hb=>by rw[Xb.mp hb]; exact st p hp
   refine .inr ⟨p,np,⟨o,by rw[st p hp]; exact ho⟩, ?_⟩
   rcases h with h|h|h
   ·exact .inl (Own.keep k _ kp h)
   ·exact .inr (.inl (Own.keep k _ kp h))
   ·exact .inr (.inr (Own.keep k _ kp h))
theorem Wd.keep2(w:Wd G B O Fs H σ ρ M)(k:Kept O H O H')(nO:¬ O a)(st:∀b,b≠a->H' b=H b):Wd G B O Fs H' σ ρ M:=by
 have ne:∀b,O b->b≠a:=fun b h z=>nO (by rw[<- z]; exact h)
 refine⟨w.nd,w.sub,w.bo,fun b hb=> ?_,w.ls,w.lr,w.lf,fun i m v d f h1 h2 h3 h4=> ?_⟩
 ·obtain⟨o,ho⟩:=w.al b hb
  exact⟨o,by rw[st b (ne b hb)]; exact ho⟩
 ·have sl:=w.sl i m v d f h1 h2 h3 h4
  have kf:∀b∈f,H' b=H b:=fun b hb=>st b (ne b (w.sub b (Zj (Xa h4) hb)))
  cases m with
  |na=>exact sl
  |hd=>exact sl
  |sh =>
   obtain⟨q1,v1,d1,q2,q3,r⟩:=sl
   exact⟨q1,v1,d1,q2,q3,r.keep k⟩
  |mb =>
   obtain⟨q0,h⟩:=sl
   exact⟨q0,fun d' hd=>by obtain⟨v',e1,r⟩:=h d' hd; exact⟨v',e1,r.keep k⟩⟩
  |th a c q l =>
   obtain⟨q0,q1,⟨h1,h2⟩,h3⟩:=sl
   exact⟨q0,q1,⟨k.no h2 h1,k.ext _ _ h1 h2⟩,fun p hp=>(h3 p hp).keep k⟩
  |br =>
   obtain⟨q1,v1,d1,q2,q3,r⟩:=sl
   exact⟨q1,v1,d1,q2,q3,r.keep2 k nO st⟩
  |ow t =>
   obtain⟨q1,v1,d1,q2,q3,r⟩:=sl
   exact⟨q1,v1,d1,q2,q3,Own.keep k _ kf r⟩
  |op t =>
   obtain⟨v1,d1,q2,q3,r⟩:=sl
   exact⟨v1,d1,q2,q3,Own.keep k _ kf r⟩
theorem Ev.lock(ev:Ev M O Fs (upd H a (.frz od u)) ρ O' Fs' H' ρ')(w:Wd G B O Fs H σ ρ M)(ha:H a=some u)(nO:¬ O a):H' a=some (.frz od u)∧¬ O' a∧Ev M O Fs H ρ O' Fs' (upd H' a u) ρ':=by
 have nF:a∉Fs.flatten:=fun z=>nO (w.sub a z)
 have ha':H' a=some (.frz od u):=ev.chg a _ Xi nF
 have none_of:∀b,upd H a (.frz od u) b=none->H b=none:=fun b z=>by
  by_cases hb:b=a
  ·subst hb; rw[Xi] at z; cases z
  ·rw[upd_ne hb] at z; exact z
 refine⟨ha',fun z=> ?_,fun b o h n=> ?_,fun b o h=> ?_,ev.mono,fun b h=>(ev.grow b h).imp id (none_of b),fun b h=>(ev.fgrow b h).imp id (none_of b),ev.keep⟩
 ·rcases ev.grow a z with z|z
  ·exact nO z
  ·rw[Xi] at z; cases z
 ·by_cases hb:b=a
  ·subst hb
   rw[Xi,<- h]
   exact ha.symm
  ·rw[upd_ne hb]
   exact ev.chg b o (by rw[upd_ne hb]; exact h) n
 ·by_cases hb:b=a
  ·exact⟨_,by rw[hb,Xi]⟩
  ·rw[upd_ne hb]
   exact ev.dom b o (by rw[upd_ne hb]; exact h)
theorem EvS.lock(ev:EvS M O Fs (upd H a (.frz od u)) σ ρ O' Fs' H' σ' ρ')(w:Wd G B O Fs H σ ρ M)(ha:H a=some u)(nO:¬ O a):H' a=some (.frz od u)∧¬ O' a∧EvS M O Fs H σ ρ O' Fs' (upd H' a u) σ' ρ':=by
 have nF:a∉Fs.flatten:=fun z=>nO (w.sub a z)
 have ha':H' a=some (.frz od u):=ev.chg a _ Xi nF
 have none_of:∀b,upd H a (.frz od u) b=none->H b=none:=fun b z=>by
  by_cases hb:b=a
  ·subst hb; rw[Xi] at z; cases z
  ·rw[upd_ne hb] at z; exact z
 refine⟨ha',fun z=> ?_,fun b o h n=> ?_,fun b o h=> ?_,fun b h=>(ev.grow b h).imp id (none_of b),fun b h=>(ev.fgrow b h).imp id (none_of b),ev.sig,ev.keep⟩
 ·rcases ev.grow a z with z|z
  ·exact nO z
  ·rw[Xi] at z; cases z
 ·by_cases hb:b=a
  ·subst hb
   rw[Xi,<- h]
   exact ha.symm
  ·rw[upd_ne hb]
   exact ev.chg b o (by rw[upd_ne hb]; exact h) n
 ·by_cases hb:b=a
  ·exact⟨_,by rw[hb,Xi]⟩
  ·rw[upd_ne hb]
   exact ev.dom b o (by rw[upd_ne hb]; exact h)
end
def noX{α:Type}(r:R α):R α:=match r with
 |.ex _ _=> .bad
 |r=>r
def ZoK(r:RS):RS:=match r with
 |.ex _ _=> .bad
 |r=>r
def Zhp(ρ:Env)(i:Nat):Bool:=match ρ[i]? with
 |some (some (.dct _))=>true
 |some (some (.dtt _))=>true
 |_=>false
def Zj9{K:PySem.W.Frag}(G:Gx K)(M:List Md)(c:Env->Bool)(L:L2.St->Hp->Prop):Prop:=∀{B O:Addr->Prop}{Fs:List (List Addr)}{H:Hp}{σ:L2.St}{ρ:Env},Wd G B O Fs H σ ρ M->c ρ=true->∃a u,isDct u∧Rd H a u∧¬ O a∧∀(H':Hp) (od:Obj),H' a=some (.frz od u)->(∀b,b≠a->H' b=H b)->L σ H'
def Zmo(c:Env->Bool)(f:Env->R D):Env->R D:=fun ρ=>if c ρ then noX (f ρ) else .bad
def ZgI(c:Env->Bool)(g:Env->RS):Env->RS:=fun ρ=>if c ρ then ZoK (g ρ) else .bad
def sLk(i:Nat)(f:Env->R D):Env->R D:=fun ρ=>if Zhp ρ i then noX (f ρ) else .bad
def Zc7(i:Nat)(g:Env->RS):Env->RS:=fun ρ=>if Zhp ρ i then ZoK (g ρ) else .bad
section
variable {K:PySem.W.Frag}{S:Sx K}{X:Cx}{e:Expr}{i:Nat}{f:Env->R D}{t:Shp}
theorem ZnJ{G:Gx K}{B O:Addr->Prop}{Fs:List (List Addr)}{H:Hp}{σ:L2.St}{ρ:Env}{M:List Md}(w:Wd G B O Fs H σ ρ M)(hm:M[i]?=some .sh)(h:Zhp ρ i=true):∃a u,σ[i]?=some (some (.ref a))∧isDct u∧Rd H a u∧¬ O a:=by
 obtain⟨v,d,F,h1,h2,h3,_,v',d',q1,q2,r⟩:=w.get hm
 subst q1 q2
 unfold Zhp at h
 rw[h2] at h
 cases d' with
 |dct kvs =>
  cases r with
  |dk r n t=>exact⟨_,_,h1,.inl ⟨_,rfl⟩,r,n⟩
 |dtt kvs =>
  cases r with
  |dt r n t=>exact⟨_,_,h1,.inr ⟨_,rfl⟩,r,n⟩
 |_=>cases h
theorem ZpM{H:Hp}{σ:L2.St}{a:Addr}{u:HO}{od:Obj}(hs:σ[i]?=some (some (.ref a)))(du:isDct u)(h:H a=some (.frz od u)):Zct i σ H:=fun b v hb dv r=>by
 rw[hs] at hb
 cases hb
 rcases r with r|⟨o,r⟩
 ·rw[h] at r
  cases r
  exact absurd rfl (dv.nf _ _)
 ·exact⟨o,r⟩
theorem ZnK{L:L2.St->Hp->Prop}{c:Env->Bool}(sl:Zj9 S.G S.M c L)(h:PE X e (fun σ H Q=>L σ H∧lF S t f σ H Q)):PE X e (lF S t (Zmo c f)):=by
 constructor
 intro pins s σ H Q I ⟨B,O,Fs,ρ,w,run⟩
 have run:RunF S t (Zmo c f ρ) B O Fs H σ ρ Q:=run
 unfold Zmo at run
 by_cases hd:c ρ=true
 case neg=>rw[if_neg hd] at run; exact run.elim
 rw[if_pos hd] at run
 obtain⟨a,u,du,r,nO,lk⟩:=sl w hd
 rcases r with ha|⟨o,ha⟩
 ·refine(pe_lock h).run pins s σ H Q I ⟨a,u,ha,du.mut,fun od=>⟨lk _ od Xi (fun b hb=>upd_ne hb),B,O,Fs,ρ,w.keep2 (Zf2 ha du) nO (fun b hb=>upd_ne hb), ?_⟩⟩
  cases hf:f ρ with
  |ok d ρ' =>
   rw[hf] at run
   intro v O' Fs' H' Fv ev wd rv nw
   obtain⟨ha',nO',ev'⟩:=ev.lock w ha nO
   have nv:∀b∈Fv,b≠a:=fun b hb z=>nO' (by rw[<- z]; exact nw.sub b hb)
   refine⟨ha',run v O' Fs' _ Fv ev' (wd.keep2 (QS ha' du) nO' fun b hb=>upd_ne hb) (Own.keep (QS ha' du) _ (fun b hb=>upd_ne (nv b hb)) rv) ⟨nw.nd,nw.sub,nw.dj,fun b hb=> ?_⟩⟩
   have:=nw.fr b hb
   rw[upd_ne (nv b hb)] at this
   exact this
  |ex x ρ'=>rw[hf] at run; exact run.elim
  |bad=>rw[hf] at run; exact run.elim
 ·refine h.run pins s σ H Q I ⟨lk _ o ha (fun _ _=>rfl),B,O,Fs,ρ,w, ?_⟩
  cases hf:f ρ with
  |ok d ρ'=>rw[hf] at run; exact run
  |ex x ρ'=>rw[hf] at run; exact run.elim
  |bad=>rw[hf] at run; exact run.elim
theorem Znl{G:Gx K}{M:List Md}(hm:M[i]?=some .sh):Zj9 G M (fun ρ=>Zhp ρ i) (Zct i):=fun w h=>by
 obtain⟨a,u,hs,du,r,nO⟩:=ZnJ w hm h
 exact⟨a,u,du,r,nO,fun H' od e _=>ZpM hs du e⟩
theorem ZoL(hm:S.M[i]?=some .sh)(h:PE X e (fun σ H Q=>Zct i σ H∧lF S t f σ H Q)):PE X e (lF S t (sLk i f)):=ZnK (Znl hm) h
end
section
variable {K:PySem.W.Frag}{T:Tx K}{M Mn:List Md}{X:Cx}{st:Stmt}{g:Env->RS}{i:Nat}
theorem ZjD{L:L2.St->Hp->Prop}{c:Env->Bool}(sl:Zj9 T.G M c L)(h:PS X st (fun E σ H=>L σ H∧lS T M Mn g E σ H)):PS X st (lS T M Mn (ZgI c g)):=by
 constructor
 intro pins s σ H E I ⟨B,O,Fs,ρ,w,run⟩
 have run:RunS T M Mn (ZgI c g ρ) B O Fs H σ ρ E:=run
 unfold ZgI at run
 by_cases hd:c ρ=true
 case neg=>rw[if_neg hd] at run; exact run.elim
 rw[if_pos hd] at run
 obtain⟨a,u,du,r,nO,lk⟩:=sl w hd
 rcases r with ha|⟨o,ha⟩
 ·refine(ps_lock h).run pins s σ H E I ⟨a,u,ha,du.mut,fun od=>⟨lk _ od Xi (fun b hb=>upd_ne hb),B,O,Fs,ρ,w.keep2 (Zf2 ha du) nO (fun b hb=>upd_ne hb), ?_⟩⟩
  cases hf:g ρ with
  |nx ρ' =>
   rw[hf] at run
   intro O' Fs' H' σ' ev wd
   obtain⟨ha',nO',ev'⟩:=ev.lock w ha nO
   exact⟨ha',run O' Fs' _ σ' ev' (wd.keep2 (QS ha' du) nO' fun b hb=>upd_ne hb)⟩
  |rt d ρ' =>
   rw[hf] at run
   intro v O' Fs' H' σ' ev wd rv
   obtain⟨ha',nO',ev'⟩:=ev.lock w ha nO
   exact⟨ha',run v O' Fs' _ σ' ev' (wd.keep2 (QS ha' du) nO' fun b hb=>upd_ne hb) (rv.keep (QS ha' du))⟩
  |bk ρ' =>
   rw[hf] at run
   intro O' Fs' H' σ' ev wd
   obtain⟨ha',nO',ev'⟩:=ev.lock w ha nO
   exact⟨ha',run O' Fs' _ σ' ev' (wd.keep2 (QS ha' du) nO' fun b hb=>upd_ne hb)⟩
  |ct ρ' =>
   rw[hf] at run
   intro O' Fs' H' σ' ev wd
   obtain⟨ha',nO',ev'⟩:=ev.lock w ha nO
   exact⟨ha',run O' Fs' _ σ' ev' (wd.keep2 (QS ha' du) nO' fun b hb=>upd_ne hb)⟩
  |ex x ρ'=>rw[hf] at run; exact run.elim
  |bad=>rw[hf] at run; exact run.elim
 ·refine h.run pins s σ H E I ⟨lk _ o ha (fun _ _=>rfl),B,O,Fs,ρ,w, ?_⟩
  cases hf:g ρ with
  |ex x ρ'=>rw[hf] at run; exact run.elim
  |bad=>rw[hf] at run; exact run.elim
  |nx ρ'=>rw[hf] at run; exact run
  |rt d ρ'=>rw[hf] at run; exact run
  |bk ρ'=>rw[hf] at run; exact run
  |ct ρ'=>rw[hf] at run; exact run
theorem Zli(hm:M[i]?=some .sh)(h:PS X st (fun E σ H=>Zct i σ H∧lS T M Mn g E σ H)):PS X st (lS T M Mn (Zc7 i g)):=ZjD (Znl hm) h
end
section
variable {K:PySem.W.Frag}{S:Sx K}{X:Cx}{i:Nat}
theorem ZjE{G:Gx K}{O:Addr->Prop}{H:Hp}{d:D}{k:Key}(h:d.key=some k):Rep G O H (kV k) d:=by
 cases d with
 |int i=>cases h; exact .int i
 |str x=>cases h; exact .str x
 |_=>cases h
theorem Zf3{G:Gx K}{O:Addr->Prop}{H:Hp}:∀{ds:List D}{ks:List Key},D.keys ds=some ks->Reps G O H (ks.map kV) ds
 |[],_,h=>by cases h; exact .nil
 |d::ds,_,h=>by
  unfold D.keys at h
  split at h
  ·rename_i k ks e1 e2
   cases h
   exact .cons (ZjE e1) (Zf3 e2)
  ·cases h
end
end Pu
namespace Pu
open PySem L2 PySem.Spec PyProof.Rows Pw
section
variable {K:PySem.W.Frag}{G:Gx K}{B O1 O7:Addr->Prop}{Fs1 Fs6:List (List Addr)}{H1 H7:Hp}{σ:L2.St}{ρ1 ρ6:Env}{M:List Md}{p:Addr}{u:HO}
theorem Zei{F:List Addr}{v:V}{d:D}{a:Addr}(hp:H1 a=none)(nk:(∀ds,d≠ .ktp ds)∧(∀c,d≠ .cls c)∧∀ns,d≠ .klt ns)(h:BRep G O1 F H1 v d):v≠ .ref a:=fun ev=>by
 subst ev
 rcases h with rr|⟨c,_,⟨o,ho⟩,rr⟩
 ·cases rr with
  |lst q _ _=>rcases q with q|⟨_,q⟩ <;> (rw[hp] at q; cases q)
  |tup q _ _=>rw[hp] at q; cases q
  |ktp q _=>exact nk.1 _ rfl
  |ftp q _ _=>exact nk.1 _ rfl
  |cls q=>exact nk.2.1 _ rfl
  |klt q=>exact nk.2.2 _ rfl
  |dk q _ _=>rcases q with q|⟨_,q⟩ <;> (rw[hp] at q; cases q)
  |dt q _ _=>rcases q with q|⟨_,q⟩ <;> (rw[hp] at q; cases q)
  |dn q _ _=>rw[hp] at q; cases q
  |obj _ q _ _ _=>rw[hp] at q; cases q
 ·rcases rr with rr|rr|rr
  ·obtain⟨_,_,_,_,z1,_,z3,_⟩:=rr
   cases z1
   rw[hp] at z3
   cases z3
  ·obtain⟨_,_,_,z1,_,⟨_,_,z3,_⟩|⟨_,_,z3,_⟩⟩:=rr <;> (cases z1; rw[hp] at z3; cases z3)
  ·obtain⟨_,_,_,_,_,_,_,z1,_,_,z3,_⟩:=rr
   cases z1
   rw[hp] at z3
   cases z3
theorem Zfv{O:Addr->Prop}{H:Hp}{v:V}{d:D}{a:Addr}(r:Own G O H (.lst .sh) v d [a]∨Own G O H (.dct .sh) v d [a]∨Own G O H (.obj Z2) v d [a]):v= .ref a∧(∀ds,d≠ .ktp ds)∧(∀c,d≠ .cls c)∧∀ns,d≠ .klt ns:=by
 rcases r with r|r|r
 ·obtain⟨_,_,_,_,z1,z2,_,z4,_⟩:=r
  have:=(X9 z4).1
  refine⟨by rw[z1,this],fun ds z=> ?_,fun ds z=> ?_,fun ds z=> ?_⟩ <;> (rw[z2] at z; cases z)
 ·obtain⟨_,_,_,z1,z4,z5⟩:=r
  have:=(X9 z4).1
  refine⟨by rw[z1,this],fun ds z=> ?_,fun ds z=> ?_,fun ds z=> ?_⟩ <;> (rcases z5 with⟨_,z2,_⟩|⟨_,z2,_⟩ <;> (rw[z2] at z; cases z))
 ·obtain⟨_,_,_,_,_,_,_,z1,z2,_,_,z4,_⟩:=r
  have:=(X9 z4).1
  refine⟨by rw[z1,this],fun ds z=> ?_,fun ds z=> ?_,fun ds z=> ?_⟩ <;> (rw[z2] at z; cases z)
theorem Zaa(hp:H1 p=none)(w1:Wd G B O1 Fs1 H1 σ ρ1 M)(w6:Wd G B O7 Fs6 H7 σ ρ6 M)(ev6:Ev M O1 Fs1 H1 ρ1 O7 Fs6 H7 ρ6)(op6:O7 p)(pf6:p∉Fs6.flatten)(no:∀vs,u≠ .tup vs) :
  Wd G B O7 Fs6 (upd H7 p u) σ ρ6 M∧Ev M O1 Fs1 H1 ρ1 O7 Fs6 (upd H7 p u) ρ6∧Kept O7 H7 O7 (upd H7 p u):=by
 have ne:∀b,b≠p->upd H7 p u b=H7 b:=fun b hb=>upd_ne hb
 have kw:Kept O7 H7 O7 (upd H7 p u):=Ql op6
 refine⟨⟨w6.nd,w6.sub,w6.bo,ZeJ w6.al no,w6.ls,w6.lr,w6.lf,fun j m v' d' f e1 e2 e3 e4=> ?_⟩,⟨fun b o h n=> ?_,fun b o h=> ?_,ev6.mono,ev6.grow,ev6.fgrow,ev6.keep⟩,kw⟩
 ·have sl:=w6.sl j m v' d' f e1 e2 e3 e4
  have kf:∀b∈f,upd H7 p u b=H7 b:=fun b hb=>ne b fun z=>pf6 (by rw[<- z]; exact Zj (Xa e4) hb)
  cases m with
  |mb =>
   obtain⟨q0,h⟩:=sl
   exact⟨q0,fun d' hd=>by obtain⟨v',e1,r⟩:=h d' hd; exact⟨v',e1,r.keep kw⟩⟩
  |th a c q l =>
   obtain⟨q0,q1,⟨h1,h2⟩,h3⟩:=sl
   exact⟨q0,q1,⟨kw.no h2 h1,kw.ext _ _ h1 h2⟩,fun p hp=>(h3 p hp).keep kw⟩
  |br =>
   obtain⟨q1,v1,d1,q2,q3,r⟩:=sl
   refine⟨q1,v1,d1,q2,q3, ?_⟩
   rcases r with r|⟨a,na,⟨o,ho⟩,r⟩
   ·exact .inl (r.keep kw)
   ·have hap:a≠p:=fun z=>by
     subst z
     obtain⟨v2,d2,f2,g1,g2,g3,_,v3,d3,g4,g5,r2⟩:=w1.get e1
     subst g4 g5 q2
     rw[e2] at g1
     cases g1
     have ed:d1=d3:=by
      have:=ev6.keep j .br e1 rfl
      rw[e3,q3,g2] at this
      exact XJ (XJ this)
     subst ed
     obtain⟨ev,nk⟩:=Zfv r
     exact Zei hp nk r2 ev
    have k1:∀b∈ [a],upd H7 p u b=H7 b:=fun b hb=>by rw[Xb.mp hb]; exact ne a hap
    refine .inr ⟨a,na,⟨o,by rw[ne a hap]; exact ho⟩, ?_⟩
    rcases r with r|r|r
    ·exact .inl (Own.keep kw _ k1 r)
    ·exact .inr (.inl (Own.keep kw _ k1 r))
    ·exact .inr (.inr (Own.keep kw _ k1 r))
  |na=>exact sl
  |hd=>exact sl
  |sh=>obtain⟨q1,v1,d1,q2,q3,r⟩:=sl; exact⟨q1,v1,d1,q2,q3,r.keep kw⟩
  |ow t=>obtain⟨q0,v1,d1,q2,q3,r⟩:=sl; exact⟨q0,v1,d1,q2,q3,Own.keep kw t kf r⟩
  |op t=>obtain⟨v1,d1,q2,q3,r⟩:=sl; exact⟨v1,d1,q2,q3,Own.keep kw t kf r⟩
 ·have hb:b≠p:=fun z=>by rw[z,hp] at h; cases h
  rw[ne b hb]
  exact ev6.chg b o h n
 ·have hb:b≠p:=fun z=>by rw[z,hp] at h; cases h
  rw[ne b hb]
  exact ev6.dom b o h
theorem Zhq{O:Addr->Prop}{H:Hp}{p:Addr}{acc acc' kd vd:D}{y z:V}(h:Own G O H (.dct .sh) (.ref p) acc [p])(lO:O p)(rk:Rep G O H y kd)(rv:Rep G O H z vd)(e:Ji acc kd vd=some acc'):∃u,(∀vs,u≠ .tup vs)∧DPut H p y z (upd H p u)∧Own G O (upd H p u) (.dct .sh) (.ref p) acc' [p]:=by
 obtain⟨q',kvs,Fs',e1,e2,e3⟩:=h
 cases e1
 rcases e3 with⟨ks,e4,e5,e6⟩|⟨ks,e4,e5,e6⟩
 ·subst e4
  unfold Ji at e
  dsimp only at e
  split at e
  ·rename_i hc
   cases e
   obtain⟨k,hk'⟩:=Xy.mp hc.1
   have rk':=Zbf e6
   have ey:=ZbW rk hk'
   subst ey
   exact⟨.dK (putK ks k z),(fun _ q=>nomatch q),DPut.k e5 (by rw[rk'.length]; exact Ja hc.2),ZgH Xi ((rk'.put hk' rv).keep (Ql lO))⟩
  ·cases e
 ·subst e4
  unfold Ji at e
  dsimp only at e
  split at e
  ·rename_i hc
   cases e
   obtain⟨k,hk'⟩:=Xy.mp hc.1
   have rk':=Zbg e6
   obtain⟨b,eb,hb⟩:=Zdy rk hk'
   subst eb
   exact⟨.dT (putK ks k z),(fun _ q=>nomatch q),DPut.t e5 hb (by rw[rk'.length]; exact Ja hc.2),Zj5 Xi ((rk'.put hk' rv).keep (Ql lO))⟩
  ·cases e
end
def dcL(tg:D->Env->Option Env)(tt:Env->R Bool)(tk tv:Env->R D)(vs:List Nat):List D->D->Env->R D
 |[],acc,ρ=> .ok acc ρ
 |x::xs,acc,ρ=>match tg x ρ with
  |none=> .bad
  |some ρ1=>(tt ρ1).noX.bind fun k ρ2=>if k then (tk ρ2).noX.bind fun kd ρ3=>(tv ρ3).noX.bind fun vd ρ4=>match Ji acc kd vd with
    |some acc'=>dcL tg tt tk tv vs xs acc' (Ze ρ4 vs)
    |none=> .bad
   else dcL tg tt tk tv vs xs acc (Ze ρ2 vs)
def d0(b:Bool):D:=if b then .dtt [] else .dct []
def o0(b:Bool):HO:=if b then .dT [] else .dK []
def ZoM(tg:D->Env->Option Env)(tt:Env->R Bool)(tk tv:Env->R D)(vs:List Nat)(xs:List D)(ρ:Env):Bool:=match dcL tg tt tk tv vs xs (.dct []) (Ze ρ vs) with
 |.bad=>true
 |_=>false
def sDc(b:List D->Env->Bool)(f:Env->R (List D))(tg:D->Env->Option Env)(tt:Env->R Bool)(tk tv:Env->R D)(vs:List Nat):Env->R D:=fun ρ=>(f ρ).bind fun xs ρ1=>dcL tg tt tk tv vs xs (d0 (b xs ρ1)) (Ze ρ1 vs)
section
variable {K:PySem.W.Frag}{S:Sx K}{X:Cx}{kx vx tg iter c:Expr}{ifs:List Expr}{scope:Scope}{own:List (Str × Nat)}{pos:Pos}{f:Env->R (List D)}{tgf:D->Env->Option Env}{tt:Env->R Bool}{tk tv:Env->R D}{Mt:List Md}{us:List Nat}{b:List D->Env->Bool}
theorem ZoN{vs:List Nat}{σ:L2.St}{H:Hp}{Q:VK}{wi:TI}(hw:∀R,lI S f σ H R->wi σ H R)(hv:Yi S.M vs=true)(hu:∀t∈us,t∈vs)(wk:Nk Mt S.M)(h:lF S (.dct .sh) (sDc b f tgf tt tk tv vs) σ H Q):Zfd wi (lG S.tx S.M Mt us tgf) (lT (S.inn Mt) tt) (lE (S.inn Mt) tk) (lE (S.inn Mt) tv) vs σ H Q:=by
 obtain⟨B,O,Fs,ρ,w,run⟩:=h
 refine hw _ ⟨B,O,Fs,ρ,w,run.bind fun xs ρ1 J O1 Fs1 H1 _ ev1 w1 r1 run1 p hp=> ?_⟩
 have run1:RunF S (.dct .sh) (dcL tgf tt tk tv vs xs (d0 (b xs ρ1)) (Ze ρ1 vs)) B O1 Fs1 H1 σ ρ1 Q:=run1
 generalize b xs ρ1=b at run1
 have no0:∀vs,o0 b≠ .tup vs:=fun vs z=>by cases b <;> cases z
 obtain⟨wp,evp,np,kp⟩:=w1.own1 (o:=o0 b) hp no0
 have neqa:∀j,S.M[j]?≠some .na->j∉vs:=fun j h z=>h (Qk hv z)
 have own0:Own S.G (fun a=>O1 a∨a=p) (upd H1 p (o0 b)) (.dct .sh) (.ref p) (d0 b) [p]:=by
  cases b with
  |true=>exact Zhg Xi
  |false=>exact Zhf Xi
 refine⟨o0 b,by cases b; exact .inl rfl; exact .inr rfl,fun i m H=>∃O Fs ρ acc,m=xs.length - i∧Wd S.G B O Fs H σ ρ S.M∧Ev S.M O1 Fs1 H1 ρ1 O Fs H ρ∧O p∧p∉Fs.flatten∧Own S.G O H (.dct .sh) (.ref p) acc [p]∧
   RunF S (.dct .sh) (dcL tgf tt tk tv vs (xs.drop i) acc (Ze ρ vs)) B O1 Fs1 H1 σ ρ1 Q,
  ⟨_,_,Fs1,ρ1,d0 b,rfl,wp,evp,.inr rfl,fun z=> ?_,own0,run1⟩, ?_⟩
 ·obtain⟨o,ho⟩:=w1.al p (w1.sub p z)
  rw[hp] at ho
  cases ho
 rintro i m H2 ⟨O2,Fs2,ρ2,acc,rfl,w2,ev2,op,pf,ow2,run2⟩
 have kp0:Kp0 O1 Fs1.flatten H1 O2 H2:=⟨ev2.chg,ev2.grow⟩
 by_cases hi:i < xs.length
 ·refine .inr ⟨r1.go i O2 H2 kp0 hi,fun H=>∃O Fs ρ acc,Wd S.G B O Fs H σ ρ S.M∧Ev S.M O1 Fs1 H1 ρ1 O Fs H ρ∧O p∧p∉Fs.flatten∧Own S.G O H (.dct .sh) (.ref p) acc [p]∧
   RunF S (.dct .sh) (dcL tgf tt tk tv vs (xs.drop (i+1)) acc (Ze ρ vs)) B O1 Fs1 H1 σ ρ1 Q,fun H' ⟨O',Fs',ρ',acc',h1,h2,h3,h4,h5,h6⟩=>⟨xs.length - (i+1),by omega,O',Fs',ρ',acc',rfl,h1,h2,h3,h4,h5,h6⟩,fun x H3 hy=> ?_⟩
  have hd:xs[i]?=some (xs[i]'hi):=Xo hi
  obtain⟨sm,rp⟩:=r1.yl i O2 H2 x H3 _ kp0 w2.al hy hd
  have dr:xs.drop i=xs[i]'hi::xs.drop (i+1):=XR hi
  rw[dr] at run2
  have ev3:Ev S.M O1 Fs1 H1 ρ1 O2 Fs2 H3 ρ2:=ev2.trans (Ev.same sm)
  have w3:Wd S.G B O2 Fs2 H3 (wipe σ vs) (Ze ρ2 vs) S.M:=(w2.same sm).emb hv
  obtain⟨op0,hp0⟩:=w2.al p op
  have ow3:Own S.G O2 H3 (.dct .sh) (.ref p) acc [p]:=Own.keep (Kept.same (O:=O2) sm) _ (fun c hc=>by rw[Xb.mp hc,hp0]; exact sm _ _ hp0) ow2
  have hp3:=sm _ _ hp0
  unfold dcL at run2
  cases et:tgf (xs[i]'hi) (Ze ρ2 vs) with
  |none=>rw[et] at run2; exact run2.elim
  |some ρ4 =>
   rw[et] at run2
   dsimp only at run2
   refine⟨B,O2,Fs2,Ze ρ2 vs,_,w3,rp,ρ4,et,fun σ4 Fs4 ev4 o4 w4=>⟨J7 o4.s hu,B,O2,Fs4,ρ4,w4, ?_⟩⟩
   have huv:∀j,j∉vs->j∉us:=fun j h z=>h (hu j z)
   have back:∀{O5:Addr->Prop}{Fs5:List (List Addr)}{H5:Hp}{ρ5:Env},Ev Mt O2 Fs4 H3 ρ4 O5 Fs5 H5 ρ5->Wd S.G B O5 Fs5 H5 σ4 ρ5 Mt->∃Fs6,Wd S.G B O5 Fs6 H5 σ (Ze ρ5 vs) S.M∧Ev S.M O1 Fs1 H1 ρ1 O5 Fs6 H5 (Ze ρ5 vs)∧O5 p∧p∉Fs6.flatten∧Own S.G O5 H5 (.dct .sh) (.ref p) acc [p]:=fun {O5 Fs5 H5 ρ5} ev5 w5=>by
    obtain⟨Fs6,w6,l6⟩:=w5.nk wk
    have f4:∀b∈Fs4.flatten,b∈Fs2.flatten∨H3 b=none:=ev4.fgrow
    have n4:∀b o,H3 b=some o->b∉Fs2.flatten->b∉Fs4.flatten:=fun b o h n z=>by
     rcases f4 b z with z|z
     ·exact n z
     ·rw[h] at z; cases z
    have e25:Ev S.M O2 Fs2 H3 ρ2 O5 Fs6 H5 (Ze ρ5 vs):=by
     refine⟨fun b o h n=>ev5.chg b o h (n4 b o h n),ev5.dom,ev5.mono,ev5.grow,fun b hb=> ?_,fun j m hj ho=> ?_⟩
     ·rcases ev5.fgrow b (l6 b hb) with z|z
      ·exact f4 b z
      ·exact .inr z
     ·have hjv:j∉vs:=neqa j (by rw[hj]; intro z; cases z; cases ho)
      have hm:Mt[j]?=some m:=(o4.m.2 j (huv j hjv)).trans hj
      rw[Zq hjv,ev5.keep j m hm ho,o4.r.2 j (huv j hjv),Zq hjv]
    have hp5:H5 p=some op0.1:=e25.chg p _ hp3 pf
    refine⟨Fs6,w6.swap ?_ ZR fun j h=>⟨?_,Zq (neqa j h)⟩,ev3.trans e25,ev5.mono p op,fun z=> ?_,Own.keep (e25.kept w2.sub) _ (fun c hc=>by rw[Xb.mp hc,hp3]; exact hp5) ow3⟩
    ·have:=w6.ls
     rw[this,w2.ls]
    ·rw[o4.s.2 j (huv j (neqa j h)),wipe_out (neqa j h)]
    ·rcases e25.fgrow p z with z|z
     ·exact pf z
     ·rw[hp3] at z; cases z
   cases ek:tt ρ4 with
   |ex x ρ5=>rw[ek] at run2; exact run2.elim
   |bad=>rw[ek] at run2; exact run2.elim
   |ok k ρ5 =>
    rw[ek] at run2
    intro k' O5 Fs5 H5 ev5 w5 hk
    cases (show k'=k from hk)
    cases k with
    |false =>
     rw[if_neg (by decide)]
     obtain⟨Fs6,w6,ev6,op6,pf6,ow6⟩:=back ev5 w5
     exact⟨O5,Fs6,Ze ρ5 vs,acc,w6,ev6,op6,pf6,ow6,by rw[Z6]; exact run2⟩
    |true =>
     rw[if_pos rfl]
     refine⟨B,O5,Fs5,ρ5,w5, ?_⟩
     have run2:RunF S (.dct .sh) ((tk ρ5).noX.bind fun kd ρ3=>(tv ρ3).noX.bind fun vd ρ4=>match Ji acc kd vd with
      |some acc'=>dcL tgf tt tk tv vs (xs.drop (i+1)) acc' (Ze ρ4 vs)
      |none=> .bad) B O1 Fs1 H1 σ ρ1 Q:=run2
     cases ey:tk ρ5 with
     |ex x ρ6=>rw[ey] at run2; exact run2.elim
     |bad=>rw[ey] at run2; exact run2.elim
     |ok kd ρ6 =>
      rw[ey] at run2
      intro y O7 Fs7 H7 ev7 w7 rk
      refine⟨B,O7,Fs7,ρ6,w7, ?_⟩
      have run2:RunF S (.dct .sh) ((tv ρ6).noX.bind fun vd ρ4=>match Ji acc kd vd with
       |some acc'=>dcL tgf tt tk tv vs (xs.drop (i+1)) acc' (Ze ρ4 vs)
       |none=> .bad) B O1 Fs1 H1 σ ρ1 Q:=run2
      cases ez:tv ρ6 with
      |ex x ρ6=>rw[ez] at run2; exact run2.elim
      |bad=>rw[ez] at run2; exact run2.elim
      |ok vd ρ8 =>
       rw[ez] at run2
       intro z O8 Fs8 H8 ev8 w8 rv
       have run2:RunF S (.dct .sh) (match Ji acc kd vd with
        |some acc'=>dcL tgf tt tk tv vs (xs.drop (i+1)) acc' (Ze ρ8 vs)
        |none=> .bad) B O1 Fs1 H1 σ ρ1 Q:=run2
       obtain⟨Fs6,w6,ev6,op6,pf6,ow6⟩:=back (ev5.trans (ev7.trans ev8)) w8
       cases hq:Ji acc kd vd with
       |none=>rw[hq] at run2; exact run2.elim
       |some acc' =>
        rw[hq] at run2
        obtain⟨u,nu,dp,ow7⟩:=Zhq ow6 op6 (rk.ev w7 ev8) rv hq
        obtain⟨w9,ev9,k9⟩:=Zaa hp w1 w6 ev6 op6 pf6 nu
        exact⟨_,dp,O8,Fs6,Ze ρ8 vs,acc',w9,ev9,op6,pf6,ow7,by rw[Z6]; exact run2⟩
 ·refine .inl ⟨r1.st i O2 H2 kp0 (by omega), ?_⟩
  rw[XZ (by omega)] at run2
  have run2:RunF S (.dct .sh) (.ok acc (Ze ρ2 vs)) B O1 Fs1 H1 σ ρ1 Q:=run2
  have e:=(ev2.swap (ρ':=Ze ρ2 vs) fun j h=>Zq (neqa j h))
  exact run2 (.ref p) O2 Fs2 H2 [p] e (w2.swap rfl ZR fun j h=>⟨rfl,Zq (neqa j h)⟩) ow2 ⟨by simp,fun b hb=>by rw[Xb.mp hb]; exact op,fun b hb=>by rw[Xb.mp hb]; exact pf,fun b hb=>by rw[Xb.mp hb]; exact hp⟩
theorem ZpN{wi:TI}{C:L2.St->Hp->Prop}(hu0:X.A.units+1 < cLine)(hc:X.calm=true)(hN:X.N.Nodup)(hi:PI X tg iter wi)(hw:∀σ H R,C σ H->lI S f σ H R->wi σ H R)(ok:BlkOk X.N X.env.scope scope own)(hv:Yi S.M (own.map (·.2))=true)(hu:∀t∈us,t∈own.map (·.2))(wk:Nk Mt S.M)
  (hg:∀(s:Shared) (H:Hp) (C:Addr) (cl:List (Str × Addr)) (fp:List Addr),PG (X.blk s H scope (compEnvC scope cl C X.env) fp) tg (lG S.tx S.M Mt us tgf))(ht:∀(s:Shared) (H:Hp) (C:Addr) (cl:List (Str × Addr)) (fp:List Addr),PTs (X.blk s H scope (compEnvC scope cl C X.env) fp) ifs (lT (S.inn Mt) tt))
  (hk:∀(s:Shared) (H:Hp) (C:Addr) (cl:List (Str × Addr)) (fp:List Addr),PE (X.blk s H scope (compEnvC scope cl C X.env) fp) kx (lE (S.inn Mt) tk))(he:∀(s:Shared) (H:Hp) (C:Addr) (cl:List (Str × Addr)) (fp:List Addr),PE (X.blk s H scope (compEnvC scope cl C X.env) fp) vx (lE (S.inn Mt) tv))(hs:∀x,foldedSetIterable iter X.env x=pure x:=by intro _; rfl) :
  PE X (.DictComp kx vx [⟨tg,iter,ifs,0⟩] scope pos) (fun σ H Q=>C σ H∧lF S (.dct .sh) (sDc b f tgf tt tk tv (own.map (·.2))) σ H Q) :=
 PE.of (Zk1 hu0 hc hN hi ok hg ht hk he hs) fun σ H Q ⟨hC,h⟩=>ZoN (fun R=>hw σ H R hC) hv hu wk h
theorem Zcu(hu0:X.A.units+1 < cLine)(hc:X.calm=true)(hN:X.N.Nodup)(hi:PI X tg iter (lI S f))(ok:BlkOk X.N X.env.scope scope own)(hv:Yi S.M (own.map (·.2))=true)(hu:∀t∈us,t∈own.map (·.2))(wk:Nk Mt S.M)
  (hg:∀(s:Shared) (H:Hp) (C:Addr) (cl:List (Str × Addr)) (fp:List Addr),PG (X.blk s H scope (compEnvC scope cl C X.env) fp) tg (lG S.tx S.M Mt us tgf))(ht:∀(s:Shared) (H:Hp) (C:Addr) (cl:List (Str × Addr)) (fp:List Addr),PTs (X.blk s H scope (compEnvC scope cl C X.env) fp) ifs (lT (S.inn Mt) tt))
  (hk:∀(s:Shared) (H:Hp) (C:Addr) (cl:List (Str × Addr)) (fp:List Addr),PE (X.blk s H scope (compEnvC scope cl C X.env) fp) kx (lE (S.inn Mt) tk))(he:∀(s:Shared) (H:Hp) (C:Addr) (cl:List (Str × Addr)) (fp:List Addr),PE (X.blk s H scope (compEnvC scope cl C X.env) fp) vx (lE (S.inn Mt) tv))(hs:∀x,foldedSetIterable iter X.env x=pure x:=by intro _; rfl) :
  PE X (.DictComp kx vx [⟨tg,iter,ifs,0⟩] scope pos) (lF S (.dct .sh) (sDc b f tgf tt tk tv (own.map (·.2)))) :=
 PE.of (ZpN (C:=fun _ _=>True) hu0 hc hN hi (fun _ _ _ _ h=>h) ok hv hu wk hg ht hk he hs) fun _ _ _ h=>⟨True.intro,h⟩
end
end Pu
namespace Pu
open PySem L2 PySem.Spec PyProof.Rows Pw
def D.pyd(d:D):PyData:=(d.py).getD .none
def leD:D->D->Bool:=PySem.W.dataLe false D.pyd
def Zfw{α:Type}(le:α->α->Bool)(a:α):List α->List α
 |[]=> [a]
 |b::r=>if le a b then a::b::r else b::Zfw le a r
def Za3{α:Type}(le:α->α->Bool):List α->List α
 |[]=> []
 |a::l=>Zfw le a (Za3 le l)
theorem ZjF{α:Type}{le:α->α->Bool}{a:α}:∀{l1 l2:List α},(∀b∈l1,le a b=false)->(∀b∈l2,le a b=true)->Zfw le a (l1++l2)=l1++a::l2
 |[],[],_,_=>rfl
 |[],b::r,_,h=>by
  show (if le a b then a::b::r else b::Zfw le a r)=_
  rw[h b (Xg ..),if_pos rfl]
  rfl
 |c::l1,l2,h1,h2=>by
  show (if le a c then a::c::(l1++l2) else c::Zfw le a (l1++l2))=_
  rw[h1 c (Xg ..),if_neg (by decide),ZjF (fun b hb=>h1 b (Xm _ hb)) h2]
  rfl
theorem ZdE{α:Type}{le:α->α->Bool}(tr:∀a b c,le a b=true->le b c=true->le a c=true)(to:∀a b,(le a b || le b a)=true):∀l:List α,l.mergeSort le=Za3 le l
 |[]=>by simp[Za3]
 |a::l=>by
  obtain⟨l1,l2,e1,e2,h⟩:=List.mergeSort_cons (le:=le) tr to a l
  have hs:=List.pairwise_mergeSort (le:=le) tr to (a::l)
  rw[e1,List.pairwise_append] at hs
  show _=Zfw le a (Za3 le l)
  rw[<- ZdE tr to l,e1,e2,ZjF (fun b hb=>by simpa using h b hb) fun b hb=>(List.pairwise_cons.mp hs.2.1).1 b hb]
theorem Zlj:PySem.W.TotalLe leD:=by
 unfold leD PySem.W.dataLe
 exact PySem.W.sortLe_total _ _ _
theorem Zf4(a b:D):(leD a b || leD b a)=true:=by rw[VB]; exact Zlj.total a b
theorem Zf5(a b c:D)(h1:leD a b=true)(h2:leD b c=true):leD a c=true:=Zlj.trans a b c h1 h2
def ZgJ(ds:List D):List D:=Za3 leD ds
theorem Zmp(ds:List D):ZgJ ds=ds.mergeSort leD:=(ZdE Zf5 Zf4 ds).symm
def Zqx:PyData->Bool
 |.tuple (_::_)=>true
 |_=>false
def ZoO:PyData->Bool
 |.none=>false
 |.tuple _=>false
 |_=>true
def Zhr(ps:List PyData):Bool:=(ps.all fun d=>ps.all fun e=>PySem.W.alike d e) && (ps.all Zqx || ps.all ZoO) && ps.all fun d=>decide (d.depth<=40)
def Zka(ds:List D):Option D:=match D.pys ds with
 |some ps=>if Zhr ps then some (.lst (ZgJ ds)) else none
 |none=>none
def leS(a b:Str):Bool:= !ltCps b.cps.toList a.cps.toList
def ZeK(ks:List Str):List Str:=Za3 leS ks
def Zkb(kvs:List (D × D)):Option D:=match D.strs (kvs.map (·.1)) with
 |some ks=>if ks.length < 64 then some (.lst ((ZeK ks).map .str)) else none
 |none=>none
def Jb(d:D):Option D:=match d with
 |.dct kvs=>Zkb kvs
 |d=>match d.seq with
  |some ds=>Zka ds
  |none=>none
theorem ZdF(a b:Str):leS a b=true ↔ a.cps.toList<=b.cps.toList:=by
 unfold leS
 rw[ltCps_eq]
 simp
theorem Zf6(a b:Str):(leS a b || leS b a)=true:=by
 rw[VB,ZdF,ZdF]
 exact List.le_total _ _
theorem Zc8(a b c:Str)(h1:leS a b=true)(h2:leS b c=true):leS a c=true:=by
 rw[ZdF] at *
 exact List.le_trans h1 h2
theorem Zmq(a b:Str)(h1:leS a b=true)(h2:leS b a=true):a=b:=by
 rw[ZdF] at *
 have:=List.le_antisymm h1 h2
 cases a with
 |mk a =>
  cases b with
  |mk b =>
   have:a=b:=Array.toList_inj.mp this
   rw[this]
theorem Zf7:∀{p:Str}{l:List Str},risingS p l=true->(p::l).Pairwise fun a b=>leS a b=true
 |p,[],_=>List.pairwise_singleton _ _
 |p,x::r,h=>by
  unfold risingS at h
  rw[Xp] at h
  have t:=Zf7 h.2
  have hx:leS p x=true:=h.1
  refine List.pairwise_cons.mpr ⟨fun y hy=> ?_,t⟩
  rcases XB.mp hy with rfl|hy
  ·exact hx
  ·exact Zc8 _ _ _ hx ((List.pairwise_cons.mp t).1 y hy)
theorem Zlk{l:List Str}(h:sortedS l=true):l.Pairwise fun a b=>leS a b=true:=by
 cases l with
 |nil=>exact .nil
 |cons x r=>exact Zf7 h
theorem Zhs(ks:List Str):ZeK ks=ks.mergeSort leS:=(ZdE Zc8 Zf6 ks).symm
theorem Zmr(ks:List Str):(ZeK ks).Pairwise fun a b=>leS a b=true:=by rw[Zhs]; exact List.pairwise_mergeSort Zc8 Zf6 ks
theorem Zkc(ks:List Str):(ZeK ks).Perm ks:=by rw[Zhs]; exact List.mergeSort_perm ks leS
theorem Zkd{ys ks:List Str}(hp:ys.Perm ks)(hs:sortedS ys=true):ys=ZeK ks :=
 List.Perm.eq_of_pairwise (fun a b _ _ h1 h2=>Zmq a b h1 h2) (Zlk hs) (Zmr ks) (hp.trans (Zkc ks).symm)
section
variable {K:PySem.W.Frag}{G:Gx K}{O:Addr->Prop}{H:Hp}
theorem Zej:∀{ds:List D}{vs:List V},Reps G O H vs ds->(vs.zip ds).map (·.1)=vs∧(vs.zip ds).map (·.2)=ds∧∀b∈vs.zip ds,Rep G O H b.1 b.2
 |[],_,h=>by cases h; exact⟨rfl,rfl,fun b hb=>by cases hb⟩
 |d::ds,_,h=>by
  cases h with
  |cons r t =>
   obtain⟨h1,h2,h3⟩:=Zej t
   refine⟨?_, ?_,fun b hb=> ?_⟩
   ·rw[List.zip_cons_cons,Xv,h1]
   ·rw[List.zip_cons_cons,Xv,h2]
   ·rw[List.zip_cons_cons] at hb
    rcases XB.mp hb with rfl|hb
    ·exact r
    ·exact h3 b hb
theorem Zaz:∀{l:List (V × D)},(∀b∈l,Rep G O H b.1 b.2)->Reps G O H (l.map (·.1)) (l.map (·.2))
 |[],_=> .nil
 |b::l,h=> .cons (h b (Xg ..)) (Zaz fun c hc=>h c (Xm _ hc))
theorem ZjG:∀{ds:List D}{ps:List PyData},D.pys ds=some ps->(∀d∈ds,d.py=some d.pyd)∧ds.map D.pyd=ps
 |[],_,h=>by cases h; exact⟨(fun d hd=>by cases hd),rfl⟩
 |d::ds,_,h=>by
  unfold D.pys at h
  split at h
  ·rename_i p ps e1 e2
   cases h
   obtain⟨h1,h2⟩:=ZjG e2
   have e3:d.pyd=p:=by unfold D.pyd; rw[e1]; rfl
   refine⟨fun c hc=> ?_,by rw[Xv,h2,e3]⟩
   rcases XB.mp hc with rfl|hc
   ·rw[e3]; exact e1
   ·exact h1 c hc
  ·cases h
theorem Zll{ps:List PyData}(h:Zhr ps=true):PySem.W.AllAlike ps∧PySem.W.Sortable ps∧∀d∈ps,d.depth<=40:=by
 unfold Zhr at h
 rw[Xp,Xp,VB,XM,XM,XM] at h
 obtain⟨⟨h1,h2⟩,h3⟩:=h
 refine⟨fun d hd e he=>XM.mp (h1 d hd) e he, ?_,fun d hd=>XH (XM.mp h3 d hd)⟩
 rcases h2 with h2|h2
 ·refine .inl fun d hd=> ?_
  have:=h2 d hd
  cases d with
  |tuple xs =>
   cases xs with
   |nil=>cases this
   |cons x r=>exact⟨x,r,rfl⟩
  |_=>cases this
 ·refine .inr fun d hd=> ?_
  have:=h2 d hd
  cases d with
  |tuple xs=>cases this
  |none=>cases this
  |_=>exact⟨(fun z=>by cases z),(fun _ z=>by cases z)⟩
theorem Znm:∀{kvs:List (D × D)}{ks:List (Key × V)}{ss:List Str},RepK G O H ks kvs->D.strs (kvs.map (·.1))=some ss->ks.map (·.1)=ss.map Sum.inr
 |[],_,_,h,e=>by cases h; cases e; rfl
 |(kd,d)::kvs,_,ss,h,e=>by
  cases h with
  |cons e1 r t =>
   rw[Xv] at e
   cases kd with
   |str x =>
    unfold D.strs at e
    obtain⟨l,h1,h2⟩:=Xh.mp e
    subst h2
    cases e1
    rw[Xv,Xv,Znm t h1]
   |_=>cases e
def Zht(K:PySem.W.Frag):List V->Hp->VK->Prop:=fun xs H Q=>Zg4 K xs H Q∨(∃(a:Addr) (kvs:List (Key × V)) (ks:List Str),xs= [.ref a]∧Rd H a (.dK kvs)∧kvs.map (·.1)=ks.map Sum.inr∧ks.length < 64∧
  ∀ys p,ys.Perm ks->sortedS ys=true->H p=none->Q (.ref p) (upd H p (.lst (ys.map V.str))))
theorem ZnL:Q9 G (Zht K) (g1 Jb):=by
 refine c1 fun O F H x a d al e hb Q k=> ?_
 have seqc:∀ds,a.seq=some ds->Zka ds=some d->Zht K [x] H Q:=fun ds hs hd=>by
  unfold Zka at hd
  split at hd
  ·rename_i ps hp
   split at hd
   ·rename_i hok
    cases hd
    obtain⟨p,vs,e1,e2,e3⟩:=hb.seq hs
    subst e1
    obtain⟨z1,z2,z3⟩:=Zej e3
    obtain⟨m1,m2⟩:=ZjG hp
    obtain⟨o1,o2,o3⟩:=Zll hok
    have em:(vs.zip ds).map (fun b=>b.2.pyd)=ps:=by rw[<- m2,<- z2,Vc]; rw[z2]; rfl
    refine .inl ⟨V × D,p,vs.zip ds,(·.1),fun b=>b.2.pyd,rfl,by rw[z1]; exact e2,fun b hbm=> ?_,by rw[em]; exact o1,by rw[em]; exact o2,fun b hbm=>o3 _ (by rw[<- em]; exact XW.mpr ⟨b,hbm,rfl⟩),fun q hq=> ?_⟩
    ·refine(z3 b hbm).dp (m1 b.2 ?_)
     rw[<- z2]
     exact XW.mpr ⟨b,hbm,rfl⟩
    ·have es:((vs.zip ds).mergeSort (PySem.W.dataLe false fun b=>b.2.pyd)).map (·.2)=ZgJ ds:=by
      rw[Zmp,List.map_mergeSort (r:=PySem.W.dataLe false fun b:V × D=>b.2.pyd) (s:=leD) (f:=fun x:V × D=>x.2) (fun a _ b _=>rfl),z2]
     have hr:Reps G O H (((vs.zip ds).mergeSort (PySem.W.dataLe false fun b=>b.2.pyd)).map (·.1)) (ZgJ ds):=by
      rw[<- es]
      exact Zaz fun b hbm=>z3 b ((List.mergeSort_perm _ _).mem_iff.mp hbm)
     exact k _ _ (ZG hq) (.lst (.inl Xi) (Al.no al hq) (hr.keep (Kept.same (ZG hq))))
   ·cases hd
  ·cases hd
 cases a with
 |dct kvs =>
  have e:Zkb kvs=some d:=e
  unfold Zkb at e
  split at e
  ·rename_i ks hk
   split at e
   ·rename_i hl
    cases e
    obtain⟨p,kvs',e1,e2,e3⟩:=hb.dct
    subst e1
    refine .inr ⟨p,kvs',ks,rfl,e2,Znm e3 hk,hl,fun ys q hp hs hq=> ?_⟩
    have:=Zkd hp hs
    subst this
    exact k _ _ (ZG hq) (.lst (.inl Xi) (Al.no al hq) (Zef _))
   ·cases e
  ·cases e
 |lst xs=>exact seqc xs rfl e
 |tup xs=>exact seqc xs rfl e
 |ktp xs=>exact seqc xs rfl e
 |_=>cases e
end
section
variable {K:PySem.W.Frag}{S:Sx K}{X:Cx}{e:Expr}{fs:Env->R (List D)}{p pos:Pos}
theorem CallR.or2{v:Value}{r r':List V->Hp->VK->Prop}(h:CallR X v r)(h':CallR X v r'):CallR X v (fun xs H Q=>r xs H Q∨r' xs H Q):=fun pins s σ H xs us Q I rv q=>by
 rcases q with q|q
 ·exact h pins s σ H xs us Q I rv q
 ·exact h' pins s σ H xs us Q I rv q
theorem JG(hK:X.K=K)(hu:X.A.units+64 < cLine)(hcm:X.calm=true)(hm:X.mg "sorted" =none)(ha:PA X [e] (lBs S fs))(hgl:Gl X "sorted")(he:starEach (e:: []) X.env=(false,eval e X.env)::starEach [] X.env:=by rfl):PE X (.Call (.Name "sorted" p) [e] [] pos) (lE S (sAs (g1 Jb) fs)):=by
 subst hK
 exact J5 (CallR.or2 (ZjT hu) (call_sortedD hcm)) ZnL hgl hm (by decide +kernel) ha (by decide) (by decide) he (by rfl)
end
end Pu
namespace Pu
open PySem L2 PySem.Spec PyProof.Rows Pw
section
variable {K:PySem.W.Frag}{S:Sx K}{X:Cx}{e:Expr}{es:List Expr}{fa:Env->R D}{fs:Env->R (List D)}{p pos:Pos}{t:Shp}
def Jy(fa:Env->R D)(fs:Env->R (List D)):Env->R (List D):=fun ρ=>(fa ρ).bind fun x ρ1=>match x.seq with
 |some xs=>(fs ρ1).bind fun ys ρ2=> .ok (xs++ys) ρ2
 |none=> .bad
theorem Reps.app{G:Gx K}{O:Addr->Prop}{H:Hp}:∀{ds es:List D}{vs us:List V},Reps G O H vs ds->Reps G O H us es->Reps G O H (vs++us) (ds++es)
 |[],_,_,_,h,h'=>by cases h; exact h'
 |d::ds,_,_,_,h,h'=>by
  cases h with
  |cons r t=>exact .cons r (t.app h')
theorem Qq(hK:X.K=K)(ha:PE X e (lB S fa))(hr:PA X es (lEs S fs))(hs:starEach (.Starred e p::es) X.env=(true,eval e X.env)::starEach es X.env:=by rfl):PA X (.Starred e p::es) (lEs S (Jy fa fs)):=by
 subst hK
 refine PA.of (StX.pa_star ha hr hs) fun σ H Q ⟨B,O,Fs,ρ,w,run⟩=> ?_
 refine⟨B,O,Fs,ρ,w,run.bind fun x ρ1 v O1 Fs1 H1 _ ev1 w1 r1 run1=> ?_⟩
 cases hx:x.seq with
 |none=>rw[hx] at run1; exact run1.elim
 |some xs =>
  rw[hx] at run1
  obtain⟨a,vs,e1,e2,e3⟩:=r1.seq hx
  refine⟨a,vs,e1,e2.symm,B,O1,Fs1,ρ1,w1,run1.bind fun ys ρ2 us O2 Fs2 H2 _ ev2 w2 r2 run2=> ?_⟩
  exact run2.use w2 ((e3.keep (ev2.kept w1.sub)).app r2)
theorem ZoP(h:PE X e (lE S fa)):PE X e (lF S .sh fa):=PE.of h fun σ H Q ⟨B,O,Fs,ρ,w,run⟩=>by
 refine⟨B,O,Fs,ρ,w, ?_⟩
 have run:RunF S .sh (fa ρ) B O Fs H σ ρ Q:=run
 cases hf:fa ρ with
 |ok d ρ' =>
  rw[hf] at run
  exact fun v O' Fs' H' ev wd r=>run v O' Fs' H' [] ev wd ⟨rfl,r⟩ ⟨.nil,(fun b hb=>by cases hb),(fun b hb=>by cases hb),(fun b hb=>by cases hb)⟩
 |ex x ρ'=>rw[hf] at run; exact run
 |bad=>rw[hf] at run; exact run.elim
end
def Shp.mo:Shp->Md
 |.sh=> .sh
 |t=> .ow t
section
variable {K:PySem.W.Frag}{G:Gx K}{B O:Addr->Prop}{F:List Addr}{H:Hp}{v:V}{d:D}{Fv:List Addr}
theorem Zfx(t:Shp)(nb:∀a∈Fv,¬ B a)(h:Own G O H t v d Fv):SlOk G B O F H t.mo (some v) (some d) Fv:=by
 cases t with
 |sh=>exact⟨h.1,v,d,rfl,rfl,h.2⟩
 |deal=>exact⟨nb,v,d,rfl,rfl,h⟩
 |tab=>exact⟨nb,v,d,rfl,rfl,h⟩
 |nk=>exact⟨nb,v,d,rfl,rfl,h⟩
 |lst t=>exact⟨nb,v,d,rfl,rfl,h⟩
 |dct t=>exact⟨nb,v,d,rfl,rfl,h⟩
 |obj f=>exact⟨nb,v,d,rfl,rfl,h⟩
theorem ZeL{M:List Md}{i j:Nat}{m:Md}(h:nf M j=true)(hij:i≠j):nf (M.set i m) j=true:=by
 unfold nf at h ⊢
 rw[Xf hij]
 exact h
end
section
variable {K:PySem.W.Frag}{T:Tx K}{M:List Md}{X:Cx}{a b:Expr}{f1 f2:Env->R D}{t1 t2:Shp}{i j:Nat}{x y:Str}{px py pt pos:Pos}{kt k2} {pt2:Pos}
def Zek(i j:Nat)(f1 f2:Env->R D):Env->RS:=fun ρ=>(f1 ρ).bindS fun d1 ρ1=>(f2 ρ1).bindS fun d2 ρ2=> .nx ((ρ2.set i (some d1)).set j (some d2))
theorem ZgK(hc:X.calm=true)(hN:X.N.Nodup)(hi:X.N[i]?=some x)(hj:X.N[j]?=some y)(hij:i≠j)(hx:X.env.scope.names.lookup x=some .local)(hy:X.env.scope.names.lookup y=some .local)
  (hw:swappedStores [.Tuple [.Name x px,.Name y py] kt pt] (.Tuple [a,b] k2 pt2) X.env=pure (some [x,y]))(h1:PE X a (lF (T.ex M) t1 f1))(h2:PE X b (lF (T.ex M) t2 f2))(wx:Wk M T.Mx)(n1:nf M i=true)(n2:nf M j=true)
  (hs:swapsWithSole [.Tuple [.Name x px,.Name y py] kt pt] (.Tuple [a,b] k2 pt2) pos.line X.env=pure false:=by rfl)(hsa:starEach [a,b] X.env=(false,eval a X.env)::starEach [b] X.env:=by rfl)(hsb:starEach [b] X.env=(false,eval b X.env)::starEach [] X.env:=by rfl) :
  PS X (.Assign [.Tuple [.Name x px,.Name y py] kt pt] (.Tuple [a,b] k2 pt2) pos) (lS T M ((M.set i t1.mo).set j t2.mo) (Zek i j f1 f2)):=by
 refine PS.of (ps_par hc hN hi hj hij hx hy (pa_cons h1 (pa_cons h2 pa_nil hsb) hsa) hw hs) fun E σ H ⟨B,O,Fs,ρ,w,run⟩=> ?_
 refine⟨B,O,Fs,ρ,w, ?_⟩
 have run:RunS T M ((M.set i t1.mo).set j t2.mo) (Zek i j f1 f2 ρ) B O Fs H σ ρ E:=run
 unfold Zek at run
 cases e1:f1 ρ with
 |bad=>rw[e1] at run; exact run.elim
 |ex z ρ1 =>
  rw[e1] at run
  intro cls dd O' Fs' H' e w x
  obtain⟨O1,Fs1,w1,l⟩:=w.wk wx
  exact run cls dd O1 Fs1 H' σ (e.toS.less l) w1 (x.anti l.o)
 |ok d1 ρ1 =>
  rw[e1] at run
  have run:RunS T M ((M.set i t1.mo).set j t2.mo) ((f2 ρ1).bindS fun d2 ρ2=> .nx ((ρ2.set i (some d1)).set j (some d2))) B O Fs H σ ρ E:=run
  intro v1 O1 Fs1 H1 Fv1 ev1 w1 ow1 nw1
  refine⟨B,O1,Fs1,ρ1,w1, ?_⟩
  cases e2:f2 ρ1 with
  |bad=>rw[e2] at run; exact run.elim
  |ex z ρ2 =>
   rw[e2] at run
   intro cls dd O' Fs' H' e w x
   obtain⟨O3,Fs3,w3,l⟩:=w.wk wx
   exact run cls dd O3 Fs3 H' σ ((ev1.trans e).toS.less l) w3 (x.anti l.o)
  |ok d2 ρ2 =>
   rw[e2] at run
   intro v2 O2 Fs2 H2 Fv2 ev2 w2 ow2 nw2
   refine⟨v1,v2,rfl, ?_⟩
   have old1:∀b∈Fv1,∃o,H1 b=some o:=fun b hb=>by
    obtain⟨o,ho⟩:=w1.al b (nw1.sub b hb)
    exact⟨o,ho⟩
   have k2:=ev2.kept w1.sub
   have st1:∀b∈Fv1,H2 b=H1 b:=fun b hb=>by
    obtain⟨o,ho⟩:=old1 b hb
    rw[ho]
    exact ev2.chg b o ho (nw1.dj b hb)
   have ow1':=Own.keep k2 _ st1 ow1
   have dj1:∀b∈Fv1,b∉Fs2.flatten:=fun b hb z=>by
    rcases ev2.fgrow b z with z|z
    ·exact nw1.dj b hb z
    ·obtain⟨o,ho⟩:=old1 b hb
     rw[ho] at z; cases z
   have d12:∀b∈Fv2,b∉Fv1:=fun b hb z=>by
    obtain⟨o,ho⟩:=old1 b z
    rw[nw2.fr b hb] at ho
    cases ho
   have fr2:∀b∈Fv2,H b=none:=fun b hb=>by
    cases q:H b with
    |none=>rfl
    |some o=>obtain⟨o',h'⟩:=ev1.dom b o q; rw[nw2.fr b hb] at h'; cases h'
   have nbB:∀b,H b=none->¬ B b:=fun b hb z=>by
    obtain⟨o,ho⟩:=w.al b (w.bo b z)
    rw[hb] at ho
    cases ho
   have ev:=ev1.trans ev2
   have brk:∀(Fz:List (List Addr)),(∀b∈Fz.flatten,b∈Fs.flatten∨H b=none)->∀(q:Nat) (v':V) (d':D),M[q]?=some .br->σ[q]?=some (some v')->ρ2[q]?=some (some d')->BRep T.G O2 Fz.flatten H2 v' d':=fun Fz hz q v' d' g1 g2 g3=>by
    have hk:=ev.keep q .br g1 rfl
    rw[g3] at hk
    obtain⟨v,d,f,h1,h2,h3,_,v1,d1,q2,q3,r⟩:=w.get g1
    subst q2 q3
    rw[g2] at h1
    rw[h2] at hk
    cases h1
    cases hk
    have k:=ev.kept w.sub
    rcases r with r|⟨p,np,⟨o,ho⟩,r⟩
    ·exact .inl (r.keep k)
    ·have kp:∀b∈ [p],H2 b=H b:=fun b hb=>by
      rw[Xb.mp hb,ho]
      exact ev.chg p o ho np
     refine .inr ⟨p,fun z=> ?_,⟨o,ev.chg p o ho np⟩, ?_⟩
     ·rcases hz p z with z|z
      ·exact np z
      ·rw[ho] at z; cases z
     ·rcases r with r|r|r
      ·exact .inl (Own.keep k _ kp r)
      ·exact .inr (.inl (Own.keep k _ kp r))
      ·exact .inr (.inr (Own.keep k _ kp r))
   have z1:∀b∈(Fs2.set i Fv1).flatten,b∈Fs.flatten∨H b=none:=fun b hb=>by
    rcases Zs hb with hb|⟨q,F1,_,e,hb⟩
    ·exact .inr (nw1.fr b hb)
    ·exact ev.fgrow b (Zj (Xa e) hb)
   have z2:∀b∈((Fs2.set i Fv1).set j Fv2).flatten,b∈Fs.flatten∨H b=none:=fun b hb=>by
    rcases Zs hb with hb|⟨q,F1,_,e,hb⟩
    ·exact .inr (fr2 b hb)
    ·exact z1 b (Zj (Xa e) hb)
   have wi:=w2.set (i:=i) (m:=t1.mo) (v:=v1) (d:=d1) (F:=Fv1) n1 nw1.nd (fun b hb=>ev2.mono b (nw1.sub b hb)) dj1 (brk _ z1) (Zfx t1 (fun a ha=>nbB a (nw1.fr a ha)) ow1')
   have hjl:j < M.length:=Zj0 n2
   have wj:=wi.set (i:=j) (m:=t2.mo) (v:=v2) (d:=d2) (F:=Fv2) (ZeL n2 hij) nw2.nd nw2.sub (fun b hb z=>by
    rcases Zs z with z|⟨q,F1,_,e,hb1⟩
    ·exact d12 b hb z
    ·exact nw2.dj b hb (Zj (Xa e) hb1)) (fun q v' d' g1 g2 g3=>by
    have hq:q≠i:=fun z=>by
     subst z
     rw[Xj (Zj0 n1)] at g1
     cases t1 <;> cases g1
    rw[Xf (XI hq)] at g1 g2 g3
    exact brk _ z2 q v' d' g1 g2 g3) (Zfx t2 (fun a ha=>nbB a (fr2 a ha)) ow2)
   refine run O2 _ H2 _ ⟨ev.chg,ev.dom,ev.grow,z2,fun q m g1 g2=> ?_,fun q g1=> ?_⟩ wj
   ·have hqi:q≠i:=fun z=>by
     subst z
     unfold nf at n1
     rw[g1] at n1
     simp only[g2] at n1
     cases n1
    have hqj:q≠j:=fun z=>by
     subst z
     unfold nf at n2
     rw[g1] at n2
     simp only[g2] at n2
     cases n2
    rw[Xf (XI hqj),Xf (XI hqi)]
   ·have hqi:q≠i:=fun z=>by
     subst z
     unfold nf at n1
     rw[g1] at n1
     cases n1
    have hqj:q≠j:=fun z=>by
     subst z
     unfold nf at n2
     rw[g1] at n2
     cases n2
    rw[Xf (XI hqj),Xf (XI hqi)]
    exact ev.keep q .br g1 rfl
end
end Pu
namespace Pu
open PySem L2 PySem.Spec PyProof.Rows Pw
theorem Zfy{X:Cx}:Passes (L2.CX X.prog X.w) X (fun _ _ _=>False):=fun pins σ H s e s' I c=>passAt (W:=fun _ _ _ _=>False) takes0 σ pins H s e s' I c
section
variable {K:PySem.W.Frag}{G:Gx K}{xa:String->Option Addr}
theorem AReps.wd0{O:Addr->Prop}{F:List Addr}{H:Hp}{ms:List Md}{vs:List V}{ds:List D}(h:AReps G O F H ms vs ds)(al:Al O H) :
  Wd G O O (List.replicate ms.length []) H (vs.map some) (ds.map some) ms:=by
 refine⟨by rw[YO]; exact .nil,fun a ha=> ?_,fun _ h=>h,al,by rw[Xx]; exact h.len.1,by rw[Xx]; exact h.len.2,by simp,fun i m v d f e1 e2 e3 e4=> ?_⟩
 ·rw[YO] at ha; cases ha
 ·have:f= []:=(Vy.mp (Xa e4)).2
  subst this
  exact h.slot (by rw[YO]; intro b hb; cases hb) e1 e2 e3
theorem Zhu{g:List D->RF}{O:Addr->Prop}{F:List Addr}{H:Hp}{ms:List Md}{vs:List V}{ds:List D}{d:D}{ds':List D}{Q:VK}{E:XK}(h:AReps G O F H ms vs ds)(al:Al O H)(e:g ds= .ok d ds')(k:∀v H',Same H H'->Rep G O H' v d->Q v H'):SpF G xa ms g vs H Q E:=by
 refine⟨O,List.replicate ms.length [],ds,h.wd0 al, ?_⟩
 rw[e]
 intro v O' Fs' H' ev wd r
 exact k v H' (fun b o hb=>ev.chg b o hb (by rw[YO]; intro z; cases z)) (r.anti ev.mono)
def QM(c:String)(f:List D->RF)(d:D):Option D:=match d with
 |.obj c' _=>if c'=c then match f [d] with
   |.ok (.str t) _=>some (.str t)
   |_=>none
  else none
 |_=>none
theorem ZpO{c:String}{C:Addr}{f:List D->RF}(hC:G.ca c=some C):Q9 G (Zjx C (SpF G xa [.br] f) (fun _ _ _=>False)) (g1 (QM c f)):=by
 refine c1 fun O F H x a d al e hb Q k=> ?_
 cases a with
 |obj c' fs =>
  unfold QM at e
  dsimp only at e
  split at e
  ·rename_i hc
   subst hc
   split at e
   ·rename_i t ds' hf
    cases e
    have hb0:=hb
    obtain⟨p,C',dx,fvs,e1,e2,e3,e4,e5⟩:=hb.obj
    rw[hC] at e2
    cases e2
    subst e1
    refine⟨p,dx,fvs,rfl,e3,Zhu (.br hb0 .nil) al hf fun v H' sm r=> ?_⟩
    cases r
    exact⟨t,rfl,k _ _ sm (.str t)⟩
   ·cases e
  ·cases e
 |_=>cases e
def Znn(c:String):D->Bool
 |.dct _=>false
 |.dtt _=>false
 |.dnk _=>false
 |.obj _ _=>true
 |.cls _=>false
 |.klt _=>false
 |_=>true
def JQ(c:String)(f:List D->RF)(x y:D):Option D:=match x with
 |.obj c' _=>if c'=c∧Znn c y=true then match f [x,y] with
   |.ok (.bl b) _=>some (.bl b)
   |_=>none
  else none
 |_=>none
theorem Zfz{C C':Addr}(o:OwnC K C)(h:PySem.W.kitOne K (.ref C') (.ref C)=some false):PySem.W.notFirst K C (.ref C')=true:=by
 unfold PySem.W.kitOne PySem.W.kitCls at h
 split at h
 ·cases h
 ·dsimp only at h
  rw[if_pos o.kc] at h
  unfold PySem.W.notFirst
  rw[h]
  simp
theorem Zms{c:String}{C:Addr}{y:D}{O:Addr->Prop}{F:List Addr}{H:Hp}{v:V}(hC:G.ca c=some C)(hb:BRep G O F H v y)(h:Znn c y=true):∃k,y.kd G=some k∧PySem.W.notFirst K C k.ty=true:=by
 cases y with
 |obj c' fs =>
  obtain⟨p,C',dx,fvs,e1,e2,e3,_⟩:=hb.obj
  refine⟨.own C', ?_, ?_⟩
  ·show (G.ca c').map Kd.own=_
   rw[e2]
   rfl
  ·by_cases hc:c'=c
   ·subst hc
    rw[hC] at e2
    cases e2
    exact Zgf
   ·exact Zfz (G.oc hC) (G.di e2 hC hc)
 |non=>exact⟨_,rfl,Kd.notFirst rfl⟩
 |bl b=>exact⟨_,rfl,Kd.notFirst rfl⟩
 |int i=>exact⟨_,rfl,Kd.notFirst rfl⟩
 |str x=>exact⟨_,rfl,Kd.notFirst rfl⟩
 |lst xs=>exact⟨_,rfl,Kd.notFirst rfl⟩
 |tup xs=>exact⟨_,rfl,Kd.notFirst rfl⟩
 |ktp xs=>exact⟨_,rfl,Kd.notFirst rfl⟩
 |dct _=>cases h
 |dtt _=>cases h
 |dnk _=>cases h
 |cls _=>cases h
 |klt _=>cases h
theorem ZoQ{c:String}{C:Addr}{f:List D->RF}{O:Addr->Prop}{F:List Addr}{H:Hp}{x y:V}{a b:D}{r:Bool}(hC:G.ca c=some C)(al:Al O H)(e:JQ c f a b=some (.bl r))(ha:BRep G O F H x a)(hb:BRep G O F H y b)(Q:Bool->Hp->Prop)(k:∀H',Same H H'->Q r H') :
  ∃p dx fs kd,x= .ref p∧H p=some (.ins C dx fs)∧Any K H y kd∧PySem.W.notFirst K C kd.ty=true∧SpF G xa [.br,.br] f [x,y] H (fun z H'=>∃b,z= .bl b∧Q b H') (fun _ _ _=>False):=by
 cases a with
 |obj c' fs =>
  unfold JQ at e
  dsimp only at e
  split at e
  ·rename_i hc
   obtain⟨rfl,hs⟩:=hc
   split at e
   ·rename_i t ds' hf
    cases e
    obtain⟨p,C',dx,fvs,e1,e2,e3,e4,e5⟩:=ha.obj
    rw[hC] at e2
    cases e2
    obtain⟨kd,hk,hn⟩:=Zms hC hb hs
    refine⟨p,dx,fvs,kd,e1,e3,ZeG hb hk,hn,Zhu (.br ha (.br hb .nil)) al hf fun v H' sm r=> ?_⟩
    cases r
    exact⟨_,rfl,k H' sm⟩
   ·cases e
  ·cases e
 |_=>cases e
theorem ZnM{c:String}{f:List D->RF}{x y d:D}(h:JQ c f x y=some d):∃b,d= .bl b:=by
 unfold JQ at h
 split at h
 ·split at h
  ·split at h
   ·cases h; exact⟨_,rfl⟩
   ·cases h
  ·cases h
 ·cases h
theorem Zqy{c:String}{C:Addr}{f:List D->RF}(hC:G.ca c=some C):OpP G (Zk2 K C (SpF G xa [.br,.br] f) (fun _ _ _=>False)) (JQ c f):=fun O F H x y a b d al e ha hb Q k=>by
 obtain⟨r,rfl⟩:=ZnM e
 exact ZoQ hC al e ha hb (fun b H'=>Q (.bl b) H') fun H' sm=>k _ _ sm (.bl r)
end
section
variable {K:PySem.W.Frag}{S:Sx K}{X:Cx}{e a b:Expr}{fa fb:Env->R D}{fs:Env->R (List D)}{p pos:Pos}{c:String}{C g:Addr}{fd:FuncData}{ps:List Str}{n:Nat}{f:List D->RF}
theorem Zap(hK:X.K=K)(hC:S.G.ca c=some C)(hs:Meth X.K C "__str__" g)(F:FnOkG X.prog X.w X.K X.mg X.base (L2.CX X.prog X.w) n g fd ps (SpF S.G S.xa [.br] f))(hb:Binds X.K fd ps [])(hr:RoomG (n+2) X.A)(hm:X.mg "str" =none)(ha:PA X [e] (lBs S fs))(hgl:Gl X "str")(he:starEach (e:: []) X.env=(false,eval e X.env)::starEach [] X.env:=by rfl) :
  PE X (.Call (.Name "str" p) [e] [] pos) (lE S (sAs (g1 (QM c f)) fs)):=by
 subst hK
 exact Zfl (ZiI hs.at_ hs.fn F hb hr Zfy) (ZpO hC) hgl hm (by decide +kernel) ha (by decide) (by decide) he (by rfl)
theorem ZgL(hK:X.K=K)(hC:S.G.ca c=some C)(hs:Meth X.K C "__eq__" g)(F:FnOkG X.prog X.w X.K X.mg X.base (L2.CX X.prog X.w) n g fd ps (SpF S.G S.xa [.br,.br] f))(hbd:Binds X.K fd ps [])(hr:RoomG n X.A)(ha:PE X a (lB S fa))(hb:PE X b (lB S fb)):PE X (.Compare a [.Eq] [b] pos) (lE S (sOp (JQ c f) fa fb)):=by
 subst hK
 exact Zci (ZlZ hs.at_ hs.fn F hbd hr Zfy) (Zqy hC) ha hb (nomark _)
end
end Pu
namespace Pu
open PySem L2 PySem.Spec PyProof.Rows Pw
def Zbp(a k v:D):Option D:=match a with
 |.dct kvs=>if k.key.isSome∧kvs.length < line∧(kvs.any fun e=>Yp e.1 k)=false then some (.dct (kvs++ [(k,v)])) else none
 |.dtt kvs=>if k.tkey.isSome∧kvs.length < line∧(kvs.any fun e=>Yp e.1 k)=false then some (.dtt (kvs++ [(k,v)])) else none
 |_=>none
def dcN(tg:D->Env->Option Env)(tt:Env->R Bool)(tk tv:Env->R D)(vs:List Nat):List D->D->Env->R D
 |[],acc,ρ=> .ok acc ρ
 |x::xs,acc,ρ=>match tg x ρ with
  |none=> .bad
  |some ρ1=>(tt ρ1).noX.bind fun k ρ2=>if k then (tk ρ2).noX.bind fun kd ρ3=>(tv ρ3).noX.bind fun vd ρ4=>match Zbp acc kd vd with
    |some acc'=>dcN tg tt tk tv vs xs acc' (Ze ρ4 vs)
    |none=> .bad
   else dcN tg tt tk tv vs xs acc (Ze ρ2 vs)
def Zmt(b:Bool)(f:Env->R (List D))(tg:D->Env->Option Env)(tt:Env->R Bool)(tk tv:Env->R D)(vs:List Nat):Env->R D:=fun ρ=>(f ρ).bind fun xs ρ1=>dcN tg tt tk tv vs xs (d0 b) (Ze ρ1 vs)
theorem All3.snoc{α β γ:Type}{P:α->β->γ->Prop}{a:α}{b:β}{c:γ}(h0:P a b c):∀{as:List α}{bs:List β}{cs:List γ},All3 P as bs cs->All3 P (as++ [a]) (bs++ [b]) (cs++ [c])
 |_,_,_,.nil=> .cons h0 .nil
 |_,_,_,.cons h t=> .cons h (t.snoc h0)
section
variable {K:PySem.W.Frag}{G:Gx K}{O:Addr->Prop}{H:Hp}
theorem Zno{k:Key}{kd:D}{t:Shp}(e:kd.key=some k):∀{ks:List (Key × V)}{kvs:List (D × D)}{Fs:List (List Addr)},All3 (fun(a:Key × V) (e:D × D) F=>e.1.key=some a.1∧Own G O H t a.2 e.2 F) ks kvs Fs->(ks.any fun kv=>decide (kv.1=k))=(kvs.any fun e=>Yp e.1 kd)
 |_,_,_,.nil=>rfl
 |(k1,v1)::ks,(d1,e1)::kvs,_,.cons h t=>by
  have hb:Yp d1 kd=decide (k1=k):=by unfold Yp; rw[show d1.key=some k1 from h.1,e]
  rw[Vb,Vb,Zno e t]
  show (decide (k1=k) || _)=(Yp d1 kd || _)
  rw[hb]
theorem Znp{k:List Key}{kd:D}{t:Shp}(e:kd.tkey=some k):∀{ks:List (List Key × V)}{kvs:List (D × D)}{Fs:List (List Addr)},All3 (fun(a:List Key × V) (e:D × D) F=>e.1.tkey=some a.1∧Own G O H t a.2 e.2 F) ks kvs Fs->(ks.any fun kv=>decide (kv.1=k))=(kvs.any fun e=>Yp e.1 kd)
 |_,_,_,.nil=>rfl
 |(k1,v1)::ks,(d1,e1)::kvs,_,.cons h t=>by
  have h1:d1.tkey=some k1:=h.1
  have hb:Yp d1 kd=decide (k1=k):=by unfold Yp; rw[J4 h1,J4 e]; dsimp only; rw[h1,e]
  rw[Vb,Vb,Znp e t]
  show (decide (k1=k) || _)=(Yp d1 kd || _)
  rw[hb]
theorem Zlm{p:Addr}{acc acc' kd vd:D}{y z:V}{F Fv:List Addr}{t:Shp}(h:Own G O H (.dct t) (.ref p) acc F)(nd:F.Nodup)(lO:O p)(pv:p∉Fv)(rk:Rep G O H y kd)(rv:Own G O H t z vd Fv)(e:Zbp acc kd vd=some acc'):∃u,(∀vs,u≠ .tup vs)∧DPut H p y z (upd H p u)∧Own G O (upd H p u) (.dct t) (.ref p) acc' (F++Fv):=by
 obtain⟨q',kvs,Fs',e1,e2,e3⟩:=h
 cases e1
 subst e2
 have pn:∀b∈Fs'.flatten,b≠p:=fun b hb z=>(X6.mp nd).1 (by rw[<- z]; exact hb)
 have fl:(p::Fs'.flatten)++Fv=p::(Fs'++ [Fv]).flatten:=by rw[VF]; simp
 rcases e3 with⟨ks,e4,e5,e6⟩|⟨ks,e4,e5,e6⟩
 ·subst e4
  unfold Zbp at e
  dsimp only at e
  split at e
  ·rename_i hc
   cases e
   obtain⟨k,hk'⟩:=Xy.mp hc.1
   have ey:=ZbW rk hk'
   subst ey
   have hn:(ks.any fun kv=>decide (kv.1=k))=false:=by rw[Zno hk' e6]; exact hc.2.2
   have hput:putK ks k z=ks++ [(k,z)]:=by unfold putK; rw[hn]; rfl
   have kw:Kept O H O (upd H p (.dK (putK ks k z))):=Ql lO
   refine⟨.dK (putK ks k z),(fun _ q=>nomatch q),DPut.k e5 (by rw[Zcs e6]; exact Ja hc.2.1),p,_,Fs'++ [Fv],rfl,fl,.inl ⟨_,rfl,Xi, ?_⟩⟩
   rw[hput]
   refine All3.snoc ⟨hk',Own.keep (by rw[<- hput]; exact kw) _ (fun b hb=>upd_ne fun z=>pv (by rw[<- z]; exact hb)) rv⟩ (e6.imp fun a b c hc h=>⟨h.1,Own.keep (by rw[<- hput]; exact kw) _ (fun x hx=>upd_ne (pn x (Zj hc hx))) h.2⟩)
  ·cases e
 ·subst e4
  unfold Zbp at e
  dsimp only at e
  split at e
  ·rename_i hc
   cases e
   obtain⟨k,hk'⟩:=Xy.mp hc.1
   obtain⟨b,eb,hb⟩:=Zdy rk hk'
   subst eb
   have hn:(ks.any fun kv=>decide (kv.1=k))=false:=by rw[Znp hk' e6]; exact hc.2.2
   have hput:putK ks k z=ks++ [(k,z)]:=by unfold putK; rw[hn]; rfl
   have kw:Kept O H O (upd H p (.dT (putK ks k z))):=Ql lO
   refine⟨.dT (putK ks k z),(fun _ q=>nomatch q),DPut.t e5 hb (by rw[Zcs e6]; exact Ja hc.2.1),p,_,Fs'++ [Fv],rfl,fl,.inr ⟨_,rfl,Xi, ?_⟩⟩
   rw[hput]
   refine All3.snoc ⟨hk',Own.keep (by rw[<- hput]; exact kw) _ (fun b hb=>upd_ne fun z=>pv (by rw[<- z]; exact hb)) rv⟩ (e6.imp fun a b c hc h=>⟨h.1,Own.keep (by rw[<- hput]; exact kw) _ (fun x hx=>upd_ne (pn x (Zj hc hx))) h.2⟩)
  ·cases e
end
section
variable {K:PySem.W.Frag}{S:Sx K}{X:Cx}{kx vx tg iter c:Expr}{ifs:List Expr}{scope:Scope}{own:List (Str × Nat)}{pos:Pos}{f:Env->R (List D)}{tgf:D->Env->Option Env}{tt:Env->R Bool}{tk tv:Env->R D}{Mt:List Md}{us:List Nat}{b:Bool}
theorem Zqz{vs:List Nat}{σ:L2.St}{H:Hp}{Q:VK}{wi:TI}{t:Shp}(hw:∀R,lI S f σ H R->wi σ H R)(hv:Yi S.M vs=true)(hu:∀t∈us,t∈vs)(wk:Nk Mt S.M)(h:lF S (.dct t) (Zmt b f tgf tt tk tv vs) σ H Q):Zfd wi (lG S.tx S.M Mt us tgf) (lT (S.inn Mt) tt) (lE (S.inn Mt) tk) (lF (S.inn Mt) t tv) vs σ H Q:=by
 obtain⟨B,O,Fs,ρ,w,run⟩:=h
 refine hw _ ⟨B,O,Fs,ρ,w,run.bind fun xs ρ1 J O1 Fs1 H1 _ ev1 w1 r1 run1 p hp=> ?_⟩
 have run1:RunF S (.dct t) (dcN tgf tt tk tv vs xs (d0 b) (Ze ρ1 vs)) B O1 Fs1 H1 σ ρ1 Q:=run1
 have no0:∀vs,o0 b≠ .tup vs:=fun vs z=>by cases b <;> cases z
 obtain⟨wp,evp,np,kp⟩:=w1.own1 (o:=o0 b) hp no0
 have neqa:∀j,S.M[j]?≠some .na->j∉vs:=fun j h z=>h (Qk hv z)
 have own0:Own S.G (fun a=>O1 a∨a=p) (upd H1 p (o0 b)) (.dct t) (.ref p) (d0 b) [p]:=by
  cases b with
  |true=>exact⟨p,[],[],rfl,rfl,.inr ⟨[],rfl,Xi,.nil⟩⟩
  |false=>exact⟨p,[],[],rfl,rfl,.inl ⟨[],rfl,Xi,.nil⟩⟩
 refine⟨o0 b,by cases b; exact .inl rfl; exact .inr rfl,fun i m H=>∃O Fs ρ acc F,m=xs.length - i∧Wd S.G B O Fs H σ ρ S.M∧Ev S.M O1 Fs1 H1 ρ1 O Fs H ρ∧p∈F∧New B O Fs F H1∧Own S.G O H (.dct t) (.ref p) acc F∧
   RunF S (.dct t) (dcN tgf tt tk tv vs (xs.drop i) acc (Ze ρ vs)) B O1 Fs1 H1 σ ρ1 Q,
  ⟨_,_,Fs1,ρ1,d0 b,[p],rfl,wp,evp,Xb.mpr rfl,np,own0,run1⟩, ?_⟩
 rintro i m H2 ⟨O2,Fs2,ρ2,acc,F2,rfl,w2,ev2,pF,nw2,ow2,run2⟩
 have op:=nw2.sub p pF
 have pf:=nw2.dj p pF
 have kp0:Kp0 O1 Fs1.flatten H1 O2 H2:=⟨ev2.chg,ev2.grow⟩
 by_cases hi:i < xs.length
 ·refine .inr ⟨r1.go i O2 H2 kp0 hi,fun H=>∃O Fs ρ acc F,Wd S.G B O Fs H σ ρ S.M∧Ev S.M O1 Fs1 H1 ρ1 O Fs H ρ∧p∈F∧New B O Fs F H1∧Own S.G O H (.dct t) (.ref p) acc F∧
   RunF S (.dct t) (dcN tgf tt tk tv vs (xs.drop (i+1)) acc (Ze ρ vs)) B O1 Fs1 H1 σ ρ1 Q,fun H' ⟨O',Fs',ρ',acc',F',h1,h2,h3,h4,h5,h6⟩=>⟨xs.length - (i+1),by omega,O',Fs',ρ',acc',F',rfl,h1,h2,h3,h4,h5,h6⟩,fun x H3 hy=> ?_⟩
  have hd:xs[i]?=some (xs[i]'hi):=Xo hi
  obtain⟨sm,rp⟩:=r1.yl i O2 H2 x H3 _ kp0 w2.al hy hd
  have dr:xs.drop i=xs[i]'hi::xs.drop (i+1):=XR hi
  rw[dr] at run2
  have ev3:Ev S.M O1 Fs1 H1 ρ1 O2 Fs2 H3 ρ2:=ev2.trans (Ev.same sm)
  have w3:Wd S.G B O2 Fs2 H3 (wipe σ vs) (Ze ρ2 vs) S.M:=(w2.same sm).emb hv
  obtain⟨op0,hp0⟩:=w2.al p op
  have ow3:Own S.G O2 H3 (.dct t) (.ref p) acc F2:=Own.keep (Kept.same (O:=O2) sm) _ (fun c hc=>by obtain⟨o,ho⟩:=w2.al c (nw2.sub c hc); rw[ho]; exact sm _ _ ho) ow2
  have hp3:=sm _ _ hp0
  unfold dcN at run2
  cases et:tgf (xs[i]'hi) (Ze ρ2 vs) with
  |none=>rw[et] at run2; exact run2.elim
  |some ρ4 =>
   rw[et] at run2
   dsimp only at run2
   refine⟨B,O2,Fs2,Ze ρ2 vs,_,w3,rp,ρ4,et,fun σ4 Fs4 ev4 o4 w4=>⟨J7 o4.s hu,B,O2,Fs4,ρ4,w4, ?_⟩⟩
   have huv:∀j,j∉vs->j∉us:=fun j h z=>h (hu j z)
   have back:∀{O5:Addr->Prop}{Fs5:List (List Addr)}{H5:Hp}{ρ5:Env},Ev Mt O2 Fs4 H3 ρ4 O5 Fs5 H5 ρ5->Wd S.G B O5 Fs5 H5 σ4 ρ5 Mt->∃Fs6,Wd S.G B O5 Fs6 H5 σ (Ze ρ5 vs) S.M∧Ev S.M O1 Fs1 H1 ρ1 O5 Fs6 H5 (Ze ρ5 vs)∧New B O5 Fs6 F2 H1∧Own S.G O5 H5 (.dct t) (.ref p) acc F2∧(∀b∈Fs6.flatten,b∈Fs5.flatten):=fun {O5 Fs5 H5 ρ5} ev5 w5=>by
    obtain⟨Fs6,w6,l6⟩:=w5.nk wk
    have f4:∀b∈Fs4.flatten,b∈Fs2.flatten∨H3 b=none:=ev4.fgrow
    have n4:∀b o,H3 b=some o->b∉Fs2.flatten->b∉Fs4.flatten:=fun b o h n z=>by
     rcases f4 b z with z|z
     ·exact n z
     ·rw[h] at z; cases z
    have e25:Ev S.M O2 Fs2 H3 ρ2 O5 Fs6 H5 (Ze ρ5 vs):=by
     refine⟨fun b o h n=>ev5.chg b o h (n4 b o h n),ev5.dom,ev5.mono,ev5.grow,fun b hb=> ?_,fun j m hj ho=> ?_⟩
     ·rcases ev5.fgrow b (l6 b hb) with z|z
      ·exact f4 b z
      ·exact .inr z
     ·have hjv:j∉vs:=neqa j (by rw[hj]; intro z; cases z; cases ho)
      have hm:Mt[j]?=some m:=(o4.m.2 j (huv j hjv)).trans hj
      rw[Zq hjv,ev5.keep j m hm ho,o4.r.2 j (huv j hjv),Zq hjv]
    have old3:∀c∈F2,∃o,H3 c=some o:=fun c hc=>by
     obtain⟨o,ho⟩:=w2.al c (nw2.sub c hc)
     exact⟨o,sm _ _ ho⟩
    refine⟨Fs6,w6.swap ?_ ZR fun j h=>⟨?_,Zq (neqa j h)⟩,ev3.trans e25,⟨nw2.nd,fun c hc=>ev5.mono c (nw2.sub c hc),fun c hc z=> ?_,nw2.fr⟩,Own.keep (e25.kept w2.sub) _ (fun c hc=> ?_) ow3,l6⟩
    ·have:=w6.ls
     rw[this,w2.ls]
    ·rw[o4.s.2 j (huv j (neqa j h)),wipe_out (neqa j h)]
    ·rcases e25.fgrow c z with z|z
     ·exact nw2.dj c hc z
     ·obtain⟨o,ho⟩:=old3 c hc
      rw[ho] at z; cases z
    ·obtain⟨o,ho⟩:=old3 c hc
     rw[ho]
     exact e25.chg c o ho (nw2.dj c hc)
   cases ek:tt ρ4 with
   |ex x ρ5=>rw[ek] at run2; exact run2.elim
   |bad=>rw[ek] at run2; exact run2.elim
   |ok k ρ5 =>
    rw[ek] at run2
    intro k' O5 Fs5 H5 ev5 w5 hk
    cases (show k'=k from hk)
    cases k with
    |false =>
     rw[if_neg (by decide)]
     obtain⟨Fs6,w6,ev6,nw6,ow6,_⟩:=back ev5 w5
     exact⟨O5,Fs6,Ze ρ5 vs,acc,F2,w6,ev6,pF,nw6,ow6,by rw[Z6]; exact run2⟩
    |true =>
     rw[if_pos rfl]
     refine⟨B,O5,Fs5,ρ5,w5, ?_⟩
     have run2:RunF S (.dct t) ((tk ρ5).noX.bind fun kd ρ3=>(tv ρ3).noX.bind fun vd ρ4=>match Zbp acc kd vd with
      |some acc'=>dcN tgf tt tk tv vs (xs.drop (i+1)) acc' (Ze ρ4 vs)
      |none=> .bad) B O1 Fs1 H1 σ ρ1 Q:=run2
     cases ey:tk ρ5 with
     |ex x ρ6=>rw[ey] at run2; exact run2.elim
     |bad=>rw[ey] at run2; exact run2.elim
     |ok kd ρ6 =>
      rw[ey] at run2
      intro y O7 Fs7 H7 ev7 w7 rk
      refine⟨B,O7,Fs7,ρ6,w7, ?_⟩
      have run2:RunF S (.dct t) ((tv ρ6).noX.bind fun vd ρ4=>match Zbp acc kd vd with
       |some acc'=>dcN tgf tt tk tv vs (xs.drop (i+1)) acc' (Ze ρ4 vs)
       |none=> .bad) B O1 Fs1 H1 σ ρ1 Q:=run2
      cases ez:tv ρ6 with
      |ex x ρ6=>rw[ez] at run2; exact run2.elim
      |bad=>rw[ez] at run2; exact run2.elim
      |ok vd ρ8 =>
       rw[ez] at run2
       intro z O8 Fs8 H8 Fv ev8 w8 rv nv
       have run2:RunF S (.dct t) (match Zbp acc kd vd with
        |some acc'=>dcN tgf tt tk tv vs (xs.drop (i+1)) acc' (Ze ρ8 vs)
        |none=> .bad) B O1 Fs1 H1 σ ρ1 Q:=run2
       obtain⟨Fs6,w6,ev6,nw6,ow6,l6⟩:=back (ev5.trans (ev7.trans ev8)) w8
       cases hq:Zbp acc kd vd with
       |none=>rw[hq] at run2; exact run2.elim
       |some acc' =>
        rw[hq] at run2
        have old7:∀c∈F2,∃o,H7 c=some o:=fun c hc=>by
         obtain⟨o,ho⟩:=w2.al c (nw2.sub c hc)
         obtain⟨o1,h1⟩:=ev5.dom c o (sm _ _ ho)
         exact ev7.dom c o1 h1
        have dj7:∀c∈Fv,c∉F2:=fun c hc z=>by
         obtain⟨o,ho⟩:=old7 c z
         rw[nv.fr c hc] at ho
         cases ho
        have fr7:∀c∈Fv,H1 c=none:=fun c hc=>by
         cases q:H1 c with
         |none=>rfl
         |some o =>
          obtain⟨o1,h1⟩:=ev3.dom c o q
          obtain⟨o2,h2⟩:=ev5.dom c o1 h1
          obtain⟨o3,h3⟩:=ev7.dom c o2 h2
          rw[nv.fr c hc] at h3
          cases h3
        have op6:=nw6.sub p pF
        obtain⟨u,nu,dp,ow7⟩:=Zlm ow6 nw6.nd op6 (fun z=>dj7 p z pF) (rk.ev w7 ev8) rv hq
        obtain⟨w9,ev9,k9⟩:=Zaa hp w1 w6 ev6 op6 (nw6.dj p pF) nu
        refine⟨_,dp,O8,Fs6,Ze ρ8 vs,acc',F2++Fv,w9,ev9,Vg _ pF,⟨?_,fun c hc=> ?_,fun c hc z=> ?_,fun c hc=> ?_⟩,ow7,by rw[Z6]; exact run2⟩
        ·rw[X2]
         exact⟨nw6.nd,nv.nd,fun a ha c hc z=>dj7 c hc (by rw[<- z]; exact ha)⟩
        ·rcases VJ.mp hc with hc|hc
         ·exact nw6.sub c hc
         ·exact nv.sub c hc
        ·rcases VJ.mp hc with hc|hc
         ·exact nw6.dj c hc z
         ·exact nv.dj c hc (l6 c z)
        ·rcases VJ.mp hc with hc|hc
         ·exact nw6.fr c hc
         ·exact fr7 c hc
 ·refine .inl ⟨r1.st i O2 H2 kp0 (by omega), ?_⟩
  rw[XZ (by omega)] at run2
  have run2:RunF S (.dct t) (.ok acc (Ze ρ2 vs)) B O1 Fs1 H1 σ ρ1 Q:=run2
  have e:=(ev2.swap (ρ':=Ze ρ2 vs) fun j h=>Zq (neqa j h))
  exact run2 (.ref p) O2 Fs2 H2 F2 e (w2.swap rfl ZR fun j h=>⟨rfl,Zq (neqa j h)⟩) ow2 nw2
theorem ZpP{t:Shp}(hu0:X.A.units+1 < cLine)(hc:X.calm=true)(hN:X.N.Nodup)(hi:PI X tg iter (lI S f))(ok:BlkOk X.N X.env.scope scope own)(hv:Yi S.M (own.map (·.2))=true)(hu:∀t∈us,t∈own.map (·.2))(wk:Nk Mt S.M)
  (hg:∀(s:Shared) (H:Hp) (C:Addr) (cl:List (Str × Addr)) (fp:List Addr),PG (X.blk s H scope (compEnvC scope cl C X.env) fp) tg (lG S.tx S.M Mt us tgf))(ht:∀(s:Shared) (H:Hp) (C:Addr) (cl:List (Str × Addr)) (fp:List Addr),PTs (X.blk s H scope (compEnvC scope cl C X.env) fp) ifs (lT (S.inn Mt) tt))
  (hk:∀(s:Shared) (H:Hp) (C:Addr) (cl:List (Str × Addr)) (fp:List Addr),PE (X.blk s H scope (compEnvC scope cl C X.env) fp) kx (lE (S.inn Mt) tk))(he:∀(s:Shared) (H:Hp) (C:Addr) (cl:List (Str × Addr)) (fp:List Addr),PE (X.blk s H scope (compEnvC scope cl C X.env) fp) vx (lF (S.inn Mt) t tv))(hs:∀x,foldedSetIterable iter X.env x=pure x:=by intro _; rfl) :
  PE X (.DictComp kx vx [⟨tg,iter,ifs,0⟩] scope pos) (lF S (.dct t) (Zmt b f tgf tt tk tv (own.map (·.2)))) :=
 PE.of (Zk1 hu0 hc hN hi ok hg ht hk he hs) fun σ H Q h=>Zqz (fun R h=>h) hv hu wk h
end
end Pu
namespace Pu
open PySem L2 PySem.Spec PyProof.Rows Pw
def Jp(kvs:List (D × D)):List (D × D)->List (D × D)
 |[]=>kvs
 |(k,v)::r=>Jp (Zcq kvs k v) r
def Zke(f1 f2:Env->R D):Env->R D:=fun ρ=>(f1 ρ).bind fun x ρ1=>match x with
 |.dct ks=>if ks.length<=1000 then (f2 ρ1).bind fun y ρ2=>match y with
   |.dct ls=>if ls.length<=1000 then .ok (.dct (Jp (Jp [] ks) ls)) ρ2 else .bad
   |_=> .bad
  else .bad
 |_=> .bad
section
variable {K:PySem.W.Frag}{G:Gx K}{O:Addr->Prop}{H:Hp}
theorem RepK.merge:∀{ls:List (Key × V)}{lvs:List (D × D)}{ks:List (Key × V)}{kvs:List (D × D)},RepK G O H ls lvs->RepK G O H ks kvs->RepK G O H (mergeK ks ls) (Jp kvs lvs)
 |_,[],_,_,h,h0=>by cases h; exact h0
 |_,(kd,d)::lvs,_,_,h,h0=>by
  cases h with
  |cons e r t =>
   have:=RepK.merge t (h0.put e r)
   exact this
end
section
variable {K:PySem.W.Frag}{S:Sx K}{X:Cx}{e1 e2:Expr}{f1 f2:Env->R D}{pos:Pos}
theorem ZpQ(h1:PE X e1 (lE S f1))(h2:PE X e2 (lE S f2)):PE X (.Dict [none,none] [e1,e2] pos) (lF S (.dct .sh) (Zke f1 f2)):=by
 refine PE.of (Zk5 h1 h2) fun σ H Q ⟨B,O,Fs,ρ,w,run⟩ p hp=> ?_
 obtain⟨wp,evp,np,kp⟩:=w.own1 (o:= .dK []) hp
 have pF:p∉Fs.flatten:=np.dj p (Xb.mpr rfl)
 have run:RunF S (.dct .sh) (Zke f1 f2 ρ) B O Fs H σ ρ Q:=run
 unfold Zke at run
 refine⟨B,_,Fs,ρ,wp, ?_⟩
 cases ea:f1 ρ with
 |bad=>rw[ea] at run; exact run.elim
 |ex x ρ1 =>
  rw[ea] at run
  intro cls dd O' Fs' H' ev wd xr
  exact run cls dd O' Fs' H' (evp.trans ev) wd xr
 |ok x ρ1 =>
  rw[ea] at run
  intro v O1 Fs1 H1 ev1 w1 r1
  have evA:=evp.trans ev1
  cases x with
  |dct ks =>
   have run:RunF S (.dct .sh) (if ks.length<=1000 then (f2 ρ1).bind fun y ρ2=>match y with
     |.dct ls=>if ls.length<=1000 then .ok (.dct (Jp (Jp [] ks) ls)) ρ2 else .bad
     |_=> .bad
    else .bad) B O Fs H σ ρ Q:=run
   by_cases hl:ks.length<=1000
   case neg=>rw[if_neg hl] at run; exact run.elim
   rw[if_pos hl] at run
   have op1:O1 p:=ev1.mono p (.inr rfl)
   have hp1:H1 p=some (.dK []):=ev1.chg p _ Xi pF
   have pf1:p∉Fs1.flatten:=fun z=>by
    rcases ev1.fgrow p z with z|z
    ·exact pF z
    ·rw[Xi] at z; cases z
   obtain⟨a,kvs,rfl,ra,na,ta⟩:∃a kvs,v=V.ref a∧Rd H1 a (.dK kvs)∧¬ O1 a∧RepK S.G O1 H1 kvs ks:=by
    cases r1 with
    |dk r n t=>exact⟨_,_,rfl,r,n,t⟩
   refine⟨a,kvs,rfl,ra,fun z=>na (by rw[z]; exact op1),hp1,by rw[ta.length]; exact hl, ?_⟩
   obtain⟨w2,ev2,k2⟩:=Zaa (u:= .dK (mergeK [] kvs)) hp w w1 evA op1 pf1 (fun _ z=>nomatch z)
   refine⟨B,O1,Fs1,ρ1,w2, ?_⟩
   have t2:RepK S.G O1 (upd H1 p (.dK (mergeK [] kvs))) kvs ks:=ta.keep k2
   cases eb:f2 ρ1 with
   |bad=>rw[eb] at run; exact run.elim
   |ex x ρ2 =>
    rw[eb] at run
    intro cls dd O' Fs' H' ev wd xr
    exact run cls dd O' Fs' H' (ev2.trans ev) wd xr
   |ok y ρ2 =>
    rw[eb] at run
    intro v3 O3 Fs3 H3 ev3 w3 r3
    have evB:=ev2.trans ev3
    cases y with
    |dct ls =>
     have run:RunF S (.dct .sh) (if ls.length<=1000 then .ok (.dct (Jp (Jp [] ks) ls)) ρ2 else .bad) B O Fs H σ ρ Q:=run
     by_cases hl2:ls.length<=1000
     case neg=>rw[if_neg hl2] at run; exact run.elim
     rw[if_pos hl2] at run
     have op3:O3 p:=ev3.mono p op1
     have hp3:H3 p=some (.dK (mergeK [] kvs)):=ev3.chg p _ Xi pf1
     have pf3:p∉Fs3.flatten:=fun z=>by
      rcases ev3.fgrow p z with z|z
      ·exact pf1 z
      ·rw[Xi] at z; cases z
     obtain⟨b,lvs,rfl,rb,nb,tb⟩:∃b lvs,v3=V.ref b∧Rd H3 b (.dK lvs)∧¬ O3 b∧RepK S.G O3 H3 lvs ls:=by
      cases r3 with
      |dk r n t=>exact⟨_,_,rfl,r,n,t⟩
     refine⟨b,lvs,rfl,rb,fun z=>nb (by rw[z]; exact op3),hp3,by rw[tb.length]; exact hl2, ?_⟩
     obtain⟨w4,ev4,k4⟩:=Zaa (u:= .dK (mergeK (mergeK [] kvs) lvs)) hp w w3 evB op3 pf3 (fun _ z=>nomatch z)
     have t3:RepK S.G O3 H3 kvs ks:=t2.keep (ev3.kept w2.sub)
     have fin:RepK S.G O3 H3 (mergeK (mergeK [] kvs) lvs) (Jp (Jp [] ks) ls):=RepK.merge tb (RepK.merge t3 .nil)
     exact run (.ref p) O3 Fs3 _ [p] ev4 w4 (ZgH Xi (fin.keep k4)) ⟨by simp,fun c hc=>by rw[Xb.mp hc]; exact op3,fun c hc=>by rw[Xb.mp hc]; exact pf3,fun c hc=>by rw[Xb.mp hc]; exact hp⟩
    |_=>exact run.elim
  |_=>exact run.elim
end
end Pu
namespace PySem
open Sem (wp)
open AutoSeq1 (wpAny_loadPart')
theorem ZiL{v:Value}{o:Obj}{H:Heap->Prop}(B:Begins v o H) :
  Meets (Builtin.«enumerate.__new__» ⟨[.type "enumerate",v],[]⟩) (fun _ R s=>H s.heap∧
   R (.ok (.ret (.ref (s.heap.push o).objs.size)))
    { s with heap:=(s.heap.push o).push { cls:= .type "enumerate",data:= .fields #[.none,.bool false,.ref s.heap.objs.size,rawInt 0,.none,.none] } }) :=
 .of_wp fun prog w A R s h=>by
  obtain⟨hp,g,d,tk,os⟩:=s
  obtain⟨h1,h⟩:=h
  have hsub:=sub_enumerate
  have q1:∀{A':Around}{E:Value->Shared->Prop}{Q:Value->Shared->Prop},
    Q (.ref hp.objs.size) ⟨hp.push o,g,d,tk,os⟩->wpAny (model prog w) A' (pyIter v) Q E ⟨hp,g,d,tk,os⟩:=fun q=>B.iter prog w _ _ _ _ h1 q
  wp_walk using q1
  refine wpAny_stack_any fun st=>Xk ?_
  split
  ·rename_i c _ _ _ _ _
   cases (c == Value.type "enumerate")
   ·wp_walk using q1
    exact⟨_,rfl,h⟩
   ·wp_walk using q1
    exact⟨_,rfl,h⟩
  ·wp_walk using q1
   exact⟨_,rfl,h⟩
theorem Zhv{prog:Program}{w:World}{A:Around}{E:Value->Shared->Prop}{s:Shared}{v:Value}{o:Obj}{H:Heap->Prop}{Q:Value->Shared->Prop}(B:Begins v o H)(h1:H s.heap)
  (h:∀h',IsEnum h' (s.heap.objs.size+1) s.heap.objs.size 0 .none->h'.get? s.heap.objs.size=some o->
   (∀b o,s.heap.get? b=some o->h'.get? b=some o)->Q (.ref (s.heap.objs.size+1)) { s with heap:=h' }):wpAny (model prog w) A (call (.type "enumerate") [v]) Q E s:=by
 refine callType_new F.called_enumerate (by decide) (F.typeCall_enumerate_1 _) (F.newCall_enumerate_1 _) (fun obj=>F.args_object_init_2 obj _) F.entry_enumerate_new (ZiL B) ⟨h1, ?_⟩
 have hz:(s.heap.push o).objs.size=s.heap.objs.size+1:=Heap.size_push ..
 show _∧_
 rw[hz]
 have he:=XA (s.heap.push o) (o:= { cls:= .type "enumerate",data:= .fields #[.none,.bool false,.ref s.heap.objs.size,rawInt 0,.none,.none] }) rfl
 rw[hz] at he
 exact⟨⟨_,he,rfl⟩,h _ he (Xe _ (XA _ B.free)) fun b o x=>Xe _ (Xe _ x)⟩
theorem ZiM{prog:Program}{w:World}{A:Around}{E:Value->Shared->Prop}{s:Shared}{e it t:Addr}{i:Nat}{c:Int}{items:Array Value}{old:Value}{Q:Option Value->Shared->Prop}
  (hh:A.handled=none)(he:IsEnum s.heap e it c old)(hit:s.heap.IsTupleIter it t i)(ht:s.heap.IsTuple t items)(hx:items[i]?=none)
  (hQ:∀h',Heap.ExtBut it s.heap h'->Q none { s with heap:=h' }):wpAny (model prog w) A (pyNext (.ref e)) Q E s:=by
 have ty:s.TypeIs (.ref e) "enumerate" :=⟨_,he,rfl⟩
 have core:wpAny (model prog w) A.in1 (Builtin.SmallTypes.nextOf (.ref it)) (fun _ _=>False) (fun x s'=>∃h',s'= { s with heap:=h' }∧Heap.ExtBut it s.heap h'∧∃a o,x= .ref a∧h'.get? a=some o∧o.cls= .type "StopIteration") s :=
  wpAny_nextOf_tuple_end hh hit ht hx fun h' x a ⟨o,ho,hc⟩=>⟨h',rfl,a,x,o,rfl,ho,hc⟩
 unfold pyNext
 refine Xd (wpAny_attempt ?_)
 refine wpAny_callSpecial?_slot (name:=Str.ofString "__next__") ty F.slot_enumerate_next ?_
 refine wpAny_call_entry F.slot_enumerate_next ty F.entry_enumerate_next ?_ (F.args_enumerate_next_1 _)
 show wpAny _ _ (field (.ref e) 2 >>= _) _ _ _
 refine Xd (wpAny_field he rfl (x:= .ref it) rfl (Xd (XO core (fun _ _ z=>z.elim) ?_)))
 rintro x s' ⟨h',rfl,eb,a,o,rfl,ho,hc⟩
 exact Xd (wpAny_isInstance (T:="StopIteration") (b:=true) ⟨o,ho,hc⟩ isSubtype_stop (Xk (hQ _ eb)))
end PySem
namespace Pu
open PySem L2 PySem.Spec PyProof.Rows Pw
def ZoR(K:PySem.W.Frag)(a:Addr):It :=
 ⟨fun i H=>∃(xs:List V) (x:V),SqT K H a xs∧xs[i]?=some x,
  fun i H v H'=>∃T x,v= .ref T∧H T=none∧H'=upd H T (.tup [.int (i:Nat),x])∧∀xs,SqT K H a xs->xs[i]?=some x,
  fun i H=>∃xs:List V,SqT K H a xs∧xs.length<=i⟩
theorem Zkf{P:Program}{w:World}{K:PySem.W.Frag}{elts:List Expr}{kk:Nat}{tpos:Pos}{a e it:Addr}(hne:e≠it)(hai:a≠it)(hae:e≠a) :
  Turn P w K (.Tuple elts kk tpos) (ZoR K a) [e,it] e (fun i h=>(∃old,IsEnum h e it ((i:Nat):Int) old)∧h.IsTupleIter it a i) where
 mem:=by simp
 obj:=fun i h st b hb=>by
  obtain⟨⟨old,he⟩,⟨o,ho,hc,hd⟩⟩:=st
  rcases(by simpa using hb:b=e∨b=it) with z|z
  ·rw[z]; exact⟨_,he,fun v q=>nomatch q⟩
  ·rw[z]; exact⟨o,ho,fun v q=>by rw[hd] at q; cases q⟩
 keep:=fun i h h' st k=>⟨⟨st.1.choose,k e (by simp) _ st.1.choose_spec⟩,st.2.at fun o q=>k it (by simp) o q⟩
 item:=by
  intro X hP hw hK hc i pins s σ H E I hf st hg
  subst hP hw hK
  obtain⟨⟨old,he⟩,hit⟩:=st
  obtain⟨xs,x,hq,hx⟩:=hg
  obtain⟨its,rv,p,hz⟩:=I.tuple hq
  obtain⟨u,hu,ru⟩:=rv.get hx
  have hel:e < s.heap.objs.size:=XN he
  have hil:it < s.heap.objs.size:=by obtain⟨_,q,_⟩:=hit; exact XN q
  have hD:=Draws.tuple (prog:=X.prog) (w:=X.w) (A:=X.A.in1) (I.ok.hd hc) it a hai its.toArray
  have hlt:i < its.toArray.size:=by
   have:=(Xu.mp hu).1
   simpa using this
  refine wpAny_pyNext_enum_itemD hD he ⟨hit,p⟩ hlt hne (by simp[hne,hae]) fun y h' tk hy ho st' hT hsz hk=> ?_
  have ey:y=u:=by
   have h1:its.toArray[i]?=some y:=hy
   have h2:its.toArray[i]?=some u:=by simpa using hu
   rw[h1] at h2
   exact XJ h2
  subst ey
  refine⟨_,rfl,wpAny_letOwnedTupleGo_enum (s:= { s with heap:=h',toks:=tk+1 }) ho fun h'' he' sb=> ?_⟩
  have hT2:h''.get? s.heap.objs.size=some { cls:= .type "tuple",data:= .seq #[.int i tk,y] }:=(sb.2 _ (Nat.ne_of_gt hel)).trans hT
  have new:ObjOk X.prog X.w (upd H s.heap.objs.size (.tup [.int (i:Nat),x])) h'' s.heap.objs.size (.tup [.int (i:Nat),x]) :=
   ⟨by show 2<=sizeLine; decide,[.int i tk,y],.cons ⟨_,rfl⟩ (.cons ru .nil),⟨_,hT2,rfl,_,rfl⟩⟩
  have J:Inv X pins σ (upd H s.heap.objs.size (.tup [.int (i:Nat),x])) { s with heap:=h'',toks:=tk+1 } :=
   I.turnedNew (ch:= [e,it]) (fun b ob hb q=>(sb.2 b (fun z=>hb (by simp[z]))).trans (hk b ob (fun z=>hb (by simp[z])) (fun z=>hb (by simp[z])) q)) hf (XS _) new
  refine⟨.ref s.heap.objs.size,_,J,rfl,⟨_,x,rfl,I.hok.fresh (XS _),rfl,fun ys hy=>by rw[I.tuple_inj hy hq]; exact hx⟩,⟨⟨y, ?_⟩,st'.1.at fun o q=>(sb.2 it (XI hne)).trans q⟩,fun b hb=> ?_⟩
  ·rw[show ((i+1:Nat):Int)=(i:Int)+1 by omega]
   exact he'
  ·have hb':b < s.heap.objs.size:=by
    rcases(by simpa using hb:b=e∨b=it) with z|z
    ·rw[z]; exact hel
    ·rw[z]; exact hil
   rw[upd_ne (Va hb')]
   exact(hf b hb).1
 done:=by
  intro X hP hw hK hc i pins s σ H E I hf st hg
  subst hP hw hK
  obtain⟨⟨old,he⟩,hit⟩:=st
  obtain⟨xs,hq,hx⟩:=hg
  obtain⟨its,rv,p,hz⟩:=I.tuple hq
  obtain⟨f0,f1,f2,f3,f4,f5⟩:=hf it (by simp)
  have hl:=rv.length
  exact ZiM (I.ok.hd hc) he hit p (by simp; omega) fun h' eb=>⟨rfl,I.turned (t':=s.toks) (fun b o hb q=>eb b o hb q) f0 f1 f3 f4 f5⟩
 self:=fun A i s Q E st h=>wpAny_pyIter_enum st.1.choose_spec h
end Pu
namespace Pu
open PySem L2 PySem.Spec PyProof.Rows Pw
def ZoS(K:PySem.W.Frag)(ta:TA):TI:=fun σ H R=>ta σ H fun vs H1=>∃a xs,vs= [.ref a]∧((SqL K H1 a xs∧R (Ite K a) H1)∨(SqT K H1 a xs∧R (ZoR K a) H1))
theorem Zmu{X:Cx}{e:Expr}{ta:TA}{p pos tpos:Pos}{elts:List Expr}{kk:Nat}(hg:Gl X "enumerate")(hm:X.mg "enumerate" =none)(ha:PA X [e] ta)(hs:starEach [e] X.env= [(false,eval e X.env)]:=by rfl):PI X (.Tuple elts kk tpos) (.Call (.Name "enumerate" p) [e] [] pos) (ZoS X.K ta):=by
 constructor
 intro pins s σ H R I h
 refine Call_ (ld_blt I hg hm boot_enumerate (PyProof.Rows.callWith_type1 (thn (ha.run pos pins s σ H _ I h) ?_) hs rfl))
 rintro us s1 ⟨vs,H1,J,r1,a,xs,rfl,q⟩
 obtain⟨u,rfl,ru⟩:=vals1 r1
 cases (show u=Value.ref a from ru)
 have fp:∀b∈ [s1.heap.objs.size+1,s1.heap.objs.size],FpOk X pins H1 b:=fun b hb=>by
  have hle:s1.heap.objs.size<=b:=by
   rcases(by simpa using hb:b=s1.heap.objs.size+1∨b=s1.heap.objs.size) with z|z <;> omega
  exact J.fpOk hle (J.hok.fresh hle)
 rcases q with⟨hq,q⟩|⟨hq,q⟩
 ·obtain⟨its,rv,p',hz⟩:=J.list hq
  refine call_enumerate_list p'.isList fun h' he hit hsz hk=>wpAny_pyIter_enum he ?_
  exact⟨_,_,_,_,H1,rfl,J.kept (t':=s1.toks) hk,turn_enum a (s1.heap.objs.size+1) s1.heap.objs.size,⟨⟨.none,he⟩,hit,Nat.succ_ne_self _⟩,fp,q⟩
 ·obtain⟨its,rv,p',hz⟩:=J.tuple hq
  have hal:a < s1.heap.objs.size:=by obtain⟨o,ho,_⟩:=id p'; exact XN ho
  refine Zhv (begins_tuple a its.toArray) p' fun h' he hit hk=>wpAny_pyIter_enum he ?_
  exact⟨_,_,_,_,H1,rfl,J.kept (t':=s1.toks) hk,Zkf (a:=a) (e:=s1.heap.objs.size+1) (it:=s1.heap.objs.size) (Nat.succ_ne_self _) (Va hal) (fun z=>Nat.lt_irrefl _ (Nat.lt_trans (Nat.lt_succ_self _) (z ▸ hal))),⟨⟨.none,he⟩,⟨_,hit,rfl,rfl⟩⟩,fp,q⟩
def Zaj:Nat->List D->List D
 |_,[]=> []
 |n,d::ds=> .tup [.int (n:Nat),d]::Zaj (n+1) ds
theorem Zc9:∀(n:Nat) (ds:List D),(Zaj n ds).length=ds.length
 |_,[]=>rfl
 |n,d::ds=>by unfold Zaj; rw[Xs,Xs,Zc9]
theorem Zhw:∀(n:Nat) (ds:List D) (i:Nat),(Zaj n ds)[i]?=(ds[i]?).map fun d=> .tup [.int ((n+i:Nat):Int),d]
 |_,[],_=>by simp[Zaj]
 |n,d::ds,0=>by simp[Zaj]
 |n,d::ds,i+1=>by
  unfold Zaj
  rw[List.getElem?_cons_succ,List.getElem?_cons_succ,Zhw,show n+1+i=n+(i+1) by omega]
def Zcv(d:D):Option (List D):=d.seq.map (Zaj 0)
section
variable {K:PySem.W.Frag}{S:Sx K}{X:Cx}{e:Expr}{fa:Env->R D}{p pos tpos:Pos}{elts:List Expr}{kk:Nat}
theorem Zda{G:Gx K}{O:Addr->Prop}{F:List Addr}{H:Hp}{vs:List V}{ds:List D}{J:It}(hF:∀b∈F,O b)(r:Reps G O H vs ds)
  (go:∀i O2 H2,Kp0 O F H O2 H2->i < vs.length->J.go i H2)(st:∀i O2 H2,Kp0 O F H O2 H2->vs.length<=i->J.stop i H2)
  (yl:∀i O2 H2 x H3,Kp0 O F H O2 H2->J.yld i H2 x H3->∃T y,x= .ref T∧H2 T=none∧H3=upd H2 T (.tup [.int (i:Nat),y])∧vs[i]?=some y):ItOk G J (Zaj 0 ds) O F H:=by
 have kept:∀O2 H2,Kp0 O F H O2 H2->Kept O H O2 H2:=fun O2 H2 k=>⟨fun b u n _ h=>by
   rcases h with h|⟨o,h⟩
   ·exact .inl (k.chg b _ h fun z=>n (hF b z))
   ·exact .inr ⟨o,k.chg b _ h fun z=>n (hF b z)⟩,fun b P n h=>k.chg b _ h fun z=>n (hF b z),fun b vs n h=>k.chg b _ h fun z=>n (hF b z),fun b o vs n h=>k.chg b _ h fun z=>n (hF b z),fun b C dx fs n h=>k.chg b _ h fun z=>n (hF b z),k.grow⟩
 refine⟨fun i O2 H2 k hi=>go i O2 H2 k (by rw[Zc9] at hi; rw[r.length]; exact hi),fun i O2 H2 x H3 d k al hy hd=> ?_,fun i O2 H2 k hi=>st i O2 H2 k (by rw[Zc9] at hi; rw[r.length]; exact hi)⟩
 obtain⟨T,y,rfl,hT,rfl,hv⟩:=yl i O2 H2 x H3 k hy
 rw[Zhw] at hd
 obtain⟨d',h1,h2⟩:=Xh.mp hd
 subst h2
 obtain⟨v,e1,e2⟩:=(r.keep (kept O2 H2 k)).get h1
 rw[hv] at e1
 cases e1
 refine⟨ZG hT,.tup Xi (Al.no al hT) (.cons ?_ (.cons (e2.keep (Kept.same (ZG hT))) .nil))⟩
 rw[Nat.zero_add]
 exact .int _
theorem Zdb(hK:X.K=K)(hm:X.mg "enumerate" =none)(ha:PE X e (lB S fa))(hg:Gl X "enumerate" :=by rfl)(hs:starEach [e] X.env= [(false,eval e X.env)]:=by rfl)(hs2:starEach (e:: []) X.env=(false,eval e X.env)::starEach [] X.env:=by rfl):PI X (.Tuple elts kk tpos) (.Call (.Name "enumerate" p) [e] [] pos) (lI S (sIt Zcv fa)):=by
 subst hK
 refine PI.of (Zmu hg hm (pa_cons ha pa_nil hs2) hs) fun σ H R ⟨B,O,Fs,ρ,w,run⟩=>⟨B,O,Fs,ρ,w,run.bind fun d ρ1 v O1 Fs1 H1 he ev1 w1 r1 run1=> ?_⟩
 unfold Zcv at run1
 cases hd:d.seq with
 |none=>rw[hd] at run1; exact run1.elim
 |some ds =>
  rw[hd] at run1
  have run1:Run S (vI S) (.ok (Zaj 0 ds) ρ1) B O1 Fs1 H1 σ ρ1 R:=run1
  cases d with
  |lst xs =>
   cases hd
   obtain⟨a,vs,e1,e2,e3,e4⟩:=r1.lstK w1.sub
   subst e1
   refine⟨a,vs,rfl,.inl ⟨.inl e3,run1.use w1 (Zda w1.sub e2 (fun i O2 H2 k hi=>⟨vs,vs[i],.inl (e4 O2 H2 k),Xo hi⟩) (fun i O2 H2 k hi=>⟨vs,.inl (e4 O2 H2 k),hi⟩) fun i O2 H2 x H3 k hy=> ?_)⟩⟩
   obtain⟨T,y,h1,h2,h3,h4⟩:=hy
   exact⟨T,y,h1,h2,h3,h4 vs (.inl (e4 O2 H2 k))⟩
  |tup xs =>
   obtain⟨a,vs,e1,e2,e3,e4⟩:=r1.tplK (ds:=ds) hd w1.sub
   subst e1
   refine⟨a,vs,rfl,.inr ⟨e3,run1.use w1 (Zda w1.sub e2 (fun i O2 H2 k hi=>⟨vs,vs[i],e4 O2 H2 k,Xo hi⟩) (fun i O2 H2 k hi=>⟨vs,e4 O2 H2 k,hi⟩) fun i O2 H2 x H3 k hy=> ?_)⟩⟩
   obtain⟨T,y,h1,h2,h3,h4⟩:=hy
   exact⟨T,y,h1,h2,h3,h4 vs (e4 O2 H2 k)⟩
  |ktp xs =>
   obtain⟨a,vs,e1,e2,e3,e4⟩:=r1.tplK (ds:=ds) hd w1.sub
   subst e1
   refine⟨a,vs,rfl,.inr ⟨e3,run1.use w1 (Zda w1.sub e2 (fun i O2 H2 k hi=>⟨vs,vs[i],e4 O2 H2 k,Xo hi⟩) (fun i O2 H2 k hi=>⟨vs,e4 O2 H2 k,hi⟩) fun i O2 H2 x H3 k hy=> ?_)⟩⟩
   obtain⟨T,y,h1,h2,h3,h4⟩:=hy
   exact⟨T,y,h1,h2,h3,h4 vs (e4 O2 H2 k)⟩
  |_=>cases hd
end
end Pu
namespace Pu
open PySem L2 PySem.Spec PyProof.Rows Pw
section
open PySem.Calls PySem.W Builtin
variable {X:Cx}{C g:Addr}{CX:CXT}{n:Nat}{fd:FuncData}{ps:List Str}{sp:Sp}{E:XK}
def ZjH(C:Addr)(sp:Sp)(E:XK):List V->Hp->VK->Prop:=fun xs H Q=>∃a dx fs,xs= [V.ref a]∧H a=some (.ins C dx fs)∧sp [.ref a] H (fun z H'=>∃k:Int,z= .int k∧0<=k∧k < 2 ^ 63∧Q (.int k) H') E
theorem ZiN(hs:PySem.W.findIn X.K (.ref C) "__len__" =some (some (.ref g)))(hf:PySem.W.isFn X.K (.ref g)=true)(F:FnOkG X.prog X.w X.K X.mg X.base CX n g fd ps sp)(hb:L2.Binds X.K fd ps [])(hr:RoomG (n+1) X.A)(hx:Passes CX X E) :
  CallR X (.builtin "len") (ZjH C sp E):=by
 intro pins s σ H xs us Q I r h
 obtain⟨a,dx,fs,rfl,ha,q⟩:=h
 obtain⟨u,rfl,ru⟩:=vals1 r
 cases (show u=Value.ref a from ru)
 obtain⟨mA,O,_⟩:=ins_get I.hok ha
 obtain⟨od,J,_⟩:=O.look
 have hr2:RoomG n X.A.in1:=RoomG.in1 hr
 refine Calls.call_function_entry kind_len plain_len entry_len (args_len1 _) ?_
 unfold Builtin.«len»
 refine Xd (m:=oneArg "len" _) (Xk ?_)
 refine Xd (m:=callSpecial? (.ref a) (Str.ofString "__len__")) (special_fn I.kIn J hs (Vh.mp hf)
  (XO (Zfe (us:= [.ref a]) (vs:= [.ref a]) F hr2 I.env0.in1 hb hx I (.cons rfl .nil) q) (fun w s' z=> ?_) fun _ _ x=>x))
 obtain⟨z',H',I',rz,k,rfl,h0,h1,qz⟩:=z
 obtain⟨tk,e⟩:=(show ∃tk,w=Value.int k tk from rz)
 cases e
 refine Xd (XT (Xk (Xd (wpAny_letGo ?_))))
 show wpAny _ _ (if k < 0 then _ else _) _ _ _
 rw[if_neg (by omega)]
 show wpAny _ _ (if k≥2 ^ 63 then _ else _) _ _ _
 rw[if_neg (by omega)]
 exact Xd (wpAny_mkInt (Xk ⟨_,rfl,.int k,H',I'.kept (t':=s'.toks+1) (fun _ _ q=>q),⟨_,rfl⟩,qz⟩))
end
section
variable {K:PySem.W.Frag}{G:Gx K}{xa:String->Option Addr}
def ZeM(c:String)(f:List D->RF)(d:D):Option D:=match d with
 |.obj c' _=>if c'=c then match f [d] with
   |.ok (.int t) _=>if 0<=t∧t < 2 ^ 63 then some (.int t) else none
   |_=>none
  else none
 |_=>none
theorem ZpR{c:String}{C:Addr}{f:List D->RF}(hC:G.ca c=some C):Q9 G (ZjH C (SpF G xa [.br] f) (fun _ _ _=>False)) (g1 (ZeM c f)):=by
 refine c1 fun O F H x a d al e hb Q k=> ?_
 cases a with
 |obj c' fs =>
  unfold ZeM at e
  dsimp only at e
  split at e
  ·rename_i hc
   subst hc
   split at e
   ·rename_i t ds' hf
    split at e
    ·rename_i hz
     cases e
     have hb0:=hb
     obtain⟨p,C',dx,fvs,e1,e2,e3,e4,e5⟩:=hb.obj
     rw[hC] at e2
     cases e2
     subst e1
     refine⟨p,dx,fvs,rfl,e3,Zhu (.br hb0 .nil) al hf fun v H' sm r=> ?_⟩
     cases r
     exact⟨t,rfl,hz.1,hz.2,k _ _ sm (.int t)⟩
    ·cases e
   ·cases e
  ·cases e
 |_=>cases e
variable {S:Sx K}{X:Cx}{e:Expr}{fs:Env->R (List D)}{p pos:Pos}{c:String}{C g:Addr}{fd:FuncData}{ps:List Str}{n:Nat}{f:List D->RF}
theorem Zln(hK:X.K=K)(hC:S.G.ca c=some C)(hs:Meth X.K C "__len__" g)(F:FnOkG X.prog X.w X.K X.mg X.base (L2.CX X.prog X.w) n g fd ps (SpF S.G S.xa [.br] f))(hb:Binds X.K fd ps [])(hr:RoomG (n+1) X.A)(hm:X.mg "len" =none)(ha:PA X [e] (lBs S fs))(hgl:Gl X "len")(he:starEach (e:: []) X.env=(false,eval e X.env)::starEach [] X.env:=by rfl) :
  PE X (.Call (.Name "len" p) [e] [] pos) (lE S (sAs (g1 (ZeM c f)) fs)):=by
 subst hK
 exact J5 (ZiN hs.at_ hs.fn F hb hr Zfy) (ZpR hC) hgl hm (by decide +kernel) ha (by decide) (by decide) he (by rfl)
end
end Pu
namespace Pu
open PySem L2 PySem.Spec PyProof.Rows Pw
abbrev Jj(kx vx t0 i0 t1 i1:Expr)(f0 f1:List Expr)(scope:Scope)(pos:Pos):Expr:= .DictComp kx vx [⟨t0,i0,f0,0⟩,⟨t1,i1,f1,0⟩] scope pos
section
variable {prog:Program}{w:World}{A:Around}{R:Result->Shared->Prop}{s:Shared}{kx vx t0 i0 t1 i1:Expr}{f0 f1:List Expr}{scope:Scope}{pos:Pos}{it acc:Value}{D:Addr}{env:PySem.Env}
theorem ZnN:compTurn (Jj kx vx t0 i0 t1 i1 f0 f1 scope pos) 0 it acc env=(do
   standAt i0.pos
   match <- pyNext it with
   |none=>pure (.done .next)
   |some v =>
    letOwnedTupleGo t0 it v
    assign t0 env v
    let mut ok:=true
    for c in f0 do
     if ok then ok <- isTrue c env (eval c env)
    if ok then
     let x <- eval i1 env
     standAt i1.pos
     let x <- foldedSetIterable i1 env x
     let _ <- runOwn (.compStart (Jj kx vx t0 i0 t1 i1 f0 f1 scope pos) 1 (<- holding [x] (pyIter x)) acc env) env
    again (.compLoop (Jj kx vx t0 i0 t1 i1 f0 f1 scope pos) 0 it acc env)):=by rfl
abbrev Nz(prog:Program)(w:World)(A:Around)(env:PySem.Env)(R:Result->Shared->Prop):Value->Shared->Prop:=notedBy (model prog w) A env fun e s'=>R (.error e) s'
abbrev ZjI(f0:List Expr)(env:PySem.Env):Sem Bool:=forIn f0 true fun c r=>if r=true then do let ok <- isTrue c env (eval c env); pure (ForInStep.yield ok) else pure (ForInStep.yield r)
theorem Zlo(hs:∀x,foldedSetIterable i1 env x=pure x)(Z:Nat->Shared->Prop)
  (turn:∀n s,Z n s->wpAny (model prog w) A (pyNext it) (fun r s₁=>match r with
   |none=>R (.ok .next) s₁
   |some v=>wpAny (model prog w) A (letOwnedTupleGo t0 it v) (fun _ s₂=>wpAny (model prog w) A (assign t0 env v) (fun _ s₃=>wpAny (model prog w) A (ZjI f0 env) (fun ok s₄ =>
      if ok=true then wpAny (model prog w) A (eval i1 env) (fun x s₅=>wpAny (model prog w) A (pyIter x) (fun it1 s₆ =>
       codeAny (model prog w) A (.compStart (Jj kx vx t0 i0 t1 i1 f0 f1 scope pos) 1 it1 acc env) (fun r s'=>match r with
        |.ok _=>∃m,m < n∧Z m s'
        |.error _=>False) s₆) (Nz prog w A env R) s₅) (Nz prog w A env R) s₄
      else ∃m,m < n∧Z m s₄) (Nz prog w A env R) s₃) (Nz prog w A env R) s₂) (Nz prog w A env R) s₁) (Nz prog w A env R) s)
  (n:Nat)(h:Z n s):codeAny (model prog w) A (.compLoop (Jj kx vx t0 i0 t1 i1 f0 f1 scope pos) 0 it acc env) R s:=by
 refine codeAny_loop rfl Z (fun n s hZ=> ?_) n h
 show wpAny _ A ((compTurn (Jj kx vx t0 i0 t1 i1 f0 f1 scope pos) 0 it acc env).onRaise (fun x=>do noteFrame x env; theTreesLotGoes x)) _ _ s
 refine wpAny_noted ?_
 rw[ZnN]
 refine Xd (X4 (Xd (XO (turn n s hZ) ?_ fun _ _ z=>z)))
 rintro(_|v) s₁ h₁
 ·exact Xk h₁
 ·refine Xd (XO h₁ (fun _ s₂ h₂=>Xd (XO h₂ (fun _ s₃ h₃=>Xd (XO h₃ ?_ fun _ _ z=>z)) fun _ _ z=>z)) fun _ _ z=>z)
  rintro(_|_) s₄ h₄
  ·exact Xk ⟨rfl,h₄⟩
  ·refine Xd (XO h₄ (fun x s₅ h₅=> ?_) fun _ _ z=>z)
   refine Xd (X4 (Xd (wpAny_of_eq (hs x) (Xd (XT (XO h₅ (fun it1 s₆ h₆=>Xd (wpAny_runOwn ?_)) fun _ _ z=>z))))))
   rw[Around.mark_none]
   refine Vi h₆ ?_
   rintro(e|f) s' hr
   ·exact hr.elim
   ·first
     |exact Xk ⟨rfl,hr⟩
     |exact Xd (Xk (Xk ⟨rfl,hr⟩))
theorem ZoT:compTurn (Jj kx vx t0 i0 t1 i1 f0 f1 scope pos) 1 it (.ref D) env=(do
      standAt i1.pos
      match <- pyNext it with
      |none=>pure (.done .next)
      |some v =>
        letOwnedTupleGo t1 it v
        assign t1 env v
        let mut ok:=true
        for c in f1 do
          if ok then ok <- isTrue c env (eval c env)
        if ok then
          (do let k <- eval kx env
              let v <- holding [k] (eval vx env)
              standAt { kx.pos with endLine:=vx.pos.endLine,endCol:=vx.pos.endCol }
              holding [k,v] (dictSet D k v))
        again (.compLoop (Jj kx vx t0 i0 t1 i1 f0 f1 scope pos) 1 it (.ref D) env)):=by rfl
theorem Zlp(Z:Nat->Shared->Prop)
  (turn:∀n s,Z n s->wpAny (model prog w) A (pyNext it) (fun r s₁=>match r with
   |none=>R (.ok .next) s₁
   |some v=>wpAny (model prog w) A (letOwnedTupleGo t1 it v) (fun _ s₂=>wpAny (model prog w) A (assign t1 env v) (fun _ s₃=>wpAny (model prog w) A (ZjI f1 env) (fun ok s₄ =>
      if ok=true then wpAny (model prog w) A (eval kx env) (fun k s₅=>wpAny (model prog w) A (eval vx env) (fun v s₆=>wpAny (model prog w) A (dictSet D k v) (fun _ s₇=>∃m,m < n∧Z m s₇) (Nz prog w A env R) s₆) (Nz prog w A env R) s₅) (Nz prog w A env R) s₄
      else ∃m,m < n∧Z m s₄) (Nz prog w A env R) s₃) (Nz prog w A env R) s₂) (Nz prog w A env R) s₁) (Nz prog w A env R) s)
  (n:Nat)(h:Z n s):codeAny (model prog w) A (.compLoop (Jj kx vx t0 i0 t1 i1 f0 f1 scope pos) 1 it (.ref D) env) R s:=by
 refine codeAny_loop rfl Z (fun n s hZ=> ?_) n h
 show wpAny _ A ((compTurn (Jj kx vx t0 i0 t1 i1 f0 f1 scope pos) 1 it (.ref D) env).onRaise (fun x=>do noteFrame x env; theTreesLotGoes x)) _ _ s
 refine wpAny_noted ?_
 rw[ZoT]
 refine Xd (X4 (Xd (XO (turn n s hZ) ?_ fun _ _ z=>z)))
 rintro(_|v) s₁ h₁
 ·exact Xk h₁
 ·refine Xd (XO h₁ (fun _ s₂ h₂=>Xd (XO h₂ (fun _ s₃ h₃=>Xd (XO h₃ ?_ fun _ _ z=>z)) fun _ _ z=>z)) fun _ _ z=>z)
  rintro(_|_) s₄ h₄
  ·exact Xk ⟨rfl,h₄⟩
  ·refine Xd (Xd (XO h₄ (fun k s₅ h₅=>Xd (XT (XO h₅ (fun v s₆ h₆=> ?_) fun _ _ z=>z))) fun _ _ z=>z))
   exact Xd (X4 (XT (XO h₆ (fun _ s₇ h₇=>Xk ⟨rfl,h₇⟩) fun _ _ z=>z)))
theorem Zkg(h0:codeAny (model prog w) A (.compLoop (Jj kx vx t0 i0 t1 i1 f0 f1 scope pos) 1 it acc env) R s)
    (h:wpAny (model prog w) A (pyIter it) (fun it' s'=>codeAny (model prog w) A (.compLoop (Jj kx vx t0 i0 t1 i1 f0 f1 scope pos) 1 it' acc env) R s') (Nz prog w A env R) s) :
    codeAny (model prog w) A (.compStart (Jj kx vx t0 i0 t1 i1 f0 f1 scope pos) 1 it acc env) R s:=by
  refine codeAny_of_tree ?_
  show wpAny _ _ ((compStart (Jj kx vx t0 i0 t1 i1 f0 f1 scope pos) 1 it acc env).onRaise (fun x=>do noteFrame x env; standAt theWindowsPlace)) _ _ s
  refine wpAny_notedAt ?_
  unfold compStart
  show wpAny _ _ (ask >>= _) _ _ s
  refine Xd (wpAny_askSetting (wpAny_ite ?_))
  split
  · first
      |exact Xd (Xk (Xk ⟨rfl,h0⟩))
      |exact Xk ⟨rfl,h0⟩
  · refine Xd (wpAny_rule ?_)
    first
      |exact Xd (X4 (Xd (XO h (fun it' s' z=>Xk ⟨rfl,z⟩) fun _ _ x=>x)))
      |(show wpAny _ _ (standAt i1.pos >>= _) _ _ s
         exact Xd (X4 (Xd (XO h (fun it' s' z=>Xk ⟨rfl,z⟩) fun _ _ x=>x))))
end
section
variable {X:Cx}
def ZoU(wi:TI)(g:TG)(tt:TT)(wi1:TI)(g1:TG)(tt1:TT)(tk tv:TE)(vs vs1:List Nat):TE:=fun σ H Q=>wi σ H fun J H1=>∀D,H1 D=none->∃o0:HO,(o0= .dK []∨o0= .dT [])∧∃W:Nat->Nat->Hp->Prop,(∃m,W 0 m (upd H1 D o0))∧∀i m H,W i m H->
 (J.stop i H∧Q (.ref D) H)∨(J.go i H∧∃Nx:Hp->Prop,(∀H',Nx H'->∃m',m' < m∧W (i+1) m' H')∧∀x H',J.yld i H x H'->g x (wipe σ vs) H' fun σ2 H2=>wipe σ2 vs=wipe σ vs∧tt σ2 H2 fun b H3 =>
  if b=true then wi1 σ2 H3 fun J1 H4=>∃W1:Nat->Nat->Hp->Prop,(∃m,W1 0 m H4)∧∀j k H,W1 j k H->(J1.stop j H∧Nx H)∨(J1.go j H∧∃Ny:Hp->Prop,(∀H',Ny H'->∃k',k' < k∧W1 (j+1) k' H')∧
   ∀x H',J1.yld j H x H'->g1 x (wipe σ2 vs1) H' fun σ3 H5=>wipe σ3 vs1=wipe σ2 vs1∧tt1 σ3 H5 fun b H6=>if b=true then tk σ3 H6 fun y H7=>tv σ3 H7 fun z H8=>∃H9,DPut H8 D y z H9∧Ny H9 else Ny H6)
  else Nx H3)
theorem ZnO{kx vx tg iter tg1 iter1:Expr}{ifs ifs1:List Expr}{vs1:List Nat}{scope:Scope}{own:List (Str × Nat)}{pos:Pos}{wi wi1:TI}{g g1:TG}{tt tt1:TT}{tk tv:TE}(hu:X.A.units+1 < cLine)(hc:X.calm=true)(hN:X.N.Nodup)(hi:PI X tg iter wi)(ok:BlkOk X.N X.env.scope scope own)(hv:∀i∈vs1,i∈own.map (·.2))
  (hg:∀(s:Shared) (H:Hp) (C:Addr) (cl:List (Str × Addr)) (fp:List Addr),PG (X.blk s H scope (compEnvC scope cl C X.env) fp) tg g)
  (ht:∀(s:Shared) (H:Hp) (C:Addr) (cl:List (Str × Addr)) (fp:List Addr),PTs (X.blk s H scope (compEnvC scope cl C X.env) fp) ifs tt)
  (hi1:∀(s:Shared) (H:Hp) (C:Addr) (cl:List (Str × Addr)) (fp:List Addr),PI (X.blk s H scope (compEnvC scope cl C X.env) fp) tg1 iter1 wi1)
  (hg1:∀(s:Shared) (H:Hp) (C:Addr) (cl:List (Str × Addr)) (fp:List Addr),PG (X.blk s H scope (compEnvC scope cl C X.env) fp) tg1 g1)
  (ht1:∀(s:Shared) (H:Hp) (C:Addr) (cl:List (Str × Addr)) (fp:List Addr),PTs (X.blk s H scope (compEnvC scope cl C X.env) fp) ifs1 tt1)
  (hk:∀(s:Shared) (H:Hp) (C:Addr) (cl:List (Str × Addr)) (fp:List Addr),PE (X.blk s H scope (compEnvC scope cl C X.env) fp) kx tk)
  (he:∀(s:Shared) (H:Hp) (C:Addr) (cl:List (Str × Addr)) (fp:List Addr),PE (X.blk s H scope (compEnvC scope cl C X.env) fp) vx tv)(hs:∀x,foldedSetIterable iter X.env x=pure x:=by intro _; rfl)(hs1:∀env x,foldedSetIterable iter1 env x=pure x:=by intro _ _; rfl) :
  PE X (.DictComp kx vx [⟨tg,iter,ifs,0⟩,⟨tg1,iter1,ifs1,0⟩] scope pos) (ZoU wi g tt wi1 g1 tt1 tk tv (own.map (·.2)) vs1):=by
 refine⟨fun pins s σ H Q I h=> ?_⟩
 rw[arm_eval_DictComp]
 have hfree:∀y∈scope.names,y.2= .free->∃c,X.env.cells.lookup y.1=some c:=fun y hy e=>(ok.free y hy e).elim (fun k=>I.ok.has _ (.inl k)) fun k=>I.ok.has _ (.inr k)
 refine wpAny_comprehension_free rfl hs (closure_ok hfree) ok.kind (fun y hy e=>by rw[ok.uniq y hy,e])
  (thn (hi.run pins s σ H _ I h) fun xv s1 hx=>thn hx fun itv s2 h2=> ?_)
 obtain⟨it,fp,tn,J,H2,rfl,I2,T,st2,f2,q⟩:=h2
 refine wpAny_newObj_type (newEnv_comp ?_)
 generalize hD:s2.heap.objs.size=D
 have hDn:H2 D=none:=I2.hok.fresh (Vx hD)
 obtain⟨o0,ho0,W,⟨m0,w0⟩,turn⟩:=q D hDn
 generalize hs3:({ s2 with heap:=s2.heap.push { cls:= .type "dict",data:= .dict #[] } }:Shared)=s3
 have I3:Inv X pins σ (upd H2 D o0) s3:=by
  rw[<- hs3]
  refine I2.laid (t':=s2.toks) (fun b o e=>Xe _ e) (Vx hD) ?_
  rw[<- hD]
  rcases ho0 with rfl|rfl
  ·exact dk_empty s2.heap I2.big
  ·exact dt_empty s2.heap I2.big
 have h3:s3.heap=s2.heap.push { cls:= .type "dict",data:= .dict #[] }:=by rw[<- hs3]
 have f3:∀b∈fp,FpOk X pins (upd H2 D o0) b∧b < s3.heap.objs.size:=fun b hb=>by
  obtain⟨o,e,_⟩:=T.obj _ _ st2 b hb
  have hlt:=XN e
  refine⟨⟨?_,(f2 b hb).2⟩,by rw[h3,Heap.size_push]; exact Nat.lt_succ_of_lt hlt⟩
  rw[upd_ne (by rw[<- hD]; exact Va hlt)]
  exact(f2 b hb).1
 have st3:tn 0 s3.heap:=T.keep _ _ _ st2 fun b _ o e=>by rw[h3]; exact Xe _ e
 have I4:=block_start I3 ok hN f3
 generalize hcc:(cellsFrom (s3.heap.objs.size+1) scope.names (cloFrom X.env.cells scope.names []))=cc at I4
 have pg:=hg s3 (upd H2 D o0) s3.heap.objs.size cc fp
 have pt:=ht s3 (upd H2 D o0) s3.heap.objs.size cc fp
 have pk:=hk s3 (upd H2 D o0) s3.heap.objs.size cc fp
 have pe:=he s3 (upd H2 D o0) s3.heap.objs.size cc fp
 have pi1:=hi1 s3 (upd H2 D o0) s3.heap.objs.size cc fp
 have pg1:=hg1 s3 (upd H2 D o0) s3.heap.objs.size cc fp
 have pt1:=ht1 s3 (upd H2 D o0) s3.heap.objs.size cc fp
 have nfp:∀b∈fp,(upd H2 D o0) b=none:=fun b hb=>(f3 b hb).1.1
 generalize hce:compEnvC scope cc s3.heap.objs.size X.env=ce at I4 pg pt pk pe pi1 pg1 pt1 ⊢
 have cL:ce.locals=s3.heap.objs.size:=by subst hce; rfl
 generalize hH3:upd H2 D o0=H3 at I3 I4 pg pt pk pe pi1 pg1 pt1 w0 nfp f3
 generalize hs4:({ s3 with heap:=pushCells (s3.heap.push { cls:= .type "dict",data:= .dict #[] }) scope.names }:Shared)=s4 at I4
 have st4:tn 0 s4.heap:=T.keep _ _ _ st3 fun b _ o e=>by rw[<- hs4]; exact pushCells_keeps _ _ _ _ (Xe _ e)
 have stat:∀{σ':L2.St}{H':Hp}{s':Shared},Inv (X.blk s3 H3 scope ce fp) [] σ' H' s'->(∀b∈fp,H' b=none)->∀b∈fp,FpOk (X.blk s3 H3 scope ce fp) [] H' b:=fun {σ' H' s'} I' hn b hb =>
  ⟨hn b hb,(I'.ok.exf b hb).1,I'.ok.exfs b hb,.inl hb,fun x c e=>(I'.ok.exf b hb).2 x c e,fun p hp=>absurd (show p∈([]:List (Addr × Obj))++ [] from hp) (by simp)⟩
 have RR:∀s' m H',Inv X pins σ H' s'->Q (.ref D) H'->s'.heap.Ns s3.heap.objs.size m->FpOk X pins H' s3.heap.objs.size->compPost (model X.prog X.w) X.A X.xe none (EP X pins σ Q) (.ref D) s3.heap.objs.size (.ok .next) s' :=
  fun s' m H' I' q hn ⟨f0,f1,f2,f3,f4,f5⟩=>⟨m,hn,fun h'' sb=>⟨.ref D,H',I'.turned (t':=s'.toks) (fun b o hb e=>(sb.2 b hb).trans e) f0 f1 f3 f4 f5,rfl,q⟩⟩
 have loop:codeAny (model X.prog X.w) X.A (.compLoop (Jj kx vx tg iter tg1 iter1 ifs ifs1 scope pos) 0 (.ref it) (.ref D) ce) (compPost (model X.prog X.w) X.A X.xe none (EP X pins σ Q) (.ref D) s3.heap.objs.size) s4:=by
  refine Zlo (hs1 ce) (fun n s'=>∃i H',Inv (X.blk s3 H3 scope ce fp) [] (wipe σ (own.map (·.2))) H' s'∧tn i s'.heap∧(∀b∈fp,H' b=none)∧W i n H') ?_ m0 ⟨0,H3,I4,st4,nfp,w0⟩
  rintro n s5 ⟨i,H5,I5,st5,n5,w5⟩
  rcases turn i n H5 w5 with⟨stop,qq⟩|⟨go,Nx,hNx,step⟩
  ·refine thnF (T.done (X.blk s3 H3 scope ce fp) rfl rfl rfl hc i [] s5 _ H5 (fun _ _=>False) I5 (stat I5 n5) st5 stop) fun r s6 ⟨hr,I6⟩=> ?_
   subst hr
   have I7:Inv X pins σ H5 s6:=I3.call' (ch:=fp) I6.os I6.base I6.hok I6.bare fun b hb=>⟨(f3 b hb).1.2.2.2.1,(f3 b hb).1.2.1,(f3 b hb).1.2.2.2.2.1,(f3 b hb).1.2.2.2.2.2⟩
   have nC:H5 s3.heap.objs.size=none:=by
    rw[<- cL]
    exact I6.free
   obtain⟨m,hn,_⟩:=I6.loc
   have hn:s6.heap.Ns ce.locals m:=hn
   rw[cL] at hn
   exact RR s6 m H5 I7 qq hn (I3.fpOk (XS _) nC)
  ·refine thnF (T.item (X.blk s3 H3 scope ce fp) rfl rfl rfl hc i [] s5 _ H5 (fun _ _=>False) I5 (stat I5 n5) st5 go) fun r s6 ⟨u,hr,h6⟩=> ?_
   subst hr
   refine thnF h6 fun _ s7 ⟨x,H7,I7,r7,y7,st7,n7⟩=> ?_
   refine thnF (pg.run _ s7 _ H7 x u _ (I7.pinned (stat I7 n7) (T.obj _ _ st7)) r7 (step x H7 y7)) fun _ s8 ⟨σ8,H8,I8,hw8,q8⟩=> ?_
   refine thnF (pt.run _ s8 σ8 H8 _ I8 q8) fun b s9 ⟨H9,I9,q9⟩=> ?_
   have fin:∀{σ9:L2.St}{s':Shared}{H':Hp},Inv (X.blk s3 H3 scope ce fp) ([]++pinsAt fp s7.heap) σ9 H' s'->(wipe σ (own.map (·.2))).length=σ9.length->(∀(j:Nat) v,(wipe σ (own.map (·.2)))[j]?=some (some v)->σ9[j]?=some (some v))->Nx H'->∃m,m < n∧∃i H',Inv (X.blk s3 H3 scope ce fp) [] (wipe σ (own.map (·.2))) H' s'∧tn i s'.heap∧(∀b∈fp,H' b=none)∧W i m H':=fun {σ9 s' H'} I' hl hk nx=>by
    obtain⟨m',hm,w'⟩:=hNx H' nx
    have pin':∀b∈fp,∀o,s7.heap.get? b=some o->s'.heap.get? b=some o∧H' b=none:=fun b hb o e =>
     let z:=I'.pin (b,o) (XC _ (XC _ (mem_pinsAt hb e)))
     ⟨z.1,z.2.1⟩
    refine⟨m',hm,i+1,H',(I'.unpinned (pins:= [])).weak hl hk,T.keep _ _ _ st7 fun b hb o e=>(pin' b hb o e).1,fun b hb=> ?_,w'⟩
    obtain⟨o,e,_⟩:=T.obj _ _ st7 b hb
    exact(pin' b hb o e).2
   have hl8:(wipe σ (own.map (·.2))).length=σ8.length:=by rw[<- hw8,Vj]
   have hk8:∀(j:Nat) v,(wipe σ (own.map (·.2)))[j]?=some (some v)->σ8[j]?=some (some v):=fun j v e=>by
    rw[<- hw8] at e
    exact(wipe_some e).1
   have hk9:∀(j:Nat) v,(wipe σ (own.map (·.2)))[j]?=some (some v)->(wipe σ8 vs1)[j]?=some (some v):=fun j v e=>by
    rw[<- hw8] at e
    obtain⟨e1,e2⟩:=wipe_some e
    rw[L2.wipe_out fun z=>e2 (hv j z)]
    exact e1
   cases b with
   |false=>exact fin I9 hl8 hk8 q9
   |true =>
    refine thnF (pi1.run _ s9 σ8 H9 _ I9 q9) fun xv s10 hx=>thnF hx fun itv sA hA=> ?_
    obtain⟨itB,fpB,tnB,JB,HA,rfl,IA,TB,stA,fA,WB,⟨mB,wB⟩,turnB⟩:=hA
    have okB:∀{H':Hp},(∀b∈fpB,H' b=none)->∀b∈fpB,FpOk (X.blk s3 H3 scope ce fp) ([]++pinsAt fp s7.heap) H' b:=fun hn b hb=>⟨hn b hb,(fA b hb).2⟩
    have inner:codeAny (model X.prog X.w) X.A (.compLoop (Jj kx vx tg iter tg1 iter1 ifs ifs1 scope pos) 1 (.ref itB) (.ref D) ce)
      (fun r s'=>match r with
       |.ok _=>∃m,m < n∧∃i H',Inv (X.blk s3 H3 scope ce fp) [] (wipe σ (own.map (·.2))) H' s'∧tn i s'.heap∧(∀b∈fp,H' b=none)∧W i m H'
       |.error _=>False) sA:=by
     refine Zlp (fun k s'=>∃j H',Inv (X.blk s3 H3 scope ce fp) ([]++pinsAt fp s7.heap) (wipe σ8 vs1) H' s'∧tnB j s'.heap∧(∀b∈fpB,H' b=none)∧WB j k H') ?_ mB
      ⟨0,HA,IA.weak (Vj _ _) (fun j v e=>(wipe_some e).1),stA,fun b hb=>(fA b hb).1,wB⟩
     rintro k sC ⟨j,HC,IC,stC,nC,wC⟩
     rcases turnB j k HC wC with⟨stopB,nxB⟩|⟨goB,Ny,hNy,stepB⟩
     ·refine thnF (TB.done (X.blk s3 H3 scope ce fp) rfl rfl rfl hc j _ sC (wipe σ8 vs1) HC (fun _ _=>False) IC (okB nC) stC stopB) ?_
      rintro r sD ⟨rfl,ID⟩
      exact fin ID (hl8.trans (Vj σ8 vs1).symm) hk9 nxB
     ·refine thnF (TB.item (X.blk s3 H3 scope ce fp) rfl rfl rfl hc j _ sC (wipe σ8 vs1) HC (fun _ _=>False) IC (okB nC) stC goB) ?_
      rintro r sD ⟨uB,rfl,hD'⟩
      refine thnF hD' fun _ sE ⟨xB,HE,IE,rE,yE,stE,nE⟩=> ?_
      refine thnF (pg1.run _ sE (wipe σ8 vs1) HE xB uB _ (IE.pinned (okB nE) (TB.obj _ _ stE)) rE (stepB xB HE yE)) fun _ sF ⟨σF,HF,IF,hwF,qF⟩=> ?_
      refine thnF (pt1.run _ sF σF HF _ IF qF) fun bF sG ⟨HG,IG,qG⟩=> ?_
      have finB:∀{s':Shared}{H':Hp},Inv (X.blk s3 H3 scope ce fp) (([]++pinsAt fp s7.heap)++pinsAt fpB sE.heap) σF H' s'->Ny H'->∃m,m < k∧∃j H',Inv (X.blk s3 H3 scope ce fp) ([]++pinsAt fp s7.heap) (wipe σ8 vs1) H' s'∧tnB j s'.heap∧(∀b∈fpB,H' b=none)∧WB j m H':=fun {s' H'} I' nx=>by
       obtain⟨m',hm,w'⟩:=hNy H' nx
       have pinB:∀b∈fpB,∀o,sE.heap.get? b=some o->s'.heap.get? b=some o∧H' b=none:=fun b hb o e =>
        let z:=I'.pin (b,o) (XC _ (XC _ (mem_pinsAt hb e)))
        ⟨z.1,z.2.1⟩
       refine⟨m',hm,j+1,H',I'.unpinned.weak (by rw[<- hwF,Vj]) (fun j v e=>by rw[<- hwF] at e; exact(wipe_some e).1),TB.keep _ _ _ stE fun b hb o e=>(pinB b hb o e).1,fun b hb=> ?_,w'⟩
       obtain⟨o,e,_⟩:=TB.obj _ _ stE b hb
       exact(pinB b hb o e).2
      cases bF with
      |false=>exact finB IG qG
      |true =>
       refine thnF (pk.run _ sG σF HG _ IG qG) fun z sK ⟨yk,HK,IK,rK,qK⟩=> ?_
       refine thnF (pe.run _ sK σF HK _ IK qK) fun z2 sL ⟨yv,HL,IL,rL,HM,put,nx⟩=> ?_
       exact Zfc (X:=X.blk s3 H3 scope ce fp) hu IL put rK rL fun sM IM=>finB IM nx
    exact Zkg inner (TB.self X.A 0 _ _ _ stA inner)
 have res:=codeAny_compStart_dict loop (T.self X.A 0 _ _ _ st4 loop)
 rw[<- hce] at res
 exact res
end
end Pu
namespace Pu
open PySem L2 PySem.Spec PyProof.Rows Pw
def Zkh:D->Bool
 |.dct _=>true
 |.dtt _=>true
 |_=>false
def ZqJ(fa fk:Env->R D):Env->R D:=fun ρ=>(fa ρ).bind fun a ρ1=>if Zkh a then (fk ρ1).bind fun k ρ2=>match Zbh a k with
  |some o=> .ok (o.getD .non) ρ2
  |none=> .bad
 else .bad
def ZeN(fa fk fx:Env->R D):Env->R D:=fun ρ=>(fa ρ).bind fun a ρ1=>if Zkh a then (fk ρ1).bind fun k ρ2=>(fx ρ2).bind fun x ρ3=>match Zbh a k with
  |some o=> .ok (o.getD x) ρ3
  |none=> .bad
 else .bad
section
variable {K:PySem.W.Frag}{S:Sx K}{X:Cx}{o e f:Expr}{fa fk fx:Env->R D}{apos cpos:Pos}
theorem ZoV{G:Gx K}{O:Addr->Prop}{F:List Addr}{H:Hp}{v:V}{d:D}(h:BRep G O F H v d)(e:Zkh d=true):∃a,v= .ref a∧IsD H a:=by
 cases d with
 |dct kvs=>obtain⟨a,ks,e1,e2,_⟩:=h.dct; exact⟨a,e1,.inl ⟨ks,e2⟩⟩
 |dtt kvs=>obtain⟨a,ks,e1,e2,_⟩:=h.dtt; exact⟨a,e1,.inr ⟨ks,e2⟩⟩
 |_=>cases e
theorem ZoW{G:Gx K}{O:Addr->Prop}{H:Hp}{r:Option V}{o:Option D}{z:V}{x:D}(h:Zk9 G O H r o)(hx:Rep G O H z x):Rep G O H (r.getD z) (o.getD x):=by
 cases r <;> cases o <;> first|exact hx|exact h|cases h
theorem ZeO(hu:X.A.units+1 < cLine)(ho:PE X o (lB S fa))(he:PE X e (lB S fk))(hf:PE X f (lE S fx))(m:M2 X o "get" apos e f cpos):PE X (.Call (.Attribute o "get" apos) [e,f] [] cpos) (lE S (ZeN fa fk fx)):=by
 refine PE.of (pe_dget2 hu ho he hf m) fun σ H Q ⟨B,O,Fs,ρ,w,run⟩=> ?_
 refine⟨B,O,Fs,ρ,w,run.bind fun a ρ1 v O1 Fs1 H1 _ ev1 w1 r1 run1=> ?_⟩
 by_cases hd:Zkh a=true
 case neg=>rw[if_neg hd] at run1; exact run1.elim
 rw[if_pos hd] at run1
 obtain⟨p,rfl,hp⟩:=ZoV r1 hd
 refine⟨p,rfl,hp,B,O1,Fs1,ρ1,w1,run1.bind fun k ρ2 y O2 Fs2 H2 _ ev2 w2 r2 run2=> ?_⟩
 refine⟨B,O2,Fs2,ρ2,w2,run2.bind fun x ρ3 z O3 Fs3 H3 _ ev3 w3 r3 run3=> ?_⟩
 cases hg:Zbh a k with
 |none=>rw[hg] at run3; exact run3.elim
 |some od =>
  rw[hg] at run3
  obtain⟨p',r,ep,g,rr⟩:=Zfi ((r1.ev w1 ev2).ev w2 ev3) (r2.ev w2 ev3) hg
  cases ep
  exact⟨r,g,run3.use w3 (ZoW rr r3)⟩
end
end Pu
namespace Pu
open PySem L2 PySem.Spec PyProof.Rows Pw
section
variable {K:PySem.W.Frag}{S:Sx K}{X:Cx}{e tgt:Expr}{fa:Env->R D}
abbrev vIS(S:Sx K):QI (List D) It:=fun O Fs H J xs=>∀p,O p->ItOk S.G J xs O (p::Fs.flatten) H
abbrev lIS(S:Sx K)(f:Env->R (List D)):TI:=lX S (vIS S) f
theorem Zlq(hK:X.K=K)(ha:PE X e (lE S fa)):PI X tgt e (lIS S (sIt D.seq fa)):=by
 subst hK
 constructor
 intro pins s σ H R I ⟨B,O,Fs,ρ,w,run⟩
 have sub:∀{O1:Addr->Prop}{Fs1:List (List Addr)}{p:Addr},(∀a∈Fs1.flatten,O1 a)->O1 p->∀b∈p::Fs1.flatten,O1 b:=fun h hp b hb=>by
  rcases XB.mp hb with hb|hb
  ·rw[hb]; exact hp
  ·exact h b hb
 have go:(∀d ρ1,fa ρ= .ok d ρ1->∃ds,d= .lst ds)∨(∀d ρ1,fa ρ= .ok d ρ1->∀ds,d≠ .lst ds):=by
  cases hq:fa ρ with
  |ok d ρ1 =>
   cases d with
   |lst ds=>exact .inl fun d ρ1 e=>by cases e; exact⟨ds,rfl⟩
   |_=>exact .inr fun d ρ1 e ds z=>by cases e; cases z
  |ex x ρ1=>exact .inl fun d ρ1 e=>by cases e
  |bad=>exact .inl fun d ρ1 e=>by cases e
 rcases go with go|go
 ·refine(pi_list ha).run pins s σ H R I ⟨B,O,Fs,ρ,w,run.bind fun d ρ1 v O1 Fs1 H1 he ev1 w1 r1 run1=> ?_⟩
  obtain⟨ds,rfl⟩:=go d ρ1 he
  obtain⟨a,vs,rfl,ra,na,t⟩:∃a vs,v=V.ref a∧Rd H1 a (.lst vs)∧¬ O1 a∧Reps S.G O1 H1 vs ds:=by
   cases r1 with
   |lst r n t=>exact⟨_,_,rfl,r,n,t⟩
  refine⟨a,rfl,⟨vs,.inl ra⟩,Run.use (VR:=vIS S) run1 w1 fun p hp=>ZfY (fun O2 H2 k=> ?_) (sub w1.sub hp) t⟩
  rcases ra with ra|⟨o,ra⟩
  ·exact .inl (k.chg a _ ra fun z=>na (sub w1.sub hp a z))
  ·exact .inr ⟨o,k.chg a _ ra fun z=>na (sub w1.sub hp a z)⟩
 ·refine(pi_tup ha).run pins s σ H R I ⟨B,O,Fs,ρ,w,run.bind fun d ρ1 v O1 Fs1 H1 he ev1 w1 r1 run1=> ?_⟩
  cases hs:d.seq with
  |none=>rw[hs] at run1; exact run1.elim
  |some ds =>
   rw[hs] at run1
   have ht:d.tpl=some ds:=by
    cases d with
    |lst xs=>exact absurd rfl (go _ ρ1 he xs)
    |tup xs=>exact hs
    |ktp xs=>exact hs
    |_=>cases hs
   obtain⟨a,vs,rfl,ra,t,st⟩:∃a vs,v=V.ref a∧SqT X.K H1 a vs∧Reps S.G O1 H1 vs ds∧∀F,(∀b∈F,O1 b)->∀O2 H2,Kp0 O1 F H1 O2 H2->SqT X.K H2 a vs:=by
    cases r1 with
    |tup r n t=>cases ht; exact⟨_,_,rfl,.inl (.inl r),t,fun F hF O2 H2 k=> .inl (.inl (k.chg _ _ r fun z=>n (hF _ z)))⟩
    |ktp r t=>cases ht; exact⟨_,_,rfl,r.sq,t,fun F hF O2 H2 k=>r.sq⟩
    |ftp r n t =>
     cases ht
     obtain⟨o,h,c,d⟩:=r
     exact⟨_,_,rfl,.inl (.inr ⟨o,h⟩),t,fun F hF O2 H2 k=> .inl (.inr ⟨o,k.chg _ _ h fun z=>n (hF _ z)⟩)⟩
    |_=>cases ht
   exact⟨a,rfl,⟨vs,ra⟩,Run.use (VR:=vIS S) run1 w1 fun p hp=>Zhj (fun O2 H2 k=>st _ (sub w1.sub hp) O2 H2 k) (sub w1.sub hp) t⟩
end
end Pu
namespace Pu
open PySem L2 PySem.Spec PyProof.Rows Pw
structure EvP (M:List Md) (p:Addr) (O:Addr->Prop) (Fs:List (List Addr)) (H:Hp) (ρ:Env) (O':Addr->Prop) (Fs':List (List Addr)) (H':Hp) (ρ':Env):Prop where
 chg:∀b o,H b=some o->b∉Fs.flatten->b≠p->H' b=some o
 dom:∀b o,H b=some o->∃o',H' b=some o'
 mono:∀b,O b->O' b
 grow:∀b,O' b->O b∨H b=none
 fgrow:∀b,b∈Fs'.flatten->b∈Fs.flatten∨H b=none
 keep:∀(j:Nat) (m:Md),M[j]?=some m->m.isOw=false->ρ'[j]?=ρ[j]?
section
variable {K:PySem.W.Frag}{G:Gx K}{B O O' O'':Addr->Prop}{Fs Fs' Fs'':List (List Addr)}{H H' H'':Hp}{σ:L2.St}{ρ ρ' ρ'':Env}{M:List Md}{p:Addr}{u:HO}
theorem EvP.refl:EvP M p O Fs H ρ O Fs H ρ:=⟨fun _ _ h _ _=>h,fun _ o h=>⟨o,h⟩,fun _ h=>h,fun _ h=> .inl h,fun _ h=> .inl h,fun _ _ _ _=>rfl⟩
theorem EvP.trans(a:EvP M p O Fs H ρ O' Fs' H' ρ')(e:Ev M O' Fs' H' ρ' O'' Fs'' H'' ρ''):EvP M p O Fs H ρ O'' Fs'' H'' ρ'':=by
 have back:∀b,H' b=none->H b=none:=fun b z=>by
  cases q:H b with
  |none=>rfl
  |some o=>obtain⟨o',h'⟩:=a.dom b o q; rw[z] at h'; cases h'
 refine⟨fun b o h n np=>e.chg b o (a.chg b o h n np) fun z=> ?_,fun b o h=> ?_,fun b h=>e.mono b (a.mono b h),fun b h=> ?_,fun b h=> ?_,fun j m h1 h2=>(e.keep j m h1 h2).trans (a.keep j m h1 h2)⟩
 ·rcases a.fgrow b z with z|z
  ·exact n z
  ·rw[h] at z; cases z
 ·obtain⟨o',h'⟩:=a.dom b o h
  exact e.dom b o' h'
 ·rcases e.grow b h with z|z
  ·exact a.grow b z
  ·exact .inr (back b z)
 ·rcases e.fgrow b h with z|z
  ·exact a.fgrow b z
  ·exact .inr (back b z)
theorem Ev.thenP(a:Ev M O Fs H ρ O' Fs' H' ρ')(e:EvP M p O' Fs' H' ρ' O'' Fs'' H'' ρ'')(hp:H p=none):Ev M O Fs H ρ O'' Fs'' H'' ρ'':=by
 have back:∀b,H' b=none->H b=none:=fun b z=>by
  cases q:H b with
  |none=>rfl
  |some o=>obtain⟨o',h'⟩:=a.dom b o q; rw[z] at h'; cases h'
 refine⟨fun b o h n=>e.chg b o (a.chg b o h n) (fun z=> ?_) (fun z=>by rw[z,hp] at h; cases h),fun b o h=> ?_,fun b h=>e.mono b (a.mono b h),fun b h=> ?_,fun b h=> ?_,fun j m h1 h2=>(e.keep j m h1 h2).trans (a.keep j m h1 h2)⟩
 ·rcases a.fgrow b z with z|z
  ·exact n z
  ·rw[h] at z; cases z
 ·obtain⟨o',h'⟩:=a.dom b o h
  exact e.dom b o' h'
 ·rcases e.grow b h with z|z
  ·exact a.grow b z
  ·exact .inr (back b z)
 ·rcases e.fgrow b h with z|z
  ·exact a.fgrow b z
  ·exact .inr (back b z)
theorem EvP.transP(a:EvP M p O Fs H ρ O' Fs' H' ρ')(e:EvP M p O' Fs' H' ρ' O'' Fs'' H'' ρ''):EvP M p O Fs H ρ O'' Fs'' H'' ρ'':=by
 have back:∀b,H' b=none->H b=none:=fun b z=>by
  cases q:H b with
  |none=>rfl
  |some o=>obtain⟨o',h'⟩:=a.dom b o q; rw[z] at h'; cases h'
 refine⟨fun b o h n np=>e.chg b o (a.chg b o h n np) (fun z=> ?_) np,fun b o h=> ?_,fun b h=>e.mono b (a.mono b h),fun b h=> ?_,fun b h=> ?_,fun j m h1 h2=>(e.keep j m h1 h2).trans (a.keep j m h1 h2)⟩
 ·rcases a.fgrow b z with z|z
  ·exact n z
  ·rw[h] at z; cases z
 ·obtain⟨o',h'⟩:=a.dom b o h
  exact e.dom b o' h'
 ·rcases e.grow b h with z|z
  ·exact a.grow b z
  ·exact .inr (back b z)
 ·rcases e.fgrow b h with z|z
  ·exact a.fgrow b z
  ·exact .inr (back b z)
theorem EvP.swap(e:EvP M p O Fs H ρ O' Fs' H' ρ')(h:∀(j:Nat),M[j]?≠some Md.na->ρ''[j]?=ρ'[j]?):EvP M p O Fs H ρ O' Fs' H' ρ'' :=
 ⟨e.chg,e.dom,e.mono,e.grow,e.fgrow,fun j m h1 h2=>(h j (by rw[h1]; intro z; cases z; cases h2)).trans (e.keep j m h1 h2)⟩
theorem Zf8(nbp:∀(j:Nat) (v:V) (d:D),M[j]?=some .br->σ[j]?=some (some v)->ρ[j]?=some (some d)->((∀ds,d≠ .ktp ds)∧(∀c,d≠ .cls c)∧∀ns,d≠ .klt ns)->v≠ .ref p)(w6:Wd G B O' Fs' H' σ ρ' M)(ev6:EvP M p O Fs H ρ O' Fs' H' ρ')(op6:O' p)(pf6:p∉Fs'.flatten)(no:∀vs,u≠ .tup vs) :
  Wd G B O' Fs' (upd H' p u) σ ρ' M∧EvP M p O Fs H ρ O' Fs' (upd H' p u) ρ'∧Kept O' H' O' (upd H' p u):=by
 have ne:∀b,b≠p->upd H' p u b=H' b:=fun b hb=>upd_ne hb
 have kw:Kept O' H' O' (upd H' p u):=Ql op6
 refine⟨⟨w6.nd,w6.sub,w6.bo,ZeJ w6.al no,w6.ls,w6.lr,w6.lf,fun j m v' d' f e1 e2 e3 e4=> ?_⟩,⟨fun b o h n np=>by rw[ne b np]; exact ev6.chg b o h n np,fun b o h=>by obtain⟨o',h'⟩:=ev6.dom b o h; exact Zfu b o' h',ev6.mono,ev6.grow,ev6.fgrow,ev6.keep⟩,kw⟩
 have sl:=w6.sl j m v' d' f e1 e2 e3 e4
 have kf:∀b∈f,upd H' p u b=H' b:=fun b hb=>ne b fun z=>pf6 (by rw[<- z]; exact Zj (Xa e4) hb)
 cases m with
 |mb =>
  obtain⟨q0,h⟩:=sl
  exact⟨q0,fun d' hd=>by obtain⟨v',e1,r⟩:=h d' hd; exact⟨v',e1,r.keep kw⟩⟩
 |th a c q l =>
  obtain⟨q0,q1,⟨h1,h2⟩,h3⟩:=sl
  exact⟨q0,q1,⟨kw.no h2 h1,kw.ext _ _ h1 h2⟩,fun p hp=>(h3 p hp).keep kw⟩
 |br =>
  obtain⟨q1,v1,d1,q2,q3,r⟩:=sl
  subst q2
  refine⟨q1,v1,d1,rfl,q3, ?_⟩
  rcases r with r|⟨a,na,⟨o,ho⟩,r⟩
  ·exact .inl (r.keep kw)
  ·have hap:a≠p:=fun z=>nbp j v1 d1 e1 e2 (by rw[<- ev6.keep j .br e1 rfl,e3,q3]) (Zfv r).2 (by rw[<- z]; exact(Zfv r).1)
   have k1:∀b∈ [a],upd H' p u b=H' b:=fun b hb=>by rw[Xb.mp hb]; exact ne a hap
   refine .inr ⟨a,na,⟨o,by rw[ne a hap]; exact ho⟩, ?_⟩
   rcases r with r|r|r
   ·exact .inl (Own.keep kw _ k1 r)
   ·exact .inr (.inl (Own.keep kw _ k1 r))
   ·exact .inr (.inr (Own.keep kw _ k1 r))
 |na=>exact sl
 |hd=>exact sl
 |sh=>obtain⟨q1,v1,d1,q2,q3,r⟩:=sl; exact⟨q1,v1,d1,q2,q3,r.keep kw⟩
 |ow t=>obtain⟨q0,v1,d1,q2,q3,r⟩:=sl; exact⟨q0,v1,d1,q2,q3,Own.keep kw t kf r⟩
 |op t=>obtain⟨v1,d1,q2,q3,r⟩:=sl; exact⟨v1,d1,q2,q3,Own.keep kw t kf r⟩
end
section
variable {K:PySem.W.Frag}{S:Sx K}{tgf:D->Env->Option Env}{tt:Env->R Bool}{tk tv:Env->R D}{Mt:List Md}{us:List Nat}
theorem Zmv{vs:List Nat}{σ:L2.St}{B O1:Addr->Prop}{Fs1:List (List Addr)}{H1:Hp}{ρ1:Env}{p:Addr}{acc0:D}{J:It}{xs:List D}{Nx:Hp->Prop}{Po:R D->Prop}(hv:Yi S.M vs=true)(hu:∀t∈us,t∈vs)(wk:Nk Mt S.M)(w1:Wd S.G B O1 Fs1 H1 σ ρ1 S.M)(op1:O1 p)(pf1:p∉Fs1.flatten)(ow1:Own S.G O1 H1 (.dct .sh) (.ref p) acc0 [p])
  (nbp:∀(j:Nat) (v:V) (d:D),S.M[j]?=some .br->σ[j]?=some (some v)->ρ1[j]?=some (some d)->((∀ds,d≠ .ktp ds)∧(∀c,d≠ .cls c)∧∀ns,d≠ .klt ns)->v≠ .ref p)(r1:ItOk S.G J xs O1 (p::Fs1.flatten) H1)(bad:¬ Po .bad)(run1:Po (dcL tgf tt tk tv vs xs acc0 (Ze ρ1 vs)))
  (fin:∀acc O Fs H ρ,Wd S.G B O Fs H σ ρ S.M->EvP S.M p O1 Fs1 H1 ρ1 O Fs H ρ->O p->p∉Fs.flatten->Own S.G O H (.dct .sh) (.ref p) acc [p]->Po (.ok acc ρ)->Nx H) :
  ∃W1:Nat->Nat->Hp->Prop,(∃m,W1 0 m H1)∧∀i m H,W1 i m H->(J.stop i H∧Nx H)∨(J.go i H∧∃Ny:Hp->Prop,(∀H',Ny H'->∃m',m' < m∧W1 (i+1) m' H')∧
   ∀x H',J.yld i H x H'->lG S.tx S.M Mt us tgf x (wipe σ vs) H' fun σ2 H2=>wipe σ2 vs=wipe σ vs∧lT (S.inn Mt) tt σ2 H2 fun b H3=>if b=true then lE (S.inn Mt) tk σ2 H3 fun y H4=>lE (S.inn Mt) tv σ2 H4 fun z H5=>∃H6,DPut H5 p y z H6∧Ny H6 else Ny H3):=by
 have neqa:∀j,S.M[j]?≠some .na->j∉vs:=fun j h z=>h (Qk hv z)
 refine⟨fun i m H=>∃O Fs ρ acc,m=xs.length - i∧Wd S.G B O Fs H σ ρ S.M∧EvP S.M p O1 Fs1 H1 ρ1 O Fs H ρ∧O p∧p∉Fs.flatten∧Own S.G O H (.dct .sh) (.ref p) acc [p]∧Po (dcL tgf tt tk tv vs (xs.drop i) acc (Ze ρ vs)),
  ⟨_,O1,Fs1,ρ1,acc0,rfl,w1,EvP.refl,op1,pf1,ow1,run1⟩, ?_⟩
 rintro i m H2 ⟨O2,Fs2,ρ2,acc,rfl,w2,ev2,op,pf,ow2,run2⟩
 have kp0:Kp0 O1 (p::Fs1.flatten) H1 O2 H2:=⟨fun b o h n=>ev2.chg b o h (fun z=>n (Xm _ z)) (fun z=>n (by rw[z]; exact Xg ..)),ev2.grow⟩
 by_cases hi:i < xs.length
 ·refine .inr ⟨r1.go i O2 H2 kp0 hi,fun H=>∃O Fs ρ acc,Wd S.G B O Fs H σ ρ S.M∧EvP S.M p O1 Fs1 H1 ρ1 O Fs H ρ∧O p∧p∉Fs.flatten∧Own S.G O H (.dct .sh) (.ref p) acc [p]∧
   Po (dcL tgf tt tk tv vs (xs.drop (i+1)) acc (Ze ρ vs)),fun H' ⟨O',Fs',ρ',acc',h1,h2,h3,h4,h5,h6⟩=>⟨xs.length - (i+1),by omega,O',Fs',ρ',acc',rfl,h1,h2,h3,h4,h5,h6⟩,fun x H3 hy=> ?_⟩
  have hd:xs[i]?=some (xs[i]'hi):=Xo hi
  obtain⟨sm,rp⟩:=r1.yl i O2 H2 x H3 _ kp0 w2.al hy hd
  have dr:xs.drop i=xs[i]'hi::xs.drop (i+1):=XR hi
  rw[dr] at run2
  have ev3:EvP S.M p O1 Fs1 H1 ρ1 O2 Fs2 H3 ρ2:=ev2.trans (Ev.same sm)
  have w3:Wd S.G B O2 Fs2 H3 (wipe σ vs) (Ze ρ2 vs) S.M:=(w2.same sm).emb hv
  obtain⟨op0,hp0⟩:=w2.al p op
  have ow3:Own S.G O2 H3 (.dct .sh) (.ref p) acc [p]:=Own.keep (Kept.same (O:=O2) sm) _ (fun c hc=>by rw[Xb.mp hc,hp0]; exact sm _ _ hp0) ow2
  have hp3:=sm _ _ hp0
  unfold dcL at run2
  cases et:tgf (xs[i]'hi) (Ze ρ2 vs) with
  |none=>rw[et] at run2; exact(bad run2).elim
  |some ρ4 =>
   rw[et] at run2
   dsimp only at run2
   refine⟨B,O2,Fs2,Ze ρ2 vs,_,w3,rp,ρ4,et,fun σ4 Fs4 ev4 o4 w4=>⟨J7 o4.s hu,B,O2,Fs4,ρ4,w4, ?_⟩⟩
   have huv:∀j,j∉vs->j∉us:=fun j h z=>h (hu j z)
   have back:∀{O5:Addr->Prop}{Fs5:List (List Addr)}{H5:Hp}{ρ5:Env},Ev Mt O2 Fs4 H3 ρ4 O5 Fs5 H5 ρ5->Wd S.G B O5 Fs5 H5 σ4 ρ5 Mt->∃Fs6,Wd S.G B O5 Fs6 H5 σ (Ze ρ5 vs) S.M∧EvP S.M p O1 Fs1 H1 ρ1 O5 Fs6 H5 (Ze ρ5 vs)∧O5 p∧p∉Fs6.flatten∧Own S.G O5 H5 (.dct .sh) (.ref p) acc [p]:=fun {O5 Fs5 H5 ρ5} ev5 w5=>by
    obtain⟨Fs6,w6,l6⟩:=w5.nk wk
    have f4:∀b∈Fs4.flatten,b∈Fs2.flatten∨H3 b=none:=ev4.fgrow
    have n4:∀b o,H3 b=some o->b∉Fs2.flatten->b∉Fs4.flatten:=fun b o h n z=>by
     rcases f4 b z with z|z
     ·exact n z
     ·rw[h] at z; cases z
    have e25:Ev S.M O2 Fs2 H3 ρ2 O5 Fs6 H5 (Ze ρ5 vs):=by
     refine⟨fun b o h n=>ev5.chg b o h (n4 b o h n),ev5.dom,ev5.mono,ev5.grow,fun b hb=> ?_,fun j m hj ho=> ?_⟩
     ·rcases ev5.fgrow b (l6 b hb) with z|z
      ·exact f4 b z
      ·exact .inr z
     ·have hjv:j∉vs:=neqa j (by rw[hj]; intro z; cases z; cases ho)
      have hm:Mt[j]?=some m:=(o4.m.2 j (huv j hjv)).trans hj
      rw[Zq hjv,ev5.keep j m hm ho,o4.r.2 j (huv j hjv),Zq hjv]
    have hp5:H5 p=some op0.1:=e25.chg p _ hp3 pf
    refine⟨Fs6,w6.swap ?_ ZR fun j h=>⟨?_,Zq (neqa j h)⟩,ev3.trans e25,ev5.mono p op,fun z=> ?_,Own.keep (e25.kept w2.sub) _ (fun c hc=>by rw[Xb.mp hc,hp3]; exact hp5) ow3⟩
    ·have:=w6.ls
     rw[this,w2.ls]
    ·rw[o4.s.2 j (huv j (neqa j h)),wipe_out (neqa j h)]
    ·rcases e25.fgrow p z with z|z
     ·exact pf z
     ·rw[hp3] at z; cases z
   cases ek:tt ρ4 with
   |ex x ρ5=>rw[ek] at run2; exact(bad run2).elim
   |bad=>rw[ek] at run2; exact(bad run2).elim
   |ok k ρ5 =>
    rw[ek] at run2
    intro k' O5 Fs5 H5 ev5 w5 hk
    cases (show k'=k from hk)
    cases k with
    |false =>
     rw[if_neg (by decide)]
     obtain⟨Fs6,w6,ev6,op6,pf6,ow6⟩:=back ev5 w5
     exact⟨O5,Fs6,Ze ρ5 vs,acc,w6,ev6,op6,pf6,ow6,by rw[Z6]; exact run2⟩
    |true =>
     rw[if_pos rfl]
     refine⟨B,O5,Fs5,ρ5,w5, ?_⟩
     have run2:Po ((tk ρ5).noX.bind fun kd ρ3=>(tv ρ3).noX.bind fun vd ρ4=>match Ji acc kd vd with
      |some acc'=>dcL tgf tt tk tv vs (xs.drop (i+1)) acc' (Ze ρ4 vs)
      |none=> .bad):=run2
     cases ey:tk ρ5 with
     |ex x ρ6=>rw[ey] at run2; exact(bad run2).elim
     |bad=>rw[ey] at run2; exact(bad run2).elim
     |ok kd ρ6 =>
      rw[ey] at run2
      intro y O7 Fs7 H7 ev7 w7 rk
      refine⟨B,O7,Fs7,ρ6,w7, ?_⟩
      have run2:Po ((tv ρ6).noX.bind fun vd ρ4=>match Ji acc kd vd with
       |some acc'=>dcL tgf tt tk tv vs (xs.drop (i+1)) acc' (Ze ρ4 vs)
       |none=> .bad):=run2
      cases ez:tv ρ6 with
      |ex x ρ6=>rw[ez] at run2; exact(bad run2).elim
      |bad=>rw[ez] at run2; exact(bad run2).elim
      |ok vd ρ8 =>
       rw[ez] at run2
       intro z O8 Fs8 H8 ev8 w8 rv
       have run2:Po (match Ji acc kd vd with
        |some acc'=>dcL tgf tt tk tv vs (xs.drop (i+1)) acc' (Ze ρ8 vs)
        |none=> .bad):=run2
       obtain⟨Fs6,w6,ev6,op6,pf6,ow6⟩:=back (ev5.trans (ev7.trans ev8)) w8
       cases hq:Ji acc kd vd with
       |none=>rw[hq] at run2; exact(bad run2).elim
       |some acc' =>
        rw[hq] at run2
        obtain⟨u,nu,dp,ow7⟩:=Zhq ow6 op6 (rk.ev w7 ev8) rv hq
        obtain⟨w9,ev9,k9⟩:=Zf8 nbp w6 ev6 op6 pf6 nu
        exact⟨_,dp,O8,Fs6,Ze ρ8 vs,acc',w9,ev9,op6,pf6,ow7,by rw[Z6]; exact run2⟩
 ·refine .inl ⟨r1.st i O2 H2 kp0 (by omega), ?_⟩
  rw[XZ (by omega)] at run2
  exact fin acc O2 Fs2 H2 (Ze ρ2 vs) (w2.swap rfl ZR fun j h=>⟨rfl,Zq (neqa j h)⟩) (ev2.swap fun j h=>Zq (neqa j h)) op pf ow2 run2
end
end Pu
namespace Pu
open PySem L2 PySem.Spec PyProof.Rows Pw
def Zcw(tg:D->Env->Option Env)(tt:Env->R Bool)(f1:Env->R (List D))(tg1:D->Env->Option Env)(tt1:Env->R Bool)(tk tv:Env->R D)(vs vs1:List Nat):List D->D->Env->R D
 |[],acc,ρ=> .ok acc ρ
 |x::xs,acc,ρ=>match tg x ρ with
  |none=> .bad
  |some ρ1=>(tt ρ1).noX.bind fun k ρ2=>if k then (f1 ρ2).noX.bind fun ys ρ3=>(dcL tg1 tt1 tk tv vs1 ys acc (Ze ρ3 vs1)).noX.bind fun acc' ρ4=>Zcw tg tt f1 tg1 tt1 tk tv vs vs1 xs acc' (Ze ρ4 vs)
   else Zcw tg tt f1 tg1 tt1 tk tv vs vs1 xs acc (Ze ρ2 vs)
def Zmw(b:List D->Env->Bool)(f:Env->R (List D))(tg:D->Env->Option Env)(tt:Env->R Bool)(f1:Env->R (List D))(tg1:D->Env->Option Env)(tt1:Env->R Bool)(tk tv:Env->R D)(vs vs1:List Nat):Env->R D:=fun ρ=>(f ρ).bind fun xs ρ1=>Zcw tg tt f1 tg1 tt1 tk tv vs vs1 xs (d0 (b xs ρ1)) (Ze ρ1 vs)
section
variable {K:PySem.W.Frag}{S:Sx K}{X:Cx}{kx vx tg iter tg1 iter1:Expr}{ifs ifs1:List Expr}{scope:Scope}{own:List (Str × Nat)}{pos:Pos}{f f1:Env->R (List D)}{tgf tgf1:D->Env->Option Env}{tt tt1:Env->R Bool}{tk tv:Env->R D}{Mt Mt1:List Md}{us us1:List Nat}{b:List D->Env->Bool}
theorem ZqA{vs vs1:List Nat}{σ:L2.St}{H:Hp}{Q:VK}{wi:TI}(hw:∀R,lI S f σ H R->wi σ H R)(hv:Yi S.M vs=true)(hu:∀t∈us,t∈vs)(wk:Nk Mt S.M)(hv1:Yi Mt vs1=true)(hu1:∀t∈us1,t∈vs1)(wk1:Nk Mt1 Mt)(hbr:∀j∈us,Mt[j]?≠some .br)(h:lF S (.dct .sh) (Zmw b f tgf tt f1 tgf1 tt1 tk tv vs vs1) σ H Q):ZoU wi (lG S.tx S.M Mt us tgf) (lT (S.inn Mt) tt) (lIS (S.inn Mt) f1) (lG S.tx Mt Mt1 us1 tgf1) (lT (S.inn Mt1) tt1) (lE (S.inn Mt1) tk) (lE (S.inn Mt1) tv) vs vs1 σ H Q:=by
 obtain⟨B,O,Fs,ρ,w,run⟩:=h
 refine hw _ ⟨B,O,Fs,ρ,w,run.bind fun xs ρ1 J O1 Fs1 H1 _ ev1 w1 r1 run1 p hp=> ?_⟩
 have run1:RunF S (.dct .sh) (Zcw tgf tt f1 tgf1 tt1 tk tv vs vs1 xs (d0 (b xs ρ1)) (Ze ρ1 vs)) B O1 Fs1 H1 σ ρ1 Q:=run1
 generalize b xs ρ1=b at run1
 have no0:∀vs,o0 b≠ .tup vs:=fun vs z=>by cases b <;> cases z
 obtain⟨wp,evp,np,kp⟩:=w1.own1 (o:=o0 b) hp no0
 have neqa:∀j,S.M[j]?≠some .na->j∉vs:=fun j h z=>h (Qk hv z)
 have own0:Own S.G (fun a=>O1 a∨a=p) (upd H1 p (o0 b)) (.dct .sh) (.ref p) (d0 b) [p]:=by
  cases b with
  |true=>exact Zhg Xi
  |false=>exact Zhf Xi
 refine⟨o0 b,by cases b; exact .inl rfl; exact .inr rfl,fun i m H=>∃O Fs ρ acc,m=xs.length - i∧Wd S.G B O Fs H σ ρ S.M∧Ev S.M O1 Fs1 H1 ρ1 O Fs H ρ∧O p∧p∉Fs.flatten∧Own S.G O H (.dct .sh) (.ref p) acc [p]∧
   RunF S (.dct .sh) (Zcw tgf tt f1 tgf1 tt1 tk tv vs vs1 (xs.drop i) acc (Ze ρ vs)) B O1 Fs1 H1 σ ρ1 Q,
  ⟨_,_,Fs1,ρ1,d0 b,rfl,wp,evp,.inr rfl,fun z=> ?_,own0,run1⟩, ?_⟩
 ·obtain⟨o,ho⟩:=w1.al p (w1.sub p z)
  rw[hp] at ho
  cases ho
 rintro i m H2 ⟨O2,Fs2,ρ2,acc,rfl,w2,ev2,op,pf,ow2,run2⟩
 have kp0:Kp0 O1 Fs1.flatten H1 O2 H2:=⟨ev2.chg,ev2.grow⟩
 by_cases hi:i < xs.length
 ·refine .inr ⟨r1.go i O2 H2 kp0 hi,fun H=>∃O Fs ρ acc,Wd S.G B O Fs H σ ρ S.M∧Ev S.M O1 Fs1 H1 ρ1 O Fs H ρ∧O p∧p∉Fs.flatten∧Own S.G O H (.dct .sh) (.ref p) acc [p]∧
   RunF S (.dct .sh) (Zcw tgf tt f1 tgf1 tt1 tk tv vs vs1 (xs.drop (i+1)) acc (Ze ρ vs)) B O1 Fs1 H1 σ ρ1 Q,fun H' ⟨O',Fs',ρ',acc',h1,h2,h3,h4,h5,h6⟩=>⟨xs.length - (i+1),by omega,O',Fs',ρ',acc',rfl,h1,h2,h3,h4,h5,h6⟩,fun x H3 hy=> ?_⟩
  have hd:xs[i]?=some (xs[i]'hi):=Xo hi
  obtain⟨sm,rp⟩:=r1.yl i O2 H2 x H3 _ kp0 w2.al hy hd
  have dr:xs.drop i=xs[i]'hi::xs.drop (i+1):=XR hi
  rw[dr] at run2
  have ev3:Ev S.M O1 Fs1 H1 ρ1 O2 Fs2 H3 ρ2:=ev2.trans (Ev.same sm)
  have w3:Wd S.G B O2 Fs2 H3 (wipe σ vs) (Ze ρ2 vs) S.M:=(w2.same sm).emb hv
  obtain⟨op0,hp0⟩:=w2.al p op
  have ow3:Own S.G O2 H3 (.dct .sh) (.ref p) acc [p]:=Own.keep (Kept.same (O:=O2) sm) _ (fun c hc=>by rw[Xb.mp hc,hp0]; exact sm _ _ hp0) ow2
  have hp3:=sm _ _ hp0
  unfold Zcw at run2
  cases et:tgf (xs[i]'hi) (Ze ρ2 vs) with
  |none=>rw[et] at run2; exact run2.elim
  |some ρ4 =>
   rw[et] at run2
   dsimp only at run2
   refine⟨B,O2,Fs2,Ze ρ2 vs,_,w3,rp,ρ4,et,fun σ4 Fs4 ev4 o4 w4=>⟨J7 o4.s hu,B,O2,Fs4,ρ4,w4, ?_⟩⟩
   have huv:∀j,j∉vs->j∉us:=fun j h z=>h (hu j z)
   have back:∀{O5:Addr->Prop}{Fs5:List (List Addr)}{H5:Hp}{ρ5:Env},EvP Mt p O2 Fs4 H3 ρ4 O5 Fs5 H5 ρ5->Wd S.G B O5 Fs5 H5 σ4 ρ5 Mt->p∉Fs5.flatten->∃Fs6,Wd S.G B O5 Fs6 H5 σ (Ze ρ5 vs) S.M∧Ev S.M O1 Fs1 H1 ρ1 O5 Fs6 H5 (Ze ρ5 vs)∧O5 p∧p∉Fs6.flatten:=fun {O5 Fs5 H5 ρ5} ev5 w5 pf5=>by
    obtain⟨Fs6,w6,l6⟩:=w5.nk wk
    have f4:∀b∈Fs4.flatten,b∈Fs2.flatten∨H3 b=none:=ev4.fgrow
    have n4:∀b o,H3 b=some o->b∉Fs2.flatten->b∉Fs4.flatten:=fun b o h n z=>by
     rcases f4 b z with z|z
     ·exact n z
     ·rw[h] at z; cases z
    have e25:EvP S.M p O2 Fs2 H3 ρ2 O5 Fs6 H5 (Ze ρ5 vs):=by
     refine⟨fun b o h n np=>ev5.chg b o h (n4 b o h n) np,ev5.dom,ev5.mono,ev5.grow,fun b hb=> ?_,fun j m hj ho=> ?_⟩
     ·rcases ev5.fgrow b (l6 b hb) with z|z
      ·exact f4 b z
      ·exact .inr z
     ·have hjv:j∉vs:=neqa j (by rw[hj]; intro z; cases z; cases ho)
      have hm:Mt[j]?=some m:=(o4.m.2 j (huv j hjv)).trans hj
      rw[Zq hjv,ev5.keep j m hm ho,o4.r.2 j (huv j hjv),Zq hjv]
    refine⟨Fs6,w6.swap ?_ ZR fun j h=>⟨?_,Zq (neqa j h)⟩,ev3.thenP e25 hp,ev5.mono p op,fun z=>pf5 (l6 p z)⟩
    ·have:=w6.ls
     rw[this,w2.ls]
    ·rw[o4.s.2 j (huv j (neqa j h)),wipe_out (neqa j h)]
   have pf4:p∉Fs4.flatten:=fun z=>by
    rcases ev4.fgrow p z with z|z
    ·exact pf z
    ·rw[hp3] at z; cases z
   cases ek:tt ρ4 with
   |ex x ρ5=>rw[ek] at run2; exact run2.elim
   |bad=>rw[ek] at run2; exact run2.elim
   |ok k ρ5 =>
    rw[ek] at run2
    intro k' O5 Fs5 H5 ev5 w5 hk
    cases (show k'=k from hk)
    cases k with
    |false =>
     rw[if_neg (by decide)]
     have pf5:p∉Fs5.flatten:=fun z=>by
      rcases ev5.fgrow p z with z|z
      ·exact pf4 z
      ·rw[hp3] at z; cases z
     obtain⟨Fs6,w6,ev6,op6,pf6⟩:=back (EvP.refl.trans ev5) w5 pf5
     have hp5:H5 p=some op0.1:=ev5.chg p _ hp3 pf4
     exact⟨O5,Fs6,Ze ρ5 vs,acc,w6,ev6,op6,pf6,Own.keep (ev5.kept w4.sub) _ (fun c hc=>by rw[Xb.mp hc,hp3]; exact hp5) ow3,by rw[Z6]; exact run2⟩
    |true =>
     rw[if_pos rfl]
     refine⟨B,O5,Fs5,ρ5,w5, ?_⟩
     have run2:RunF S (.dct .sh) ((f1 ρ5).noX.bind fun ys ρ3=>(dcL tgf1 tt1 tk tv vs1 ys acc (Ze ρ3 vs1)).noX.bind fun acc' ρ4=>Zcw tgf tt f1 tgf1 tt1 tk tv vs vs1 (xs.drop (i+1)) acc' (Ze ρ4 vs)) B O1 Fs1 H1 σ ρ1 Q:=run2
     cases ey:f1 ρ5 with
     |ex x ρ6=>rw[ey] at run2; exact run2.elim
     |bad=>rw[ey] at run2; exact run2.elim
     |ok ys ρ6 =>
      rw[ey] at run2
      intro J1 O7 Fs7 H7 ev7 w7 it7
      have ev57:=ev5.trans ev7
      have pf7:p∉Fs7.flatten:=fun z=>by
       rcases ev57.fgrow p z with z|z
       ·exact pf4 z
       ·rw[hp3] at z; cases z
      have op7:O7 p:=ev57.mono p op
      have hp7:H7 p=some op0.1:=ev57.chg p _ hp3 pf4
      have ow7:Own S.G O7 H7 (.dct .sh) (.ref p) acc [p]:=Own.keep (ev57.kept w4.sub) _ (fun c hc=>by rw[Xb.mp hc,hp3]; exact hp7) ow3
      refine Zmv (S:=S.inn Mt) (Mt:=Mt1) (us:=us1) (Po:=fun r=>RunF S (.dct .sh) (r.noX.bind fun acc' ρ4=>Zcw tgf tt f1 tgf1 tt1 tk tv vs vs1 (xs.drop (i+1)) acc' (Ze ρ4 vs)) B O1 Fs1 H1 σ ρ1 Q) hv1 hu1 wk1 w7 op7 pf7 ow7 (fun j v d h1 h2 h3 nk=> ?_) (it7 p op7) (fun z=>z) run2 ?_
      ·have hj:j∉us:=fun z=>hbr j z h1
       have hm:S.M[j]?=some .br:=(o4.m.2 j hj).symm.trans h1
       have hjv:j∉vs:=neqa j (by rw[hm]; intro z; cases z)
       have hsj:σ[j]?=some (some v):=by rw[<- wipe_out hjv,<- o4.s.2 j hj]; exact h2
       have hrj:ρ1[j]?=some (some d):=by
        rw[<- ev3.keep j .br hm rfl,<- Zq (ρ:=ρ2) hjv,<- o4.r.2 j hj,<- ev57.keep j .br h1 rfl]
        exact h3
       obtain⟨v2,d2,f2,g1,g2,g3,_,v3,d3,g4,g5,r2⟩:=w1.get hm
       subst g4 g5
       rw[hsj] at g1
       rw[hrj] at g2
       cases g1
       cases g2
       exact Zei hp nk r2
      ·intro acc' O8 Fs8 H8 ρ8 w8 ev8 op8 pf8 ow8 po
       obtain⟨Fs6,w6,ev6,op6,pf6⟩:=back ((EvP.refl.trans ev57).transP ev8) w8 pf8
       exact⟨O8,Fs6,Ze ρ8 vs,acc',w6,ev6,op6,pf6,ow8,by rw[Z6]; exact po⟩
 ·refine .inl ⟨r1.st i O2 H2 kp0 (by omega), ?_⟩
  rw[XZ (by omega)] at run2
  have run2:RunF S (.dct .sh) (.ok acc (Ze ρ2 vs)) B O1 Fs1 H1 σ ρ1 Q:=run2
  have e:=(ev2.swap (ρ':=Ze ρ2 vs) fun j h=>Zq (neqa j h))
  exact run2 (.ref p) O2 Fs2 H2 [p] e (w2.swap rfl ZR fun j h=>⟨rfl,Zq (neqa j h)⟩) ow2 ⟨by simp,fun b hb=>by rw[Xb.mp hb]; exact op,fun b hb=>by rw[Xb.mp hb]; exact pf,fun b hb=>by rw[Xb.mp hb]; exact hp⟩
theorem ZpS{vs1:List Nat}(hu0:X.A.units+1 < cLine)(hc:X.calm=true)(hN:X.N.Nodup)(hi:PI X tg iter (lI S f))(ok:BlkOk X.N X.env.scope scope own)(hv:Yi S.M (own.map (·.2))=true)(hu:∀t∈us,t∈own.map (·.2))(wk:Nk Mt S.M)(hvo:∀i∈vs1,i∈own.map (·.2))(hv1:Yi Mt vs1=true)(hu1:∀t∈us1,t∈vs1)(wk1:Nk Mt1 Mt)(hbr:∀j∈us,Mt[j]?≠some .br)
  (hg:∀(s:Shared) (H:Hp) (C:Addr) (cl:List (Str × Addr)) (fp:List Addr),PG (X.blk s H scope (compEnvC scope cl C X.env) fp) tg (lG S.tx S.M Mt us tgf))(ht:∀(s:Shared) (H:Hp) (C:Addr) (cl:List (Str × Addr)) (fp:List Addr),PTs (X.blk s H scope (compEnvC scope cl C X.env) fp) ifs (lT (S.inn Mt) tt))
  (hi1:∀(s:Shared) (H:Hp) (C:Addr) (cl:List (Str × Addr)) (fp:List Addr),PI (X.blk s H scope (compEnvC scope cl C X.env) fp) tg1 iter1 (lIS (S.inn Mt) f1))(hg1:∀(s:Shared) (H:Hp) (C:Addr) (cl:List (Str × Addr)) (fp:List Addr),PG (X.blk s H scope (compEnvC scope cl C X.env) fp) tg1 (lG S.tx Mt Mt1 us1 tgf1))(ht1:∀(s:Shared) (H:Hp) (C:Addr) (cl:List (Str × Addr)) (fp:List Addr),PTs (X.blk s H scope (compEnvC scope cl C X.env) fp) ifs1 (lT (S.inn Mt1) tt1))
  (hk:∀(s:Shared) (H:Hp) (C:Addr) (cl:List (Str × Addr)) (fp:List Addr),PE (X.blk s H scope (compEnvC scope cl C X.env) fp) kx (lE (S.inn Mt1) tk))(he:∀(s:Shared) (H:Hp) (C:Addr) (cl:List (Str × Addr)) (fp:List Addr),PE (X.blk s H scope (compEnvC scope cl C X.env) fp) vx (lE (S.inn Mt1) tv))(hs:∀x,foldedSetIterable iter X.env x=pure x:=by intro _; rfl)(hs1:∀env x,foldedSetIterable iter1 env x=pure x:=by intro _ _; rfl) :
  PE X (.DictComp kx vx [⟨tg,iter,ifs,0⟩,⟨tg1,iter1,ifs1,0⟩] scope pos) (lF S (.dct .sh) (Zmw b f tgf tt f1 tgf1 tt1 tk tv (own.map (·.2)) vs1)) :=
 PE.of (ZnO hu0 hc hN hi ok hvo hg ht hi1 hg1 ht1 hk he hs hs1) fun σ H Q h=>ZqA (fun R h=>h) hv hu wk hv1 hu1 wk1 hbr h
end
end Pu
namespace Pu
open PySem L2 PySem.Spec PyProof.Rows Pw
mutual
inductive NIs (K:PySem.W.Frag) (H:Hp):NestedKey->V->Prop
 |none:NIs K H .none .non
 |bl (b:Bool):NIs K H (.num (if b=true then 1 else 0)) (.bl b)
 |int (i:Int):NIs K H (.num i) (.int i)
 |text (x:Str):NIs K H (.text x) (.str x)
 |tup {a:Addr}{vs:List V}{ks:List NestedKey}:SqT K H a vs->NIsAll K H ks vs->NIs K H (.tup ks) (.ref a)
inductive NIsAll (K:PySem.W.Frag) (H:Hp):List NestedKey->List V->Prop
 |nil:NIsAll K H [] []
 |cons {k:NestedKey}{v:V}{ks:List NestedKey}{vs:List V}:NIs K H k v->NIsAll K H ks vs->NIsAll K H (k::ks) (v::vs)
end
mutual
theorem NIs.at{X:Cx}{pins:List (Addr × Obj)}{σ:L2.St}{H:Hp}{s:Shared}(ok:Inv X pins σ H s):∀{k:NestedKey}{v:V}{u:Value},NIs X.K H k v->RelV v u->NestedIs s.heap k u
 |.none,_,_,n,r=>by
  cases n
  cases (show _=Value.none from r)
  exact .none
 |.num i,_,_,n,r=>by
  cases n with
  |bl b =>
   cases (show _=Value.bool b from r)
   exact .bool rfl
  |int i =>
   obtain⟨t,rfl⟩:=(show ∃t,_=Value.int i t from r)
   exact .int i t
 |.text x,_,_,n,r=>by
  cases n
  obtain⟨t,rfl⟩:=(show ∃t,_=Value.str x t from r)
  exact .text x t
 |.tup ks,_,_,n,r=>by
  cases n with
  |@tup a vs _ e t =>
   cases (show _=Value.ref a from r)
   obtain⟨its,rv,⟨o,h1,h2,m,h3⟩,_⟩:=ok.tuple e
   exact .tup h1 h2 h3 (by simpa using NIsAll.at ok t rv)
theorem NIsAll.at{X:Cx}{pins:List (Addr × Obj)}{σ:L2.St}{H:Hp}{s:Shared}(ok:Inv X pins σ H s):∀{ks:List NestedKey}{vs:List V}{us:List Value},NIsAll X.K H ks vs->Vals vs us->NestedAll s.heap ks us
 |[],_,_,n,r=>by
  cases n
  cases r
  exact .nil
 |k::ks,_,_,n,r=>by
  cases n with
  |cons a b =>
   cases r with
   |cons c d=>exact .cons (NIs.at ok a c) (NIsAll.at ok b d)
end
section
variable {K:PySem.W.Frag}{G:Gx K}{O:Addr->Prop}{H:Hp}
mutual
theorem Rep.nis:∀{d:D}{v:V}{k:NestedKey},Rep G O H v d->d.nkey=some k->NIs K H k v
 |.non,_,_,h,e=>by cases h; cases e; exact .none
 |.bl b,_,_,h,e=>by cases h; cases e; exact .bl b
 |.int i,_,_,h,e=>by cases h; cases e; exact .int i
 |.str x,_,_,h,e=>by cases h; cases e; exact .text x
 |.tup ds,_,_,h,e=>by
  cases h with
  |tup r n t =>
   obtain⟨ks,e1,e2⟩:=Xh.mp (show (D.nkeys ds).map NestedKey.tup=_ from e)
   cases e2
   exact .tup (.inl (.inl r)) (Reps.nis t e1)
 |.lst _,_,_,_,e=>by cases e
 |.ktp ds,_,_,h,e=>by
  obtain⟨ks,e1,e2⟩:=Xh.mp (show (D.nkeys ds).map NestedKey.tup=_ from e)
  cases e2
  cases h with
  |ktp r t=>exact .tup r.sq (Reps.nis t e1)
  |ftp r n t=>exact .tup r.sq (Reps.nis t e1)
 |.dct _,_,_,_,e=>by cases e
 |.dtt _,_,_,_,e=>by cases e
 |.dnk _,_,_,_,e=>by cases e
 |.obj _ _,_,_,_,e=>by cases e
 |.cls _,_,_,_,e=>by cases e
 |.klt _,_,_,_,e=>by cases e
theorem Reps.nis:∀{ds:List D}{vs:List V}{ks:List NestedKey},Reps G O H vs ds->D.nkeys ds=some ks->NIsAll K H ks vs
 |[],_,_,h,e=>by cases h; cases e; exact .nil
 |d::ds,_,_,h,e=>by
  cases h with
  |cons a t =>
   unfold D.nkeys at e
   split at e
   ·rename_i k ks e1 e2
    cases e
    exact .cons (Rep.nis a e1) (Reps.nis t e2)
   ·cases e
end
end
def NKs(K:PySem.W.Frag)(H:Hp)(es:List NE):Prop:=∀e∈es,(∃b,e.2.1= .ref b)∧NIs K H e.1 e.2.1∧e.1.depth<=8
def ZbL(es:List NE)(k:NestedKey):Bool:=es.any fun e=>decide (e.1=k)
def Zab(es:List NE)(k:NestedKey)(y z:V):List NE:=if ZbL es k then es.map (fun e=>if e.1=k then (e.1,e.2.1,z) else e) else es++ [(k,y,z)]
def adr:Value->Addr
 |.ref a=>a
 |_=>0
abbrev QN:NE->NestedKey × Value × Value->Prop:=fun p q=>p.1=q.1∧RelV p.2.1 q.2.1∧RelV p.2.2 q.2.2
def ZoX(x:NestedKey × Value × Value):NestedKey × Addr × Value:=(x.1,adr x.2.1,x.2.2)
def Za4(x:NestedKey × Addr × Value):NestedKey × Value × Value:=(x.1,.ref x.2.1,x.2.2)
section
variable {K:PySem.W.Frag}{P:Program}{w:World}{H:Hp}{h:Heap}{a:Addr}
theorem Zki{hs:NestedKey->Int}{es:List NE}(z:es.length<=sizeLine)(hd:(a == sysModules)=false){xs:List (NestedKey × Value × Value)}(r:Paired QN es xs){o:Obj}{ds:Array DictEntry}{ep:Nat}(e:h.get? a=some o)(c:o.ExactDict)(e2:o.data= .dict ds ep)(e3:ds.toList=xs.map fun x=>(⟨hs x.1,x.2.1,x.2.2⟩:DictEntry))(nd:(xs.map (·.1)).Nodup):ObjOk P w H h a (NDO hs a es) :=
 ⟨⟨z,hd,xs,r,o,ds,ep,e,c,e2,e3,nd⟩,⟨o,e⟩,fun h1 h2 ⟨z,hd,xs,r,o,ds,ep,e,c,e2,e3,nd⟩ st=>⟨z,hd,xs,r,o,ds,ep,st _ e,c,e2,e3,nd⟩⟩
theorem Zmx(hs:NestedKey->Int)(h:Heap)(hb:sysModules < h.objs.size):ObjOk P w H (h.push { cls:= .type "dict",data:= .dict #[] }) h.objs.size (NDO hs h.objs.size []) :=
 Zki (Vu _) (VE.mpr (XI (Va hb))) (xs:= []) .nil (XA _ rfl) ⟨rfl,rfl,rfl⟩ rfl rfl List.nodup_nil
theorem ZnP{es:List NE}{xs:List (NestedKey × Value × Value)}(ks:NKs K H es)(r:Paired QN es xs):∀x∈xs,x.2.1= .ref (adr x.2.1):=by
 induction r with
 |nil=>exact fun x hx=>nomatch hx
 |@cons p q es xs h1 t ih =>
  intro x hx
  rcases XB.mp hx with rfl|hx
  ·obtain⟨⟨b,e⟩,_⟩:=ks p (Xg ..)
   have r2:=h1.2.1
   rw[e] at r2
   rw[show x.2.1=Value.ref b from r2]
   rfl
  ·exact ih (fun e he=>ks e (Xm _ he)) x hx
theorem ZoY{X:Cx}{pins:List (Addr × Obj)}{σ:L2.St}{s:Shared}(ok:Inv X pins σ H s){es:List NE}{xs:List (NestedKey × Value × Value)}(ks:NKs X.K H es)(r:Paired QN es xs):∀x∈xs,NestedIs s.heap x.1 x.2.1∧x.1.depth<=8:=by
 induction r with
 |nil=>exact fun x hx=>nomatch hx
 |@cons p q es xs h1 t ih =>
  intro x hx
  rcases XB.mp hx with rfl|hx
  ·obtain⟨_,n,l⟩:=ks p (Xg ..)
   rw[h1.1] at n l
   exact⟨NIs.at ok n h1.2.1,l⟩
  ·exact ih (fun e he=>ks e (Xm _ he)) x hx
theorem u_h{xs:List (NestedKey × Value × Value)}(e:∀x∈xs,x.2.1= .ref (adr x.2.1)):(xs.map ZoX).map Za4=xs:=by
 rw[Vc]
 conv=>rhs; rw[<- List.map_id xs]
 refine VT fun x hx=> ?_
 show (x.1,Value.ref (adr x.2.1),x.2.2)=x
 rw[<- e x hx]
theorem ZgM{X:Cx}{pins:List (Addr × Obj)}{σ:L2.St}{s:Shared}(ok:Inv X pins σ H s){es:List NE}(e:H a=some (NDO (NestedKey.hash X.w) a es))(ks:NKs X.K H es):es.length<=sizeLine∧(a == sysModules)=false∧∃xs:List (NestedKey × Addr × Value),Paired QN es (xs.map Za4)∧s.heap.DictOfH (nestedKind X.prog X.w) a xs:=by
 obtain⟨⟨z,hd,xs,r,o,ds,ep,e1,c,e2,e3,nd⟩,_,_⟩:=ok.hok a _ e
 have er:=ZnP ks r
 refine⟨z,hd,xs.map ZoX,by rw[u_h er]; exact r,o,ds,ep,e1,c,e2, ?_,fun x hx=> ?_, ?_⟩
 ·rw[e3,Vc]
  refine VT fun x hx=> ?_
  show (⟨x.1.hash X.w,x.2.1,x.2.2⟩:DictEntry)=⟨x.1.hash X.w,.ref (adr x.2.1),x.2.2⟩
  rw[<- er x hx]
 ·obtain⟨y,hy,rfl⟩:=XW.mp hx
  obtain⟨n,l⟩:=ZoY ok ks r y hy
  refine⟨?_,l⟩
  show NestedIs s.heap y.1 (.ref (adr y.2.1))
  rw[<- er y hy]
  exact n
 ·rw[Vc]
  exact nd
theorem Zel{es:List NE}{xs:List (NestedKey × Addr × Value)}(r:Paired QN es (xs.map Za4))(k:NestedKey):(atKey xs k).isSome=ZbL es k:=by
 unfold atKey ZbL
 rw[Option.isSome_map]
 induction xs generalizing es with
 |nil =>
  cases r
  rfl
 |cons x xs ih =>
  cases r with
  |@cons p q es' xs' h1 t =>
   rw[List.find?_cons,Vb]
   have e1:p.1=x.1:=h1.1
   rw[e1]
   by_cases hk:x.1=k
   ·rw[X5 hk]
    rfl
   ·rw[decide_eq_false hk]
    exact ih t
theorem Zhx{k:NestedKey}{z:V}{u:Value}(rz:RelV z u):∀{xs:List (NestedKey × Addr × Value)}{es:List NE},Paired QN es (xs.map Za4)->Paired QN (es.map fun e=>if e.1=k then (e.1,e.2.1,z) else e) ((xs.map (putAt k u)).map Za4)
 |[],_,r=>by
  cases r
  exact .nil
 |x::xs,_,r=>by
  cases r with
  |@cons p q es' xs' h1 t =>
   have e1:p.1=x.1:=h1.1
   refine .cons ?_ (Zhx rz t)
   show QN (if p.1=k then (p.1,p.2.1,z) else p) (Za4 (putAt k u x))
   unfold putAt
   rw[e1]
   by_cases hk:x.1=k
   ·rw[if_pos hk,if_pos hk]
    exact⟨rfl,h1.2.1,rz⟩
   ·rw[if_neg hk,if_neg hk]
    exact h1
theorem Zhy{k:NestedKey}{b:Addr}{z:V}{u:Value}(rz:RelV z u):∀{xs:List (NestedKey × Addr × Value)}{es:List NE},Paired QN es (xs.map Za4)->Paired QN (es++ [(k,.ref b,z)]) ((xs++ [(k,b,u)]).map Za4)
 |[],_,r=>by
  cases r
  exact .cons ⟨rfl,rfl,rz⟩ .nil
 |x::xs,_,r=>by
  cases r with
  |cons h1 t=>exact .cons h1 (Zhy rz t)
theorem Zmy{es:List NE}{xs:List (NestedKey × Addr × Value)}(r:Paired QN es (xs.map Za4)){k:NestedKey}{b:Addr}{z:V}{u:Value}(rz:RelV z u):Paired QN (Zab es k (.ref b) z) ((storedH xs k b u).map Za4):=by
 unfold Zab storedH
 rw[Zel r]
 split
 ·exact Zhx rz r
 ·exact Zhy rz r
theorem Zhz(es:List NE)(k:NestedKey)(y z:V):(Zab es k y z).length<=es.length+1:=by
 unfold Zab
 split
 ·rw[Xx]
  omega
 ·rw[XX]
  exact XS _
end
theorem Zf9{α β:Type}{f:α->β}:∀{l:List α},(l.map f).Nodup->l.Nodup
 |[],_=> .nil
 |x::l,n=>by
  rw[Xv,X6] at n
  rw[X6]
  exact⟨fun hm=>n.1 (List.mem_map_of_mem hm),Zf9 n.2⟩
theorem ZeP{α β:Type}{f:α->β}:∀{l:List α},l.Nodup->(∀x y,f x=f y->x=y)->(l.map f).Nodup
 |[],_,_=> .nil
 |x::l,n,h=>by
  rw[X6] at n
  rw[Xv,X6]
  refine⟨fun hm=> ?_,ZeP n.2 h⟩
  obtain⟨y,hy,e⟩:=XW.mp hm
  exact n.1 ((h y x e) ▸ hy)
def bN(b:Bool):NestedKey:= .num (PpSet.b2 b)
def BKs(es:List NE):Prop:=∀e∈es,∃b,e.2.1= .bl b∧e.1=bN b
theorem ZeQ{a b:Bool}(h:bN a=bN b):a=b:=by
 cases a <;> cases b <;> first|rfl|(exact absurd h (by decide))
abbrev ZaH:NE->Bool × Value->Prop:=fun p q=>p.2.1= .bl q.1∧p.1=bN q.1∧RelV p.2.2 q.2
def ZoZ(w:World)(q:Bool × Value):DictEntry:=⟨(bN q.1).hash w,.bool q.1,q.2⟩
section
variable {P:Program}{w:World}{H:Hp}{h:Heap}{a:Addr}
theorem ZnQ{es:List NE}{xs:List (NestedKey × Value × Value)}(ks:BKs es)(r:Paired QN es xs):∃bs:List (Bool × Value),Paired ZaH es bs∧(xs.map fun x=>(⟨x.1.hash w,x.2.1,x.2.2⟩:DictEntry))=bs.map (ZoZ w)∧xs.map (·.1)=bs.map fun q=>bN q.1:=by
 induction r with
 |nil=>exact⟨[],.nil,rfl,rfl⟩
 |@cons p q es xs h1 t ih =>
  obtain⟨bs,h2,h3,h4⟩:=ih fun e he=>ks e (Xm _ he)
  obtain⟨b,e1,e2⟩:=ks p (Xg ..)
  have r2:=h1.2.1
  rw[e1] at r2
  have r2:q.2.1=Value.bool b:=r2
  have r1:q.1=bN b:=h1.1.symm.trans e2
  refine⟨(b,q.2.2)::bs,.cons ⟨e1,e2,h1.2.2⟩ h2, ?_, ?_⟩
  ·rw[Xv,Xv,h3,r1,r2]
   rfl
  ·rw[Xv,Xv,h4,r1]
theorem ZgN(ok:HOk P w H h){es:List NE}(e:H a=some (NDO (NestedKey.hash w) a es))(ks:BKs es):es.length<=sizeLine∧(a == sysModules)=false∧∃bs:List (Bool × Value),Paired ZaH es bs∧h.DictOf (PpSet.boolK P w) a bs:=by
 obtain⟨⟨z,hd,xs,r,o,ds,ep,e1,c,e2,e3,nd⟩,_,_⟩:=ok a _ e
 obtain⟨bs,h2,h3,h4⟩:=ZnQ (w:=w) ks r
 rw[h3] at e3
 refine⟨z,hd,bs,h2,o,ds,ep,e1,c,e2,fun d hd=> ?_, ?_, ?_⟩
 ·have hd:d∈ds.toList:=by simpa using hd
  rw[e3] at hd
  obtain⟨q,_,rfl⟩:=XW.mp hd
  exact⟨q.1,VO P w q.1,rfl⟩
 ·rw[e3]
  clear e3 h3 h4 h2
  induction bs with
  |nil=>exact .nil
  |cons q bs ih=>exact .cons (VO P w q.1) rfl ih
 ·rw[h4] at nd
  have:(bs.map fun q=>bN q.1)=(bs.map (·.1)).map bN:=by rw[Vc]; rfl
  rw[this] at nd
  exact Zf9 nd
theorem ZnR{ds:Array DictEntry}{bs:List (Bool × Value)}(hk:KeysOf (PpSet.boolK P w) ds)(hp:Pairs (PpSet.boolK P w) ds.toList bs):ds.toList=bs.map (ZoZ w):=by
 have hk:∀e∈ds.toList,∃k,(PpSet.boolK P w).is k e.key=true∧e.hash=(PpSet.boolK P w).hash k:=fun e he=>hk e (by simpa using he)
 generalize ds.toList=l at hk hp
 induction hp with
 |nil=>rfl
 |@cons e kv es kvs h1 h2 t ih =>
  rw[Xv,ih fun x hx=>hk x (Xm _ hx)]
  congr 1
  obtain⟨k,k1,k2⟩:=hk e (Xg ..)
  have e1:e.key=Value.bool kv.1:=PpSet.isB_shape h1
  have e2:e.key=Value.bool k:=PpSet.isB_shape k1
  have e3:k=kv.1:=by
   rw[e1] at e2
   exact(Value.bool.inj e2).symm
  obtain⟨eh,ek,ev⟩:=e
  dsimp only at e1 k2 h2
  rw[e1,k2,h2,e3]
  rfl
theorem ZpT{es:List NE}{bs:List (Bool × Value)}(z:es.length<=sizeLine)(hd:(a == sysModules)=false)(r:Paired ZaH es bs)(dd:h.DictOf (PpSet.boolK P w) a bs):ObjOk P w H h a (NDO (NestedKey.hash w) a es):=by
 obtain⟨o,ds,ep,e1,c,e2,hk,hp,nd⟩:=dd
 refine Zki z hd (xs:=bs.map fun q=>(bN q.1,.bool q.1,q.2)) ?_ e1 c e2 ?_ ?_
 ·clear hp hk nd e1 e2
  induction r with
  |nil=>exact .nil
  |cons h1 t ih =>
   refine .cons ⟨h1.2.1, ?_,h1.2.2⟩ (ih (by rw[Xs] at z; omega))
   rw[h1.1]
   rfl
 ·rw[ZnR hk hp,Vc]
  rfl
 ·rw[Vc]
  have:(bs.map ((fun x:NestedKey × Value × Value=>x.1) ∘ fun q:Bool × Value=>(bN q.1,Value.bool q.1,q.2)))=(bs.map (·.1)).map bN:=by
   rw[Vc]
   rfl
  rw[this]
  exact ZeP nd fun x y h=>ZeQ h
theorem Zlr{es:List NE}{bs:List (Bool × Value)}(r:Paired ZaH es bs)(b:Bool):(valueAt bs b).isSome=ZbL es (bN b):=by
 unfold valueAt ZbL
 rw[Option.isSome_map]
 induction r with
 |nil=>rfl
 |@cons p q es bs h1 t ih =>
  rw[List.find?_cons,Vb,h1.2.1]
  by_cases hk:q.1=b
  ·rw[hk,X5 rfl,X5 rfl]
   rfl
  ·rw[decide_eq_false hk,decide_eq_false (fun z=>hk (ZeQ z))]
   exact ih
theorem Zo0{es:List NE}{bs:List (Bool × Value)}(r:Paired ZaH es bs)(b:Bool):(bs.any fun kv=>decide (kv.1=b))=ZbL es (bN b):=by
 unfold ZbL
 induction r with
 |nil=>rfl
 |@cons p q es bs h1 t ih =>
  rw[Vb,Vb,ih,h1.2.1]
  congr 1
  rw[decide_eq_decide]
  exact⟨fun z=>by rw[z],ZeQ⟩
theorem Zo1{es:List NE}{bs:List (Bool × Value)}(r:Paired ZaH es bs){b:Bool}{z:V}{u:Value}(rz:RelV z u):Paired ZaH (Zab es (bN b) (.bl b) z) (stored bs b u):=by
 unfold Zab stored
 rw[Zo0 r]
 split
 ·rename_i hh
  clear hh
  induction r with
  |nil=>exact .nil
  |@cons p q es bs h1 t ih =>
   refine .cons ?_ ih
   show ZaH (if p.1=bN b then (p.1,p.2.1,z) else p) (if q.1=b then (q.1,u) else q)
   by_cases hk:q.1=b
   ·rw[if_pos hk,if_pos (by rw[h1.2.1,hk])]
    exact⟨h1.1,h1.2.1,rz⟩
   ·rw[if_neg hk,if_neg (fun e=>hk (ZeQ (h1.2.1.symm.trans e)))]
    exact h1
 ·rename_i hh
  clear hh
  induction r with
  |nil=>exact .cons ⟨rfl,rfl,rz⟩ .nil
  |cons h1 t ih=>exact .cons h1 ih
end
def Zkj(K:PySem.W.Frag)(H:Hp)(es:List NE)(y:V)(k:NestedKey):Prop:=(NKs K H es∧(∃b,y= .ref b)∧NIs K H k y∧k.depth<=8)∨(BKs es∧∃b,y= .bl b∧k=bN b)
def ZhA(K:PySem.W.Frag)(hs:NestedKey->Int)(H:Hp)(a:Addr)(y z:V)(H':Hp):Prop:=∃es k,H a=some (NDO hs a es)∧Zkj K H es y k∧es.length < sizeLine∧H'=upd H a (NDO hs a (Zab es k y z))
section
variable {X:Cx}{pins:List (Addr × Obj)}{σ:L2.St}{H H':Hp}{s:Shared}{E:Value->Shared->Prop}{a:Addr}
theorem ZhB{es:List NE}{k:NestedKey}{b:Addr}{z:V}{u:Value}{h':Heap}{t':Nat}{xs:List (NestedKey × Addr × Value)}(I:Inv X pins σ H s)(e:H a=some (NDO (NestedKey.hash X.w) a es))(hd:(a == sysModules)=false)(r:Paired QN es (xs.map Za4))(l:es.length < sizeLine)(rz:RelV z u)
  (dd:h'.DictOfH (nestedKind X.prog X.w) a (storedH xs k b u))(sb:Heap.SameBut a s.heap h'):Inv X pins σ (upd H a (NDO (NestedKey.hash X.w) a (Zab es k (.ref b) z))) { s with heap:=h',toks:=t' }:=by
 obtain⟨q,ds,ep,hq,h2,h3,h4,_,h5⟩:=dd
 refine d_write I (by rw[e]; exact True.intro) sb ⟨q,hq⟩ (Zki (XD (Zhz ..) l) hd (Zmy r rz) hq h2 h3 ?_ ?_)
 ·rw[h4,Vc]
  rfl
 ·rw[Vc]
  exact h5
theorem ZhC{es:List NE}{b:Bool}{z:V}{u:Value}{h':Heap}{t':Nat}{bs:List (Bool × Value)}(I:Inv X pins σ H s)(e:H a=some (NDO (NestedKey.hash X.w) a es))(hd:(a == sysModules)=false)(r:Paired ZaH es bs)(l:es.length < sizeLine)(rz:RelV z u)
  (dd:h'.DictOf (PpSet.boolK X.prog X.w) a (stored bs b u))(sb:Heap.SameBut a s.heap h'):Inv X pins σ (upd H a (NDO (NestedKey.hash X.w) a (Zab es (bN b) (.bl b) z))) { s with heap:=h',toks:=t' } :=
 d_write I (by rw[e]; exact True.intro) sb (let ⟨q,_,_,hq,_⟩:=dd; ⟨q,hq⟩) (ZpT (XD (Zhz ..) l) hd (Zo1 r rz) dd)
theorem Zo2{y z:V}{u r:Value}{Q:Unit->Shared->Prop}(hu:X.A.units+8 < cLine)(I:Inv X pins σ H s)(g:ZhA X.K (NestedKey.hash X.w) H a y z H')(ry:RelV y u)(rz:RelV z r)(h:∀s',Inv X pins σ H' s'->Q () s'):wpAny (model X.prog X.w) X.A (dictSet a u r) Q E s:=by
 obtain⟨es,k,e,ka,hl,rfl⟩:=g
 rcases ka with⟨ks,⟨b,rfl⟩,n,l⟩|⟨ks,b,rfl,rfl⟩
 ·cases (show u=Value.ref b from ry)
  obtain⟨z1,hd,xs,rel,dd⟩:=ZgM I e ks
  have hz:xs.length<=sizeLine:=by
   have:=VG rel
   rw[Xx] at this
   omega
  refine wpAny_dictSet_heap (hsz:=hz) (show (nestedKind X.prog X.w).room X.A from hu) (show (nestedKind X.prog X.w).is s.heap k b from ⟨NIs.at I n rfl,l⟩) dd fun h' dd' sb=>h _ ?_
  exact ZhB I e hd rel hl rz dd' sb
 ·cases (show u=Value.bool b from ry)
  obtain⟨z1,hd,bs,rel,dd⟩:=ZgN I.hok e ks
  have hz:bs.length<=sizeLine:=by rw[<- VG rel]; exact z1
  exact wpAny_dictSet_pairs (hsz:=hz) (VO X.prog X.w b) dd fun h' dd' sb=>h _ (ZhC I e hd rel hl rz dd' sb)
theorem Zkk{A:Around}{y z:V}{u r:Value}{Q:Unit->Shared->Prop}(hu:A.units+9 < cLine)(I:Inv X pins σ H s)(g:ZhA X.K (NestedKey.hash X.w) H a y z H')(ry:RelV y u)(rz:RelV z r)(h:∀s',Inv X pins σ H' s'->Q () s'):wpAny (model X.prog X.w) A (setItem (.ref a) u r) Q E s:=by
 obtain⟨es,k,e,ka,hl,rfl⟩:=g
 rcases ka with⟨ks,⟨b,rfl⟩,n,l⟩|⟨ks,b,rfl,rfl⟩
 ·cases (show u=Value.ref b from ry)
  obtain⟨z1,hd,xs,rel,dd⟩:=ZgM I e ks
  have hz:xs.length<=sizeLine:=by
   have:=VG rel
   rw[Xx] at this
   omega
  refine wpAny_setItem_heap (hsz:=hz) (show (nestedKind X.prog X.w).room A.in1 from hu) (show (nestedKind X.prog X.w).is s.heap k b from ⟨NIs.at I n rfl,l⟩) dd fun h' dd' sb=>h _ ?_
  exact ZhB I e hd rel hl rz dd' sb
 ·cases (show u=Value.bool b from ry)
  obtain⟨z1,hd,bs,rel,dd⟩:=ZgN I.hok e ks
  have hz:bs.length<=sizeLine:=by rw[<- VG rel]; exact z1
  exact wpAny_setItem_pairs (hsz:=hz) (VO X.prog X.w b) dd fun h' dd' sb=>h _ (ZhC I e hd rel hl rz dd' sb)
def Zmz(K:PySem.W.Frag)(hs:NestedKey->Int)(H:Hp)(a:Addr)(y:V)(o:Bool):Prop:=∃es k,H a=some (NDO hs a es)∧Zkj K H es y k∧o=ZbL es k
theorem ZpU{A:Around}{y:V}{u:Value}{o:Bool}{Q:Value->Shared->Prop}(hu:A.units+9 < cLine)(I:Inv X pins σ H s)(g:Zmz X.K (NestedKey.hash X.w) H a y o)(ry:RelV y u)(h:∀s',Inv X pins σ H s'->Q (.bool o) s'):wpAny (model X.prog X.w) A (compareOp .In u (.ref a)) Q E s:=by
 obtain⟨es,k,e,ka,rfl⟩:=g
 rcases ka with⟨ks,⟨b,rfl⟩,n,l⟩|⟨ks,b,rfl,rfl⟩
 ·cases (show u=Value.ref b from ry)
  obtain⟨z1,hd,xs,rel,dd⟩:=ZgM I e ks
  refine wpAny_in_heap (show (nestedKind X.prog X.w).room A.in1 from hu) (show (nestedKind X.prog X.w).is s.heap k b from ⟨NIs.at I n rfl,l⟩) hd dd ?_
  rw[Zel rel]
  exact h _ (I.tok _)
 ·cases (show u=Value.bool b from ry)
  obtain⟨z1,hd,bs,rel,dd⟩:=ZgN I.hok e ks
  refine wpAny_in_of (VO X.prog X.w b) hd dd.mapOf ?_
  rw[Zlr rel]
  exact h _ (I.tok _)
theorem ZmA{A:Around}{y:V}{u:Value}{o:Bool}{Q:Value->Shared->Prop}(hu:A.units+9 < cLine)(I:Inv X pins σ H s)(g:Zmz X.K (NestedKey.hash X.w) H a y o)(ry:RelV y u)(h:∀s',Inv X pins σ H s'->Q (.bool (!o)) s'):wpAny (model X.prog X.w) A (compareOp .NotIn u (.ref a)) Q E s:=by
 obtain⟨es,k,e,ka,rfl⟩:=g
 rcases ka with⟨ks,⟨b,rfl⟩,n,l⟩|⟨ks,b,rfl,rfl⟩
 ·cases (show u=Value.ref b from ry)
  obtain⟨z1,hd,xs,rel,dd⟩:=ZgM I e ks
  refine Xd (wpAny_contains_heap (show (nestedKind X.prog X.w).room A.in1 from hu) (show (nestedKind X.prog X.w).is s.heap k b from ⟨NIs.at I n rfl,l⟩) hd dd (Xk ?_))
  rw[Zel rel]
  exact h _ (I.tok _)
 ·cases (show u=Value.bool b from ry)
  obtain⟨z1,hd,bs,rel,dd⟩:=ZgN I.hok e ks
  refine wpAny_notIn_of (VO X.prog X.w b) hd dd.mapOf ?_
  rw[Zlr rel]
  exact h _ (I.tok _)
end
end Pu
namespace Pu
open PySem L2 PySem.Spec PyProof.Rows Pw
def Zkl(k:D):Bool:=match k with
 |.tup _=>match k.nkey with
  |some nk=>decide (nk.depth<=8)
  |none=>false
 |_=>false
def ZmB(k:D):Bool:=match k with
 |.bl _=>true
 |_=>false
def ZhD(kvs:List (D × D))(k:D):Bool:=(kvs.all (fun e=>Zkl e.1) && Zkl k) || (kvs.all (fun e=>ZmB e.1) && ZmB k)
def ZdG(kvs:List (D × D))(nk:NestedKey):Bool:=kvs.any fun e=>decide (e.1.nkey=some nk)
def Zkm(kvs:List (D × D))(nk:NestedKey)(k v:D):List (D × D):=if ZdG kvs nk then kvs.map (fun e=>if e.1.nkey=some nk then (e.1,v) else e) else kvs++ [(k,v)]
def Zbq(a k v:D):Option D:=match a with
 |.dnk kvs=>match k.nkey with
  |some nk=>if ZhD kvs k && decide (kvs.length < line) then some (.dnk (Zkm kvs nk k v)) else none
  |none=>none
 |_=>none
section
variable {K:PySem.W.Frag}{G:Gx K}{O:Addr->Prop}{H:Hp}
theorem ZfA{k:D}(h:Zkl k=true):(∃ds,k= .tup ds)∧∃nk,k.nkey=some nk∧nk.depth<=8:=by
 cases k with
 |tup ds =>
  have h:(match (D.tup ds).nkey with|some nk=>decide (nk.depth<=8)|none=>false)=true:=h
  split at h
  ·rename_i nk e
   exact⟨⟨ds,rfl⟩,nk,e,XH h⟩
  ·cases h
 |_=>cases h
theorem ZjJ{hs:NestedKey->Int}{p:Addr}{es:List NE}(vs:List V):NDO hs p es≠ .tup vs:=fun q=>by
 unfold NDO at q
 cases q
theorem ZhE:∀{es:List NE}{kvs:List (D × D)},RepN G O H es kvs->kvs.all (fun e=>Zkl e.1)=true->NKs K H es
 |_,_,.nil,_=>fun e he=>nomatch he
 |_,(kd,d)::kvs,.cons e rk rv t,h=>fun x hx=>by
  rw[List.all_cons,Xp] at h
  rcases XB.mp hx with rfl|hx
  ·obtain⟨⟨ds,e1⟩,nk,e2,l⟩:=ZfA (k:=kd) h.1
   subst e1
   rw[e] at e2
   cases e2
   refine⟨?_,rk.nis e,l⟩
   cases rk
   exact⟨_,rfl⟩
  ·exact ZhE t h.2 x hx
theorem ZhF:∀{es:List NE}{kvs:List (D × D)},RepN G O H es kvs->kvs.all (fun e=>ZmB e.1)=true->BKs es
 |_,_,.nil,_=>fun e he=>nomatch he
 |_,(kd,d)::kvs,.cons e rk rv t,h=>fun x hx=>by
  rw[List.all_cons,Xp] at h
  rcases XB.mp hx with rfl|hx
  ·cases kd with
   |bl b =>
    cases rk
    cases e
    exact⟨b,rfl,rfl⟩
   |_=>exact Bool.noConfusion (show false=true from h.1)
  ·exact ZhF t h.2 x hx
theorem Zls{es:List NE}{kvs:List (D × D)}(r:RepN G O H es kvs){kd:D}{y:V}{nk:NestedKey}(rk:Rep G O H y kd)(hk:kd.nkey=some nk)(h:ZhD kvs kd=true):Zkj K H es y nk:=by
 unfold ZhD at h
 rw[VB,Xp,Xp] at h
 rcases h with⟨h1,h2⟩|⟨h1,h2⟩
 ·obtain⟨⟨ds,e1⟩,nk',e2,l⟩:=ZfA h2
  rw[hk] at e2
  cases e2
  subst e1
  refine .inl ⟨ZhE r h1, ?_,rk.nis hk,l⟩
  cases rk
  exact⟨_,rfl⟩
 ·cases kd with
  |bl b =>
   cases rk
   cases hk
   exact .inr ⟨ZhF r h1,b,rfl,rfl⟩
  |_=>exact Bool.noConfusion (show false=true from h2)
theorem Zem(nk:NestedKey):∀{es:List NE}{kvs:List (D × D)},RepN G O H es kvs->ZbL es nk=ZdG kvs nk
 |_,_,.nil=>rfl
 |(k,b,v)::es,(kd,d)::kvs,.cons e rk rv t=>by
  show (decide (k=nk) || ZbL es nk)=(decide (kd.nkey=some nk) || ZdG kvs nk)
  rw[Zem nk t,e]
  congr 1
  rw[decide_eq_decide]
  exact⟨fun z=>by rw[z],fun z=>by cases z; rfl⟩
theorem ZhG:∀{es:List NE}{kvs:List (D × D)},RepN G O H es kvs->es.length=kvs.length
 |_,_,.nil=>rfl
 |_,_,.cons _ _ _ t=>by rw[Xs,Xs,ZhG t]
theorem Zen{nk:NestedKey}{z:V}{vd:D}(rz:Rep G O H z vd):∀{es:List NE}{kvs:List (D × D)},RepN G O H es kvs->RepN G O H (es.map fun e=>if e.1=nk then (e.1,e.2.1,z) else e) (kvs.map fun e=>if e.1.nkey=some nk then (e.1,vd) else e)
 |_,_,.nil=> .nil
 |(k,b,v)::es,(kd,d)::kvs,.cons e rk rv t=>by
  rw[Xv,Xv]
  dsimp only
  by_cases h:k=nk
  ·rw[if_pos h,if_pos (by rw[e,h])]
   exact .cons e rk rz (Zen rz t)
  ·rw[if_neg h,if_neg (by rw[e]; intro q; cases q; exact h rfl)]
   exact .cons e rk rv (Zen rz t)
theorem ZhH{nk:NestedKey}{b z:V}{kd vd:D}(e0:kd.nkey=some nk)(rk0:Rep G O H b kd)(rz:Rep G O H z vd):∀{es:List NE}{kvs:List (D × D)},RepN G O H es kvs->RepN G O H (es++ [(nk,b,z)]) (kvs++ [(kd,vd)])
 |_,_,.nil=> .cons e0 rk0 rz .nil
 |_,_,.cons e rk rv t=> .cons e rk rv (ZhH e0 rk0 rz t)
theorem ZmC{nk:NestedKey}{b z:V}{kd vd:D}(e0:kd.nkey=some nk)(rk0:Rep G O H b kd)(rz:Rep G O H z vd){es:List NE}{kvs:List (D × D)}(r:RepN G O H es kvs):RepN G O H (Zab es nk b z) (Zkm kvs nk kd vd):=by
 unfold Zab Zkm
 rw[Zem nk r]
 split
 ·exact Zen rz r
 ·exact ZhH e0 rk0 rz r
theorem Zga{p:Addr}{acc acc' kd vd:D}{y z:V}{F:List Addr}(h:Own G O H .nk (.ref p) acc F)(lO:O p)(rk:Rep G O H y kd)(rv:Rep G O H z vd)(e:Zbq acc kd vd=some acc'):∃u,(∀vs,u≠ .tup vs)∧ZhA K G.hs H p y z (upd H p u)∧Own G O (upd H p u) .nk (.ref p) acc' F:=by
 obtain⟨q,es,kvs,e1,e2,e3,r,e5⟩:=h
 cases e1
 subst e2
 unfold Zbq at e
 dsimp only at e
 split at e
 ·rename_i nk hk
  split at e
  ·rename_i hc
   cases e
   rw[Xp,VL] at hc
   have ka:=Zls r rk hk hc.1
   have ln:es.length < sizeLine:=by
    rw[ZhG r]
    exact Ja hc.2
   have kw:Kept O H O (upd H p (NDO G.hs p (Zab es nk y z))):=Ql lO
   exact⟨NDO G.hs p (Zab es nk y z),ZjJ,⟨es,nk,e3,ka,ln,rfl⟩,p,_,_,rfl,rfl,Xi,(ZmC hk rk rv r).keep kw,e5⟩
  ·cases e
 ·cases e
end
section
variable {K:PySem.W.Frag}{S:Sx K}{X:Cx}{kx vx tg iter c:Expr}{ifs:List Expr}{scope:Scope}{own:List (Str × Nat)}{pos:Pos}{f:Env->R (List D)}{tgf:D->Env->Option Env}{tt:Env->R Bool}{tk tv:Env->R D}{Mt:List Md}{us:List Nat}
def Zo3(neg:Bool)(x y:D):Option D:=match y with
 |.dnk kvs=>match x.nkey with
  |some nk=>if ZhD kvs x then some (.bl (if neg then !ZdG kvs nk else ZdG kvs nk)) else none
  |none=>none
 |_=>none
def Zkn(K:PySem.W.Frag)(nh:NestedKey->Int)(neg:Bool):R2:=fun x y H Q=>∃a o,y= .ref a∧Zmz K nh H a x o∧Q (.bl (if neg then !o else o)) H
theorem Zo4(hu:X.A.units+9 < cLine):OpR X (compareOp .In) (Zkn X.K (NestedKey.hash X.w) false):=by
 intro pins s σ H x y v u Q I rx ry h
 obtain⟨a,o,rfl,g,q⟩:=h
 cases (show u=Value.ref a from ry)
 exact ZpU hu I g rx fun s' I'=>⟨.bl o,H,I',rfl,q⟩
theorem ZnS(hu:X.A.units+9 < cLine):OpR X (compareOp .NotIn) (Zkn X.K (NestedKey.hash X.w) true):=by
 intro pins s σ H x y v u Q I rx ry h
 obtain⟨a,o,rfl,g,q⟩:=h
 cases (show u=Value.ref a from ry)
 exact ZmA hu I g rx fun s' I'=>⟨.bl (!o),H,I',rfl,q⟩
end
end Pu
namespace Pu
open PySem L2 PySem.Spec PyProof.Rows Pw
section
variable {K:PySem.W.Frag}{T:Tx K}{M M1 Mn Mt:List Md}{X:Cx}{e:Expr}{fa:Env->R D}{pos:Pos}
def YM(c:String)(f:Str)(fa:Env->R D):Env->RS:=fun ρ=>(fa ρ).bindS fun d ρ1=> .ex ⟨c,[(f,d)]⟩ ρ1
def ZmD(ok:String->Bool)(gb gs:Env->RS):Env->RS:=fun ρ=>match gb ρ with
 |.ex x ρ1=>if ok x.c then gs ρ1 else .ex x ρ1
 |r=>r
theorem ZpV{x:Str}{C:Addr}{ok:String->Bool}{body suite:List Stmt}{b₀:Stmt}{np pos':Pos}{gb gs:Env->RS}(hK:X.K=K)(hs:X.stack=X.env::X.outer)(hf:X.env.frame=some X.env.locals)(hc:Names X x (.ref C))(tk:Takes X T.W)
  (hok:∀n D,T.xa n=some D->PySem.W.exmOne K (.ref D) (.ref C)=some (ok n))
  (hb:∀(W:WX) (pn:List (Addr × Obj)) (xe:Value->Shared->Prop),Takes (X.tr pn xe) W->PassesOwn (model X.prog X.w) X.A X.env xe->PSs (X.tr pn xe) body (lS { T with W:=W,Mx:=Mt } M Mn gb))
  (hsu:∀(a:Addr) (pn:List (Addr × Obj)),PSs (X.suite a pn) (b₀::suite) (lS T Mt Mn gs))(wx:Wk Mt T.Mx)(fx:Ye M Mt=true:=by rfl) :
  PS X (.Try body [.ExceptHandler (some (.Name x np)) none (b₀::suite) pos'] [] [] pos) (lS T M Mn (ZmD ok gb gs)):=by
 subst hK
 refine PS.of (ps_try_only (Wout:=T.W) (ts:=fun _ _ _=>lS T Mt Mn gs) hs hf hc tk hb fun a oe cls d pn _ _=>hsu a _) fun E σ H ⟨B,O,Fs,ρ,w,run⟩=> ?_
 refine⟨B,O,Fs,ρ,w, ?_⟩
 unfold ZmD at run
 cases h:gb ρ with
 |ex x1 ρ1 =>
  rw[h] at run
  dsimp only at run
  intro cls dd O1 Fs1 H1 σ1 ev wd xr
  obtain⟨D,hD,hcls,q⟩:=id xr
  subst hcls
  refine⟨ok x1.c,hok _ _ hD,fun hy a ha=> ?_,fun hn=> ?_⟩
  ·rw[if_pos hy] at run
   exact⟨B,O1,Fs1,ρ1,wd,RunS.shift run fx ev⟩
  ·rw[if_neg (by rw[hn]; decide)] at run
   obtain⟨O2,Fs2,w2,l⟩:=wd.wk wx
   exact run (.ref D) dd O2 Fs2 H1 σ1 (ev.less l) w2 (xr.anti l.o)
 |nx ρ1=>rw[h] at run; exact run
 |rt d ρ1=>rw[h] at run; exact run
 |bk ρ1=>rw[h] at run; exact run
 |ct ρ1=>rw[h] at run; exact run
 |bad=>rw[h] at run; exact run
end
end Pu
namespace Pu
open PySem L2 PySem.Spec PyProof.Rows Pw ClX StX
section
variable {X:Cx}{CX:CXT}{k:Nat}{f C:Addr}{fd:FuncData}{ps:List Str}{sp:Sp}{dvs:List V}{ds:List Value}{E:L2.St->XK}{x m:Str}{p pos apos sp_:Pos}{e o:Expr}{es:List Expr}{tf te:TE}{ta:TE}{t:TA}
def mkW(C:Addr)(sp:Sp)(dvs:List V)(E:L2.St->XK)(σ:L2.St)(Q:VK)(vs:List V)(H1:Hp):Prop:=∀a dx,H1 a=none->H1 dx=none->dx≠a->
 sp (.ref a::(vs++dvs)) (upd (upd H1 dx (.own a)) a (.ins C dx [])) (fun v H2=>v= .non∧Q (.ref a) H2) (E σ)
theorem ZmE(M:Mk X.K C f)(F:FnOkG X.prog X.w X.K X.mg X.base CX k f fd ps sp)(hr:RoomG (k+1) X.A)(hb:Binds X.K fd ps ds)(hd:Vals dvs ds)(hx:∀σ,PassesAt CX X σ (E σ))(hf:PE X (.Name x p) tf)(ha:PA X (e::es) t)
  (he:starEach (e::es) X.env=(false,eval e X.env)::starEach es X.env:=by rfl)(hpl:(backTo pos (starEach es X.env)).any (·.1)=false:=by rfl) :
  PE X (.Call (.Name x p) (e::es) [] pos) (fun σ H Q=>tf σ H fun y H0=>y= .ref C∧t σ H0 (mkW C sp dvs E σ Q)) :=
 ⟨fun pins s σ H Q I h=>Ve (thn (hf.run pins s σ H _ I h) fun u s0 ⟨y,H0,I0,ry,ey,q0⟩=>by
  subst ey
  obtain rfl:u=Value.ref C:=ry
  exact VH (h₀:=X.base) I0.ok.mod.kin M.kp (thn (ha.run pos pins s0 σ H0 _ I0 q0) fun us s1 ⟨vs,H1,I1,r,q⟩=>⟨I1.kIn,Zc4 M F hr hb hd (hx σ) I1 r q⟩) he hpl)⟩
theorem Zlt(M:Mk X.K C f)(F:FnOkG X.prog X.w X.K X.mg X.base CX k f fd ps sp)(hr:RoomG (k+1) X.A)(hb:Binds X.K fd ps ds)(hd:Vals dvs ds)(hx:∀σ,PassesAt CX X σ (E σ))(hf:PE X (.Name x p) tf)(he:PE X e te)
  (hst:starEach [.Starred e sp_] X.env= [(true,eval e X.env)]:=by rfl) :
  PE X (.Call (.Name x p) [.Starred e sp_] [] pos) (fun σ H Q=>tf σ H fun y H0=>y= .ref C∧te σ H0 fun z H1=>∃a xs,z= .ref a∧(SqT X.K H1 a xs∨SqL X.K H1 a xs)∧mkW C sp dvs E σ Q xs H1) :=
 ⟨fun pins s σ H Q I h=>Ve (thn (hf.run pins s σ H _ I h) fun u s0 ⟨y,H0,I0,ry,ey,q0⟩=>by
  subst ey
  obtain rfl:u=Value.ref C:=ry
  refine PySem.W.callWith_S (h₀:=X.base) I0.ok.mod.kin M.kp (thn (he.run pins s0 σ H0 _ I0 q0) fun v s1 ⟨z,H1,I1,rz,a,xs,ez,hxs,q⟩=> ?_) hst
  subst ez
  obtain rfl:v=Value.ref a:=rz
  exact star_any I1 hxs fun us s2 I2 rv=>⟨I2.kIn,Zc4 M F hr hb hd (hx σ) I2 rv q⟩)⟩
theorem Zlu{pins:List (Addr × Obj)}{σ:L2.St}{H:Hp}{s:Shared}{Q:VK}{us:List Value}{vs:List V}(F:FnOkG X.prog X.w X.K X.mg X.base CX k f fd ps sp)(hr:RoomG k X.A)(hb:Binds X.K fd ps ds)(hd:Vals dvs ds)(hx:PassesAt CX X σ (E σ))(I:Inv X pins σ H s)(r:Vals vs us)(h:sp (vs++dvs) H Q (E σ)) :
  codeAny (model X.prog X.w) X.A (.call (.ref f) ⟨us,[]⟩) (fun r s'=>match r with|.ok (.ret u)=>EP X pins σ Q u s'|.ok _=>False|.error e=>X.xe e s') s:=by
 have all:Vals (vs++dvs) (us++ds):=r.append hd
 have len:(us++ds).length=ps.length:=by
  rw[<- F.len _ _ _ _ h]
  exact all.length.symm
 refine Vi (F.run X.A X.stack s H ⟨us,[]⟩ _ _ Q (E σ) hr I.env0 (hb s us I.kIn len) all h) fun out s' hq=> ?_
 rcases out with e|fl
 ·exact hx pins H s e s' I hq
 ·cases fl with
  |ret u=>exact I.after hq
  |next=>exact hq.elim
  |brk=>exact hq.elim
  |cont=>exact hq.elim
theorem Zlv{mc:Value}{pr:Addr}{pl:Sem Bool}(he:PE X o ta)(r:CRead X.K C mc)(c:CMet X.K C mc m pr f)(F:FnOkG X.prog X.w X.K X.mg X.base CX k f fd ps sp)(hr:RoomG k X.A)(hb:Binds X.K fd ps ds)(hd:Vals dvs ds)(hx:∀σ,PassesAt CX X σ (E σ))(ha:PA X (e::es) t)
  (hst:starEach (e::es) X.env=(false,eval e X.env)::starEach es X.env:=by rfl)(hpl:(backTo pos (starEach es X.env)).any (·.1)=false:=by rfl)
  (ht:eval (.Call (.Attribute o m apos) (e::es) [] pos) X.env=(do
   let ov <- eval o X.env
   standAt apos.atName
   let (f,first) <- holding [ov] (getMethod ov m pl)
   callWith pos f first (backTo pos (starEach (e::es) X.env)) (backToKw pos (keywordEach [] X.env))):=by rfl) :
  PE X (.Call (.Attribute o m apos) (e::es) [] pos) (fun σ H Q=>ta σ H fun y H1=>y= .ref C∧t σ H1 fun vs H2=>sp (.ref C::vs++dvs) H2 Q (E σ)):=by
 constructor
 intro pins s σ H Q I h
 refine VN (pl:=pl) (thn (he.run pins s σ H _ I h) ?_) ht
 rintro u s1 ⟨y,H1,J,ry,ey,q⟩
 subst ey
 obtain rfl:u=Value.ref C:=ry
 refine getmethcm_ok J r c fun s2 J2=> ?_
 refine callwith_cm J2 (base_none J (XS _)) c.fi (thn (ha.run pos _ s2 σ H1 _ J2 q) ?_) hst hpl
 rintro us s3 ⟨vs,H2,J3,rv,q2⟩
 refine⟨⟨pin_at J3,J3.kIn⟩, ?_⟩
 exact thn (Vl (PySem.W.method_call (pin_at J3) (Zlu (us:= .ref C::us) (vs:= .ref C::vs) F hr hb hd (hx σ) J3 (.cons rfl rv) q2))) fun _ _ z=>unpinE z
end
section
variable {K:PySem.W.Frag}{S:Sx K}{X:Cx}{e o:Expr}{es:List Expr}{fa fc:Env->R D}{fs:Env->R (List D)}{pos p apos sp_:Pos}{ms ms2:List Md}{x:Str}
theorem ZeR{c:String}{C:Addr}(h:PE X e (tC (.ref C)))(hC:S.G.ca c=some C):PE X e (lE S (sC (.cls c))):=PE.of h fun _ _ _ ⟨_,_,_,_,w,r⟩=>r.use w (.cls hC)
def ZaI(c:String):D->Bool
 |.cls c'=>c' == c
 |_=>false
theorem Zbr{G:Gx K}{O:Addr->Prop}{H:Hp}{v:V}{d:D}{c:String}{C:Addr}(hC:G.ca c=some C)(h:ZaI c d=true)(r:Rep G O H v d):v= .ref C:=by
 cases d with
 |cls c' =>
  have:c'=c:=Vh.mp h
  subst this
  cases r with
  |cls e=>rw[hC] at e; cases e; rfl
 |_=>cases h
def ZhI(c:String)(dd:List D)(g:List D->RF)(fc:Env->R D)(fs:Env->R (List D)):Env->R D:=fun ρ=>(fc ρ).bind fun y ρ1=>if ZaI c y then (fs ρ1).bind fun ds ρ2=>(g (.obj c []::(ds++dd))).toNew ρ2 else .bad
theorem ZjK{k:Nat}{f C:Addr}{fd:FuncData}{ps:List Str}{c:String}{fsh:Str->Shp}{g:List D->RF}{dvs:List V}{dds:List D}{dvl:List Value}(M:Mk X.K C f)(F:FnOkG X.prog X.w X.K X.mg X.base (L2.CX X.prog X.w) k f fd ps (SpF S.G S.xa (.op (.obj fsh)::(ms++ms2)) g))(hC:S.G.ca c=some C)(hr:RoomG (k+1) X.A)(hb:Binds X.K fd ps dvl)(hd:Vals dvs dvl)(hdd:DReps S.G ms2 dvs dds)(tk:Takes X S.W)
  (hf:PE X (.Name x p) (lE S fc))(ha:PA X (e::es) (lAs S ms fs))(he:starEach (e::es) X.env=(false,eval e X.env)::starEach es X.env:=by rfl)(hpl:(backTo pos (starEach es X.env)).any (·.1)=false:=by rfl) :
  PE X (.Call (.Name x p) (e::es) [] pos) (lE S (ZhI c dds g fc fs)):=by
 refine PE.of (ZmE (E:=WE S.W) M F hr hb hd (fun σ=>passAt tk σ) hf ha he hpl) fun σ H Q ⟨B,O,Fs,ρ,w,run⟩=> ?_
 refine⟨B,O,Fs,ρ,w,run.bind fun y ρ1 v O1 Fs1 H1 _ ev1 w1 r1 run1=> ?_⟩
 cases hy:ZaI c y with
 |false=>rw[hy] at run1; exact run1.elim
 |true =>
  rw[hy,if_pos rfl] at run1
  exact⟨Zbr hC hy r1,B,O1,Fs1,ρ1,w1,run1.bind fun ds ρ2 vs O2 Fs2 H2 _ ev2 w2 r2 run2=>fun a dx na nx ne=>ZdD w2 hC (r2.app hdd.a) na nx ne run2⟩
def ZgO:List Md->Bool
 |[]=>true
 |.sh::ms=>ZgO ms
 |.br::ms=>ZgO ms
 |_=>false
theorem Zcx{G:Gx K}{O:Addr->Prop}{F:List Addr}{H:Hp}:∀{ms:List Md}{vs:List V}{ds:List D},ZgO ms=true->ds.length=ms.length->Reps G O H vs ds->AReps G O F H ms vs ds
 |[],_,[],_,_,h=>by cases h; exact .nil
 |m::ms,_,d::ds,hm,hl,h=>by
  cases h with
  |cons r t =>
   cases m with
   |sh=>exact .sh r (Zcx hm (by simpa using hl) t)
   |br=>exact .br (.inl r) (Zcx hm (by simpa using hl) t)
   |_=>cases hm
 |[],_,_::_,_,hl,_=>by cases hl
 |_::_,_,[],_,hl,_=>by cases hl
def ZdH(c:String)(n:Nat)(g:List D->RF)(fc fa:Env->R D):Env->R D:=fun ρ=>(fc ρ).bind fun y ρ1=>if ZaI c y then (fa ρ1).bind fun z ρ2=>match z.seq with
  |some ds=>if ds.length=n then (g (.obj c []::ds)).toNew ρ2 else .bad
  |none=> .bad
 else .bad
theorem Zeo{k:Nat}{f C:Addr}{fd:FuncData}{ps:List Str}{c:String}{fsh:Str->Shp}{g:List D->RF}(hK:X.K=K)(M:Mk X.K C f)(F:FnOkG X.prog X.w X.K X.mg X.base (L2.CX X.prog X.w) k f fd ps (SpF S.G S.xa (.op (.obj fsh)::ms) g))(hC:S.G.ca c=some C)(hr:RoomG (k+1) X.A)(hb:Binds X.K fd ps [])(hm:ZgO ms=true)(tk:Takes X S.W)
  (hf:PE X (.Name x p) (lE S fc))(ha:PE X e (lB S fa))(hst:starEach [.Starred e sp_] X.env= [(true,eval e X.env)]:=by rfl) :
  PE X (.Call (.Name x p) [.Starred e sp_] [] pos) (lE S (ZdH c ms.length g fc fa)):=by
 subst hK
 refine PE.of (Zlt (E:=WE S.W) (dvs:= []) M F hr hb .nil (fun σ=>passAt tk σ) hf ha hst) fun σ H Q ⟨B,O,Fs,ρ,w,run⟩=> ?_
 refine⟨B,O,Fs,ρ,w,run.bind fun y ρ1 v O1 Fs1 H1 _ ev1 w1 r1 run1=> ?_⟩
 cases hy:ZaI c y with
 |false=>rw[hy] at run1; exact run1.elim
 |true =>
  rw[hy,if_pos rfl] at run1
  refine⟨Zbr hC hy r1,B,O1,Fs1,ρ1,w1,run1.bind fun z ρ2 u O2 Fs2 H2 _ ev2 w2 r2 run2=> ?_⟩
  cases hz:z.seq with
  |none=>rw[hz] at run2; exact run2.elim
  |some ds =>
   rw[hz] at run2
   dsimp only at run2
   by_cases hl:ds.length=ms.length
   ·rw[if_pos hl] at run2
    obtain⟨a,vs,e1,e2,e3⟩:=r2.seq hz
    refine⟨a,vs,e1,e2.symm,fun b dx na nx ne=> ?_⟩
    rw[Vd]
    exact ZdD w2 hC (Zcx hm hl e3) na nx ne run2
   ·rw[if_neg hl] at run2; exact run2.elim
def ZhJ(c:String)(dd:List D)(g:List D->RF)(fc:Env->R D)(fs:Env->R (List D)):Env->R D:=fun ρ=>(fc ρ).bind fun y ρ1=>if ZaI c y then (fs ρ1).bind fun ds ρ2=>(g (.cls c::(ds++dd))).toR ρ2 else .bad
theorem ZnT{pl:Sem Bool}{k:Nat}{f C pr:Addr}{mc:Value}{fd:FuncData}{ps:List Str}{m:Str}{c:String}{g:List D->RF}{dvs:List V}{dds:List D}{dvl:List Value}(hC:S.G.ca c=some C)(r:CRead X.K C mc)(cm:CMet X.K C mc m pr f)(F:FnOkG X.prog X.w X.K X.mg X.base (L2.CX X.prog X.w) k f fd ps (SpF S.G S.xa (.sh::(ms++ms2)) g))(hr:RoomG k X.A)(hb:Binds X.K fd ps dvl)(hd:Vals dvs dvl)(hdd:DReps S.G ms2 dvs dds)(tk:Takes X S.W)
  (ho:PE X o (lE S fc))(ha:PA X (e::es) (lAs S ms fs))(hst:starEach (e::es) X.env=(false,eval e X.env)::starEach es X.env:=by rfl)(hpl:(backTo pos (starEach es X.env)).any (·.1)=false:=by rfl)
  (ht:eval (.Call (.Attribute o m apos) (e::es) [] pos) X.env=(do
   let ov <- eval o X.env
   standAt apos.atName
   let (f,first) <- holding [ov] (getMethod ov m pl)
   callWith pos f first (backTo pos (starEach (e::es) X.env)) (backToKw pos (keywordEach [] X.env))):=by rfl):PE X (.Call (.Attribute o m apos) (e::es) [] pos) (lE S (ZhJ c dds g fc fs)):=by
 refine PE.of (Zlv (E:=WE S.W) ho r cm F hr hb hd (fun σ=>passAt tk σ) ha hst hpl ht) fun σ H Q ⟨B,O,Fs,ρ,w,run⟩=> ?_
 refine⟨B,O,Fs,ρ,w,run.bind fun y ρ1 v O1 Fs1 H1 _ ev1 w1 r1 run1=> ?_⟩
 cases hy:ZaI c y with
 |false=>rw[hy] at run1; exact run1.elim
 |true =>
  rw[hy,if_pos rfl] at run1
  refine⟨Zbr hC hy r1,B,O1,Fs1,ρ1,w1,run1.bind fun ds ρ2 vs O2 Fs2 H2 _ ev2 w2 r2 run2=> ?_⟩
  exact Zcl w2 (.sh (.cls hC) (r2.app hdd.a)) run2
end
end Pu
namespace Pu
open PySem L2 PySem.Spec PyProof.Rows Pw
section
variable {K:PySem.W.Frag}{G:Gx K}{B O O':Addr->Prop}{Fs Fs':List (List Addr)}{H H':Hp}{σ:L2.St}{ρ ρ':Env}{M:List Md}
theorem Zgb:∀(Fs:List (List Addr)),(Fs.map fun _=>([]:List Addr)).flatten= []
 |[]=>rfl
 |_::Fs=>by rw[Xv,Xw,Zgb Fs]; rfl
end
end Pu
namespace Pu
open PySem L2 PySem.Spec PyProof.Rows Pw
def ZhK(M:List Md):Bool:=M.all fun m=>match m with
 |.br=>false
 |_=>true
theorem ZjL{M:List Md}(h:ZhK M=true){i:Nat}:M[i]?≠some .br:=fun e=>by
 have:=XM.mp h _ (Xa e)
 cases this
end Pu
namespace Pu
open PySem L2 PySem.Spec PyProof.Rows Pw
structure UFn (K:PySem.W.Frag) (mg:Str->Option Value) (x qual:Str) (st:Stmt) (ps:List Str) where
 a:Addr
 d:FuncData
 F:L2.Fun K x qual st a d
 n:Binds K d ps []
 m:mg x=some (.ref a)
structure UMe (K:PySem.W.Frag) (x qual:Str) (st:Stmt) (ps:List Str) where
 a:Addr
 d:FuncData
 F:L2.Fun K x qual st a d
 n:Binds K d ps []
structure UCl (K:PySem.W.Frag) (mg:Str->Option Value) (x:Str) where
 a:Addr
 m:mg x=some (.ref a)
 c:Cls K a
 o:OwnC K a
 ne:PySem.W.findIn K (.ref a) "__ne__" =some (some (.builtin "object.__ne__"))
structure UEx (mg:Str->Option Value) (x:Str) where
 a:Addr
 m:mg x=some (.ref a)
end Pu
namespace Pu
open PySem L2 PySem.Spec PyProof.Rows Pw
section
variable {K:PySem.W.Frag}{S:Sx K}{X:Cx}{e o:Expr}{es:List Expr}{fa:Env->R D}{fs:Env->R (List D)}{pos p apos:Pos}{ms ms2:List Md}{t:Shp}
theorem ZjM{G:Gx K}{O:Addr->Prop}{H:Hp}{c:String}{m:Str}{C:Addr}{x:D}{v:V}(hC:G.ca c=some C)(hx:isC c m x=true)(r:Rep G O H v x):∃a dx fvs,v= .ref a∧H a=some (.ins C dx fvs)∧fvs.lookup m=none:=by
 cases x with
 |obj c' fs' =>
  have hx:(c' == c && (fs'.lookup m).isNone)=true:=hx
  rw[Xp,Vh,Option.isNone_iff_eq_none] at hx
  obtain⟨rfl,hn⟩:=hx
  cases r with
  |obj e r n q t =>
   rw[hC] at e
   cases e
   exact⟨_,_,_,rfl,r,Zc6 t hn⟩
 |_=>cases hx
theorem YG{pl:Sem Bool}{k:Nat}{f C:Addr}{fd:FuncData}{ps:List Str}{m:Str}{c:String}{g:List D->RF}{dvs:List V}{dds:List D}{dvl:List Value}(hK:X.K=K)(hC:S.G.ca c=some C)(hm:Meth X.K C m f)(F:FnOkG X.prog X.w X.K X.mg X.base (L2.CX X.prog X.w) k f fd ps (SpF S.G S.xa (.sh::(ms++ms2)) g))(hr:RoomG k X.A)(hb:Binds X.K fd ps dvl)(hd:Vals dvs dvl)(hdd:DReps S.G ms2 dvs dds)(tk:Takes X S.W)
  (ho:PE X o (lE S fa))(ha:PA X (e::es) (lAs S ms fs))(hst:starEach (e::es) X.env=(false,eval e X.env)::starEach es X.env:=by rfl)(hpl:(backTo pos (starEach es X.env)).any (·.1)=false:=by rfl)
  (ht:eval (.Call (.Attribute o m apos) (e::es) [] pos) X.env=(do
   let ov <- eval o X.env
   standAt apos.atName
   let (f,first) <- holding [ov] (getMethod ov m pl)
   callWith pos f first (backTo pos (starEach (e::es) X.env)) (backToKw pos (keywordEach [] X.env))):=by rfl):PE X (.Call (.Attribute o m apos) (e::es) [] pos) (lE S (Ys c m dds g fa fs)):=by
 subst hK
 refine PE.of (ZfZ (E:=WE S.W) ho (S.G.oc hC).cl hm F hr hb hd (fun σ=>passAt tk σ) ha hst hpl ht) fun σ H Q ⟨B,O,Fs,ρ,w,run⟩=> ?_
 refine⟨B,O,Fs,ρ,w,run.bind fun x ρ1 v O1 Fs1 H1 _ ev1 w1 r1 run1=> ?_⟩
 cases hx:isC c m x with
 |false=>rw[hx] at run1; exact run1.elim
 |true =>
  rw[hx,if_pos rfl] at run1
  obtain⟨a,dx,fvs,rfl,e3,hn⟩:=ZjM hC hx r1
  refine⟨a,dx,fvs,rfl,e3,hn,B,O1,Fs1,ρ1,w1,run1.bind fun ds ρ2 vs O2 Fs2 H2 _ ev2 w2 r2 run2=> ?_⟩
  exact Zcl w2 (.sh (r1.ev w1 ev2) (r2.app hdd.a)) run2
end
end Pu
namespace Pu
open PySem L2 PySem.Spec PyProof.Rows Pw
def ZdI(acc y:D):Option D:=match acc with
 |.lst ds=>if ds.length < line then some (.lst (ds++ [y])) else none
 |_=>none
theorem ZmF{K:PySem.W.Frag}{G:Gx K}{O:Addr->Prop}{H:Hp}{p:Addr}{acc acc' yd:D}{y:V}(h:Own G O H (.lst .sh) (.ref p) acc [p])(lO:O p)(ry:Rep G O H y yd)(e:ZdI acc yd=some acc') :
  ∃vs,H p=some (.lst vs)∧vs.length < sizeLine∧Own G O (upd H p (.lst (vs++ [y]))) (.lst .sh) (.ref p) acc' [p]:=by
 obtain⟨q,vs,ds,e1,e2,e3,e4,e5⟩:=J8 h
 cases e1
 subst e2
 unfold ZdI at e
 dsimp only at e
 split at e
 ·rename_i hl
  cases e
  have kw:Kept O H O (upd H p (.lst (vs++ [y]))):=Ql lO
  exact⟨vs,e3,by rw[e5.length]; exact Ja hl,ZaL Xi ((e5.app (.cons ry .nil)).keep kw)⟩
 ·cases e
def laL(tg:D->Env->Option Env)(tt:Env->R Bool)(te:Env->R D)(vs:List Nat):List D->D->Env->R D
 |[],acc,ρ=> .ok acc ρ
 |x::xs,acc,ρ=>match tg x ρ with
  |none=> .bad
  |some ρ1=>(tt ρ1).noX.bind fun k ρ2=>if k then (te ρ2).noX.bind fun yd ρ3=>match ZdI acc yd with
    |some acc'=>laL tg tt te vs xs acc' (Ze ρ3 vs)
    |none=> .bad
   else laL tg tt te vs xs acc (Ze ρ2 vs)
def Zcy(tg:D->Env->Option Env)(tt:Env->R Bool)(f1:Env->R (List D))(tg1:D->Env->Option Env)(tt1:Env->R Bool)(te:Env->R D)(vs vs1:List Nat):List D->D->Env->R D
 |[],acc,ρ=> .ok acc ρ
 |x::xs,acc,ρ=>match tg x ρ with
  |none=> .bad
  |some ρ1=>(tt ρ1).noX.bind fun k ρ2=>if k then (f1 ρ2).noX.bind fun ys ρ3=>(laL tg1 tt1 te vs1 ys acc (Ze ρ3 vs1)).noX.bind fun acc' ρ4=>Zcy tg tt f1 tg1 tt1 te vs vs1 xs acc' (Ze ρ4 vs)
   else Zcy tg tt f1 tg1 tt1 te vs vs1 xs acc (Ze ρ2 vs)
def ZmG(f:Env->R (List D))(tg:D->Env->Option Env)(tt:Env->R Bool)(f1:Env->R (List D))(tg1:D->Env->Option Env)(tt1:Env->R Bool)(te:Env->R D)(vs vs1:List Nat):Env->R D:=fun ρ=>(f ρ).bind fun xs ρ1=>Zcy tg tt f1 tg1 tt1 te vs vs1 xs (.lst []) (Ze ρ1 vs)
section
variable {K:PySem.W.Frag}{S:Sx K}{tgf:D->Env->Option Env}{tt:Env->R Bool}{te:Env->R D}{Mt:List Md}{us:List Nat}
theorem ZmH{vs:List Nat}{σ:L2.St}{B O1:Addr->Prop}{Fs1:List (List Addr)}{H1:Hp}{ρ1:Env}{p:Addr}{acc0:D}{J:It}{xs:List D}{Nx:Hp->Prop}{Po:R D->Prop}(hv:Yi S.M vs=true)(hu:∀t∈us,t∈vs)(wk:Nk Mt S.M)(w1:Wd S.G B O1 Fs1 H1 σ ρ1 S.M)(op1:O1 p)(pf1:p∉Fs1.flatten)(ow1:Own S.G O1 H1 (.lst .sh) (.ref p) acc0 [p])
  (nbp:∀(j:Nat) (v:V) (d:D),S.M[j]?=some .br->σ[j]?=some (some v)->ρ1[j]?=some (some d)->((∀ds,d≠ .ktp ds)∧(∀c,d≠ .cls c)∧∀ns,d≠ .klt ns)->v≠ .ref p)(r1:ItOk S.G J xs O1 (p::Fs1.flatten) H1)(bad:¬ Po .bad)(run1:Po (laL tgf tt te vs xs acc0 (Ze ρ1 vs)))
  (fin:∀acc O Fs H ρ,Wd S.G B O Fs H σ ρ S.M->EvP S.M p O1 Fs1 H1 ρ1 O Fs H ρ->O p->p∉Fs.flatten->Own S.G O H (.lst .sh) (.ref p) acc [p]->Po (.ok acc ρ)->Nx H) :
  ∃W1:Nat->Nat->Hp->Prop,(∃m,W1 0 m H1)∧∀i m H,W1 i m H->(J.stop i H∧Nx H)∨(J.go i H∧∃Ny:Hp->Prop,(∀H',Ny H'->∃m',m' < m∧W1 (i+1) m' H')∧
   ∀x H',J.yld i H x H'->lG S.tx S.M Mt us tgf x (wipe σ vs) H' fun σ2 H2=>wipe σ2 vs=wipe σ vs∧lT (S.inn Mt) tt σ2 H2 fun b H3=>if b=true then lE (S.inn Mt) te σ2 H3 fun y H4=>∃acc,H4 p=some (.lst acc)∧acc.length < sizeLine∧Ny (upd H4 p (.lst (acc++ [y]))) else Ny H3):=by
 have neqa:∀j,S.M[j]?≠some .na->j∉vs:=fun j h z=>h (Qk hv z)
 refine⟨fun i m H=>∃O Fs ρ acc,m=xs.length - i∧Wd S.G B O Fs H σ ρ S.M∧EvP S.M p O1 Fs1 H1 ρ1 O Fs H ρ∧O p∧p∉Fs.flatten∧Own S.G O H (.lst .sh) (.ref p) acc [p]∧Po (laL tgf tt te vs (xs.drop i) acc (Ze ρ vs)),
  ⟨_,O1,Fs1,ρ1,acc0,rfl,w1,EvP.refl,op1,pf1,ow1,run1⟩, ?_⟩
 rintro i m H2 ⟨O2,Fs2,ρ2,acc,rfl,w2,ev2,op,pf,ow2,run2⟩
 have kp0:Kp0 O1 (p::Fs1.flatten) H1 O2 H2:=⟨fun b o h n=>ev2.chg b o h (fun z=>n (Xm _ z)) (fun z=>n (by rw[z]; exact Xg ..)),ev2.grow⟩
 by_cases hi:i < xs.length
 ·refine .inr ⟨r1.go i O2 H2 kp0 hi,fun H=>∃O Fs ρ acc,Wd S.G B O Fs H σ ρ S.M∧EvP S.M p O1 Fs1 H1 ρ1 O Fs H ρ∧O p∧p∉Fs.flatten∧Own S.G O H (.lst .sh) (.ref p) acc [p]∧
   Po (laL tgf tt te vs (xs.drop (i+1)) acc (Ze ρ vs)),fun H' ⟨O',Fs',ρ',acc',h1,h2,h3,h4,h5,h6⟩=>⟨xs.length - (i+1),by omega,O',Fs',ρ',acc',rfl,h1,h2,h3,h4,h5,h6⟩,fun x H3 hy=> ?_⟩
  have hd:xs[i]?=some (xs[i]'hi):=Xo hi
  obtain⟨sm,rp⟩:=r1.yl i O2 H2 x H3 _ kp0 w2.al hy hd
  have dr:xs.drop i=xs[i]'hi::xs.drop (i+1):=XR hi
  rw[dr] at run2
  have ev3:EvP S.M p O1 Fs1 H1 ρ1 O2 Fs2 H3 ρ2:=ev2.trans (Ev.same sm)
  have w3:Wd S.G B O2 Fs2 H3 (wipe σ vs) (Ze ρ2 vs) S.M:=(w2.same sm).emb hv
  obtain⟨op0,hp0⟩:=w2.al p op
  have ow3:Own S.G O2 H3 (.lst .sh) (.ref p) acc [p]:=Own.keep (Kept.same (O:=O2) sm) _ (fun c hc=>by rw[Xb.mp hc,hp0]; exact sm _ _ hp0) ow2
  have hp3:=sm _ _ hp0
  unfold laL at run2
  cases et:tgf (xs[i]'hi) (Ze ρ2 vs) with
  |none=>rw[et] at run2; exact(bad run2).elim
  |some ρ4 =>
   rw[et] at run2
   dsimp only at run2
   refine⟨B,O2,Fs2,Ze ρ2 vs,_,w3,rp,ρ4,et,fun σ4 Fs4 ev4 o4 w4=>⟨J7 o4.s hu,B,O2,Fs4,ρ4,w4, ?_⟩⟩
   have huv:∀j,j∉vs->j∉us:=fun j h z=>h (hu j z)
   have back:∀{O5:Addr->Prop}{Fs5:List (List Addr)}{H5:Hp}{ρ5:Env},Ev Mt O2 Fs4 H3 ρ4 O5 Fs5 H5 ρ5->Wd S.G B O5 Fs5 H5 σ4 ρ5 Mt->∃Fs6,Wd S.G B O5 Fs6 H5 σ (Ze ρ5 vs) S.M∧EvP S.M p O1 Fs1 H1 ρ1 O5 Fs6 H5 (Ze ρ5 vs)∧O5 p∧p∉Fs6.flatten∧Own S.G O5 H5 (.lst .sh) (.ref p) acc [p]:=fun {O5 Fs5 H5 ρ5} ev5 w5=>by
    obtain⟨Fs6,w6,l6⟩:=w5.nk wk
    have f4:∀b∈Fs4.flatten,b∈Fs2.flatten∨H3 b=none:=ev4.fgrow
    have n4:∀b o,H3 b=some o->b∉Fs2.flatten->b∉Fs4.flatten:=fun b o h n z=>by
     rcases f4 b z with z|z
     ·exact n z
     ·rw[h] at z; cases z
    have e25:Ev S.M O2 Fs2 H3 ρ2 O5 Fs6 H5 (Ze ρ5 vs):=by
     refine⟨fun b o h n=>ev5.chg b o h (n4 b o h n),ev5.dom,ev5.mono,ev5.grow,fun b hb=> ?_,fun j m hj ho=> ?_⟩
     ·rcases ev5.fgrow b (l6 b hb) with z|z
      ·exact f4 b z
      ·exact .inr z
     ·have hjv:j∉vs:=neqa j (by rw[hj]; intro z; cases z; cases ho)
      have hm:Mt[j]?=some m:=(o4.m.2 j (huv j hjv)).trans hj
      rw[Zq hjv,ev5.keep j m hm ho,o4.r.2 j (huv j hjv),Zq hjv]
    have hp5:H5 p=some op0.1:=e25.chg p _ hp3 pf
    refine⟨Fs6,w6.swap ?_ ZR fun j h=>⟨?_,Zq (neqa j h)⟩,ev3.trans e25,ev5.mono p op,fun z=> ?_,Own.keep (e25.kept w2.sub) _ (fun c hc=>by rw[Xb.mp hc,hp3]; exact hp5) ow3⟩
    ·have:=w6.ls
     rw[this,w2.ls]
    ·rw[o4.s.2 j (huv j (neqa j h)),wipe_out (neqa j h)]
    ·rcases e25.fgrow p z with z|z
     ·exact pf z
     ·rw[hp3] at z; cases z
   cases ek:tt ρ4 with
   |ex x ρ5=>rw[ek] at run2; exact(bad run2).elim
   |bad=>rw[ek] at run2; exact(bad run2).elim
   |ok k ρ5 =>
    rw[ek] at run2
    intro k' O5 Fs5 H5 ev5 w5 hk
    cases (show k'=k from hk)
    cases k with
    |false =>
     rw[if_neg (by decide)]
     obtain⟨Fs6,w6,ev6,op6,pf6,ow6⟩:=back ev5 w5
     exact⟨O5,Fs6,Ze ρ5 vs,acc,w6,ev6,op6,pf6,ow6,by rw[Z6]; exact run2⟩
    |true =>
     rw[if_pos rfl]
     refine⟨B,O5,Fs5,ρ5,w5, ?_⟩
     have run2:Po ((te ρ5).noX.bind fun yd ρ3=>match ZdI acc yd with
      |some acc'=>laL tgf tt te vs (xs.drop (i+1)) acc' (Ze ρ3 vs)
      |none=> .bad):=run2
     cases ey:te ρ5 with
     |ex x ρ6=>rw[ey] at run2; exact(bad run2).elim
     |bad=>rw[ey] at run2; exact(bad run2).elim
     |ok yd ρ6 =>
      rw[ey] at run2
      intro y O7 Fs7 H7 ev7 w7 ry
      have run2:Po (match ZdI acc yd with
       |some acc'=>laL tgf tt te vs (xs.drop (i+1)) acc' (Ze ρ6 vs)
       |none=> .bad):=run2
      obtain⟨Fs6,w6,ev6,op6,pf6,ow6⟩:=back (ev5.trans ev7) w7
      cases hq:ZdI acc yd with
      |none=>rw[hq] at run2; exact(bad run2).elim
      |some acc' =>
       rw[hq] at run2
       obtain⟨us,hus,lus,ow7⟩:=ZmF ow6 op6 ry hq
       obtain⟨w9,ev9,k9⟩:=Zf8 (u:= .lst (us++ [y])) nbp w6 ev6 op6 pf6 (fun _ z=>nomatch z)
       exact⟨us,hus,lus,O7,Fs6,Ze ρ6 vs,acc',w9,ev9,op6,pf6,ow7,by rw[Z6]; exact run2⟩
 ·refine .inl ⟨r1.st i O2 H2 kp0 (by omega), ?_⟩
  rw[XZ (by omega)] at run2
  exact fin acc O2 Fs2 H2 (Ze ρ2 vs) (w2.swap rfl ZR fun j h=>⟨rfl,Zq (neqa j h)⟩) (ev2.swap fun j h=>Zq (neqa j h)) op pf ow2 run2
end
section
variable {K:PySem.W.Frag}{S:Sx K}{X:Cx}{elt tg iter tg1 iter1:Expr}{ifs ifs1:List Expr}{scope:Scope}{own:List (Str × Nat)}{pos:Pos}{f f1:Env->R (List D)}{tgf tgf1:D->Env->Option Env}{tt tt1:Env->R Bool}{te:Env->R D}{Mt Mt1:List Md}{us us1:List Nat}
theorem ZqB{vs vs1:List Nat}{σ:L2.St}{H:Hp}{Q:VK}{wi:TI}(hw:∀R,lI S f σ H R->wi σ H R)(hv:Yi S.M vs=true)(hu:∀t∈us,t∈vs)(wk:Nk Mt S.M)(hv1:Yi Mt vs1=true)(hu1:∀t∈us1,t∈vs1)(wk1:Nk Mt1 Mt)(hbr:∀j∈us,Mt[j]?≠some .br)(h:lF S (.lst .sh) (ZmG f tgf tt f1 tgf1 tt1 te vs vs1) σ H Q):tLc2 wi (lG S.tx S.M Mt us tgf) (lT (S.inn Mt) tt) (lIS (S.inn Mt) f1) (lG S.tx Mt Mt1 us1 tgf1) (lT (S.inn Mt1) tt1) (lE (S.inn Mt1) te) vs vs1 σ H Q:=by
 obtain⟨B,O,Fs,ρ,w,run⟩:=h
 refine hw _ ⟨B,O,Fs,ρ,w,run.bind fun xs ρ1 J O1 Fs1 H1 _ ev1 w1 r1 run1 p hp=> ?_⟩
 have run1:RunF S (.lst .sh) (Zcy tgf tt f1 tgf1 tt1 te vs vs1 xs (.lst []) (Ze ρ1 vs)) B O1 Fs1 H1 σ ρ1 Q:=run1
 obtain⟨wp,evp,np,kp⟩:=w1.own1 (o:= .lst []) hp
 have neqa:∀j,S.M[j]?≠some .na->j∉vs:=fun j h z=>h (Qk hv z)
 have own0:Own S.G (fun a=>O1 a∨a=p) (upd H1 p (.lst [])) (.lst .sh) (.ref p) (.lst []) [p]:=ZaL Xi .nil
 refine⟨fun i m H=>∃O Fs ρ acc,m=xs.length - i∧Wd S.G B O Fs H σ ρ S.M∧Ev S.M O1 Fs1 H1 ρ1 O Fs H ρ∧O p∧p∉Fs.flatten∧Own S.G O H (.lst .sh) (.ref p) acc [p]∧
   RunF S (.lst .sh) (Zcy tgf tt f1 tgf1 tt1 te vs vs1 (xs.drop i) acc (Ze ρ vs)) B O1 Fs1 H1 σ ρ1 Q,
  ⟨_,_,Fs1,ρ1,.lst [],rfl,wp,evp,.inr rfl,fun z=> ?_,own0,run1⟩, ?_⟩
 ·obtain⟨o,ho⟩:=w1.al p (w1.sub p z)
  rw[hp] at ho
  cases ho
 rintro i m H2 ⟨O2,Fs2,ρ2,acc,rfl,w2,ev2,op,pf,ow2,run2⟩
 have kp0:Kp0 O1 Fs1.flatten H1 O2 H2:=⟨ev2.chg,ev2.grow⟩
 by_cases hi:i < xs.length
 ·refine .inr ⟨r1.go i O2 H2 kp0 hi,fun H=>∃O Fs ρ acc,Wd S.G B O Fs H σ ρ S.M∧Ev S.M O1 Fs1 H1 ρ1 O Fs H ρ∧O p∧p∉Fs.flatten∧Own S.G O H (.lst .sh) (.ref p) acc [p]∧
   RunF S (.lst .sh) (Zcy tgf tt f1 tgf1 tt1 te vs vs1 (xs.drop (i+1)) acc (Ze ρ vs)) B O1 Fs1 H1 σ ρ1 Q,fun H' ⟨O',Fs',ρ',acc',h1,h2,h3,h4,h5,h6⟩=>⟨xs.length - (i+1),by omega,O',Fs',ρ',acc',rfl,h1,h2,h3,h4,h5,h6⟩,fun x H3 hy=> ?_⟩
  have hd:xs[i]?=some (xs[i]'hi):=Xo hi
  obtain⟨sm,rp⟩:=r1.yl i O2 H2 x H3 _ kp0 w2.al hy hd
  have dr:xs.drop i=xs[i]'hi::xs.drop (i+1):=XR hi
  rw[dr] at run2
  have ev3:Ev S.M O1 Fs1 H1 ρ1 O2 Fs2 H3 ρ2:=ev2.trans (Ev.same sm)
  have w3:Wd S.G B O2 Fs2 H3 (wipe σ vs) (Ze ρ2 vs) S.M:=(w2.same sm).emb hv
  obtain⟨op0,hp0⟩:=w2.al p op
  have ow3:Own S.G O2 H3 (.lst .sh) (.ref p) acc [p]:=Own.keep (Kept.same (O:=O2) sm) _ (fun c hc=>by rw[Xb.mp hc,hp0]; exact sm _ _ hp0) ow2
  have hp3:=sm _ _ hp0
  unfold Zcy at run2
  cases et:tgf (xs[i]'hi) (Ze ρ2 vs) with
  |none=>rw[et] at run2; exact run2.elim
  |some ρ4 =>
   rw[et] at run2
   dsimp only at run2
   refine⟨B,O2,Fs2,Ze ρ2 vs,_,w3,rp,ρ4,et,fun σ4 Fs4 ev4 o4 w4=>⟨J7 o4.s hu,B,O2,Fs4,ρ4,w4, ?_⟩⟩
   have huv:∀j,j∉vs->j∉us:=fun j h z=>h (hu j z)
   have back:∀{O5:Addr->Prop}{Fs5:List (List Addr)}{H5:Hp}{ρ5:Env},EvP Mt p O2 Fs4 H3 ρ4 O5 Fs5 H5 ρ5->Wd S.G B O5 Fs5 H5 σ4 ρ5 Mt->p∉Fs5.flatten->∃Fs6,Wd S.G B O5 Fs6 H5 σ (Ze ρ5 vs) S.M∧Ev S.M O1 Fs1 H1 ρ1 O5 Fs6 H5 (Ze ρ5 vs)∧O5 p∧p∉Fs6.flatten:=fun {O5 Fs5 H5 ρ5} ev5 w5 pf5=>by
    obtain⟨Fs6,w6,l6⟩:=w5.nk wk
    have f4:∀b∈Fs4.flatten,b∈Fs2.flatten∨H3 b=none:=ev4.fgrow
    have n4:∀b o,H3 b=some o->b∉Fs2.flatten->b∉Fs4.flatten:=fun b o h n z=>by
     rcases f4 b z with z|z
     ·exact n z
     ·rw[h] at z; cases z
    have e25:EvP S.M p O2 Fs2 H3 ρ2 O5 Fs6 H5 (Ze ρ5 vs):=by
     refine⟨fun b o h n np=>ev5.chg b o h (n4 b o h n) np,ev5.dom,ev5.mono,ev5.grow,fun b hb=> ?_,fun j m hj ho=> ?_⟩
     ·rcases ev5.fgrow b (l6 b hb) with z|z
      ·exact f4 b z
      ·exact .inr z
     ·have hjv:j∉vs:=neqa j (by rw[hj]; intro z; cases z; cases ho)
      have hm:Mt[j]?=some m:=(o4.m.2 j (huv j hjv)).trans hj
      rw[Zq hjv,ev5.keep j m hm ho,o4.r.2 j (huv j hjv),Zq hjv]
    refine⟨Fs6,w6.swap ?_ ZR fun j h=>⟨?_,Zq (neqa j h)⟩,ev3.thenP e25 hp,ev5.mono p op,fun z=>pf5 (l6 p z)⟩
    ·have:=w6.ls
     rw[this,w2.ls]
    ·rw[o4.s.2 j (huv j (neqa j h)),wipe_out (neqa j h)]
   have pf4:p∉Fs4.flatten:=fun z=>by
    rcases ev4.fgrow p z with z|z
    ·exact pf z
    ·rw[hp3] at z; cases z
   cases ek:tt ρ4 with
   |ex x ρ5=>rw[ek] at run2; exact run2.elim
   |bad=>rw[ek] at run2; exact run2.elim
   |ok k ρ5 =>
    rw[ek] at run2
    intro k' O5 Fs5 H5 ev5 w5 hk
    cases (show k'=k from hk)
    cases k with
    |false =>
     rw[if_neg (by decide)]
     have pf5:p∉Fs5.flatten:=fun z=>by
      rcases ev5.fgrow p z with z|z
      ·exact pf4 z
      ·rw[hp3] at z; cases z
     obtain⟨Fs6,w6,ev6,op6,pf6⟩:=back (EvP.refl.trans ev5) w5 pf5
     have hp5:H5 p=some op0.1:=ev5.chg p _ hp3 pf4
     exact⟨O5,Fs6,Ze ρ5 vs,acc,w6,ev6,op6,pf6,Own.keep (ev5.kept w4.sub) _ (fun c hc=>by rw[Xb.mp hc,hp3]; exact hp5) ow3,by rw[Z6]; exact run2⟩
    |true =>
     rw[if_pos rfl]
     refine⟨B,O5,Fs5,ρ5,w5, ?_⟩
     have run2:RunF S (.lst .sh) ((f1 ρ5).noX.bind fun ys ρ3=>(laL tgf1 tt1 te vs1 ys acc (Ze ρ3 vs1)).noX.bind fun acc' ρ4=>Zcy tgf tt f1 tgf1 tt1 te vs vs1 (xs.drop (i+1)) acc' (Ze ρ4 vs)) B O1 Fs1 H1 σ ρ1 Q:=run2
     cases ey:f1 ρ5 with
     |ex x ρ6=>rw[ey] at run2; exact run2.elim
     |bad=>rw[ey] at run2; exact run2.elim
     |ok ys ρ6 =>
      rw[ey] at run2
      intro J1 O7 Fs7 H7 ev7 w7 it7
      have ev57:=ev5.trans ev7
      have pf7:p∉Fs7.flatten:=fun z=>by
       rcases ev57.fgrow p z with z|z
       ·exact pf4 z
       ·rw[hp3] at z; cases z
      have op7:O7 p:=ev57.mono p op
      have hp7:H7 p=some op0.1:=ev57.chg p _ hp3 pf4
      have ow7:Own S.G O7 H7 (.lst .sh) (.ref p) acc [p]:=Own.keep (ev57.kept w4.sub) _ (fun c hc=>by rw[Xb.mp hc,hp3]; exact hp7) ow3
      refine ZmH (S:=S.inn Mt) (Mt:=Mt1) (us:=us1) (Po:=fun r=>RunF S (.lst .sh) (r.noX.bind fun acc' ρ4=>Zcy tgf tt f1 tgf1 tt1 te vs vs1 (xs.drop (i+1)) acc' (Ze ρ4 vs)) B O1 Fs1 H1 σ ρ1 Q) hv1 hu1 wk1 w7 op7 pf7 ow7 (fun j v d h1 h2 h3 nk=> ?_) (it7 p op7) (fun z=>z) run2 ?_
      ·have hj:j∉us:=fun z=>hbr j z h1
       have hm:S.M[j]?=some .br:=(o4.m.2 j hj).symm.trans h1
       have hjv:j∉vs:=neqa j (by rw[hm]; intro z; cases z)
       have hsj:σ[j]?=some (some v):=by rw[<- wipe_out hjv,<- o4.s.2 j hj]; exact h2
       have hrj:ρ1[j]?=some (some d):=by
        rw[<- ev3.keep j .br hm rfl,<- Zq (ρ:=ρ2) hjv,<- o4.r.2 j hj,<- ev57.keep j .br h1 rfl]
        exact h3
       obtain⟨v2,d2,f2,g1,g2,g3,_,v3,d3,g4,g5,r2⟩:=w1.get hm
       subst g4 g5
       rw[hsj] at g1
       rw[hrj] at g2
       cases g1
       cases g2
       exact Zei hp nk r2
      ·intro acc' O8 Fs8 H8 ρ8 w8 ev8 op8 pf8 ow8 po
       obtain⟨Fs6,w6,ev6,op6,pf6⟩:=back ((EvP.refl.trans ev57).transP ev8) w8 pf8
       exact⟨O8,Fs6,Ze ρ8 vs,acc',w6,ev6,op6,pf6,ow8,by rw[Z6]; exact po⟩
 ·refine .inl ⟨r1.st i O2 H2 kp0 (by omega), ?_⟩
  rw[XZ (by omega)] at run2
  have run2:RunF S (.lst .sh) (.ok acc (Ze ρ2 vs)) B O1 Fs1 H1 σ ρ1 Q:=run2
  have e:=(ev2.swap (ρ':=Ze ρ2 vs) fun j h=>Zq (neqa j h))
  exact run2 (.ref p) O2 Fs2 H2 [p] e (w2.swap rfl ZR fun j h=>⟨rfl,Zq (neqa j h)⟩) ow2 ⟨by simp,fun b hb=>by rw[Xb.mp hb]; exact op,fun b hb=>by rw[Xb.mp hb]; exact pf,fun b hb=>by rw[Xb.mp hb]; exact hp⟩
end
section
variable {K:PySem.W.Frag}{T:Tx K}{M Mt Mt1:List Md}{X:Cx}{elt tg iter tg1 iter1:Expr}{ifs ifs1:List Expr}{scope:Scope}{own:List (Str × Nat)}{pos spos py:Pos}{f f1:Env->R (List D)}{tgf tgf1:D->Env->Option Env}{tt tt1:Env->R Bool}{te:Env->R D}{us us1:List Nat}{i:Nat}{y:Str}
theorem ZmI{vs1:List Nat}(hc:X.calm=true)(hN:X.N.Nodup)(hy:X.N[i]?=some y)(hyl:X.env.scope.names.lookup y=some .local)(hsw:swapsWith (.ListComp elt [⟨tg,iter,ifs,0⟩,⟨tg1,iter1,ifs1,0⟩] scope pos) (some (.Name y py)) spos.line X.env=pure true)(hi:PI X tg iter (lI (T.ex M) f))(ok:BlkOk X.N X.env.scope scope own)(hv:Yi M (own.map (·.2))=true)(hu:∀t∈us,t∈own.map (·.2))(wk:Nk Mt M)(hvo:∀i∈vs1,i∈own.map (·.2))(hv1:Yi Mt vs1=true)(hu1:∀t∈us1,t∈vs1)(wk1:Nk Mt1 Mt)(hbr:∀j∈us,Mt[j]?≠some .br)
  (hg:∀(s:Shared) (H:Hp) (C:Addr) (cl:List (Str × Addr)) (fp:List Addr),PG (X.blk s H scope (compEnvC scope cl C X.env) fp) tg (lG (T.ex M).tx M Mt us tgf))(ht:∀(s:Shared) (H:Hp) (C:Addr) (cl:List (Str × Addr)) (fp:List Addr),PTs (X.blk s H scope (compEnvC scope cl C X.env) fp) ifs (lT ((T.ex M).inn Mt) tt))
  (hi1:∀(s:Shared) (H:Hp) (C:Addr) (cl:List (Str × Addr)) (fp:List Addr),PI (X.blk s H scope (compEnvC scope cl C X.env) fp) tg1 iter1 (lIS ((T.ex M).inn Mt) f1))(hg1:∀(s:Shared) (H:Hp) (C:Addr) (cl:List (Str × Addr)) (fp:List Addr),PG (X.blk s H scope (compEnvC scope cl C X.env) fp) tg1 (lG (T.ex M).tx Mt Mt1 us1 tgf1))(ht1:∀(s:Shared) (H:Hp) (C:Addr) (cl:List (Str × Addr)) (fp:List Addr),PTs (X.blk s H scope (compEnvC scope cl C X.env) fp) ifs1 (lT ((T.ex M).inn Mt1) tt1))
  (he:∀(s:Shared) (H:Hp) (C:Addr) (cl:List (Str × Addr)) (fp:List Addr),PE (X.blk s H scope (compEnvC scope cl C X.env) fp) elt (lE ((T.ex M).inn Mt1) te))(wx:Wk M T.Mx)(hn:nf M i=true)(hs:∀x,foldedSetIterable iter X.env x=pure x:=by intro _; rfl)(hs1:∀env x,foldedSetIterable iter1 env x=pure x:=by intro _ _; rfl) :
  PS X (.Assign [.Name y py] (.ListComp elt [⟨tg,iter,ifs,0⟩,⟨tg1,iter1,ifs1,0⟩] scope pos) spos) (lS T M (M.set i (.ow (.lst .sh))) (ZB i (ZmG f tgf tt f1 tgf1 tt1 te (own.map (·.2)) vs1))):=by
 refine PS.of (ps_setLc2 hc hN hy hyl hsw hi ok hvo hg ht hi1 hg1 ht1 he hs hs1) fun E σ H ⟨B,O,Fs,ρ,w,run⟩=> ?_
 refine ZqB (S:=T.ex M) (fun R h=>h) hv hu wk hv1 hu1 wk1 hbr ⟨B,O,Fs,ρ,w,RunS.bindF run wx fun a ρ1 v O1 Fs1 H1 Fv ev w1 ow n run1=> ?_⟩
 refine run1 O1 (Fs1.set i Fv) H1 _ (EvS.set ev.toS hn (fun b hb=> .inr (n.fr b hb))) (w1.setOw hn n (fun b hb z=> ?_) (ZeE w ev w1 n) ow)
 obtain⟨o,ho⟩:=w.al b (w.bo b z)
 rw[n.fr b hb] at ho
 cases ho
end
end Pu
namespace Pu
open PySem L2 PySem.Spec PyProof.Rows Pw
def Zdc(a b:D):Option D:=match a,b with
 |.bl x,.bl y=>some (.bl (decide (x=y)))
 |_,_=>none
def ZgP(a b:D):Option D:=match a,b with
 |.bl x,.bl y=>some (.bl (!decide (x=y)))
 |_,_=>none
section
variable {K:PySem.W.Frag}{S:Sx K}{X:Cx}{a b:Expr}{fa fb:Env->R D}{pos:Pos}
theorem ZqC{G:Gx K}:OpP G rIsB Zdc:=fun O F H x y a b d al e hx hy Q k=>by
 cases a with
 |bl u =>
  cases b with
  |bl v =>
   cases e
   exact⟨u,v,hx.bl,hy.bl,k _ _ (Xt H) (.bl _)⟩
  |_=>cases e
 |_=>cases e
theorem ZpW{G:Gx K}:OpP G rNotB ZgP:=fun O F H x y a b d al e hx hy Q k=>by
 cases a with
 |bl u =>
  cases b with
  |bl v =>
   cases e
   exact⟨u,v,hx.bl,hy.bl,k _ _ (Xt H) (.bl _)⟩
  |_=>cases e
 |_=>cases e
theorem Zko(ha:PE X a (lB S fa))(hb:PE X b (lB S fb)):PE X (.Compare a [.Is] [b] pos) (lE S (sOp Zdc fa fb)):=Zci op_isBl ZqC ha hb (nomark _)
theorem Zo5(ha:PE X a (lB S fa))(hb:PE X b (lB S fb)):PT X (.Compare a [.IsNot] [b] pos) (lT S (sB (sOp ZgP fa fb))):=Zbj op_notBl ZpW ha hb (nomark _)
end
end Pu
namespace Pu
open PySem L2 PySem.Spec PyProof.Rows Pw
def Znq:V->List V->Hp->VK->Prop:=fun x vs H Q=>∃l b xs zs,x= .ref l∧vs= [.ref b]∧H l=some (.lst xs)∧Rd H b (.lst zs)∧xs.length+zs.length<=sizeLine∧Q .non (upd H l (.lst (xs++zs)))
section
variable {X:Cx}
theorem Zkp:MtM X "list.extend" Znq:=by
 intro pins s σ H x vs v us Q I rx rv h
 obtain⟨l,b,xs,zs,rfl,rfl,hH,hB,hz,q⟩:=h
 cases rx
 obtain⟨u,rfl,ru⟩:=rv.one
 cases ru
 obtain⟨z,its,n,r,hl,e⟩:=I.lstM hH
 obtain⟨z2,its2,n2,r2,e2⟩:=hB.ok I.hok
 have l2:=r2.length
 have hsz:its.toArray.size+its2.toArray.size<=sizeLine:=by rw[Vq,Vq]; omega
 have hlong:¬ (!its.toArray.isEmpty && Builtin.List.listTooLong (its.toArray.size+its2.toArray.size))=true:=by
  rw[notLongL hsz,Bool.and_false]
  exact VX
 refine call_meets F.slot_list_extend ⟨_,e,rfl⟩ F.entry_list_extend (F.args_list_extend_2 _ _)
  (AutoSeq1.list_extend_list_list_0 l its.toArray n b its2.toArray n2 hlong (by rw[Vq]; omega) (by omega)) ⟨e,e2, ?_⟩
 refine⟨.non,_,I.lset (its':=its++its2) hH e (by simp) (r.append r2) ?_,rfl,q⟩
 rw[XX]
 omega
end
def ZmJ(ds as:List D):Option (D × List D):=match as with
 |[.lst zs]=>if ds.length+zs.length<=line then some (.non,ds++zs) else none
 |_=>none
theorem Zo6:Zee Znq ZmJ:=by
 intro K G O H l vs args ds as d ds' e hl rs ra hO Q k
 match as,e with
 |[.lst zs],e =>
  unfold ZmJ at e
  dsimp only at e
  split at e
  ·rename_i hz
   cases e
   cases ra with
   |cons r t =>
    cases t
    cases r with
    |lst r n t =>
     have l1:=rs.length
     have l2:=t.length
     exact⟨l,_,vs,_,rfl,rfl,hl,r,by rw[l1,l2]; exact XD hz Yw,k _ _ .non (rs.append t)⟩
  ·cases e
section
variable {K:PySem.W.Frag}{T:Tx K}{M:List Md}{X:Cx}{a b c:Expr}{f1 f2 f3:Env->R D}{t1 t2 t3:Shp}{i j l:Nat}{x y z:Str}{px py pz pt pos:Pos}{kt k2} {pt2:Pos}
def ZgQ(i j l:Nat)(f1 f2 f3:Env->R D):Env->RS:=fun ρ=>(f1 ρ).bindS fun d1 ρ1=>(f2 ρ1).bindS fun d2 ρ2=>(f3 ρ2).bindS fun d3 ρ3=> .nx (((ρ3.set i (some d1)).set j (some d2)).set l (some d3))
structure Nw {K:PySem.W.Frag}(G:Gx K) (B O:Addr->Prop) (Fs:List (List Addr)) (H:Hp) (t:Shp) (v:V) (d:D) (Fv:List Addr):Prop where
 own:Own G O H t v d Fv
 nd:Fv.Nodup
 sub:∀b∈Fv,O b
 dj:∀b∈Fv,b∉Fs.flatten
 nb:∀b∈Fv,¬ B b
theorem Nw.ev{G:Gx K}{B O O':Addr->Prop}{Fs Fs':List (List Addr)}{H H':Hp}{σ:L2.St}{ρ ρ':Env}{t:Shp}{v:V}{d:D}{Fv:List Addr}(n:Nw G B O Fs H t v d Fv)(w:Wd G B O Fs H σ ρ M)(e:Ev M O Fs H ρ O' Fs' H' ρ'):Nw G B O' Fs' H' t v d Fv:=by
 have old:∀b∈Fv,∃o,H b=some o:=fun b hb=>by
  obtain⟨o,ho⟩:=w.al b (n.sub b hb)
  exact⟨o,ho⟩
 refine⟨Own.keep (e.kept w.sub) _ (fun b hb=> ?_) n.own,n.nd,fun b hb=>e.mono b (n.sub b hb),fun b hb q=> ?_,n.nb⟩
 ·obtain⟨o,ho⟩:=old b hb
  rw[ho]
  exact e.chg b o ho (n.dj b hb)
 ·rcases e.fgrow b q with q|q
  ·exact n.dj b hb q
  ·obtain⟨o,ho⟩:=old b hb
   rw[ho] at q; cases q
theorem Zep{M:List Md}{i:Nat}{t:Shp}(h:ZhK M=true):ZhK (M.set i t.mo)=true:=by
 refine XM.mpr fun m hm=> ?_
 rcases List.mem_or_eq_of_mem_set hm with hm|hm
 ·exact XM.mp h m hm
 ·subst hm
  cases t <;> rfl
theorem Nw.set{G:Gx K}{B O:Addr->Prop}{Fs:List (List Addr)}{H:Hp}{σ:L2.St}{ρ:Env}{t:Shp}{v:V}{d:D}{Fv:List Addr}{q:Nat}(n:Nw G B O Fs H t v d Fv)(w:Wd G B O Fs H σ ρ M)(hn:nf M q=true)(nb:ZhK M=true) :
  Wd G B O (Fs.set q Fv) H (σ.set q (some v)) (ρ.set q (some d)) (M.set q t.mo) :=
 w.set hn n.nd n.sub n.dj (fun j v' d' e _ _=>absurd e (ZjL nb)) (Zfx t n.nb n.own)
theorem Nw.after{G:Gx K}{B O:Addr->Prop}{Fs:List (List Addr)}{H:Hp}{t:Shp}{v:V}{d:D}{Fv Fw:List Addr}{q:Nat}(n:Nw G B O Fs H t v d Fv)(h:∀b∈Fv,b∉Fw):Nw G B O (Fs.set q Fw) H t v d Fv :=
 ⟨n.own,n.nd,n.sub,fun b hb z=>by
  rcases Zs z with z|⟨p,F1,_,e,hb1⟩
  ·exact h b hb z
  ·exact n.dj b hb (Zj (Xa e) hb1),n.nb⟩
theorem Zo7(hc:X.calm=true)(hN:X.N.Nodup)(hi:X.N[i]?=some x)(hj:X.N[j]?=some y)(hl:X.N[l]?=some z)(hij:i≠j)(hil:i≠l)(hjl:j≠l)(hx:X.env.scope.names.lookup x=some .local)(hy:X.env.scope.names.lookup y=some .local)(hz:X.env.scope.names.lookup z=some .local)
  (hw:swappedStores [.Tuple [.Name x px,.Name y py,.Name z pz] kt pt] (.Tuple [a,b,c] k2 pt2) X.env=pure (some [x,y,z]))(h1:PE X a (lF (T.ex M) t1 f1))(h2:PE X b (lF (T.ex M) t2 f2))(h3:PE X c (lF (T.ex M) t3 f3))(wx:Wk M T.Mx)(n1:nf M i=true)(n2:nf M j=true)(n3:nf M l=true)(nb:ZhK M=true)
  (hs:swapsWithSole [.Tuple [.Name x px,.Name y py,.Name z pz] kt pt] (.Tuple [a,b,c] k2 pt2) pos.line X.env=pure false:=by rfl)(hsa:starEach [a,b,c] X.env=(false,eval a X.env)::starEach [b,c] X.env:=by rfl)(hsb:starEach [b,c] X.env=(false,eval b X.env)::starEach [c] X.env:=by rfl)(hsc:starEach [c] X.env=(false,eval c X.env)::starEach [] X.env:=by rfl) :
  PS X (.Assign [.Tuple [.Name x px,.Name y py,.Name z pz] kt pt] (.Tuple [a,b,c] k2 pt2) pos) (lS T M (((M.set i t1.mo).set j t2.mo).set l t3.mo) (ZgQ i j l f1 f2 f3)):=by
 refine PS.of (ps_par3 hc hN hi hj hl hij hil hjl hx hy hz (pa_cons h1 (pa_cons h2 (pa_cons h3 pa_nil hsc) hsb) hsa) hw hs) fun E σ H ⟨B,O,Fs,ρ,w,run⟩=> ?_
 have exO:∀{r:RS}{x:Exn}{ρ':Env}{O1:Addr->Prop}{Fs1:List (List Addr)}{H1:Hp}{ρ1:Env},r= .ex x ρ'->RunS T M (((M.set i t1.mo).set j t2.mo).set l t3.mo) r B O Fs H σ ρ E->Ev M O Fs H ρ O1 Fs1 H1 ρ1->∀cls dd O' Fs' H',Ev M O1 Fs1 H1 ρ1 O' Fs' H' ρ'->Wd T.G B O' Fs' H' σ ρ' M->XRep T.G T.xa O' H' cls dd x->T.W cls dd σ H':=fun {r x ρ' O1 Fs1 H1 ρ1} er run e0 cls dd O' Fs' H' e w xr=>by
  rw[er] at run
  obtain⟨O3,Fs3,w3,l⟩:=w.wk wx
  exact run cls dd O3 Fs3 H' σ ((e0.trans e).toS.less l) w3 (xr.anti l.o)
 have mkN:∀{O1 O2:Addr->Prop}{Fs1 Fs2:List (List Addr)}{H1 H2:Hp}{ρ1 ρ2:Env}{t:Shp}{v:V}{d:D}{Fv:List Addr},Ev M O Fs H ρ O1 Fs1 H1 ρ1->Own T.G O2 H2 t v d Fv->New B O2 Fs2 Fv H1->Nw T.G B O2 Fs2 H2 t v d Fv∧∀b∈Fv,H b=none:=fun {O1 O2 Fs1 Fs2 H1 H2 ρ1 ρ2 t v d Fv} e ow n=>by
  have fr:∀b∈Fv,H b=none:=fun b hb=>by
   cases q:H b with
   |none=>rfl
   |some o=>obtain⟨o',h'⟩:=e.dom b o q; rw[n.fr b hb] at h'; cases h'
  refine⟨⟨ow,n.nd,n.sub,n.dj,fun b hb q=> ?_⟩,fr⟩
  obtain⟨o,ho⟩:=w.al b (w.bo b q)
  rw[fr b hb] at ho
  cases ho
 refine⟨B,O,Fs,ρ,w, ?_⟩
 have run:RunS T M (((M.set i t1.mo).set j t2.mo).set l t3.mo) (ZgQ i j l f1 f2 f3 ρ) B O Fs H σ ρ E:=run
 unfold ZgQ at run
 cases e1:f1 ρ with
 |bad=>rw[e1] at run; exact run.elim
 |ex q ρ1=>rw[e1] at run; exact exO (r:= .ex q ρ1) rfl run Ev.refl
 |ok d1 ρ1 =>
  rw[e1] at run
  have run:RunS T M (((M.set i t1.mo).set j t2.mo).set l t3.mo) ((f2 ρ1).bindS fun d2 ρ2=>(f3 ρ2).bindS fun d3 ρ3=> .nx (((ρ3.set i (some d1)).set j (some d2)).set l (some d3))) B O Fs H σ ρ E:=run
  intro v1 O1 Fs1 H1 Fv1 ev1 w1 ow1 nw1
  obtain⟨N1,fr1⟩:=mkN (ρ1:=ρ) (ρ2:=ρ1) Ev.refl ow1 nw1
  refine⟨B,O1,Fs1,ρ1,w1, ?_⟩
  cases e2:f2 ρ1 with
  |bad=>rw[e2] at run; exact run.elim
  |ex q ρ2=>rw[e2] at run; exact exO (r:= .ex q ρ2) rfl run ev1
  |ok d2 ρ2 =>
   rw[e2] at run
   have run:RunS T M (((M.set i t1.mo).set j t2.mo).set l t3.mo) ((f3 ρ2).bindS fun d3 ρ3=> .nx (((ρ3.set i (some d1)).set j (some d2)).set l (some d3))) B O Fs H σ ρ E:=run
   intro v2 O2 Fs2 H2 Fv2 ev2 w2 ow2 nw2
   obtain⟨N2,fr2⟩:=mkN (ρ1:=ρ1) (ρ2:=ρ2) ev1 ow2 nw2
   have N1':=N1.ev w1 ev2
   refine⟨B,O2,Fs2,ρ2,w2, ?_⟩
   cases e3:f3 ρ2 with
   |bad=>rw[e3] at run; exact run.elim
   |ex q ρ3=>rw[e3] at run; exact exO (r:= .ex q ρ3) rfl run (ev1.trans ev2)
   |ok d3 ρ3 =>
    rw[e3] at run
    intro v3 O3 Fs3 H3 Fv3 ev3 w3 ow3 nw3
    obtain⟨N3,fr3⟩:=mkN (ρ1:=ρ2) (ρ2:=ρ3) (ev1.trans ev2) ow3 nw3
    have N1'':=N1'.ev w2 ev3
    have N2':=N2.ev w2 ev3
    have ev:=(ev1.trans ev2).trans ev3
    have a1:∀b∈Fv1,∃o,H1 b=some o:=fun b hb=>by obtain⟨o,ho⟩:=w1.al b (N1.sub b hb); exact⟨o,ho⟩
    have a1':∀b∈Fv1,∃o,H2 b=some o:=fun b hb=>by obtain⟨o,ho⟩:=w2.al b (N1'.sub b hb); exact⟨o,ho⟩
    have a2:∀b∈Fv2,∃o,H2 b=some o:=fun b hb=>by obtain⟨o,ho⟩:=w2.al b (N2.sub b hb); exact⟨o,ho⟩
    have d21:∀b∈Fv2,b∉Fv1:=fun b hb z=>by obtain⟨o,ho⟩:=a1 b z; rw[nw2.fr b hb] at ho; cases ho
    have d31:∀b∈Fv3,b∉Fv1:=fun b hb z=>by obtain⟨o,ho⟩:=a1' b z; rw[nw3.fr b hb] at ho; cases ho
    have d32:∀b∈Fv3,b∉Fv2:=fun b hb z=>by obtain⟨o,ho⟩:=a2 b z; rw[nw3.fr b hb] at ho; cases ho
    have wi:=N1''.set w3 n1 nb
    have wj:=(N2'.after (q:=i) d21).set wi (ZeL n2 hij) (Zep nb)
    have wl:=((N3.after (q:=i) d31).after (q:=j) d32).set wj (ZeL (ZeL n3 hil) hjl) (Zep (Zep nb))
    refine⟨v1,v2,v3,rfl, ?_⟩
    refine run O3 _ H3 _ ⟨ev.chg,ev.dom,ev.grow,fun b hb=> ?_,fun q m g1 g2=> ?_,fun q g1=>absurd g1 (ZjL nb)⟩ wl
    ·rcases Zs hb with hb|⟨q,F1,_,e,hb⟩
     ·exact .inr (fr3 b hb)
     ·rcases Zs (Zj (Xa e) hb) with hb|⟨q,F1,_,e,hb⟩
      ·exact .inr (fr2 b hb)
      ·rcases Zs (Zj (Xa e) hb) with hb|⟨q,F1,_,e,hb⟩
       ·exact .inr (fr1 b hb)
       ·exact ev.fgrow b (Zj (Xa e) hb)
    ·have ne:∀{p:Nat},nf M p=true->q≠p:=fun {p} hp z=>by
      subst z
      unfold nf at hp
      rw[g1] at hp
      simp only[g2] at hp
      cases hp
     rw[Xf (XI (ne n3)),Xf (XI (ne n2)),Xf (XI (ne n1))]
end
end Pu
namespace Pu
open PySem L2 PySem.Spec PyProof.Rows Pw PySem.Builtin.Str
def ZbM:List Nat->List Nat->Bool
 |[],_=>true
 |y::ys,c::cs=>Nat.beq y c && ZbM ys cs
 |_::_,[]=>false
theorem ZhL:∀(y l:List Nat),ZbM y l=true ↔ l.take y.length=y
 |[],l=>by simp[ZbM]
 |y::ys,[]=>by simp[ZbM]
 |y::ys,c::cs=>by
  have ih:=ZhL ys cs
  simp only[ZbM,Xp,Nat.beq_eq,Xs,List.take_succ_cons,List.cons.injEq,ih]
  constructor
  ·rintro⟨a,b⟩; exact⟨a.symm,b⟩
  ·rintro⟨a,b⟩; exact⟨a.symm,b⟩
def ZbN(y:List Nat)(m:Nat):List Nat->Nat->Nat->Nat->List Nat
 |[],i,free,lim=>if Nat.ble 1 lim && Nat.ble free i && ZbM y [] then [i] else []
 |c::cs,i,free,lim=>if Nat.ble 1 lim && Nat.ble free i && ZbM y (c::cs) then i::ZbN y m cs (i+1) (i+m) (lim - 1) else ZbN y m cs (i+1) free lim
theorem ZjN(x y:Str)(i:Nat)(hi:i<=x.length):(i+y.length<=x.length∧subAt x y i=true) ↔ ZbM y.cps.toList (x.cps.toList.drop i)=true:=by
 rw[ZhL]
 unfold subAt
 have e1:(x.cps.extract i (i+y.length) == y.cps)=true ↔ (x.cps.toList.drop i).take y.length=y.cps.toList:=by
  rw[Vh,<- Array.toList_inj,Array.toList_extract,List.extract_eq_take_drop]
  have:i+y.length - i=y.length:=by omega
  rw[this]
 rw[e1]
 have e2:y.cps.toList.length=y.length:=by simp[Str.length]
 rw[e2]
 constructor
 ·exact fun h=>h.2
 ·intro h
  refine⟨?_,h⟩
  have:=VC List.length h
  rw[List.length_take,List.length_drop,e2] at this
  have e3:x.cps.toList.length=x.length:=by simp[Str.length]
  omega
theorem ZhM(x y:Str)(limit:Nat):∀(l:List Nat) (i free:Nat) (found:Array Nat),x.cps.toList.drop i=l->i<=x.length->
  (forIn (List.range' i (l.length+1)) (found,free) (StrLaws.occBody x y x.length limit)).run.fst.toList=found.toList++ZbN y.cps.toList y.length l i free (limit - found.size)
 |[],i,free,found,hl,hi=>by
  rw[List.length_nil,List.range'_succ,List.range'_zero,VW]
  unfold StrLaws.occBody ZbN
  have hs:=ZjN x y i hi
  rw[hl] at hs
  by_cases hc:((found.size < limit∧free<=i)∧i+y.length<=x.length)∧subAt x y i=true
  ·rw[if_pos hc]
   have h1:Nat.ble 1 (limit - found.size)=true:=X3.mpr (by have:=hc.1.1.1; omega)
   have h2:Nat.ble free i=true:=X3.mpr hc.1.1.2
   rw[h1,h2,hs.mp ⟨hc.1.2,hc.2⟩]
   simp
  ·rw[if_neg hc]
   have:(Nat.ble 1 (limit - found.size) && Nat.ble free i && ZbM y.cps.toList [])=false:=by
    rw[<- Vf,Xp,Xp,X3,X3,<- hs]
    exact fun h=>hc ⟨⟨⟨by omega,h.1.2⟩,h.2.1⟩,h.2.2⟩
   rw[this]
   simp
 |c::cs,i,free,found,hl,hi=>by
  have hlen:i < x.length:=by
   have:=VC List.length hl
   rw[List.length_drop,Xs] at this
   have e3:x.cps.toList.length=x.length:=by simp[Str.length]
   omega
  have hl':x.cps.toList.drop (i+1)=cs:=by
   have:=VC (List.drop 1) hl
   rw[List.drop_drop] at this
   simpa using this
  rw[Xs,List.range'_succ,VW]
  unfold StrLaws.occBody ZbN
  have hs:=ZjN x y i hi
  rw[hl] at hs
  by_cases hc:((found.size < limit∧free<=i)∧i+y.length<=x.length)∧subAt x y i=true
  ·rw[if_pos hc]
   have h1:Nat.ble 1 (limit - found.size)=true:=X3.mpr (by have:=hc.1.1.1; omega)
   have h2:Nat.ble free i=true:=X3.mpr hc.1.1.2
   rw[h1,h2,hs.mp ⟨hc.1.2,hc.2⟩]
   have ih:=ZhM x y limit cs (i+1) (i+y.length) (found.push i) hl' hlen
   unfold StrLaws.occBody at ih
   simp only[Bool.and_self,if_true]
   refine Eq.trans ih ?_
   rw[Array.toList_push,Array.size_push,List.append_assoc,Nat.sub_add_eq]
   rfl
  ·rw[if_neg hc]
   have:(Nat.ble 1 (limit - found.size) && Nat.ble free i && ZbM y.cps.toList (c::cs))=false:=by
    rw[<- Vf,Xp,Xp,X3,X3,<- hs]
    exact fun h=>hc ⟨⟨⟨by omega,h.1.2⟩,h.2.1⟩,h.2.2⟩
   rw[this]
   have ih:=ZhM x y limit cs (i+1) free found hl' hlen
   unfold StrLaws.occBody at ih
   exact ih
theorem Znr(x y:Str)(limit:Nat):occurrences x y 0 x.length limit=ZbN y.cps.toList y.length x.cps.toList 0 0 limit:=by
 rw[StrLaws.occ_eq]
 have h:=ZhM x y limit x.cps.toList 0 0 #[] (by simp) (Vu _)
 have e3:x.cps.toList.length=x.length:=by simp[Str.length]
 rw[e3] at h
 rw[Nat.sub_zero]
 refine Eq.trans h ?_
 simp
def ZhN(x:List Nat)(i j:Nat):Str:=⟨((x.drop i).take (j - i)).toArray⟩
theorem Zkq(x:Str)(i j:Nat):strSub x i j=ZhN x.cps.toList i j:=by
 unfold strSub ZhN
 rw[<- Array.toArray_toList (xs:=x.cps.extract i j),Array.toList_extract,List.extract_eq_take_drop]
def ZhO(x:List Nat)(n m:Nat)(cuts:List Nat):List Str:=((0::cuts.map (· +m)).zip (cuts++ [n])).map fun p=>ZhN x p.1 p.2
theorem ZnU(x:Str)(cuts:List Nat)(m:Nat):partsBetween x cuts m=ZhO x.cps.toList x.length m cuts:=by
 unfold partsBetween ZhO
 exact VT fun p _=>Zkq x p.1 p.2
def Zak(x:List Nat):Nat:=if x.all fun c=>Nat.ble (c+1) 256 then 1 else if x.all fun c=>Nat.ble (c+1) 65536 then 2 else 4
theorem Zlw(x:Str):Builtin.Str.strKind x=Zak x.cps.toList:=by
 unfold Builtin.Str.strKind Zak
 have e:∀n:Nat,(x.cps.all fun c=>decide (c < n))=x.cps.toList.all fun c=>Nat.ble (c+1) n:=fun n=>by
  rw[<- Array.all_toList]
  congr 1
  funext c
  rw[Bool.eq_iff_iff,VL,X3]
  exact Iff.rfl
 rw[e 256,e 65536]
def ZhP(x y:Str):List Str :=
 if Nat.ble (y.length) (x.length) && Nat.ble (Zak y.cps.toList) (Zak x.cps.toList) then
  (match ZbN y.cps.toList y.length x.cps.toList 0 0 (x.length+1) with
  |[]=> [x]
  |o::os=>ZhO x.cps.toList x.length y.length (o::os))
 else [x]
theorem ZnV(x y:Str):Txt.split x y=ZhP x y:=by
 unfold Txt.split ZhP
 rw[Zlw,Zlw,Znr,ZnU]
 have e:(decide (x.length < y.length) || decide (Zak x.cps.toList < Zak y.cps.toList))= !(Nat.ble y.length x.length && Nat.ble (Zak y.cps.toList) (Zak x.cps.toList)):=by
  rw[Bool.eq_iff_iff,VB,VL,VL,Bool.not_eq_true',<- Vf,Xp,X3,X3]
  omega
 rw[e]
 cases (Nat.ble y.length x.length && Nat.ble (Zak y.cps.toList) (Zak x.cps.toList))
 ·rfl
 ·cases ZbN y.cps.toList y.length x.cps.toList 0 0 (x.length+1) <;> rfl
def Zcz(x y:Str):Str × Str × Str:=match ZbN y.cps.toList y.length x.cps.toList 0 0 1 with
 |i::_=>(ZhN x.cps.toList 0 i,y,ZhN x.cps.toList (i+y.length) x.length)
 |[]=>(x,Str.empty,Str.empty)
theorem ZiO(x y:Str):Txt.partition x y=Zcz x y:=by
 unfold Txt.partition Zcz
 rw[Znr]
 cases ZbN y.cps.toList y.length x.cps.toList 0 0 1 with
 |nil=>rfl
 |cons i r=>dsimp only; rw[Zkq,Zkq]
def ZhQ(a b:Str):Str:=⟨(a.cps.toList++b.cps.toList).toArray⟩
theorem Zkr(a b:Str):a++b=ZhQ a b:=by
 show Str.append a b=ZhQ a b
 unfold Str.append ZhQ
 rw[<- Array.toArray_toList (xs:=a.cps++b.cps),Array.toList_append]
def ZgR(sep:List Nat):List Str->List Nat
 |[]=> []
 |[x]=>x.cps.toList
 |x::r=>x.cps.toList++(sep++ZgR sep r)
theorem ZhR(sep:Str):∀ys:List Str,(Str.join sep ys).cps.toList=ZgR sep.cps.toList ys
 |[]=>rfl
 |[x]=>rfl
 |x::y::r=>by
  have ih:=ZhR sep (y::r)
  show (x++sep++Str.join sep (y::r)).cps.toList=x.cps.toList++(sep.cps.toList++ZgR sep.cps.toList (y::r))
  rw[<- ih,Zkr,Zkr]
  simp[ZhQ]
def ZgS(sep:Str)(ys:List Str):Str:=⟨(ZgR sep.cps.toList ys).toArray⟩
theorem Zo8(sep:Str)(ys:List Str):Txt.join sep ys=ZgS sep ys:=by
 show glued sep ys=ZgS sep ys
 rw[StrLaws.glued_eq_join]
 unfold ZgS
 rw[<- ZhR]
def QO(a b:D):Option D:=match a,b with
 |.int i,.int j=>some (.int (i+j))
 |.str i,.str j=>if i.length+j.length<=line then some (.str (ZhQ i j)) else none
 |.lst xs,.lst ys=>if xs.length+ys.length<=line then some (.lst (xs++ys)) else none
 |a,b=>match a.tpl,b.tpl with
  |some xs,some ys=>if xs.length+ys.length<=line then (if xs.isEmpty then some b else if ys.isEmpty then some a else some (.tup (xs++ys))) else none
  |_,_=>none
theorem Zo9:Zg8=QO:=by
 funext a b
 unfold Zg8 QO
 cases a with
 |int i=>cases b <;> rfl
 |lst i=>cases b <;> rfl
 |str i=>cases b with
  |str j=>dsimp only; rw[Zkr]
  |_=>rfl
 |_=>rfl
def Qr(z:Str)(b:D):Option D:=match b with
 |.str c=>if Nat.ble 1 c.length && Nat.ble (z.length+2) line then some (.lst ((ZhP z c).map .str)) else none
 |_=>none
theorem ZmK:ZeH=Qr:=by
 funext z b
 unfold ZeH Qr
 cases b with
 |str c =>
  dsimp only
  rw[ZnV]
  have e:((c.length == 0)=false∧z.length+2<=line) ↔ (Nat.ble 1 c.length && Nat.ble (z.length+2) line)=true:=by
   rw[Xp,X3,X3,<- Vf,Vh]
   exact and_congr_left' (by omega)
  by_cases h:(c.length == 0)=false∧z.length+2<=line
  ·rw[if_pos h,if_pos (e.mp h)]
  ·rw[if_neg h,if_neg (fun q=>h (e.mpr q))]
 |_=>rfl
def Zal(z:Str)(b:D):Option D:=match b with
 |.str c=>if Nat.ble 1 c.length && Nat.ble z.length line then (match Zcz z c with|(p,q,r)=>some (.tup [.str p,.str q,.str r])) else none
 |_=>none
theorem ZhS:ZaF=Zal:=by
 funext z b
 unfold ZaF Zal
 cases b with
 |str c =>
  dsimp only
  rw[ZiO]
  have e:((c.length == 0)=false∧z.length<=line) ↔ (Nat.ble 1 c.length && Nat.ble z.length line)=true:=by
   rw[Xp,X3,X3,<- Vf,Vh]
   exact and_congr_left' (by omega)
  by_cases h:(c.length == 0)=false∧z.length<=line
  ·rw[if_pos h,if_pos (e.mp h)]
  ·rw[if_neg h,if_neg (fun q=>h (e.mpr q))]
 |_=>rfl
def Zaq(z:Str)(b:D):Option D:=match b.seq with
 |some ds=>match D.strs ds with
  |some ys=>if Nat.ble (Zhn ys+ys.length * z.length) line then some (.str (ZgS z ys)) else none
  |none=>none
 |none=>none
theorem ZnW:ZgF=Zaq:=by
 funext z b
 unfold ZgF Zaq
 cases b.seq with
 |none=>rfl
 |some ds =>
  dsimp only
  cases D.strs ds with
  |none=>rfl
  |some ys =>
   dsimp only
   rw[Zo8]
   by_cases h:Zhn ys+ys.length * z.length<=line
   ·rw[if_pos h,if_pos (X3.mpr h)]
   ·rw[if_neg h,if_neg (fun q=>h (X3.mp q))]
section
variable {K:PySem.W.Frag}{S:Sx K}{X:Cx}{a b:Expr}{fa fb:Env->R D}{pos apos:Pos}
theorem QT(hK:X.K=K)(ha:PE X a (lB S fa))(hb:PE X b (lB S fb))(hs:starEach [b] X.env= [(false,eval b X.env)]:=by rfl)(hbase:attributeBase a "split" X.env (eval a X.env)=eval a X.env:=by rfl)(hline:(apos.endLine == pos.line)=true:=by rfl):PE X (.Call (.Attribute a "split" apos) [b] [] pos) (lE S (sM1 Qr fa fb)):=ZmK ▸ ZnH hK ha hb hs hbase hline
theorem ZdJ(hK:X.K=K)(ha:PE X a (lB S fa))(hb:PE X b (lB S fb))(hs:starEach [b] X.env= [(false,eval b X.env)]:=by rfl)(hbase:attributeBase a "join" X.env (eval a X.env)=eval a X.env:=by rfl)(hline:(apos.endLine == pos.line)=true:=by rfl):PE X (.Call (.Attribute a "join" apos) [b] [] pos) (lE S (sM1 Zaq fa fb)):=ZnW ▸ Zox hK ha hb hs hbase hline
theorem ZhT(hK:X.K=K)(ha:PE X a (lB S fa))(hb:PE X b (lB S fb))(hs:starEach [b] X.env= [(false,eval b X.env)]:=by rfl)(hbase:attributeBase a "partition" X.env (eval a X.env)=eval a X.env:=by rfl)(hline:(apos.endLine == pos.line)=true:=by rfl):PE X (.Call (.Attribute a "partition" apos) [b] [] pos) (lE S (sM1 Zal fa fb)):=ZhS ▸ ZiK hK ha hb hs hbase hline
theorem Za5(hK:X.K=K)(ha:PE X a (lB S fa))(hb:PE X b (lB S fb)):PE X (.BinOp a .Add b pos) (lE S (sOp QO fa fb)):=Zo9 ▸ ZpI hK ha hb
end
end Pu
namespace Pu
open PySem L2 PySem.Spec PyProof.Rows Pw
theorem ZgT{X:Cx}{pins:List (Addr × Obj)}{σ:L2.St}{H:Hp}{s:Shared}{d:Addr}{o:Obj}{kvs:List (List Key × V)}(I:Inv X pins σ H s)(h:H d=some (.frz o (.dT kvs))) :
  (d == sysModules)=false∧s.heap.get? d=some o∧o.ExactDict∧∃(es:Array DictEntry) (ep:Nat),o.data= .dict es ep∧es.size=kvs.length∧
   ∀(i:Nat) (k:List Key) (v:V),kvs[i]?=some (k,v)->∃(en:DictEntry) (q:Addr),es[i]?=some en∧en.key= .ref q∧H q=some (.tup (k.map L2.kV))∧RelV v en.val:=by
 obtain⟨hd,z,hs,xs,pr,o',es,ep,ho,hx,hdt,he,_⟩:=I.hok d _ h
 rw[hd] at ho
 cases ho
 obtain⟨_,_,_,es2,ep2,hdt2,hsz,ent⟩:=I.frzT h
 rw[hdt] at hdt2
 cases hdt2
 refine⟨hs,hd,hx,es,ep,hdt,hsz,fun i k v e=> ?_⟩
 obtain⟨b,hb,e1,e2,e3⟩:=L2.paired_get pr e
 have q:=entry_at he i
 rw[hb] at q
 exact⟨_,b.2.1,q,rfl,e2,e3⟩
def ZmL(d:Addr)(o:Obj)(kvs:List (List Key × V)):It :=
 ⟨fun i H=>H d=some (.frz o (.dT kvs))∧i < kvs.length,fun i H x H'=>∃(T:Addr) (k:List Key) (v:V) (q:Addr),kvs[i]?=some (k,v)∧H q=some (.tup (k.map L2.kV))∧x= .ref T∧H T=none∧H'=upd H T (.tup [.ref q,v]),fun i H=>H d=some (.frz o (.dT kvs))∧kvs.length<=i⟩
theorem ZiP{P:Program}{w:World}{K:PySem.W.Frag}{d:Addr}{o:Obj}{es:Array DictEntry}{ep:Nat}{kvs:List (List Key × V)}{elts:List Expr}{kk:Nat}{tpos:Pos}(it:Addr)(hod:o.data= .dict es ep) :
  Turn P w K (.Tuple elts kk tpos) (ZmL d o kvs) [it] it (fun i h=>∃ok ov,h.get? it=some (DVw.itmOb d .none i kvs.length ep ok ov)) where
 mem:=by simp
 obj:=fun i h st b hb=>by
  obtain rfl:b=it:=by simpa using hb
  obtain⟨ok,ov,e⟩:=st
  exact⟨_,e,fun v z=>nomatch z⟩
 keep:=fun i h h' st k=>let ⟨ok,ov,e⟩:=st; ⟨ok,ov,k it (by simp) _ e⟩
 item:=by
  intro X hP hw hK hc i pins s σ H E I hf st hg
  subst hP hw hK
  obtain⟨hd,hi⟩:=hg
  obtain⟨hs,hgd,hx,es',ep',hdt,hsz,ent⟩:=ZgT I hd
  obtain⟨rfl,rfl⟩:=dict_ep hod hdt
  obtain⟨⟨k,v⟩,hkv⟩:∃p,kvs[i]?=some p:=⟨kvs[i],Xo hi⟩
  obtain⟨en,q,hen,hkey,hq,ru⟩:=ent i k v hkv
  obtain⟨ok,ov,hit⟩:=st
  have hlt:it < s.heap.objs.size:=XN hit
  refine DVw.itm_item hit hgd hdt hsz hen fun h' b1 b2 b3 b4=> ?_
  refine⟨_,rfl,wpAny_letOwnedTupleGo_items (s:= { s with heap:=h' }) (d:=d) (i:=i+1) (n:=kvs.length) (ep:=_) (ok:=en.key) (ov:=en.val) b1 fun h'' he' sb=> ?_⟩
  have hT2:h''.get? s.heap.objs.size=some { cls:= .type "tuple",data:= .seq #[en.key,en.val] }:=(sb.2 _ (Nat.ne_of_gt hlt)).trans b2
  have new:ObjOk X.prog X.w (upd H s.heap.objs.size (.tup [.ref q,v])) h'' s.heap.objs.size (.tup [.ref q,v]) :=
   ⟨by show 2<=sizeLine; decide,[en.key,en.val],.cons (by rw[hkey]; rfl) (.cons ru .nil),⟨_,hT2,rfl,_,rfl⟩⟩
  have I1:Inv X pins σ (upd H s.heap.objs.size (.tup [.ref q,v])) { s with heap:=h'' } :=
   I.turnedNew (t':=s.toks) (ch:= [it]) (fun b ob hb z=>(sb.2 b (by simpa using hb)).trans (b4 b ob (by simpa using hb) z)) hf (XS _) new
  refine⟨.ref s.heap.objs.size,_,I1,rfl,⟨_,k,v,q,hkv,hq,rfl,I.hok.fresh (XS _),rfl⟩,⟨en.key,en.val,he'⟩,fun b hb=> ?_⟩
  obtain rfl:b=it:=by simpa using hb
  rw[upd_ne (Va hlt)]
  exact(hf b (by simp)).1
 done:=by
  intro X hP hw hK hc i pins s σ H E I hf st hg
  subst hP hw hK
  obtain⟨hd,hi⟩:=hg
  obtain⟨f0,f1,f2,f3,f4,f5⟩:=hf it (by simp)
  obtain⟨hs,hgd,hx,es',ep',hdt,hsz,ent⟩:=ZgT I hd
  obtain⟨rfl,rfl⟩:=dict_ep hod hdt
  obtain⟨ok,ov,hit⟩:=st
  exact DVw.itm_end (I.ok.hd hc) hit hgd hdt hsz (Array.getElem?_eq_none (by rw[hsz]; exact hi)) fun h' eb=>⟨rfl,I.turned (t':=s.toks) (fun b ob hb e=>eb b ob hb e) f0 f1 f3 f4 f5⟩
 self:=fun A i s Q E st h=>let ⟨_,_,e⟩:=st; PySem.W.kcp_self e h
def ZfB(td:TE):TI:=fun σ H R=>td σ H fun x H1=>∃d o,x= .ref d∧((∃kvs,H1 d=some (.frz o (.dK kvs))∧R (Iti d o kvs) H1)∨∃kvs,H1 d=some (.frz o (.dT kvs))∧R (ZmL d o kvs) H1)
theorem Zdd{X:Cx}{e:Expr}{td:TE}{apos cpos:Pos}{elts:List Expr}{kk:Nat}{tpos:Pos}(he:PE X e td)(hbase:attributeBase e "items" X.env (eval e X.env)=eval e X.env:=by rfl)(hline:(apos.endLine == cpos.line)=true:=by rfl) :
  PI X (.Tuple elts kk tpos) (.Call (.Attribute e "items" apos) [] [] cpos) (ZfB td):=by
 refine⟨fun pins s σ H R I h=> ?_⟩
 refine wpAny_Call_method (T:="dict") (id:="dict.items") hbase rfl hline F.plainAttrs_dict F.slot_dict_items F.type_dict_items (thn (he.run pins s σ H _ I h) fun u s1 ⟨x,H1,I1,rx,d,o,ex,q⟩=> ?_)
 subst ex
 obtain rfl:u=Value.ref d:=rx
 have I2:Inv X pins σ H1 { s1 with heap:=s1.heap.push { cls:= .type "dict_items",data:= .fields #[.ref d] } }:=I1.kept (t':=s1.toks) fun b ob q=>Xe _ q
 rcases q with⟨kvs,hd,q⟩|⟨kvs,hd,q⟩
 ·obtain⟨hs,hgd,hx,es,ep,vs,hdt,hsz,kv,hm⟩:=I1.frzK hd
  have hl:kvs.length=vs.length:=VG kv
  refine⟨hm.dictOf.typeIs,hm.dictOf.mapOf.noDict, ?_⟩
  have fin:wpAny (model X.prog X.w) X.A (pyIter (.ref s1.heap.objs.size)) (PIE X pins σ (.Tuple elts kk tpos) R) X.xe { s1 with heap:=s1.heap.push { cls:= .type "dict_items",data:= .fields #[.ref d] } }:=by
   refine wpAny_pyIter_items (d:=d) (knd:=mixKind X.prog X.w) ⟨_,XA _ rfl,rfl,rfl⟩ (hm.push _) (pi_one (tk:=s1.toks) I2 _ (turn_items _ hdt) ⟨.none,.none, ?_⟩ q)
   rw[hl]
   exact XA _ rfl
  show wpAny _ _ (callWith cpos (.builtin "dict.items") [.ref d] [] []) _ X.xe s1
  exact method_meetsIn F.slot_dict_items F.entry_dict_items rfl (PySem.evalArgs_none ⟨rfl,hm.dictOf.typeIs,F.args_dict_items_1 _,_,meets_dict_items (mixKind X.prog X.w) d hs,⟨vs,hm.dictOf⟩,fin⟩)
 ·obtain⟨hs,hgd,hx,es,ep,hdt,hsz,ent⟩:=I1.frzT hd
  have hxd:s1.TypeIs (.ref d) "dict" :=⟨o,hgd,hx.1⟩
  refine⟨hxd, ?_, ?_⟩
  ·exact fun a z=>⟨o,by cases z; exact hgd,hx.2.1⟩
  ·show wpAny _ _ (callWith cpos (.builtin "dict.items") [.ref d] [] []) _ X.xe s1
   refine callWith_method0 (env:=X.env) (first:= [.ref d]) (DT.callItems (es:=es) (ep:=ep) hs ⟨o,hgd,hx,hdt⟩ ?_)
   refine DSub.iter_itms (XA _ rfl) (Xe _ hgd) hdt ?_
   refine pi_one (tk:=s1.toks) I2 _ (ZiP _ hdt) ⟨.none,.none, ?_⟩ q
   rw[<- hsz]
   exact XA _ rfl
def Qs:D->Option (List D)
 |.dct kvs=>some (kvs.map fun p=> .tup [p.1,p.2])
 |.dtt kvs=>some (kvs.map fun p=> .tup [p.1,p.2])
 |_=>none
section
variable {K:PySem.W.Frag}{S:Sx K}{X:Cx}{i:Nat}
theorem RepK.at2{G:Gx K}{O:Addr->Prop}{H:Hp}:∀{ks:List (Key × V)}{kvs:List (D × D)}{n:Nat}{d:D},RepK G O H ks kvs->(kvs.map fun p=>D.tup [p.1,p.2])[n]?=some d->∃k v kd vd,ks[n]?=some (k,v)∧d= .tup [kd,vd]∧kd.key=some k∧Rep G O H v vd
 |_,_,_,_,.nil,e=>by simp at e
 |_,_,0,_,.cons h r _,e=>by cases e; exact⟨_,_,_,_,rfl,rfl,h,r⟩
 |_,_,n+1,_,.cons _ _ t,e=>by
  obtain⟨k,v,kd,vd,h1,h2⟩:=RepK.at2 (n:=n) t (by simpa using e)
  exact⟨k,v,kd,vd,by simpa using h1,h2⟩
theorem RepT.at2{G:Gx K}{O:Addr->Prop}{H:Hp}:∀{ks:List (List Key × V)}{kvs:List (D × D)}{n:Nat}{d:D},RepT G O H ks kvs->(kvs.map fun p=>D.tup [p.1,p.2])[n]?=some d->∃k v kd vd,ks[n]?=some (k,v)∧d= .tup [kd,vd]∧kd.tkey=some k∧Rep G O H v vd
 |_,_,_,_,.nil,e=>by simp at e
 |_,_,0,_,.cons h r _,e=>by cases e; exact⟨_,_,_,_,rfl,rfl,h,r⟩
 |_,_,n+1,_,.cons _ _ t,e=>by
  obtain⟨k,v,kd,vd,h1,h2⟩:=RepT.at2 (n:=n) t (by simpa using e)
  exact⟨k,v,kd,vd,by simpa using h1,h2⟩
theorem ZmM{G:Gx K}{O:Addr->Prop}{H:Hp}(al:Al O H){d:D}{k:List Key}{q:Addr}(h:d.tkey=some k)(hq:H q=some (.tup (k.map L2.kV))):Rep G O H (.ref q) d:=by
 cases d with
 |tup ds =>
  refine .tup hq (fun z=> ?_) (Zf3 h)
  obtain⟨o,ho⟩:=al q z
  rw[hq] at ho
  exact o.2 _ (XJ ho).symm
 |_=>cases h
theorem ZhU{σ:L2.St}{H:Hp}{Z:It->Hp->Prop}{B O:Addr->Prop}{Fs:List (List Addr)}{ρ:Env}{v':V}{d':D}(w:Wd S.G B O Fs H σ ρ S.M)(lk:∀b u,v'= .ref b->isDct u->Rd H b u->∃o,H b=some (.frz o u))(r:Rep S.G O H v' d')(run:Run S (vI S) (R.of (Qs d') ρ) B O Fs H σ ρ Z) :
  ∃d o,v'= .ref d∧((∃kvs,H d=some (.frz o (.dK kvs))∧Z (Iti d o kvs) H)∨∃kvs,H d=some (.frz o (.dT kvs))∧Z (ZmL d o kvs) H):=by
 have st:∀{a:Addr}{u:HO},¬ O a->H a=some u->∀O2 H2,Kp0 O Fs.flatten H O2 H2->H2 a=some u:=fun n h O2 H2 k=>k.chg _ _ h fun z=>n (w.sub _ z)
 have kp:∀{O2 H2},Kp0 O Fs.flatten H O2 H2->Kept O H O2 H2:=fun k=>⟨fun b u n _ h=>by
  rcases h with h|⟨o,h⟩
  ·exact .inl (k.chg b _ h fun z=>n (w.sub _ z))
  ·exact .inr ⟨o,k.chg b _ h fun z=>n (w.sub _ z)⟩,fun b P n h=>k.chg b _ h fun z=>n (w.sub _ z),fun b vs n h=>k.chg b _ h fun z=>n (w.sub _ z),fun b o vs n h=>k.chg b _ h fun z=>n (w.sub _ z),fun b C dx fs n h=>k.chg b _ h fun z=>n (w.sub _ z),k.grow⟩
 cases d' with
 |dct kvs =>
  cases r with
  |dk r n t =>
   obtain⟨o,ho⟩:=lk _ _ rfl (.inl ⟨_,rfl⟩) r
   refine⟨_,o,rfl,.inl ⟨_,ho,Run.use (VR:=vI S) run w (ItOk.mk (fun j O2 H2 k hj=>⟨st n ho O2 H2 k, ?_⟩) (fun j O2 H2 x H3 d k al hy hd=> ?_) (fun j O2 H2 k hj=>⟨st n ho O2 H2 k, ?_⟩))⟩⟩
   ·rw[t.length]; simpa using hj
   ·obtain⟨T,k',v',e1,rfl,hT,rfl⟩:=hy
    obtain⟨k1,v1,kd,vd,e3,rfl,e4,e5⟩:=RepK.at2 t hd
    rw[e3] at e1
    cases e1
    exact⟨ZG hT,.tup Xi (Al.no al hT) (.cons (ZjE e4) (.cons ((e5.keep (kp k)).keep (Kept.same (ZG hT))) .nil))⟩
   ·rw[t.length]; simpa using hj
 |dtt kvs =>
  cases r with
  |dt r n t =>
   obtain⟨o,ho⟩:=lk _ _ rfl (.inr ⟨_,rfl⟩) r
   refine⟨_,o,rfl,.inr ⟨_,ho,Run.use (VR:=vI S) run w (ItOk.mk (fun j O2 H2 k hj=>⟨st n ho O2 H2 k, ?_⟩) (fun j O2 H2 x H3 d k al hy hd=> ?_) (fun j O2 H2 k hj=>⟨st n ho O2 H2 k, ?_⟩))⟩⟩
   ·rw[t.length]; simpa using hj
   ·obtain⟨T,k',v',q,e1,hq,rfl,hT,rfl⟩:=hy
    obtain⟨k1,v1,kd,vd,e3,rfl,e4,e5⟩:=RepT.at2 t hd
    rw[e3] at e1
    cases e1
    exact⟨ZG hT,.tup Xi (Al.no al hT) (.cons ((ZmM al e4 hq).keep (Kept.same (ZG hT))) (.cons ((e5.keep (kp k)).keep (Kept.same (ZG hT))) .nil))⟩
   ·rw[t.length]; simpa using hj
 |_=>exact run.elim
theorem ZhV{σ:L2.St}{H:Hp}{Z:It->Hp->Prop}(hm:S.M[i]?=some .sh)(lk:Zct i σ H)(h:lI S (sIt Qs (sV i)) σ H Z):ZfB (tVar i) σ H Z:=by
 obtain⟨B,O,Fs,ρ,w,run⟩:=h
 obtain⟨v,d,F,h1,h2,h3,_,v',d',q1,q2,r⟩:=w.get hm
 subst q1 q2
 have run:Run S (vI S) ((sV i ρ).bind fun x ρ1=>R.of (Qs x) ρ1) B O Fs H σ ρ Z:=run
 unfold sV at run
 rw[h2] at run
 exact⟨_,h1,ZhU w (fun b u e=>lk b u (by rw[<- e]; exact h1)) r run⟩
end
section
variable {K:PySem.W.Frag}{T:Tx K}{M Mt:List Md}{X:Cx}{e:Expr}{elts:List Expr}{kk:Nat}{tpos apos cpos:Pos}{body:List Stmt}{g:Env->RS}{pos:Pos}{i:Nat}
theorem ZeS{us:List Nat}{tg:D->Env->Option Env}(hm:M[i]?=some .sh)(hp:PassesOwn (model X.prog X.w) X.A X.env X.xe)(hc:X.calm=true)(hv:PE X e (tVar i))(wx:Wk M T.Mx)(hg:PG X (.Tuple elts kk tpos) (lG T M Mt us tg))(fx:Ye M Mt=true)(fx':Ye Mt M=true)(hb:PSs X body (lS { T with Mb:=M } Mt M g))
  (hbase:attributeBase e "items" X.env (eval e X.env)=eval e X.env:=by rfl)(hline:(apos.endLine == cpos.line)=true:=by rfl)(h1:∀x,foldedSetIterable (.Call (.Attribute e "items" apos) [] [] cpos) X.env x=pure x:=by intro _; rfl):PS X (.For (.Tuple elts kk tpos) (.Call (.Attribute e "items" apos) [] [] cpos) body [] pos) (lS T M M (Zc7 i (Ym (sIt Qs (sV i)) tg g))) :=
 Zli hm (Zhi (C:=Zct i) hp hc (Zdd hv hbase hline) (fun σ H R lk h=>ZhV (S:=T.ex M) hm lk h) wx hg fx fx' hb h1)
end
end Pu
namespace Pu
open PySem L2 PySem.Spec PyProof.Rows Pw ClX
def YB{α:Type}(ix:List Nat)(xs:List α):List α:=ix.filterMap (xs[·]?)
structure KBx (K:PySem.W.Frag) (fd:FuncData) (ps ks:List Str) (n:Nat) (ix:List Nat):Prop where
 to:∀(s:Shared) (us ws:List Value),K.In s.heap->us.length=n->ws.length=ks.length->BindsTo s fd ⟨us,ks.zip ws⟩ (ps.zip (us++YB ix ws))
theorem ZhW:∀{vs:List V}{us:List Value}{i:Nat},Vals vs us->(∃v u,vs[i]?=some v∧us[i]?=some u∧RelV v u)∨(vs[i]?=none∧us[i]?=none)
 |_,_,i,.nil=> .inr ⟨by simp,by simp⟩
 |_,_,0,.cons h t=> .inl ⟨_,_,rfl,rfl,h⟩
 |_,_,i+1,.cons h t=>by simpa using ZhW (i:=i) t
theorem Zar{vs:List V}{us:List Value}(h:Vals vs us):∀ix:List Nat,Vals (YB ix vs) (YB ix us)
 |[]=> .nil
 |i::ix=>by
  have t:=Zar h ix
  unfold YB at t ⊢
  rcases ZhW (i:=i) h with⟨v,u,h1,h2,r⟩|⟨h1,h2⟩
  ·rw[Vn h1,Vn h2]
   exact .cons r t
  ·rw[Vo h1,Vo h2]
   exact t
section
variable {K:PySem.W.Frag}{G:Gx K}{O:Addr->Prop}{F:List Addr}{H:Hp}
theorem Zde:∀{ms:List Md}{vs:List V}{ds:List D}{i:Nat},AReps G O F H ms vs ds->(∃m v d,ms[i]?=some m∧vs[i]?=some v∧ds[i]?=some d∧AReps G O F H [m] [v] [d])∨(ms[i]?=none∧vs[i]?=none∧ds[i]?=none)
 |_,_,_,i,.nil=> .inr ⟨by simp,by simp,by simp⟩
 |_,_,_,0,.sh r t=> .inl ⟨_,_,_,rfl,rfl,rfl,.sh r .nil⟩
 |_,_,_,0,.br r t=> .inl ⟨_,_,_,rfl,rfl,rfl,.br r .nil⟩
 |_,_,_,i+1,.sh r t=>by simpa using Zde (i:=i) t
 |_,_,_,i+1,.br r t=>by simpa using Zde (i:=i) t
theorem Jc{ms:List Md}{vs:List V}{ds:List D}(h:AReps G O F H ms vs ds):∀ix:List Nat,AReps G O F H (YB ix ms) (YB ix vs) (YB ix ds)
 |[]=> .nil
 |i::ix=>by
  have t:=Jc h ix
  unfold YB at t ⊢
  rcases Zde (i:=i) h with⟨m,v,d,h1,h2,h3,r⟩|⟨h1,h2,h3⟩
  ·rw[Vn h1,Vn h2,Vn h3]
   cases r with
   |sh r _=>exact .sh r t
   |br r _=>exact .br r t
  ·rw[Vo h1,Vo h2,Vo h3]
   exact t
end
section
variable {K:PySem.W.Frag}{S:Sx K}{X:Cx}{e:Expr}{kws:List Keyword}{fa:Env->R D}{fs:Env->R (List D)}{pos p apos kpos:Pos}{ms:List Md}{nm:Option Str}
theorem Yx:PK X [] (lAs S [] Zb):=⟨fun pos pins s σ H Q I h=>pk_nil.run pos pins s σ H Q I (by
 obtain⟨_,_,_,_,w,r⟩:=h
 exact r.use w .nil)⟩
theorem PK.of{t t':TA}(h:PK X kws t)(i:∀σ H Q,t' σ H Q->t σ H Q):PK X kws t':=⟨fun p pins s σ H Q I x=>h.run p pins s σ H Q I (i σ H Q x)⟩
theorem YL(ha:PE X e (lE S fa))(hr:PK X kws (lAs S ms fs)):PK X (⟨nm,e,kpos⟩::kws) (lAs S (.sh::ms) (Za fa fs)):=by
 refine PK.of (pk_cons ha hr) fun σ H Q ⟨B,O,Fs,ρ,w,run⟩=> ?_
 refine⟨B,O,Fs,ρ,w,run.bind fun x ρ1 v O1 Fs1 H1 _ ev1 w1 r1 run1=>⟨B,O1,Fs1,ρ1,w1,run1.bind fun y ρ2 u O2 Fs2 H2 _ ev2 w2 r2 run2=> ?_⟩⟩
 exact run2.use w2 (.sh (r1.ev w1 ev2) r2)
theorem ZeT(ha:PE X e (lB S fa))(hr:PK X kws (lAs S ms fs)):PK X (⟨nm,e,kpos⟩::kws) (lAs S (.br::ms) (Za fa fs)):=by
 refine PK.of (pk_cons ha hr) fun σ H Q ⟨B,O,Fs,ρ,w,run⟩=> ?_
 refine⟨B,O,Fs,ρ,w,run.bind fun x ρ1 v O1 Fs1 H1 _ ev1 w1 r1 run1=>⟨B,O1,Fs1,ρ1,w1,run1.bind fun y ρ2 u O2 Fs2 H2 _ ev2 w2 r2 run2=> ?_⟩⟩
 exact run2.use w2 (.br (r1.ev w1 ev2) r2)
end
section
variable {X:Cx}{CX:CXT}{k:Nat}{f C:Addr}{fd:FuncData}{ps ks:List Str}{sp:Sp}{E:L2.St->XK}{x m:Str}{p pos apos:Pos}{o:Expr}{kws:List Keyword}{ta tk:TA}{te:TE}{ix:List Nat}
theorem Zeq{pins:List (Addr × Obj)}{σ:L2.St}{H:Hp}{s:Shared}{Q:VK}{us ws:List Value}{vs zs:List V}{n:Nat}(F:FnOkG X.prog X.w X.K X.mg X.base CX k f fd ps sp)(hr:RoomG k X.A)(hb:KBx X.K fd ps ks n ix)(hx:∀σ,PassesAt CX X σ (E σ))(I:Inv X pins σ H s)(r:Vals vs us)(rz:Vals zs ws)
  (l1:us.length=n)(l2:ws.length=ks.length)(h:sp (vs++YB ix zs) H Q (E σ)):codeAny (model X.prog X.w) X.A (.call (.ref f) ⟨us,ks.zip ws⟩) (fun r s'=>match r with|.ok (.ret u)=>EP X pins σ Q u s'|.ok _=>False|.error e=>X.xe e s') s:=by
 refine Vi (F.run X.A X.stack s H ⟨us,ks.zip ws⟩ _ _ Q (E σ) hr I.env0 (hb.to s us ws I.kIn l1 l2) (r.append (Zar rz ix)) h) fun out s' hq=> ?_
 rcases out with e|fl
 ·exact hx σ pins H s e s' I hq
 ·cases fl with
  |ret u=>exact I.after hq
  |next=>exact hq.elim
  |brk=>exact hq.elim
  |cont=>exact hq.elim
theorem ZhX(F:FnOkG X.prog X.w X.K X.mg X.base CX k f fd ps sp)(hr:RoomG k X.A)(hg:Gl X x)(hm:X.mg x=some (.ref f))(hk:PySem.W.keepIn X.K (.ref f)=true)(hb:KBx X.K fd ps ks 0 ix)(hx:∀σ,PassesAt CX X σ (E σ))(hkw:PK X kws tk)
  (hall:(backToKw pos (keywordEach kws X.env)).all (·.1.isSome)=true:=by rfl)(hks:(backToKw pos (keywordEach kws X.env)).filterMap (·.1)=ks:=by rfl)(hdb:(x ==("__debug__" :Str))=false:=by decide)
  (hpl:((backTo pos (starEach [] X.env)).any (·.1) || (backToKw pos (keywordEach kws X.env)).any (·.1.isNone))=false:=by rfl) :
  PE X (.Call (.Name x p) [] kws pos) (fun σ H Q=>tk σ H fun zs H1=>zs.length=ks.length∧sp (YB ix zs) H1 Q (E σ)):=by
 refine⟨fun pins s σ H Q I h=> ?_⟩
 refine Ve (ld_glob I hg hm ?_ hdb)
 refine PySem.W.callWith_KW0 (h₀:=X.base) I.ok.mod.kin hk hall (thn (hkw.run pos pins s σ H _ I h) fun ws s2 ⟨zs,H2,I2,rz,l2,q2⟩=>⟨I2.kIn, ?_⟩) hpl
 rw[hks]
 exact Vl (Zeq (us:= []) (vs:= []) F hr hb hx I2 .nil rz rfl (rz.length.symm.trans l2) q2)
theorem ZmN(M:Mk X.K C f)(F:FnOkG X.prog X.w X.K X.mg X.base CX k f fd ps sp)(hr:RoomG (k+1) X.A)(hg:Gl X x)(hm:X.mg x=some (.ref C))(hb:KBx X.K fd ps ks 1 ix)(hx:∀σ,PassesAt CX X σ (E σ))(hkw:PK X kws tk)
  (hall:(backToKw pos (keywordEach kws X.env)).all (·.1.isSome)=true:=by rfl)(hks:(backToKw pos (keywordEach kws X.env)).filterMap (·.1)=ks:=by rfl)(hdb:(x ==("__debug__" :Str))=false:=by decide)
  (hpl:((backTo pos (starEach [] X.env)).any (·.1) || (backToKw pos (keywordEach kws X.env)).any (·.1.isNone))=false:=by rfl) :
  PE X (.Call (.Name x p) [] kws pos) (fun σ H Q=>tk σ H fun zs H1=>zs.length=ks.length∧∀a dx,H1 a=none->H1 dx=none->dx≠a->sp (.ref a::YB ix zs) (upd (upd H1 dx (.own a)) a (.ins C dx [])) (fun v H2=>v= .non∧Q (.ref a) H2) (E σ)):=by
 refine⟨fun pins s σ H Q I h=> ?_⟩
 refine Ve (ld_glob I hg hm ?_ hdb)
 refine PySem.W.callWith_KW0 (h₀:=X.base) I.ok.mod.kin M.kp hall (thn (hkw.run pos pins s σ H _ I h) fun ws s2 ⟨zs,H2,I2,rz,l2,q2⟩=>⟨I2.kIn, ?_⟩) hpl
 rw[hks]
 have n1:=I2.hok.fresh (VM s2.heap.objs.size)
 have n2:=I2.hok.fresh (XS s2.heap.objs.size)
 have want:=q2 _ _ n1 n2 (Va (Nat.lt_succ_self _))
 have J:=Inv.made (C:=C) I2
 have r1:Vals [V.ref (s2.heap.objs.size+1)] [Value.ref (s2.heap.objs.size+1)]:= .cons rfl .nil
 have fun_ok:=F.run _ X.stack _ _ ⟨[Value.ref (s2.heap.objs.size+1)],ks.zip ws⟩ _ _ _ (E σ) (hr.make C [] (ks.zip ws)) (J.env0.make C [] (ks.zip ws)) (hb.to _ [Value.ref (s2.heap.objs.size+1)] ws J.kIn rfl (rz.length.symm.trans l2)) (r1.append (Zar rz ix)) want
 show wpAny _ _ (call (.ref C) [] (ks.zip ws)) _ _ _
 refine Vl (make_map (f:=f) I2.kIn M.makes M.init (Vh.mp M.fn) (Vi fun_ok fun out s' hq=> ?_))
 rcases out with e|fl
 ·exact hx σ pins _ _ e s' J hq
 ·cases fl with
  |ret u =>
   obtain⟨v,H',J3,rv,ev,q3⟩:=J.after hq
   subst ev
   exact⟨rv,⟨V.ref (s2.heap.objs.size+1),H',J3,rfl,q3⟩⟩
  |next=>exact hq.elim
  |brk=>exact hq.elim
  |cont=>exact hq.elim
end
section
variable {K:PySem.W.Frag}{S:Sx K}{X:Cx}{kws:List Keyword}{fs:Env->R (List D)}{pos p:Pos}{ms:List Md}{x:Str}{ix:List Nat}
def Y0(ix:List Nat)(n:Nat)(g:List D->RF)(fs:Env->R (List D)):Env->R D:=fun ρ=>(fs ρ).bind fun ds ρ1=>if ds.length=n then (g (YB ix ds)).toR ρ1 else .bad
theorem ZaO{k:Nat}{f:Addr}{fd:FuncData}{ps ks:List Str}{g:List D->RF}(F:FnOkG X.prog X.w X.K X.mg X.base (L2.CX X.prog X.w) k f fd ps (SpF S.G S.xa (YB ix ms) g))(hr:RoomG k X.A)(hg:Gl X x)(hm:X.mg x=some (.ref f))(hk:PySem.W.keepIn X.K (.ref f)=true)(hb:KBx X.K fd ps ks 0 ix)(tk:Takes X S.W)(ha:PK X kws (lAs S ms fs))
  (hall:(backToKw pos (keywordEach kws X.env)).all (·.1.isSome)=true:=by rfl)(hks:(backToKw pos (keywordEach kws X.env)).filterMap (·.1)=ks:=by rfl)(hdb:(x ==("__debug__" :Str))=false:=by decide)
  (hpl:((backTo pos (starEach [] X.env)).any (·.1) || (backToKw pos (keywordEach kws X.env)).any (·.1.isNone))=false:=by rfl):PE X (.Call (.Name x p) [] kws pos) (lE S (Y0 ix ks.length g fs)):=by
 refine PE.of (ZhX (E:=WE S.W) F hr hg hm hk hb (fun σ=>passAt tk σ) ha hall hks hdb hpl) fun σ H Q ⟨B,O,Fs,ρ,w,run⟩=> ?_
 refine⟨B,O,Fs,ρ,w,run.bind fun ds ρ1 vs O1 Fs1 H1 _ ev1 w1 r1 run1=> ?_⟩
 by_cases hl:ds.length=ks.length
 ·rw[if_pos hl] at run1
  exact⟨r1.len.1.trans (r1.len.2.symm.trans hl),Zcl w1 (Jc r1 ix) run1⟩
 ·rw[if_neg hl] at run1; exact run1.elim
def Zdf(c:String)(ix:List Nat)(n:Nat)(g:List D->RF)(fs:Env->R (List D)):Env->R D:=fun ρ=>(fs ρ).bind fun ds ρ1=>if ds.length=n then (g (.obj c []::YB ix ds)).toNew ρ1 else .bad
theorem ZjO{k:Nat}{f C:Addr}{fd:FuncData}{ps ks:List Str}{c:String}{fsh:Str->Shp}{g:List D->RF}(M:Mk X.K C f)(F:FnOkG X.prog X.w X.K X.mg X.base (L2.CX X.prog X.w) k f fd ps (SpF S.G S.xa (.op (.obj fsh)::YB ix ms) g))(hC:S.G.ca c=some C)(hr:RoomG (k+1) X.A)(hg:Gl X x)(hm:X.mg x=some (.ref C))(hb:KBx X.K fd ps ks 1 ix)(tk:Takes X S.W)(ha:PK X kws (lAs S ms fs))
  (hall:(backToKw pos (keywordEach kws X.env)).all (·.1.isSome)=true:=by rfl)(hks:(backToKw pos (keywordEach kws X.env)).filterMap (·.1)=ks:=by rfl)(hdb:(x ==("__debug__" :Str))=false:=by decide)
  (hpl:((backTo pos (starEach [] X.env)).any (·.1) || (backToKw pos (keywordEach kws X.env)).any (·.1.isNone))=false:=by rfl):PE X (.Call (.Name x p) [] kws pos) (lE S (Zdf c ix ks.length g fs)):=by
 refine PE.of (ZmN (E:=WE S.W) M F hr hg hm hb (fun σ=>passAt tk σ) ha hall hks hdb hpl) fun σ H Q ⟨B,O,Fs,ρ,w,run⟩=> ?_
 refine⟨B,O,Fs,ρ,w,run.bind fun ds ρ1 vs O1 Fs1 H1 _ ev1 w1 r1 run1=> ?_⟩
 by_cases hl:ds.length=ks.length
 ·rw[if_pos hl] at run1
  exact⟨r1.len.1.trans (r1.len.2.symm.trans hl),fun a dx na nx ne=>ZdD w1 hC (Jc r1 ix) na nx ne run1⟩
 ·rw[if_neg hl] at run1; exact run1.elim
end
section
variable {X:Cx}{CX:CXT}{k:Nat}{f C:Addr}{fd:FuncData}{ps ks:List Str}{sp:Sp}{E:L2.St->XK}{m:Str}{pos apos:Pos}{o:Expr}{kws:List Keyword}{ta:TE}{tk:TA}{ix:List Nat}
theorem Zlx{mc:Value}{pr:Addr}{pl:Sem Bool}(he:PE X o ta)(r:CRead X.K C mc)(c:CMet X.K C mc m pr f)(F:FnOkG X.prog X.w X.K X.mg X.base CX k f fd ps sp)(hr:RoomG k X.A)(hb:KBx X.K fd ps ks 1 ix)(hx:∀σ,PassesAt CX X σ (E σ))(hkw:PK X kws tk)
  (hall:(backToKw pos (keywordEach kws X.env)).all (·.1.isSome)=true:=by rfl)(hks:(backToKw pos (keywordEach kws X.env)).filterMap (·.1)=ks:=by rfl)
  (hpl:((backTo pos (starEach [] X.env)).any (·.1) || (backToKw pos (keywordEach kws X.env)).any (·.1.isNone))=false:=by rfl)
  (ht:eval (.Call (.Attribute o m apos) [] kws pos) X.env=(do
   let ov <- eval o X.env
   standAt apos.atName
   let (f,first) <- holding [ov] (getMethod ov m pl)
   callWith pos f first (backTo pos (starEach [] X.env)) (backToKw pos (keywordEach kws X.env))):=by rfl) :
  PE X (.Call (.Attribute o m apos) [] kws pos) (fun σ H Q=>ta σ H fun y H1=>y= .ref C∧tk σ H1 fun zs H2=>zs.length=ks.length∧sp (.ref C::YB ix zs) H2 Q (E σ)):=by
 constructor
 intro pins s σ H Q I h
 refine VN (pl:=pl) (thn (he.run pins s σ H _ I h) ?_) ht
 rintro u s1 ⟨y,H1,J,ry,ey,q⟩
 subst ey
 obtain rfl:u=Value.ref C:=ry
 refine getmethcm_ok J r c fun s2 J2=> ?_
 refine PySem.W.callWith_of hpl (PySem.W.keeps_M (K:=X.K) (self:= .ref C) c.fi) (evalArgs_kw2_nil hall (thn (hkw.run pos _ s2 σ H1 _ J2 q) ?_))
 rintro ws s3 ⟨zs,H2,J3,rz,l2,q2⟩
 rw[hks]
 refine⟨⟨pin_at J3,J3.kIn⟩, ?_⟩
 exact thn (Vl (PySem.W.method_call (pin_at J3) (Zeq (us:= [.ref C]) (vs:= [.ref C]) F hr hb hx J3 (.cons rfl .nil) rz rfl (rz.length.symm.trans l2) q2))) fun _ _ z=>unpinE z
end
section
variable {K:PySem.W.Frag}{S:Sx K}{X:Cx}{o:Expr}{kws:List Keyword}{fc:Env->R D}{fs:Env->R (List D)}{pos apos:Pos}{ms:List Md}{ix:List Nat}
def ZbZ(c:String)(ix:List Nat)(n:Nat)(g:List D->RF)(fc:Env->R D)(fs:Env->R (List D)):Env->R D:=fun ρ=>(fc ρ).bind fun y ρ1=>if ZaI c y then (fs ρ1).bind fun ds ρ2=>if ds.length=n then (g (.cls c::YB ix ds)).toR ρ2 else .bad else .bad
theorem ZhY{pl:Sem Bool}{k:Nat}{f C pr:Addr}{mc:Value}{fd:FuncData}{ps ks:List Str}{m:Str}{c:String}{g:List D->RF}(hC:S.G.ca c=some C)(r:CRead X.K C mc)(cm:CMet X.K C mc m pr f)(F:FnOkG X.prog X.w X.K X.mg X.base (L2.CX X.prog X.w) k f fd ps (SpF S.G S.xa (.sh::YB ix ms) g))(hr:RoomG k X.A)(hb:KBx X.K fd ps ks 1 ix)(tk:Takes X S.W)
  (ho:PE X o (lE S fc))(ha:PK X kws (lAs S ms fs))
  (hall:(backToKw pos (keywordEach kws X.env)).all (·.1.isSome)=true:=by rfl)(hks:(backToKw pos (keywordEach kws X.env)).filterMap (·.1)=ks:=by rfl)
  (hpl:((backTo pos (starEach [] X.env)).any (·.1) || (backToKw pos (keywordEach kws X.env)).any (·.1.isNone))=false:=by rfl)
  (ht:eval (.Call (.Attribute o m apos) [] kws pos) X.env=(do
   let ov <- eval o X.env
   standAt apos.atName
   let (f,first) <- holding [ov] (getMethod ov m pl)
   callWith pos f first (backTo pos (starEach [] X.env)) (backToKw pos (keywordEach kws X.env))):=by rfl):PE X (.Call (.Attribute o m apos) [] kws pos) (lE S (ZbZ c ix ks.length g fc fs)):=by
 refine PE.of (Zlx (E:=WE S.W) ho r cm F hr hb (fun σ=>passAt tk σ) ha hall hks hpl ht) fun σ H Q ⟨B,O,Fs,ρ,w,run⟩=> ?_
 refine⟨B,O,Fs,ρ,w,run.bind fun y ρ1 v O1 Fs1 H1 _ ev1 w1 r1 run1=> ?_⟩
 cases hy:ZaI c y with
 |false=>rw[hy] at run1; exact run1.elim
 |true =>
  rw[hy,if_pos rfl] at run1
  refine⟨Zbr hC hy r1,B,O1,Fs1,ρ1,w1,run1.bind fun ds ρ2 vs O2 Fs2 H2 _ ev2 w2 r2 run2=> ?_⟩
  by_cases hl:ds.length=ks.length
  ·rw[if_pos hl] at run2
   exact⟨r2.len.1.trans (r2.len.2.symm.trans hl),Zcl w2 (.sh (.cls hC) (Jc r2 ix)) run2⟩
  ·rw[if_neg hl] at run2; exact run2.elim
end
end Pu
namespace Pw
open PySem L2 PySem.Spec PyProof.Rows
section
variable {X:Cx}
theorem ZmO{pins:List (Addr × Obj)}{s:Shared}{σ:L2.St}{H:Hp}{Q:VK}{pos':Pos}{use:Option (Value->Sem Unit)}{Qf:Value->Shared->Prop}{kx vx tg iter:Expr}{ifs:List Expr}{scope:Scope}{own:List (Str × Nat)}{pos:Pos}{wi:TI}{g:TG}{tt:TT}{tk tv:TE}(hu:X.A.units+1 < cLine)(hc:X.calm=true)(hN:X.N.Nodup)(hi:PI X tg iter wi)(ok:BlkOk X.N X.env.scope scope own)
  (hg:∀(s:Shared) (H:Hp) (C:Addr) (cl:List (Str × Addr)) (fp:List Addr),PG (X.blk s H scope (compEnvC scope cl C X.env) fp) tg g)
  (ht:∀(s:Shared) (H:Hp) (C:Addr) (cl:List (Str × Addr)) (fp:List Addr),PTs (X.blk s H scope (compEnvC scope cl C X.env) fp) ifs tt)
  (hk:∀(s:Shared) (H:Hp) (C:Addr) (cl:List (Str × Addr)) (fp:List Addr),PE (X.blk s H scope (compEnvC scope cl C X.env) fp) kx tk)
  (he:∀(s:Shared) (H:Hp) (C:Addr) (cl:List (Str × Addr)) (fp:List Addr),PE (X.blk s H scope (compEnvC scope cl C X.env) fp) vx tv)(hs:∀x,foldedSetIterable iter X.env x=pure x)
  (I:Inv X pins σ H s)(h:Zfd wi g tt tk tv (own.map (·.2)) σ H Q)
  (hRR:∀D C s' m H',Inv X pins σ H' s'->Q (.ref D) H'->s'.heap.Ns C m->FpOk X pins H' C->compPost (model X.prog X.w) X.A X.xe use Qf (.ref D) C (.ok .next) s') :
  wpAny (model X.prog X.w) X.A (comprehension (.DictComp kx vx [⟨tg,iter,ifs,0⟩] scope pos) scope X.env pos' newDict false (eval iter X.env) use) Qf X.xe s:=by
 have hfree:∀y∈scope.names,y.2= .free->∃c,X.env.cells.lookup y.1=some c:=fun y hy e=>(ok.free y hy e).elim (fun k=>I.ok.has _ (.inl k)) fun k=>I.ok.has _ (.inr k)
 refine wpAny_comprehension_free (use:=use) rfl hs (closure_ok hfree) ok.kind (fun y hy e=>by rw[ok.uniq y hy,e])
  (thn (hi.run pins s σ H _ I h) fun xv s1 hx=>thn hx fun itv s2 h2=> ?_)
 obtain⟨it,fp,tn,J,H2,rfl,I2,T,st2,f2,q⟩:=h2
 refine wpAny_newObj_type (newEnv_comp ?_)
 generalize hD:s2.heap.objs.size=D
 have hDn:H2 D=none:=I2.hok.fresh (Vx hD)
 obtain⟨o0,ho0,W,⟨m0,w0⟩,turn⟩:=q D hDn
 generalize hs3:({ s2 with heap:=s2.heap.push { cls:= .type "dict",data:= .dict #[] } }:Shared)=s3
 have I3:Inv X pins σ (upd H2 D o0) s3:=by
  rw[<- hs3]
  refine I2.laid (t':=s2.toks) (fun b o e=>Xe _ e) (Vx hD) ?_
  rw[<- hD]
  rcases ho0 with rfl|rfl
  ·exact dk_empty s2.heap I2.big
  ·exact dt_empty s2.heap I2.big
 have h3:s3.heap=s2.heap.push { cls:= .type "dict",data:= .dict #[] }:=by rw[<- hs3]
 have f3:∀b∈fp,FpOk X pins (upd H2 D o0) b∧b < s3.heap.objs.size:=fun b hb=>by
  obtain⟨o,e,_⟩:=T.obj _ _ st2 b hb
  have hlt:=XN e
  refine⟨⟨?_,(f2 b hb).2⟩,by rw[h3,Heap.size_push]; exact Nat.lt_succ_of_lt hlt⟩
  rw[upd_ne (by rw[<- hD]; exact Va hlt)]
  exact(f2 b hb).1
 have st3:tn 0 s3.heap:=T.keep _ _ _ st2 fun b _ o e=>by rw[h3]; exact Xe _ e
 have I4:=block_start I3 ok hN f3
 generalize hcc:(cellsFrom (s3.heap.objs.size+1) scope.names (cloFrom X.env.cells scope.names []))=cc at I4
 have pg:=hg s3 (upd H2 D o0) s3.heap.objs.size cc fp
 have pt:=ht s3 (upd H2 D o0) s3.heap.objs.size cc fp
 have pk:=hk s3 (upd H2 D o0) s3.heap.objs.size cc fp
 have pe:=he s3 (upd H2 D o0) s3.heap.objs.size cc fp
 have nfp:∀b∈fp,(upd H2 D o0) b=none:=fun b hb=>(f3 b hb).1.1
 generalize hce:compEnvC scope cc s3.heap.objs.size X.env=ce at I4 pg pt pk pe ⊢
 have cL:ce.locals=s3.heap.objs.size:=by subst hce; rfl
 generalize hH3:upd H2 D o0=H3 at I3 I4 pg pt pk pe w0 nfp f3
 generalize hs4:({ s3 with heap:=pushCells (s3.heap.push { cls:= .type "dict",data:= .dict #[] }) scope.names }:Shared)=s4 at I4
 have st4:tn 0 s4.heap:=T.keep _ _ _ st3 fun b _ o e=>by rw[<- hs4]; exact pushCells_keeps _ _ _ _ (Xe _ e)
 have stat:∀{σ':L2.St}{H':Hp}{s':Shared},Inv (X.blk s3 H3 scope ce fp) [] σ' H' s'->(∀b∈fp,H' b=none)->∀b∈fp,FpOk (X.blk s3 H3 scope ce fp) [] H' b:=fun {σ' H' s'} I' hn b hb =>
  ⟨hn b hb,(I'.ok.exf b hb).1,I'.ok.exfs b hb,.inl hb,fun x c e=>(I'.ok.exf b hb).2 x c e,fun p hp=>absurd (show p∈([]:List (Addr × Obj))++ [] from hp) (by simp)⟩
 have loop:codeAny (model X.prog X.w) X.A (.compLoop (.DictComp kx vx [⟨tg,iter,ifs,0⟩] scope pos) 0 (.ref it) (.ref D) ce) (compPost (model X.prog X.w) X.A X.xe use Qf (.ref D) s3.heap.objs.size) s4:=by
  refine compLoop_anyD (fun n s'=>∃i H',Inv (X.blk s3 H3 scope ce fp) [] (wipe σ (own.map (·.2))) H' s'∧tn i s'.heap∧(∀b∈fp,H' b=none)∧W i n H') ?_ m0 ⟨0,H3,I4,st4,nfp,w0⟩
  rintro n s5 ⟨i,H5,I5,st5,n5,w5⟩
  rcases turn i n H5 w5 with⟨stop,qq⟩|⟨go,Nx,hNx,step⟩
  ·refine thnF (T.done (X.blk s3 H3 scope ce fp) rfl rfl rfl hc i [] s5 _ H5 (fun _ _=>False) I5 (stat I5 n5) st5 stop) fun r s6 ⟨hr,I6⟩=> ?_
   subst hr
   have I7:Inv X pins σ H5 s6:=I3.call' (ch:=fp) I6.os I6.base I6.hok I6.bare fun b hb=>⟨(f3 b hb).1.2.2.2.1,(f3 b hb).1.2.1,(f3 b hb).1.2.2.2.2.1,(f3 b hb).1.2.2.2.2.2⟩
   have nC:H5 s3.heap.objs.size=none:=by
    rw[<- cL]
    exact I6.free
   obtain⟨m,hn,_⟩:=I6.loc
   have hn:s6.heap.Ns ce.locals m:=hn
   rw[cL] at hn
   exact hRR D s3.heap.objs.size s6 m H5 I7 qq hn (I3.fpOk (XS _) nC)
  ·refine thnF (T.item (X.blk s3 H3 scope ce fp) rfl rfl rfl hc i [] s5 _ H5 (fun _ _=>False) I5 (stat I5 n5) st5 go) fun r s6 ⟨u,hr,h6⟩=> ?_
   subst hr
   refine thnF h6 fun _ s7 ⟨x,H7,I7,r7,y7,st7,n7⟩=> ?_
   refine thnF (pg.run _ s7 _ H7 x u _ (I7.pinned (stat I7 n7) (T.obj _ _ st7)) r7 (step x H7 y7)) fun _ s8 ⟨σ8,H8,I8,hw8,q8⟩=> ?_
   refine thnF (pt.run _ s8 σ8 H8 _ I8 q8) fun b s9 ⟨H9,I9,q9⟩=> ?_
   have fin:∀{s':Shared}{H':Hp},Inv (X.blk s3 H3 scope ce fp) ([]++pinsAt fp s7.heap) σ8 H' s'->Nx H'->∃m,m < n∧∃i H',Inv (X.blk s3 H3 scope ce fp) [] (wipe σ (own.map (·.2))) H' s'∧tn i s'.heap∧(∀b∈fp,H' b=none)∧W i m H':=fun {s' H'} I' nx=>by
    obtain⟨m',hm,w'⟩:=hNx H' nx
    have pin':∀b∈fp,∀o,s7.heap.get? b=some o->s'.heap.get? b=some o∧H' b=none:=fun b hb o e =>
     let z:=I'.pin (b,o) (XC _ (XC _ (mem_pinsAt hb e)))
     ⟨z.1,z.2.1⟩
    refine⟨m',hm,i+1,H',(I'.unpinned (pins:= [])).weak (by rw[<- hw8,Vj]) (fun j v e=> ?_),T.keep _ _ _ st7 fun b hb o e=>(pin' b hb o e).1,fun b hb=> ?_,w'⟩
    ·rw[<- hw8] at e
     exact(wipe_some e).1
    ·obtain⟨o,e,_⟩:=T.obj _ _ st7 b hb
     exact(pin' b hb o e).2
   cases b with
   |false=>exact fin I9 q9
   |true =>
    refine thnF (pk.run _ s9 σ8 H9 _ I9 q9) fun z s10 ⟨yk,H10,I10,r10,q10⟩=> ?_
    refine thnF (pe.run _ s10 σ8 H10 _ I10 q10) fun z2 s11 ⟨yv,H11,I11,r11,H12,put,nx⟩=> ?_
    exact Zfc (X:=X.blk s3 H3 scope ce fp) hu I11 put r10 r11 fun s12 I12=>fin I12 nx
 have res:=codeAny_compStart_dict loop (T.self X.A 0 _ _ _ st4 loop)
 rw[<- hce] at res
 exact res
theorem Zly{i:Nat}{y:Str}{py:Pos}{kx vx tg iter:Expr}{ifs:List Expr}{scope:Scope}{own:List (Str × Nat)}{pos spos:Pos}{wi:TI}{g:TG}{tt:TT}{tk tv:TE}(hu:X.A.units+1 < cLine)(hc:X.calm=true)(hN:X.N.Nodup)(hy:X.N[i]?=some y)(hyl:X.env.scope.names.lookup y=some .local)
    (hsw:swapsWith (.DictComp kx vx [⟨tg,iter,ifs,0⟩] scope pos) (some (.Name y py)) spos.line X.env=pure true)(hi:PI X tg iter wi)(ok:BlkOk X.N X.env.scope scope own)
    (hg:∀(s:Shared) (H:Hp) (C:Addr) (cl:List (Str × Addr)) (fp:List Addr),PG (X.blk s H scope (compEnvC scope cl C X.env) fp) tg g)
    (ht:∀(s:Shared) (H:Hp) (C:Addr) (cl:List (Str × Addr)) (fp:List Addr),PTs (X.blk s H scope (compEnvC scope cl C X.env) fp) ifs tt)
    (hk:∀(s:Shared) (H:Hp) (C:Addr) (cl:List (Str × Addr)) (fp:List Addr),PE (X.blk s H scope (compEnvC scope cl C X.env) fp) kx tk)
    (he:∀(s:Shared) (H:Hp) (C:Addr) (cl:List (Str × Addr)) (fp:List Addr),PE (X.blk s H scope (compEnvC scope cl C X.env) fp) vx tv)(hs:∀x,foldedSetIterable iter X.env x=pure x:=by intro _; rfl) :
    PS X (.Assign [.Name y py] (.DictComp kx vx [⟨tg,iter,ifs,0⟩] scope pos) spos) (tAsg (Zfd wi g tt tk tv (own.map (·.2))) (gName i)):=by
  refine⟨fun pins s σ H D I h=> ?_⟩
  rw[exec_Assign_Name_used _ _ _ _ hsw]
  refine Xd (X4 (Xd ?_))
  show wpAny _ X.A (do let _ <- comprehension (.DictComp kx vx [⟨tg,iter,ifs,0⟩] scope pos) scope X.env (firstIterPos [⟨tg,iter,ifs,0⟩] pos) newDict false (eval iter X.env) (some (assign (.Name y py) X.env))) _ _ s
  have h:Zfd wi g tt tk tv (own.map (·.2)) σ H (fun x H1=>gName i x σ H1 D.nx):=h
  refine Xd (thn (ZmO (Qf:=fun _ s'=>SP X pins D .next s') hu hc hN hi ok hg ht hk he hs I h fun L C s' m H' I' q hn f=> ?_) fun _ s' hq=>Xk (Xk hq))
  show wpAny _ _ (assign (.Name y py) X.env (.ref L)) _ _ _
  refine wpAny_assign_Name (store_ok2 (v:=V.ref L) I' hN hy (.inl hyl) rfl (fun s2 I2 ⟨a,sb,ha⟩=> ?_) (.inr hyl))
  obtain⟨f0,f1,f2,f3,f4,f5⟩:=f
  have haC:C≠a:=by
    rcases ha with z|z
    · rw[z]; exact f1
    · exact fun e=>f4 y a z e.symm
  refine⟨m,hn.sameBut sb haC,fun h3 sb3=> ?_⟩
  exact⟨_,H',I2.turned (t':=s2.toks) (fun b o hb e=>(sb3.2 b hb).trans e) f0 f1 f3 f4 f5,q⟩
theorem ZmP{kx vx:Expr}{gs:List Comprehension}{scope:Scope}{pos py:Pos}{y:Str}{l:Nat}{env:PySem.Env}(hk:env.scope.kind= .function)(hy:env.scope.names.lookup y=some .local)(hl:(py.line == pos.line)=true)
  (ha:(scope.names.any fun(n,k)=>n == y && (k == .local || k == .cell))=false):swapsWith (.DictComp kx vx gs scope pos) (some (.Name y py)) l env=pure true:=by
 have ky:env.kindOf y=some .local:=hy
 have hb:env.blockKind= .function:=by unfold Env.blockKind; rw[hk]; rfl
 unfold swapsWith
 simp only[hb,ky,ha,Expr.pos,hl]
 rfl
end
end Pw
namespace Pu
open PySem L2 PySem.Spec PyProof.Rows Pw
section
variable {K:PySem.W.Frag}{T:Tx K}{M Mt:List Md}{X:Cx}{kx vx tg iter e:Expr}{elts:List Expr}{kk:Nat}{tpos apos cpos:Pos}{ifs:List Expr}{scope:Scope}{own:List (Str × Nat)}{pos spos py:Pos}{f:Env->R (List D)}{tgf:D->Env->Option Env}{tt:Env->R Bool}{tk tv:Env->R D}{us:List Nat}{i k:Nat}{y:Str}{b:List D->Env->Bool}
theorem ZmQ{wi:TI}{C:L2.St->Hp->Prop}(hu0:X.A.units+1 < cLine)(hc:X.calm=true)(hN:X.N.Nodup)(hy:X.N[i]?=some y)(hyl:X.env.scope.names.lookup y=some .local)(hsw:swapsWith (.DictComp kx vx [⟨tg,iter,ifs,0⟩] scope pos) (some (.Name y py)) spos.line X.env=pure true)
  (hi:PI X tg iter wi)(hw:∀σ H R,C σ H->lI (T.ex M) f σ H R->wi σ H R)(ok:BlkOk X.N X.env.scope scope own)(hv:Yi M (own.map (·.2))=true)(hu:∀t∈us,t∈own.map (·.2))(wk:Nk Mt M)
  (hg:∀(s:Shared) (H:Hp) (C:Addr) (cl:List (Str × Addr)) (fp:List Addr),PG (X.blk s H scope (compEnvC scope cl C X.env) fp) tg (lG (T.ex M).tx M Mt us tgf))(ht:∀(s:Shared) (H:Hp) (C:Addr) (cl:List (Str × Addr)) (fp:List Addr),PTs (X.blk s H scope (compEnvC scope cl C X.env) fp) ifs (lT ((T.ex M).inn Mt) tt))
  (hk:∀(s:Shared) (H:Hp) (C:Addr) (cl:List (Str × Addr)) (fp:List Addr),PE (X.blk s H scope (compEnvC scope cl C X.env) fp) kx (lE ((T.ex M).inn Mt) tk))(he:∀(s:Shared) (H:Hp) (C:Addr) (cl:List (Str × Addr)) (fp:List Addr),PE (X.blk s H scope (compEnvC scope cl C X.env) fp) vx (lE ((T.ex M).inn Mt) tv))
  (wx:Wk M T.Mx)(hn:nf M i=true)(hs:∀x,foldedSetIterable iter X.env x=pure x:=by intro _; rfl) :
  PS X (.Assign [.Name y py] (.DictComp kx vx [⟨tg,iter,ifs,0⟩] scope pos) spos) (fun E σ H=>C σ H∧lS T M (M.set i (.ow (.dct .sh))) (ZB i (sDc b f tgf tt tk tv (own.map (·.2)))) E σ H):=by
 refine PS.of (Zly hu0 hc hN hy hyl hsw hi ok hg ht hk he hs) fun E σ H ⟨hC,B,O,Fs,ρ,w,run⟩=> ?_
 refine ZoN (S:=T.ex M) (fun R=>hw σ H R hC) hv hu wk ⟨B,O,Fs,ρ,w,RunS.bindF run wx fun a ρ1 v O1 Fs1 H1 Fv ev w1 ow n run1=> ?_⟩
 refine run1 O1 (Fs1.set i Fv) H1 _ (EvS.set ev.toS hn (fun b hb=> .inr (n.fr b hb))) (w1.setOw hn n (fun b hb z=> ?_) (ZeE w ev w1 n) ow)
 obtain⟨o,ho⟩:=w.al b (w.bo b z)
 rw[n.fr b hb] at ho
 cases ho
theorem ZmR(hm:M[k]?=some .sh)(hu0:X.A.units+1 < cLine)(hc:X.calm=true)(hN:X.N.Nodup)(hy:X.N[i]?=some y)(hyl:X.env.scope.names.lookup y=some .local)(hsw:swapsWith (.DictComp kx vx [⟨.Tuple elts kk tpos,.Call (.Attribute e "items" apos) [] [] cpos,ifs,0⟩] scope pos) (some (.Name y py)) spos.line X.env=pure true)
  (hv0:PE X e (tVar k))(ok:BlkOk X.N X.env.scope scope own)(hv:Yi M (own.map (·.2))=true)(hu:∀t∈us,t∈own.map (·.2))(wk:Nk Mt M)
  (hg:∀(s:Shared) (H:Hp) (C:Addr) (cl:List (Str × Addr)) (fp:List Addr),PG (X.blk s H scope (compEnvC scope cl C X.env) fp) (.Tuple elts kk tpos) (lG (T.ex M).tx M Mt us tgf))(ht:∀(s:Shared) (H:Hp) (C:Addr) (cl:List (Str × Addr)) (fp:List Addr),PTs (X.blk s H scope (compEnvC scope cl C X.env) fp) ifs (lT ((T.ex M).inn Mt) tt))
  (hk:∀(s:Shared) (H:Hp) (C:Addr) (cl:List (Str × Addr)) (fp:List Addr),PE (X.blk s H scope (compEnvC scope cl C X.env) fp) kx (lE ((T.ex M).inn Mt) tk))(he:∀(s:Shared) (H:Hp) (C:Addr) (cl:List (Str × Addr)) (fp:List Addr),PE (X.blk s H scope (compEnvC scope cl C X.env) fp) vx (lE ((T.ex M).inn Mt) tv))
  (wx:Wk M T.Mx)(hn:nf M i=true)(hbase:attributeBase e "items" X.env (eval e X.env)=eval e X.env:=by rfl)(hline:(apos.endLine == cpos.line)=true:=by rfl)(hs:∀x,foldedSetIterable (.Call (.Attribute e "items" apos) [] [] cpos) X.env x=pure x:=by intro _; rfl) :
  PS X (.Assign [.Name y py] (.DictComp kx vx [⟨.Tuple elts kk tpos,.Call (.Attribute e "items" apos) [] [] cpos,ifs,0⟩] scope pos) spos) (lS T M (M.set i (.ow (.dct .sh))) (Zc7 k (ZB i (sDc b (sIt Qs (sV k)) tgf tt tk tv (own.map (·.2)))))) :=
 Zli hm (ZmQ (C:=Zct k) hu0 hc hN hy hyl hsw (Zdd hv0 hbase hline) (fun σ H R lk h=>ZhV (S:=T.ex M) hm lk h) ok hv hu wk hg ht hk he wx hn hs)
end
end Pu
namespace Pu
open PySem L2 PySem.Spec PyProof.Rows Pw
theorem u9{k:Nat}{A:Around}(r:RoomG k A):A.units+9 < cLine:=by have:=r.un; omega
theorem u8{k:Nat}{A:Around}(r:RoomG k A):A.units+8 < cLine:=by have:=r.un; omega
def Zns(j:Nat)(dk dv:D)(ρ:Env):RS:=match ρ[j]? with
 |some (some d)=>(match Zbq d dk dv with
  |some d'=> .nx (ρ.set j (some d'))
  |none=> .bad)
 |_=> .bad
def Znt(j:Nat)(fk fv:Env->R D):Env->RS:=fun ρ=>(fv ρ).bindS fun dv ρ1=>(fk ρ1).bindS fun dk ρ2=>Zns j dk dv ρ2
section
variable {X:Cx}{o i value:Expr}{pos pos':Pos}{td ty tv:TE}
theorem ZnX(hu:X.A.units+9 < cLine)(ho:PE X o td)(hi:PE X i ty)(hv:PE X value tv)(hs:swapsWith value (some (.Subscript o i pos')) pos.line X.env=pure false) :
  PS X (.Assign [.Subscript o i pos'] value pos) (fun D σ H=>tv σ H fun v H1=>td σ H1 fun x H2=>ty σ H2 fun y H3=>∃a H4,x= .ref a∧ZhA X.K (NestedKey.hash X.w) H3 a y v H4∧D.nx σ H4):=by
 refine⟨fun pins s σ H D I h=> ?_⟩
 refine wpAny_Assign_Subscript (thn (hv.run pins s σ H _ I h) fun r s1 ⟨v,H1,I1,rv,q1⟩=>thn (ho.run pins s1 σ H1 _ I1 q1) fun u s2 ⟨x,H2,I2,rx,q2⟩=>thn (hi.run pins s2 σ H2 _ I2 q2) fun iv s3 ⟨y,H3,I3,ry,a,H4,ex,g,q3⟩=> ?_) hs
 subst ex
 obtain rfl:u=Value.ref a:=rx
 exact Zkk hu I3 g ry rv fun s4 I4=>⟨σ,H4,I4,q3⟩
end
section
variable {K:PySem.W.Frag}{T:Tx K}{M:List Md}{X:Cx}{o a value:Expr}{fk fv:Env->R D}{j:Nat}{m:Md}{pos pos':Pos}
theorem Zpa(hh:T.G.hs=NestedKey.hash X.w)(hu:X.A.units+9 < cLine)(h0:PE X o (tVar j))(hj:M[j]?=some m)(ht:m.is .nk)(hk:PE X a (lE (T.ex M) fk))(hv:PE X value (lE (T.ex M) fv))(wx:Wk M T.Mx)(hs:swapsWith value (some (.Subscript o a pos')) pos.line X.env=pure false:=by rfl)(hK:X.K=K:=by rfl) :
  PS X (.Assign [.Subscript o a pos'] value pos) (lS T M M (Znt j fk fv)):=by
 subst hK
 refine PS.of (ZnX hu h0 hk hv hs) fun E σ H ⟨B,O,Fs,ρ,w,run⟩=> ?_
 refine⟨B,O,Fs,ρ,w,run.bindE wx (fun dv ρ1 v O1 Fs1 H1 _ ev1 w1 r1 run1=> ?_) (ZM M)⟩
 obtain⟨l0,d0,F0,h1,_⟩:=w1.own hj ht
 refine⟨l0,h1,B,O1,Fs1,ρ1,w1,run1.bindE wx (fun dk ρ2 y O2 Fs2 H2 _ ev2 w2 r2 run2=> ?_) (ZM M)⟩
 have rv:=r1.ev w1 ev2
 obtain⟨l,d,F,g1,g2,g3,ow⟩:=w2.own hj ht
 rw[h1] at g1
 cases g1
 unfold Zns at run2
 rw[g2] at run2
 dsimp only at run2
 cases hp:Zbq d dk dv with
 |none=>rw[hp] at run2; exact run2.elim
 |some d' =>
  rw[hp] at run2
  obtain⟨q,es,kvs,e1,e2,e3,r,e5⟩:=ow
  subst e1
  subst e5
  have lO:O2 q:=w2.sub q (Zj (Xa g3) (Xb.mpr rfl))
  obtain⟨u,nu,dp,ow'⟩:=Zga (F:= [q]) ⟨q,es,kvs,rfl,e2,e3,r,rfl⟩ lO r2 rv hp
  obtain⟨w3,ev3⟩:=w2.cell (u:=u) (d':=d') hj ht h1 g3 (fun O' eo _=>by subst eo; exact ow') nu
  exact⟨q,_,rfl,by rw[<- hh]; exact dp,run2 O2 _ _ σ ev3.toS w3⟩
end
end Pu
namespace Pu
open PySem L2
def Zpb(neg:Bool)(j:Nat)(x:D)(ρ:Env):R D:=match ρ[j]? with
 |some (some d)=>R.of (Zo3 neg x d) ρ
 |_=> .bad
def ZgU(neg:Bool)(fa:Env->R D)(j:Nat):Env->R D:=fun ρ=>(fa ρ).bind fun x ρ1=>Zpb neg j x ρ1
section
variable {K:PySem.W.Frag}{S:Sx K}{X:Cx}{fa:Env->R D}{a b:Expr}{pos:Pos}{j:Nat}{m:Md}
theorem Znu{neg:Bool}(hj:S.M[j]?=some m)(ht:m.is .nk){σ:L2.St}{H:Hp}{Q:VK}(h:lE S (ZgU neg fa j) σ H Q):tOp (Zkn K S.G.hs neg) (lB S fa) (tVar j) σ H Q:=by
 obtain⟨B,O,Fs,ρ,w,run⟩:=h
 refine⟨B,O,Fs,ρ,w,run.bind fun x ρ1 v O1 Fs1 H1 _ ev1 w1 r1 run1=> ?_⟩
 obtain⟨l,d,F,g1,g2,g3,ow⟩:=w1.own hj ht
 refine⟨l,g1, ?_⟩
 unfold Zpb at run1
 rw[g2] at run1
 obtain⟨q,es,kvs,e1,e2,e3,r,e5⟩:=ow
 subst e1
 subst e2
 refine run1.of (r:=fun Q=>Zkn K S.G.hs neg v (.ref q) H1 Q) w1 fun d' e k=> ?_
 unfold Zo3 at e
 dsimp only at e
 split at e
 ·rename_i nk hk
  split at e
  ·rename_i hc
   cases e
   have ha':Rep S.G O1 H1 v x:=by
    unfold ZhD at hc
    rw[VB,Xp,Xp] at hc
    rcases hc with⟨_,h2⟩|⟨_,h2⟩
    ·obtain⟨⟨ds,rfl⟩,_⟩:=ZfA h2
     exact r1.shared (fun _ z=>nomatch z) (fun _=>⟨(fun z=>nomatch z),fun z=>nomatch z⟩) (fun _ _ z=>nomatch z)
    ·cases x with
     |bl b=>exact r1.shared (fun _ z=>nomatch z) (fun _=>⟨(fun z=>nomatch z),fun z=>nomatch z⟩) (fun _ _ z=>nomatch z)
     |_=>exact Bool.noConfusion (show false=true from h2)
   refine⟨q,ZdG kvs nk,rfl,⟨es,nk,e3,Zls r ha' hk hc,(Zem nk r).symm⟩, ?_⟩
   exact k _ _ (Xt H1) (.bl _)
  ·cases e
 ·cases e
theorem ZqH(hh:S.G.hs=NestedKey.hash X.w)(hu:X.A.units+65 < cLine)(hj:S.M[j]?=some m)(ht:m.is .nk)(ha:PE X a (lB S fa))(hb:PE X b (tVar j))(hm:behindInMarks .In b=false)(hK:X.K=K:=by rfl):PE X (.Compare a [.In] [b] pos) (lE S (ZgU false fa j)):=by
 subst hK
 exact(PE.of (pe_cmpR (Zo4 (by omega)) ha hb hm) fun _ _ _ h=>by rw[<- hh]; exact Znu hj ht h)
theorem ZnY(hh:S.G.hs=NestedKey.hash X.w)(hu:X.A.units+65 < cLine)(hj:S.M[j]?=some m)(ht:m.is .nk)(ha:PE X a (lB S fa))(hb:PE X b (tVar j))(hm:behindInMarks .NotIn b=false)(hK:X.K=K:=by rfl):PT X (.Compare a [.NotIn] [b] pos) (lT S (sB (ZgU true fa j))):=by
 subst hK
 exact(PT.of (pt_cmpR (ZnS (by omega)) ha hb hm) fun _ _ _ h=>by rw[<- hh]; exact Znu hj ht (Zbi h))
end
end Pu
namespace Pu
open PySem PySem.W PySem.Calls PyProof.Rows L2
def ZmS(xp:Str)(ae:Expr):Prop:=(∃x k p,ae= .Constant (.str x) k p)∨∃p,ae= .Name xp p
theorem ZmT{xp:Str}{ae:Expr}{p0 p1 p2 p3:Pos}(hp:(p2.endLine == p3.line)=true)(h:ZmS xp ae)(env:PySem.Env):∃pl:Sem Bool,eval (.Call (.Attribute (.Call (.Name "super" p0) [] [] p1) "__init__" p2) [ae] [] p3) env=(do
      let ov <- attributeBase (.Call (.Name "super" p0) [] [] p1) "__init__" env (eval (.Call (.Name "super" p0) [] [] p1) env)
      standAt p2.atName
      let (f,first) <- holding [ov] (getMethod ov "__init__" pl)
      callWith p3 f first (backTo p3 (starEach [ae] env)) []):=by
  have key:∀o few,methodCallPos few o env p2 p3=pure p3:=fun o few=>by
    unfold methodCallPos
    rw[hp,Bool.or_true,if_pos rfl]
  rcases h with⟨x,k,p,rfl⟩|⟨p,rfl⟩
  all_goals
    refine⟨(do return (<- importBound (.Call (.Name "super" p0) [] [] p1) env).getD true), ?_⟩
    show (do
      let ov <- attributeBase (.Call (.Name "super" p0) [] [] p1) "__init__" env (eval (.Call (.Name "super" p0) [] [] p1) env)
      standAt p2.atName
      methodCall (.Call (.Name "super" p0) [] [] p1) "__init__" p2 p3 env ov 1 _ _)=_
    unfold methodCall
    simp only[key,pure_bind]
    rfl
abbrev ZdK(ae:Expr)(xs xp f:Str)(p0 p1 p2 p3 p4 p5 p6 p7 p8:Pos):List Stmt :=
 [.Expr (.Call (.Attribute (.Call (.Name "super" p0) [] [] p1) "__init__" p2) [ae] [] p3) p4,.Assign [.Attribute (.Name xs p5) f p6] (.Name xp p7) p8]
structure BaseF (B newId initId:String) (bmB:List Value):Prop where
 made:∀{prog:Program}{w:World}{A:Around}{R:Result->Shared->Prop}{h:Heap}{g:Array GenState}{d:Drawn}{t:Nat}{os:OsState}{nm q:Str}{C N:Addr}{bs bm:List Value}{hdct:Bool}{sn:List Str}{sub:List Value}{ab:Bool}{col:Option Bool}{dd:Option Addr}{k0 k1 k2 k3 k5:Option Value}{rest:List Value}{fI:Addr},
  (∀X:String,bm.contains (.type X)=bmB.contains (.type X))->h.get? C=some (excClassObj nm q C N bs bm hdct sn sub ab col dd k0 k1 k2 k3 k5 newId)->
  PySem.W.Looks (model prog w) h (typeLookup (.ref C) "__init__") (some (.ref fI))->(∀self,PySem.W.Looks (model prog w) h (bindSpecial (.ref fI) self) (.ref fI,[self]))->rest.length<=sizeLine->
  codeAny (model prog w) (A.under (.builtin "type.__call__" ⟨.ref C::rest,[]⟩)) (.call (.ref fI) ⟨.ref (h.objs.size+1)::rest,[]⟩) (PySem.W.InitBack (h.objs.size+1) R) ⟨(h.push (PySem.W.kdv_tup rest)).push (PySem.HandSPX.excO C h.objs.size),g,d,t,os⟩->
  codeAny (model prog w) A (.call (.ref C) ⟨rest,[]⟩) R ⟨h,g,d,t,os⟩
 sup:∀{prog:Program}{w:World}{A:Around}{E:Value->Shared->Prop}{s:Shared}{h₀:Heap}{L:Addr}{m:Str->Option Value}{news:List (Addr × Obj)}{K:Frag}{x C u:Addr}{t:Addr}{dv:Option Addr}{c2:Value}{rest:List Value}{nw:Obj->List (Addr × Obj)}{Q:Value->Shared->Prop},
  Fr h₀ L s.heap m->K.In h₀->News h₀ L s.heap news->excInitIn K C bmB newId=true->(u,kxs_mw initId x)∈news->UpdF x (excObj C t dv c2) news nw->rest.length<=sizeLine->
  (∀t' h',Fr h₀ L h' m->News h₀ L h' ((t',excTup rest)::nw (excObj C t' dv c2))->(∀p∈news,p.1 < t')->Q .none { s with heap:=h' })->wpAny (model prog w) A (call (.ref u) rest) Q E s
 KF:KxsFacts B initId
 SF:StoreFacts B bmB "object.__setattr__" "object"
theorem BaseF.of{B newId initId:String}{bmB:List Value}(F:ExcBaseFacts B newId initId bmB)(KF:KxsFacts B initId)(SF:StoreFacts B bmB "object.__setattr__" "object"):BaseF B newId initId bmB where
 made:=fun hT hC hi hb hr hq=>PySem.HandSPX.call_own F hT hC hi hb hr hq
 sup:=fun Fr X N q hm U hz h=>kxs_call Fr X N F q hm U hz h
 KF:=KF
 SF:=SF
structure InitK (P:Program) (K:Frag) (B newId initId:String) (bmB:List Value) (C fI:Addr) (f:Str):Prop where
 ex:∃(oc:Value) (od:Option Addr) (name qual:Str) (params:Arguments) (ae:Expr) (xs xp:Str) (p0 p1 p2 p3 p4 p5 p6 p7 p8:Pos) (scope:Scope) (dV kV doc pm:Value) (an:Option Addr) (cda:Addr) (ct:Value) (cc:Addr) (osl:Array (Option Value))
   (ccl:Value) (cdd:Option Addr) (vs:Array Value) (ccs:Array (Option Value)) (file:Str) (tf:Tok) (cl:Value) (cld:Option Addr) (csl:Array (Option Value)) (ar:Arg),
  K.lookup fI=some ⟨oc,od,.func (ksFn name qual params (ZdK ae xs xp f p0 p1 p2 p3 p4 p5 p6 p7 p8) scope dV kV doc pm an (.ref cda) ct cc),osl⟩∧ZmS xp ae∧(p2.endLine == p3.line)=true∧codeIn K (.ref cda) qual=true∧
  K.lookup cda=some ⟨ccl,cdd,.fields vs,ccs⟩∧vs[2]?=some (.str file tf)∧((P.main.file:Str) == file)=true∧K.lookup cc=some ⟨cl,cld,.cell (some (.ref C)),csl⟩∧
  (params.posonlyargs++params.args).head?=some ar∧ar.arg=xs∧(∀(e u:Value),bindArgs (ksFn name qual params (ZdK ae xs xp f p0 p1 p2 p3 p4 p5 p6 p7 p8) scope dV kV doc pm an (.ref cda) ct cc) ⟨[e,u],[]⟩=pure [(xs,e),(xp,u)])∧
  scope.names.lookup ("super" :Str)=some .globalImplicit∧scope.names.lookup ("__class__" :Str)=some .free∧scope.names.lookup xs=some .local∧scope.names.lookup xp=some .local∧xs≠xp∧(xs ==("__debug__" :Str))=false∧(xp ==("__debug__" :Str))=false∧
  (∀x∈scope.names,x.2≠ .cell)∧scope.isCoroutine=false∧scope.isGenerator=false∧scope.kind= .function
 sup:nsIn K mainGlobals "super" =some none
 opq:nsIn K cStatics "thirdparty.any" =some none
 htop:(P.main.scope.names.lookup ("super" :Str)).isSome=false
 cd:∃cd,clsIn K C=some cd
 cc:mroIn K C (.ref C)=some true
 si:ks_superIn K C C "__init__" =some (some (.builtin initId))
 cB:subIn K (.ref C) (.type B)=some true
 xi:excInitIn K C bmB newId=true
 ov:excOver K C bmB=true
 ini:findIn K (.ref C) "__init__" =some (some (.ref fI))
 tyI:typeIn K (.ref fI)=some (.type "function")
 sa:findIn K (.ref C) "__setattr__" =some (some (.builtin "object.__setattr__"))
 tk:takerIn K C f=some none
 hd:hasDictIn K C=true
 kC:keepIn K (.ref C)=true
 exC:subIn K (.ref C) (.type "BaseException")=some true
 tyC:typeIn K (.ref C)=some (.type "type")
section
variable {prog:Program}{w:World}{A:Around}{E:Value->Shared->Prop}{R:Result->Shared->Prop}{hp:Heap}{g:Array GenState}{d:Drawn}{t:Nat}{os:OsState}{K:Frag}{C x t1:Addr}{B newId initId:String}{bmB:List Value}
theorem ZmU{name:Str}{v:Value}{Q:Unit->Shared->Prop}(SF:StoreFacts B bmB "object.__setattr__" "object")(X:K.In hp)(hx:hp.get? x=some (excObj C t1 none .none))(hs:findIn K (.ref C) "__setattr__" =some (some (.builtin "object.__setattr__")))
  (ho:excOver K C bmB=true)(ht:takerIn K C name=some none)(hh:hasDictIn K C=true)
  (h:∀h' tk' dx,(∀b o,b≠x->hp.get? b=some o->h'.get? b=some o)->hp.objs.size<=dx->dx≠x->h'.get? x=some (excObj C t1 (some dx) .none)->h'.Ns1 dx (fun y=>if y=name then some v else none)->Q () ⟨h',g,d,tk',os⟩) :
  wpAny (model prog w) A (setAttr (.ref x) name v) Q E ⟨hp,g,d,t,os⟩:=by
 have hxs:x≠hp.objs.size:=Va (XN hx)
 refine set_plain (od:=none) X ⟨hx,rfl,rfl,trivial⟩ hs (osa_openX (od:=none) SF X ⟨hx,rfl,rfl,trivial⟩ ho ht fun b=> ?_)
 obtain⟨cd,hc,hd'⟩:=any_some hh
 refine Xd (Xk (Xd (instanceDict_exc (s:=⟨hp,g,d,t+1,os⟩) hx (looks_clsIn X hc) hd' ?_)))
 have hx1:(hp.push (dictOf [] 0)).get? x=some (excObj C t1 none .none):=Xe _ hx
 refine HandSPX.store_in_new ?_ fun h' tk' hn' hs'=> ?_
 ·exact⟨_,#[],_,(Heap.get?_update_ne _ _ _ _ hxs.symm).trans (Heap.get?_push_at rfl rfl),rfl,fun e he=>absurd he (by simp),fun _=>rfl⟩
 ·refine h h' tk' hp.objs.size (fun b o hb ho=>(hs'.2 b (Va (XN ho))).trans ((Heap.get?_update_ne _ _ _ _ hb).trans (Xe _ ho))) (XS _) hxs.symm ?_ hn'
  exact(hs'.2 x hxs).trans (Heap.get?_update_self _ hx1 rfl)
theorem ZmV{h₀:Heap}{L:Addr}{m:Str->Option Value}{news:List (Addr × Obj)}{mg mb:Str->Option Value}{s:Shared}{ox:Obj}{odx:Option Obj}{fI cda cc:Addr}{body:List Stmt}{qual:Str}{scope:Scope}{p0 p1:Pos}{attr:Str}{whole:Sem Value}{fd:FuncData}{ar:Arg}{vs:Array Value}{file:Str}{tf:Tok}
  {oc ccl cl:Value}{od cdd cld:Option Addr}{osl ccs csl:Array (Option Value)}{cdD:ClassData}{Q:Value->Shared->Prop}
  (F:Fr h₀ L s.heap m)(X₀:K.In h₀)(N:News h₀ L s.heap news)(G:h₀.Ns mainGlobals mg)(Bn:h₀.Ns builtinsNs mb)(bb:∀x:Str,x≠"__name__"->mb x=bootBuiltins x)
  (hf:K.lookup fI=some ⟨oc,od,.func fd,osl⟩)(hpar:(fd.params.posonlyargs++fd.params.args).head?=some ar)(hv:m ar.arg=some (.ref x))(I:InstAt s.heap x ox C odx)
  (hcode:K.lookup cda=some ⟨ccl,cdd,.fields vs,ccs⟩)(hvs:vs[2]?=some (.str file tf))(hfile:((prog.main.file:Str) == file)=true)(hcell:K.lookup cc=some ⟨cl,cld,.cell (some (.ref C)),csl⟩)(hD:clsIn K C=some cdD)
  (hsub:mroIn K C (.ref C)=some true)(hsuper:nsIn K mainGlobals "super" =some none)(hat:(attr ==("__class__" :Str))=false)(hks:scope.names.lookup ("super" :Str)=some .globalImplicit)(hkc:scope.names.lookup ("__class__" :Str)=some .free)
  (hka:scope.names.lookup ar.arg=some .local)(hk:scope.kind= .function)(htop:(prog.main.scope.names.lookup ("super" :Str)).isSome=false)
  (h:∀so h',Fr h₀ L h' m->News h₀ L h' ((so,ks_superObj C x C)::news)->(∀p∈news,p.1 < so)->Q (.ref so) { s with heap:=h' }) :
  _root_.PySem.wpAt (model prog w) A (.func body (ksEnv qual scope L fI (.ref cda) cc)) (attributeBase (.Call (.Name "super" p0) [] [] p1) attr (ksEnv qual scope L fI (.ref cda) cc) whole) Q E s:=by
 have X:K.In s.heap:=X₀.keeps F.keep
 obtain⟨hh,g,d,t,os⟩:=s
 obtain⟨oD,hD1,hD2⟩:∃oD,hh.get? C=some oD∧oD.data= .cls cdD:=by
  unfold clsIn at hD
  split at hD
  ·rename_i c d cd' sl ho; cases hD; exact⟨_,X _ _ ho,rfl⟩
  ·cases hD
 refine ks_wpAt_super_base (env:=ksEnv qual scope L fI (.ref cda) cc) hks hkc hat rfl (X _ _ hf) rfl hpar rfl (X _ _ hcode) rfl hvs hfile htop ?_
 refine ks_loadName_global hk hks (loadGlobal_builtin (env:=ksEnv qual scope L fI (.ref cda) cc) (G.keeps F.keep) (mg_none_of X₀ G hsuper) (Bn.keeps F.keep) ((bb _ (by decide +kernel)).trans (by first|boot_by_name|rfl|kernel_rfl)) ⟨rfl, ?_⟩)
 refine wpAny_loadName_free hk hkc rfl ⟨_,X _ _ hcell,rfl⟩ (Vp hk hka F.ns hv (ks_wpAny_isType_cls hD1 hD2 ⟨rfl, ?_⟩))
 refine ks_wpAny_call_super hD1 hD2 I.at_ I.cls (fun c e=> ?_) (looks_mroIn X hsub) (fun h' e k=> ?_)
 ·have:=I.no
  unfold notCls at this
  rw[e] at this
  exact Bool.noConfusion this
 ·obtain⟨F',N',l'⟩:=ks_newsPush (s:=⟨hh,g,d,t,os⟩) F N rfl e k
  exact h _ _ F' N' l'
end
section
variable {P:Program}{w:World}{A:Around}{R:Result->Shared->Prop}{hp h1:Heap}{g:Array GenState}{d:Drawn}{t:Nat}{os:OsState}{K:Frag}{C fI x t0:Addr}{B newId initId:String}{bmB:List Value}{f:Str}{u:Value}
theorem Zpc(T:InitK P K B newId initId bmB C fI f)(BF:BaseF B newId initId bmB){mg mb:Str->Option Value}(X₀:K.In hp)(G:hp.Ns mainGlobals mg)(Bn:hp.Ns builtinsNs mb)(bb:∀x:Str,x≠"__name__"->mb x=bootBuiltins x)(lim:hp.NoLimit)
  (k1:∀b o,hp.get? b=some o->h1.get? b=some o)(hx:h1.get? x=some (excObj C t0 none .none))(hxn:hp.get? x=none)(hxs:hp.objs.size<=x)(hroom:A.depth < recursionLimit)
  (h:∀h' tk' dx t1,(∀b o,hp.get? b=some o->h'.get? b=some o)->hp.objs.size<=dx->dx≠x->h'.get? x=some (excObj C t1 (some dx) .none)->h'.Ns1 dx (fun y=>if y=f then some u else none)->R (.ok (.ret .none)) ⟨h',g,d,tk',os⟩) :
  codeAny (model P w) A (.call (.ref fI) ⟨[.ref x,u],[]⟩) R ⟨h1,g,d,t,os⟩:=by
 obtain⟨oc,od,name,qual,params,ae,xs,xp,p0,p1,p2,p3,p4,p5,p6,p7,p8,scope,dV,kV,doc,pm,an,cda,ct,cc,osl,ccl,cdd,vs,ccs,file,tf,cl,cld,csl,ar,hf,hae,hpos,hcd,hcode,hvs,hfile,hcell,har,earg,hbind,hks,hkc,hlx,hlp,hne,hdx,hdp,hncell,hco,hgen,hkind⟩:=T.ex
 obtain⟨cdD,hD⟩:=T.cd
 obtain⟨sk,sn,sg,sco,sm⟩:=scope
 dsimp only at hks hkc hlx hlp hncell hco hgen hkind
 subst hco hgen hkind
 have hae0:=hae
 rcases hae with⟨lit,lk,lp,eae⟩|⟨np,eae⟩
 all_goals (
  have X1:K.In h1:=X₀.keeps k1
  refine ks_codeAny_call_defAt (fd:=ksFn name qual params (ZdK ae xs xp f p0 p1 p2 p3 p4 p5 p6 p7 p8) ⟨.function,sn,false,false,sm⟩ dV kV doc pm an (.ref cda) ct cc) (body:=ZdK ae xs xp f p0 p1 p2 p3 p4 p5 p6 p7 p8) (binds:= [(xs,.ref x),(xp,u)])
   hroom (X1 _ _ hf) rfl (lim.keeps k1) (codeRec_of X1 hcd) rfl (.of_eq (hbind _ _)) hncell (fun y hy=> ?_) (fun h₂ hns hk₂=> ?_) rfl rfl rfl
  ·rcases XB.mp hy with rfl|hy
   ·exact hlx
   ·rcases XB.mp hy with rfl|hy
    ·exact hlp
    ·cases hy
  have hL:hp.objs.size<=h1.objs.size:=XD hxs (Nat.le_of_lt (XN hx))
  have F2:Fr hp h1.objs.size h₂ (fun y=> [(xs,Value.ref x),(xp,u)].reverse.lookup y):=⟨hns,fun b o e=>hk₂ b o (k1 b o e),hL⟩
  have mx:(fun y=> [(xs,Value.ref x),(xp,u)].reverse.lookup y) xs=some (Value.ref x):=by
   show List.lookup xs [(xp,u),(xs,Value.ref x)]=_
   have e:(xs == xp)=false:=by simpa using hne
   simp[List.lookup,e]
  have mp:(fun y=> [(xs,Value.ref x),(xp,u)].reverse.lookup y) xp=some u:=by
   show List.lookup xp [(xp,u),(xs,Value.ref x)]=_
   simp[List.lookup]
  have N2:News hp h1.objs.size h₂ [(x,excObj C t0 none .none)]:=fun p hp'=>by
   rcases XB.mp hp' with rfl|hp'
   ·exact⟨hk₂ _ _ hx,Va (XN hx),hxn⟩
   ·cases hp'
  have I2:InstAt h₂ x (excObj C t0 none .none) C none:=⟨(N2 (x,excObj C t0 none .none) (by simp)).1,rfl,rfl,trivial⟩
  refine ks_wpAt_execs_cons (ks_wpAt_Expr_any (ks_wpAt_MethodCall (ZmV F2 X₀ N2 G Bn bb hf har (by rw[earg]; exact mx) I2 hcode hvs hfile hcell hD T.cc T.sup (by decide) hks hkc (by rw[earg]; exact hlx) rfl T.htop fun so h3 F3 N3 l3=> ?_) (ZmT hpos hae0 _).choose_spec) rfl (by subst eae; rfl))
  have I3:InstAt h3 x (excObj C t0 none .none) C none:=⟨(N3 (x,excObj C t0 none .none) (by simp)).1,rfl,rfl,trivial⟩
  refine kxs_method (s:=⟨h3,g,d,_,os⟩) BF.KF F3 X₀ N3 (Xg ..) I3 T.opq T.si T.cB (by decide) fun q h4 F4 N4 l4=> ?_
  have key:∀(u':Value) (tk':Nat) (Q':Value->Shared->Prop) (E':Value->Shared->Prop),(∀h5 tk5,Fr hp h1.objs.size h5 (fun y=> [(xs,Value.ref x),(xp,u)].reverse.lookup y)->h5.get? x=some (excObj C h5.objs.size none .none)∨(∃t5,h5.get? x=some (excObj C t5 none .none))->Q' .none ⟨h5,g,d,tk5,os⟩)->
    wpAny (model P w) (A.deeper (callEnv (ksFn name qual params (ZdK ae xs xp f p0 p1 p2 p3 p4 p5 p6 p7 p8) ⟨.function,sn,false,false,sm⟩ dV kV doc pm an (.ref cda) ct cc) h1.objs.size fI)) (call (.ref q) [u']) Q' E' ⟨h4,g,d,tk',os⟩:=fun u' tk' Q' E' hq=>by
   have c4:x≠so:=fun z=>by
    have:=l3 (x,excObj C t0 none .none) (by simp)
    rw[z] at this
    exact Nat.lt_irrefl _ this
   have c5:∀p∈ [(so,ks_superObj C x C),(x,excObj C t0 none .none)],p.1 < q:=l4
   refine BF.sup (s:=⟨h4,g,d,tk',os⟩) (rest:= [u']) (x:=x) (t:=t0) (dv:=none) (c2:= .none) F4 X₀ N4 T.xi (Xg ..)
    (UpdF.tail (fun z=> ?_) (UpdF.tail (fun z=>c4 z.symm) (UpdF.head (fun _ z=>nomatch z)))) (by show 1<=sizeLine; rw[sizeLine_eq]; omega) fun t5 h5 F5 N5 _=>hq h5 _ F5 (.inr ⟨t5,(N5 (x,excObj C t5 none .none) (by simp)).1⟩)
   have:=c5 (x,excObj C t0 none .none) (by simp)
   rw[<- show q=x from z] at this
   exact Nat.lt_irrefl _ this
  refine kxs_callWith1 (i:=initId) (x:=x) N4 (Xg ..) (spliced_more ?_ (by subst eae; rfl)) (by subst eae; rfl) (by rfl)
  subst eae
  first
   |refine wpAny_Constant_str (spliced_none ⟨(N4 (q,kxs_mw initId x) (Xg ..)).1,key _ _ _ _ fun h5 tk5 F5 e5=> ?_⟩)
   |refine wpAny_Name (Vp rfl hlp F4.ns mp (spliced_none ⟨(N4 (q,kxs_mw initId x) (Xg ..)).1,key _ _ _ _ fun h5 tk5 F5 e5=> ?_⟩)) hdp
  obtain⟨t5,e5⟩:∃t5,h5.get? x=some (excObj C t5 none .none):=e5.elim (fun z=>⟨_,z⟩) id
  refine ks_wpAt_execs_cons (wpAt_of_wpAny (plainObj_wpAny_Assign_Attribute (wpAny_Name (Vp rfl hlp F5.ns mp (wpAny_Name (Vp rfl hlx F5.ns mx ?_) hdx)) hdp)))
  refine ZmU BF.SF (X₀.keeps F5.keep) e5 T.sa T.ov T.tk T.hd fun h6 tk6 dx kp lt ne ex en=>wpAt_of_wpAny (wpAny_execs_nil ?_)
  refine h h6 tk6 dx t5 (fun b o e=>kp b o (fun z=> ?_) (F5.keep b o e)) ?_ ne ex en
  ·rw[z,hxn] at e
   cases e
  ·exact XD hxs (XD (Nat.le_of_lt (XN e5)) lt))
end
end Pu
namespace Pu
open PySem L2 PySem.Spec PyProof.Rows Pw
section
variable {X:Cx}{B newId initId:String}{bmB:List Value}{x f:Str}{C fI:Addr}{p pos:Pos}{e:Expr}{es:List Expr}{ta:TA}
def ZqD(C:Addr)(f:Str)(ta:TA):L2.St->Hp->XK->Prop:=fun σ H Q=>ta σ H fun vs H1=>∃v,vs= [v]∧∀d,H1 d=none->Q (.ref C) (some d) (upd H1 d (.xd [(f,v)]))
theorem ZpX{k:Nat}(T:InitK X.prog X.K B newId initId bmB C fI f)(BF:BaseF B newId initId bmB)(hr:Room (k+1) X.A)(hg:Gl X x)(hm:X.mg x=some (.ref C))(ha:PA X (e::es) ta)
  (hdb:(x ==("__debug__" :Str))=false:=by decide)(he:starEach (e::es) X.env=(false,eval e X.env)::starEach es X.env:=by rfl)(hpl:(backTo pos (starEach es X.env)).any (·.1)=false:=by rfl) :
  PMk X (.Call (.Name x p) (e::es) [] pos) (ZqD C f ta):=by
 intro pins s σ H Q I h
 refine Ve (ld_glob I hg hm ?_ hdb)
 refine VH (h₀:=X.base) I.ok.mod.kin T.kC (thn (ha.run pos pins s σ H _ I h) fun us s1 ⟨vs,H1,I1,r1,v,ev,q1⟩=>⟨I1.kIn, ?_⟩) he hpl
 subst ev
 obtain⟨u,rfl,ru⟩:=vals1 r1
 show wpAny _ _ (call (.ref C) [u]) _ _ _
 obtain⟨hp,g,dr,tk,os⟩:=s1
 obtain⟨nm,N,qn,bs,bm,hdct,sn,sub,ab,col,dd,k0,k1,k2,k3,k5,hC,hT⟩:=PySem.W.excInit_of I1.kIn T.xi
 obtain⟨mb,hb1,hb2⟩:=I1.ok.mod.blt
 have hsz:hp.objs.size<=hp.objs.size+1:=VM _
 have hn:hp.get? (hp.objs.size+1)=none:=by
  cases z:hp.get? (hp.objs.size+1) with
  |none=>rfl
  |some o=>exact absurd (XN z) (Nat.not_lt.mpr (VM _))
 have kk:∀b o,hp.get? b=some o->((hp.push (PySem.W.kdv_tup [u])).push (PySem.HandSPX.excO C hp.objs.size)).get? b=some o:=fun b o e=>Xe _ (Xe _ e)
 have hget:((hp.push (PySem.W.kdv_tup [u])).push (PySem.HandSPX.excO C hp.objs.size)).get? (hp.objs.size+1)=some (PySem.HandSPX.excO C hp.objs.size):=by heap_get
 refine Vl (BF.made hT hC (PySem.W.looks_findIn I1.kIn T.ini) (fun self=>PySem.W.bind_fn I1.kIn self T.tyI) (by show 1<=sizeLine; rw[sizeLine_eq]; omega)
  (Zpc (t0:=hp.objs.size) T BF I1.kIn (I1.ok.mod.glob.keeps I1.bk) (hb1.keeps I1.bk) hb2 (I1.ok.mod.nolimit.keeps I1.bk) kk hget hn hsz (hr.make C [u] []).depth fun h' tk' dx t1 k4 lt ne ex en=> ?_))
 refine⟨rfl, ?_⟩
 have hdx:H1 dx=none:=I1.hok.fresh lt
 have ha0:H1 (hp.objs.size+1)=none:=I1.hok.fresh hsz
 obtain⟨Gh,g1,g2⟩:=restrict h' fun b=>decide (b≠hp.objs.size+1)
 have gk:∀b,b≠hp.objs.size+1->Gh.get? b=h'.get? b:=fun b hb=>g1 b (X5 hb)
 have ge:Gh.get? (hp.objs.size+1)=none:=g2 _ (by simp)
 have J:Inv X pins σ (upd H1 dx (.xd [(f,v)])) ⟨Gh,g,dr,tk',os⟩:=I1.laid (t':=tk') (a:=dx) (o:= .xd [(f,v)]) (h':=Gh)
  (fun b o z=>(gk b (fun q=>by rw[q,hn] at z; cases z)).trans (k4 b o z)) lt ⟨_,en.at fun o y=>(gk dx ne).trans y,relO_put (fs:= []) ru fun _=>True.intro⟩
 refine⟨hp.objs.size+1,_,_,⟨Gh,g,dr,tk',os⟩,_,.ref C,some dx,rfl,J,fun b o z=> ?_,ge,ex,⟨rfl,rfl⟩,rfl,rfl, ?_,rfl,I1.bare,raises_own T.exC T.tyC,q1 dx hdx⟩
 ·by_cases hb:b=hp.objs.size+1
  ·rw[hb,ge] at z
   cases z
  ·exact(gk b hb).symm.trans z
 ·rw[upd_ne (XI ne)]
  exact ha0
end
end Pu
namespace Pu
open PySem PySem.W PySem.Calls PyProof.Rows L2
structure XTx (st:Stmt) (f:Str):Prop where
 ex:∃(ae:Expr) (xs xp:Str) (p0 p1 p2 p3 p4 p5 p6 p7 p8:Pos) (ar:Arg),defBody st=ZdK ae xs xp f p0 p1 p2 p3 p4 p5 p6 p7 p8∧ZmS xp ae∧(p2.endLine == p3.line)=true∧
  ((defArgs st).posonlyargs++(defArgs st).args).head?=some ar∧ar.arg=xs∧(∀(name qual:Str) (kV doc pm:Value) (an:Option Addr) (cdv ct:Value) (cc:Addr) (e u:Value),bindArgs (ksFn name qual (defArgs st) (defBody st) (defScope st) .none kV doc pm an cdv ct cc) ⟨[e,u],[]⟩=pure [(xs,e),(xp,u)])∧
  (defScope st).names.lookup ("super" :Str)=some .globalImplicit∧(defScope st).names.lookup ("__class__" :Str)=some .free∧(defScope st).names.lookup xs=some .local∧(defScope st).names.lookup xp=some .local∧xs≠xp∧(xs ==("__debug__" :Str))=false∧(xp ==("__debug__" :Str))=false∧
  (∀x∈(defScope st).names,x.2≠ .cell)∧(defScope st).isCoroutine=false∧(defScope st).isGenerator=false∧(defScope st).kind= .function
theorem ZaP{P:Program}{K:Frag}{B newId initId:String}{bmB:List Value}{C fI cda cc:Addr}{f:Str}{st:Stmt}{oc cl ccl kV doc pm ct:Value}{od an cdd cld:Option Addr}{name qual file:Str}{tf:Tok}{vs:Array Value}{osl ccs csl:Array (Option Value)}{cd:ClassData}(Tx:XTx st f)
  (lk:K.lookup fI=some ⟨oc,od,.func (ksFn name qual (defArgs st) (defBody st) (defScope st) .none kV doc pm an (.ref cda) ct cc),osl⟩)(hcd:codeIn K (.ref cda) qual=true)(hcode:K.lookup cda=some ⟨ccl,cdd,.fields vs,ccs⟩)(hvs:vs[2]?=some (.str file tf))(hfile:((P.main.file:Str) == file)=true)
  (hcell:K.lookup cc=some ⟨cl,cld,.cell (some (.ref C)),csl⟩)(sup:nsIn K mainGlobals "super" =some none)(opq:nsIn K cStatics "thirdparty.any" =some none)(htop:(P.main.scope.names.lookup ("super" :Str)).isSome=false)(hc:clsIn K C=some cd)(hcc:mroIn K C (.ref C)=some true)
  (si:ks_superIn K C C "__init__" =some (some (.builtin initId)))(cB:subIn K (.ref C) (.type B)=some true)(xi:excInitIn K C bmB newId=true)(ov:excOver K C bmB=true)(ini:findIn K (.ref C) "__init__" =some (some (.ref fI)))(tyI:typeIn K (.ref fI)=some (.type "function"))
  (sa:findIn K (.ref C) "__setattr__" =some (some (.builtin "object.__setattr__")))(tk:takerIn K C f=some none)(hd:hasDictIn K C=true)(kC:keepIn K (.ref C)=true)(exC:subIn K (.ref C) (.type "BaseException")=some true)(tyC:typeIn K (.ref C)=some (.type "type")):InitK P K B newId initId bmB C fI f:=by
 obtain⟨ae,xs,xp,p0,p1,p2,p3,p4,p5,p6,p7,p8,ar,hb,h1,h2,h3,h4,h5,h6⟩:=Tx.ex
 have lk':=lk
 have h5':=h5
 rw[hb] at lk' h5'
 exact⟨⟨oc,od,name,qual,defArgs st,ae,xs,xp,p0,p1,p2,p3,p4,p5,p6,p7,p8,defScope st,.none,kV,doc,pm,an,cda,ct,cc,osl,ccl,cdd,vs,ccs,file,tf,cl,cld,csl,ar,lk',h1,h2,hcd,hcode,hvs,hfile,hcell,h3,h4,h5' _ _ _ _ _ _ _ _ _,h6⟩,
  sup,opq,htop,⟨cd,hc⟩,hcc,si,cB,xi,ov,ini,tyI,sa,tk,hd,kC,exC,tyC⟩
end Pu
namespace Pu
open PySem L2 PySem.Spec PyProof.Rows Pw
section
variable {K:PySem.W.Frag}{T:Tx K}{M M1 Mn Mt:List Md}{X:Cx}{e:Expr}{fa:Env->R D}{pos:Pos}
theorem Yl{k:Nat}{B newId initId:String}{bmB:List Value}{c:String}{x f:Str}{C fI:Addr}{p1 p2:Pos}(hK:X.K=K)(TI:InitK X.prog K B newId initId bmB C fI f)(BF:BaseF B newId initId bmB)(hxa:T.xa c=some C)(hr:RoomG (k+1) X.A)(hcm:X.calm=true)(hg:Gl X x)(hm:X.mg x=some (.ref C))(tk:Takes X T.W)
  (he:PE X e (lE (T.ex M) fa))(wx:Wk M T.Mx)(hdb:(x ==("__debug__" :Str))=false:=by decide)(hs:starEach [e] X.env= [(false,eval e X.env)]:=by rfl):PS X (.Raise (some (.Call (.Name x p1) [e] [] p2)) none pos) (lS T M Mn (YM c f fa)):=by
 subst hK
 refine PS.of (ps_raise hcm tk (ZpX TI BF hr.toRoom hg hm (pa_cons he pa_nil hs) hdb hs)) fun E σ H ⟨B,O,Fs,ρ,w,run⟩=> ?_
 refine⟨B,O,Fs,ρ,w,run.bindE wx (fun d ρ1 v O1 Fs1 H1 _ ev w1 r1 run1=>⟨v,rfl,fun dx nd=> ?_⟩) (ZM M)⟩
 have sm:Same H1 (upd H1 dx (.xd [(f,v)])):=ZG nd
 obtain⟨O2,Fs2,w2,l⟩:=(w1.same sm).wk wx
 exact run1 (.ref C) (some dx) O2 Fs2 _ σ ((Ev.same sm).toS.less l) w2 ⟨C,hxa,rfl,dx,[(f,v)],rfl,fun z=>Al.no w1.al nd (l.o dx z),Xi,.cons ((r1.keep (Kept.same sm)).anti l.o) .nil⟩
end
end Pu
namespace Pu
open PySem PySem.W PySem.Calls PyProof.Rows L2
theorem QP:BaseF "ValueError" "ValueError.__new__" "ValueError.__init__" Zg1:= .of F.excBase_ValueError kxs_ValueError F.store_ValueError
structure ExC (K:Frag) (C:Addr):Prop where
 b:subIn K (.ref C) (.type "BaseException")=some true
 d:hasDictIn K C=true
 t:typeIn K (.ref C)=some (.type "type")
theorem ExC.exm{K:Frag}{C D:Addr}{b:Bool}(h:ExC K C)(s:subIn K (.ref D) (.ref C)=some b):exmOne K (.ref D) (.ref C)=some b:=exm_ref h.b h.d h.t s
end Pu
namespace Pw
open PySem L2 PySem.Spec PyProof.Rows
section
variable {P:Program}{w:World}{K:PySem.W.Frag}{mg mb:Str->Option Value}{CX:CXT}{k:Nat}{fa a:Addr}{fd:FuncData}{x:Str}{sp:Sp}{s:Shared}{vs:List Value}{ns:List Int}
def ZpY(s:Shared)(r:Result)(s':Shared):Prop:=r= .ok (.ret (.bool true))∧OldK s.heap s'.heap∧s'.os=s.os∧AllBare s'.gens
end
end Pw
namespace Pu
open PySem L2 PySem.Spec PyProof.Rows Pw
section
variable {K:PySem.W.Frag}{G:Gx K}{xa:String->Option Addr}{f:List D->RF}{vs:List V}{H:Hp}{Q:VK}{E:XK}
theorem Zdg{O:Addr->Prop}:∀ns:List Int,Reps G O H (ns.map V.int) (ns.map .int)
 |[]=> .nil
 |n::ns=> .cons (.int n) (Zdg ns)
end
theorem noCX{prog:World->Program}(w:World)(H:Hp)(s:Shared)(e:Value)(s':Shared)(h:L2.CX (prog w) w [] H s (fun _ _ _=>False) e s'):False:=by
 obtain⟨_,_,_,_,_,_,_,_,_,_,_,_,z⟩:=h
 exact z
end Pu
namespace Pu
open PySem L2 PySem.Spec PyProof.Rows Pw
section
variable {K:PySem.W.Frag}{S:Sx K}{X:Cx}{e:Expr}{es:List Expr}{fs:Env->R (List D)}{p pos:Pos}{pm ms:List Md}{i j:Nat}{m:Md}
theorem Za6{α:Type}:∀{l:List α}{n:Nat}{a:α},l[n]?=some a->l.set n a=l
 |[],_,_,h=>by simp at h
 |_::_,0,_,h=>by cases h; rfl
 |x::l,n+1,a,h=>by rw[List.set_cons_succ,Za6 (by simpa using h)]
theorem ZhZ(h:PE X e (tVar j))(hm:S.M[j]?=some m)(ht:m.is .tab):PE X e (lE S (sV j)):=by
 refine PE.of h fun σ H Q ⟨B,O,Fs,ρ,w,r⟩=> ?_
 obtain⟨v,d,F,h1,h2,h3,_,rp,_⟩:=w.own hm ht
 refine⟨v,h1, ?_⟩
 unfold sV at r
 rw[h2] at r
 exact r.use w rp
theorem Zlz(n:Nat)(F:List Addr)(hi:i < n):((List.replicate n ([]:List Addr)).set i F).flatten=F:=by
 induction n generalizing i with
 |zero=>cases hi
 |succ n ih =>
  cases i with
  |zero=>rw[List.replicate_succ,List.set_cons_zero,Xw,YO,Vd]
  |succ i=>rw[List.replicate_succ,List.set_cons_succ,Xw,ih (by omega),List.nil_append]
theorem ZlA{g:List D->RF}{B O:Addr->Prop}{Fs:List (List Addr)}{H:Hp}{σ:L2.St}{ρ:Env}{vs:List V}{ds:List D}{Q:VK}(w:Wd S.G B O Fs H σ ρ S.M)(hm:S.M[j]?=some m)(ht:m.is .tab)(hp:pm[i]?=some (.op .tab))
  (h:AReps S.G O Fs.flatten H (pm.set i .sh) vs ds)(run:Run S (vE S) ((g ds).toR ρ) B O Fs H σ ρ Q):SpF S.G S.xa pm g vs H Q (WE S.W σ):=by
 obtain⟨v0,d0,F,h1,h2,h3,eF,r0,tb⟩:=w.own hm ht
 have hi:i < pm.length:=(Xu.mp hp).1
 have l1:=h.len.1
 have l2:=h.len.2
 rw[Xl] at l1 l2
 have hF0:∀b∈F,b∈Fs.flatten:=fun b hb=>Zj (Xa h3) hb
 have fl:=Zlz pm.length F hi
 have wc:Wd S.G O O ((List.replicate pm.length []).set i F) H (vs.map some) (ds.map some) pm:=by
  refine⟨by rw[fl]; exact Y3 w.nd h3,fun a ha=>by rw[fl] at ha; exact w.sub a (hF0 a ha),fun _ h=>h,w.al,by rw[Xx]; exact l1,by rw[Xx]; exact l2,by simp,fun n m' v d f e1 e2 e3 e4=> ?_⟩
  by_cases en:n=i
  ·subst en
   rw[hp] at e1
   cases e1
   rw[Xj (by simpa using hi)] at e4
   cases e4
   obtain⟨_,v',d',q1,q2,r⟩:=h.slot (B:=B) (F':= []) (fun b hb=>by cases hb) (m:= .sh) (by rw[Xj hi]) e2 e3
   exact⟨v',d',q1,q2,eF,r,tb⟩
  ·rw[Xf (XI en)] at e4
   have:f= []:=(Vy.mp (Xa e4)).2
   subst this
   exact h.slot (by rw[fl]; exact hF0) (by rw[Xf (XI en)]; exact e1) e2 e3
 refine⟨O,_,ds,wc, ?_⟩
 have fin:∀{ds':List D}{O' Fs' H'},Ev pm O ((List.replicate pm.length []).set i F) H (ds.map some) O' Fs' H' (ds'.map some)->Wd S.G O O' Fs' H' (vs.map some) (ds'.map some) pm->Wd S.G B O' Fs H' σ ρ S.M∧Ev S.M O Fs H ρ O' Fs H' ρ:=fun {ds' O' Fs' H'} ev wd=>by
  obtain⟨v1,d1,F1,q1,q2,q3,sl⟩:=wd.get hp
  obtain⟨_,_,_,_,eF1,_,tb1⟩:=sl
  have e2:F1=F:=eF1.trans eF.symm
  subst e2
  have ow:Own S.G O' H' .tab v0 d0 F1:=⟨eF1,r0.keep (ev.kept wc.sub),tb1⟩
  have:=w.put hm ht h1 h3 (O':=O') (F':=F1) (H':=H') (d':=d0) ⟨fun b o hb n=>ev.chg b o hb (by rw[fl]; exact n),ev.dom,ev.mono,ev.grow,wd.al,fun b hb=> .inl hb,fun b hb=>wd.sub b (Zj (Xa q3) hb),Y3 wd.nd q3⟩ ow
  rw[Za6 h2,Za6 h3] at this
  exact this
 cases e:g ds with
 |ok d ds' =>
  rw[e] at run
  intro u O' Fs' H' ev wd r
  obtain⟨w',ev'⟩:=fin ev wd
  exact run u O' _ H' ev' w' r
 |ex x ds' =>
  rw[e] at run
  intro cls dd O' Fs' H' ev wd r
  obtain⟨w',ev'⟩:=fin ev wd
  exact run cls dd O' _ H' ev' w' r
 |bad =>
  rw[e] at run
  exact run.elim
theorem ZmW{k:Nat}{f:Addr}{fd:FuncData}{ps:List Str}{x:Str}{g:List D->RF}(F:FnOkG X.prog X.w X.K X.mg X.base (L2.CX X.prog X.w) k f fd ps (SpF S.G S.xa pm g))(hr:RoomG k X.A)(hg:Gl X x)(hm:X.mg x=some (.ref f))(hk:PySem.W.keepIn X.K (.ref f)=true)(hb:Binds X.K fd ps [])(tk:Takes X S.W)
  (hj:S.M[j]?=some m)(ht:m.is .tab)(hp:pm[i]?=some (.op .tab))(ha:PA X (e::es) (lAs S (pm.set i .sh) fs))(hdb:(x ==("__debug__" :Str))=false:=by decide)(he:starEach (e::es) X.env=(false,eval e X.env)::starEach es X.env:=by rfl)(hpl:(backTo pos (starEach es X.env)).any (·.1)=false:=by rfl) :
  PE X (.Call (.Name x p) (e::es) [] pos) (lE S (Zo g fs)):=by
 refine PE.of (ZgY (E:=WE S.W) F hr hg hm hk hb .nil (fun σ=>passAt tk σ) ha hdb he hpl) fun σ H Q ⟨B,O,Fs,ρ,w,run⟩=> ?_
 refine⟨B,O,Fs,ρ,w,run.bind fun ds ρ1 vs O1 Fs1 H1 _ ev1 w1 r1 run1=> ?_⟩
 rw[Vd]
 exact ZlA w1 hj ht hp r1 run1
end
end Pu
namespace Pu
open PySem L2 PySem.Spec PyProof.Rows Pw
def Zpd(H H1:Hp)(P c':Addr)(q:Str):Prop:=(H1=H∧∃(ps:Array Value) (n:Pos),H P=some (.tbl ps)∧codeAmong n ps.toList=some (.ref c'))∨∃ps ps':Array Value,H P=some (.tbl ps)∧H c'=none∧TriplesOk ps'.toList∧(∀(pos:Pos) (cv:Value),codeAmong pos ps'.toList=some cv->codeAmong pos ps.toList=some cv∨cv= .ref c')∧H1=upd (upd H P (.tbl ps')) c' (LamX.CodeO c' q)
abbrev Zh0(X:Cx):Str:=X.env.qual++"<lambda>"
section
variable {X:Cx}{pins:List (Addr × Obj)}{σ:L2.St}{H:Hp}{s:Shared}
theorem ZmX{c P:Addr}{ps:Array Value}{params:Arguments}{body:Expr}{scope:Scope}{at_:Pos}{E Q:Value->Shared->Prop}(I:Inv X pins σ H s)(TB:LamX.TabB X.base X.mg c P)(hcode:X.env.code= .ref c)
  (hP:H P=some (.tbl ps))(okT:TriplesOk ps.toList)(old:∀(n:Pos) (cv:Value),codeAmong n ps.toList=some cv->∃k,cv= .ref k∧H k=some (LamX.CodeO k (Zh0 X)))(noDf:defaultsOf params X.env=([],[]))
  (caught:∀y∈scope.names,y.2= .free->∃k,X.env.cells.lookup y.1=some k)
  (go:∀(f k:Addr) (pm ct:Value) (H1:Hp) (s1:Shared),Inv X pins σ H1 s1->Zpd H H1 P k (Zh0 X)->s1.heap.get? f=some (PySem.W.kla_obj "<lambda>" (Zh0 X) params body scope (cloFrom X.env.cells scope.names []) pm k ct)->H1 f=none->f∉frs X.stack->H1 k=some (LamX.CodeO k (Zh0 X))->Q (.ref f) s1) :
  wpAny (model X.prog X.w) X.A (eval (.Lambda params body scope at_) X.env) Q E s:=by
 have oP:s.heap.get? P=some { cls:= .none,data:= .fields ps }:=I.hok P _ hP
 have far:∀b,s.heap.objs.size<=b->b∉frs X.stack:=by
  intro b hb z
  rcases XB.mp (I.stkSub _ z) with y|y
  ·have l:=I.lt
   rw[<- y] at l
   exact absurd hb (Nat.not_le_of_lt l)
  ·exact I.nofs hb y
 refine PySem.W.kla_eval noDf ?_
 rcases hc:codeAmong at_ ps.toList with _|cv
 ·refine PySem.W.kla_makeFunction (mg:=X.mg) (c:=c) (P:=P) (ps:=ps) (closure_ok caught) I.ok.glob (I.mod.glob.keeps I.bk) hcode (TB.code.keeps I.bk) oP okT hc TB.gP (TB.bm.keeps I.bk) ?_
  intro k ct h1 tk ext lo hi rec tab
  obtain⟨k0,ok,vs,t,ek,o1,o2,o3⟩:=rec
  cases ek
  have nk:H k=none:=I.hok.fresh lo
  have big:s.heap.objs.size<=h1.objs.size:=XD lo (Nat.le_of_lt hi)
  refine go h1.objs.size k _ ct _ _ (LamX.inv_table (t':=tk) (more:=#[rawInt at_.line,rawInt at_.col,.ref k]) I hP (fun b o nb e=>Xe _ (ext b o nb e)) (Xe _ tab) lo ⟨ok,vs,t,Xe _ o1,o2,o3⟩) (.inr ⟨ps,_,hP,nk, ?_,fun n cv e=> ?_,rfl⟩) (XA _ rfl) ?_ (far _ big) Xi
  ·rw[Array.toList_append]
   exact PySem.TriplesOk_snoc _ _ _ _ okT
  ·rw[Array.toList_append] at e
   exact LamX.among_app _ okT e
  ·have d1:h1.objs.size≠k:=Nat.ne_of_gt hi
   have d2:h1.objs.size≠P:=Nat.ne_of_gt (Nat.lt_of_lt_of_le (XN oP) big)
   rw[upd_ne d1,upd_ne d2]
   exact I.hok.fresh big
 ·obtain⟨k,rfl,hk⟩:=old at_ cv hc
  refine PySem.W.kla_makeFunctionHit (mg:=X.mg) (c:=c) (P:=P) (ps:=ps) (closure_ok caught) I.ok.glob (I.mod.glob.keeps I.bk) hcode (TB.code.keeps I.bk) oP okT hc (TB.bm.keeps I.bk) ?_
  intro ct h1 tk ext big
  exact go h1.objs.size k _ ct H _ (I.kept fun b o e=>Xe _ (ext b o e)) (.inl ⟨rfl,ps,at_,hP,hc⟩) (XA _ rfl) (I.hok.fresh big) (far _ big) hk
end
def ZeU:Md->Md
 |.ow .tab=> .sh
 |.op .tab=> .sh
 |.ow _=> .hd
 |.op _=> .hd
 |.br=> .hd
 |.th _ _ _ _=> .hd
 |.mb=> .hd
 |m=>m
section
variable {K:PySem.W.Frag}{G:Gx K}{B O O':Addr->Prop}{Fs Fs':List (List Addr)}{H H':Hp}{σ:L2.St}{ρ ρ':Env}{M:List Md}
def shL:L2.St->Env->List Md->List (V × D)
 |some v::σ,some d::ρ,.sh::M=>(v,d)::shL σ ρ M
 |_::σ,_::ρ,_::M=>shL σ ρ M
 |_,_,_=> []
theorem ZjP:∀{σ:L2.St}{ρ:Env}{M:List Md}{i:Nat}{v:V}{d:D},M[i]?=some .sh->σ[i]?=some (some v)->ρ[i]?=some (some d)->(v,d)∈shL σ ρ M
 |[],_,_,_,_,_,_,e,_=>by simp at e
 |_::_,[],_,_,_,_,_,_,e=>by simp at e
 |_::_,_::_,[],_,_,_,e,_,_=>by simp at e
 |x::σ,y::ρ,m::M,0,v,d,e1,e2,e3=>by
  cases e1; cases e2; cases e3
  exact Xg ..
 |x::σ,y::ρ,m::M,i+1,v,d,e1,e2,e3=>by
  have ih:=ZjP (σ:=σ) (ρ:=ρ) (M:=M) (i:=i) (by simpa using e1) (by simpa using e2) (by simpa using e3)
  unfold shL
  split
  ·rename_i a b c
   cases a; cases b; cases c
   exact Xm _ ih
  ·rename_i a b c
   cases a; cases b; cases c
   exact ih
  ·rename_i n
   exact(n _ _ _ _ _ _ rfl rfl rfl).elim
theorem Wd.view(w:Wd G O O (Fs.map fun _=> []) H σ ρ (M.map ZeU))(al:∀a,O' a->∃o:NTO,H' a=some o.1)(h:∀p∈shL σ ρ (M.map ZeU),Rep G O' H' p.1 p.2):Wd G O' O' (Fs.map fun _=> []) H' σ ρ (M.map ZeU):=by
 refine⟨w.nd,fun a ha=>(by rw[Zgb] at ha; cases ha),fun _ h=>h,al,w.ls,w.lr,w.lf,fun i m v d f e1 e2 e3 e4=> ?_⟩
 have sl:=w.sl i m v d f e1 e2 e3 e4
 have em:=e1
 rw[XQ] at em
 obtain⟨m0,h0,rfl⟩:=Xh.mp em
 have ff:f= []:=by
  rw[XQ] at e4
  obtain⟨f0,hf,rfl⟩:=Xh.mp e4
  rfl
 have key:ZeU m0= .sh->SlOk G O' O' (Fs.map fun _=>([]:List Addr)).flatten H' (ZeU m0) v d f:=fun z=>by
  rw[z] at sl e1 ⊢
  obtain⟨_,v',d',q1,q2,_⟩:=sl
  subst q1 q2
  exact⟨ff,v',d',rfl,rfl,h _ (ZjP e1 e2 e3)⟩
 cases m0 with
 |sh=>exact key rfl
 |ow t=>cases t <;> first|exact key rfl|exact ff
 |op t=>cases t <;> first|exact key rfl|exact ff
 |_=>exact ff
end
end Pu
namespace Pu
open PySem L2 PySem.Spec PyProof.Rows Pw LamX
section
variable {K:PySem.W.Frag}
variable {X:Cx}{pins:List (Addr × Obj)}{σ:L2.St}{H:Hp}{s:Shared}
theorem ZnZ{G:Gx K}{B O:Addr->Prop}{Fs:List (List Addr)}{ρ:Env}{M:List Md}{H1:Hp}{P k:Addr}{q:Str}{j:Nat}{m:Md}(w:Wd G B O Fs H σ ρ M)(hm:M[j]?=some m)(ht:m.is .tab)(hP:(P,q)∈G.tb)(hu:∀p∈G.tb,p.1=P->p.2=q)(mk:Zpd H H1 P k q)
  (hk:H1 k=some (CodeO k q)):Wd G B O Fs H1 σ ρ M∧Ev M O Fs H ρ O Fs H1 ρ:=by
 rcases mk with⟨e,_⟩|⟨ps,ps',e1,e2,e3,e4,e5⟩
 ·subst e
  exact⟨w,Ev.refl⟩
 ·obtain⟨v,d,F,h1,h2,h3,eF,r,tb⟩:=w.own hm ht
  have PF:P∈F:=by rw[eF]; exact XW.mpr ⟨_,hP,rfl⟩
  have sub:∀b∈F,O b:=fun b hb=>w.sub b (Zj (Xa h3) hb)
  have nk:¬ O k:=Al.no w.al e2
  have st:∀b o,H b=some o->b≠P->H1 b=some o:=fun b o hb nb=>by
   rw[e5,upd_ne (Vm hb e2),upd_ne nb]
   exact hb
  have nP:P≠k:=Vm e1 e2
  have atP:H1 P=some (.tbl ps'):=by rw[e5,upd_ne nP,Xi]
  have kw:Kept O H O H1:=by
   refine⟨fun b u n _ h=> ?_,fun b x n h=>st b _ h fun z=>n (z ▸ sub P PF),fun b x n h=>st b _ h fun z=>n (z ▸ sub P PF),fun b o x n h=>st b _ h fun z=>n (z ▸ sub P PF),fun b C dx fs n h=>st b _ h fun z=>n (z ▸ sub P PF),fun _ h=> .inl h⟩
   have nb:b≠P:=fun z=>n (z ▸ sub P PF)
   rcases h with h|⟨o,h⟩
   ·exact .inl (st b _ h nb)
   ·exact .inr ⟨o,st b _ h nb⟩
  have dm:∀b o,H b=some o->∃o',H1 b=some o':=fun b o hb=>by
   by_cases nb:b=P
   ·exact⟨_,by rw[nb]; exact atP⟩
   ·exact⟨o,st b o hb nb⟩
  have ow:Own G O H1 .tab v d F:=by
   refine⟨eF,r.keep kw,fun p hp=> ?_⟩
   obtain⟨ps0,t1,t2,t3⟩:=tb p hp
   by_cases hb:p.1=P
   ·rw[hb] at t1 ⊢
    rw[e1] at t1
    cases t1
    refine⟨ps',atP,e3,fun n cv hc=> ?_⟩
    rcases e4 n cv hc with z|z
    ·obtain⟨c,y1,y2,y3⟩:=t3 n cv z
     exact⟨c,y1,y2,kw.ext _ _ y2 y3⟩
    ·exact⟨k,z,nk,by rw[hu p hp hb]; exact hk⟩
   ·refine⟨ps0,st _ _ t1 hb,t2,fun n cv hc=> ?_⟩
    obtain⟨c,y1,y2,y3⟩:=t3 n cv hc
    exact⟨c,y1,y2,kw.ext _ _ y2 y3⟩
  have al':Al O H1:=fun a ha=>by
   obtain⟨o,ho⟩:=w.al a ha
   by_cases nb:a=P
   ·exact⟨⟨.tbl ps',fun _ z=>nomatch z⟩,by rw[nb]; exact atP⟩
   ·exact⟨o,st a _ ho nb⟩
  have:=w.put hm ht h1 h3 (O':=O) (F':=F) (H':=H1) (d':=d) ⟨fun b o hb n=>st b o hb fun z=>n (z ▸ PF),dm,fun _ h=>h,fun _ h=> .inl h,al',fun b hb=> .inl hb,sub,Y3 w.nd h3⟩ ow
  rw[Za6 h2,Za6 h3] at this
  exact this
end
end Pu
namespace Pu
open PySem L2 PySem.Spec PyProof.Rows Pw LamX
theorem Zpe{P:Program}{w:World}{K:PySem.W.Frag}{G:Gx K}{xa:String->Option Addr}{mg:Str->Option Value}{base:Heap}{x qual:Str}{st:Stmt}{f:Addr}{fd:FuncData}{N ps:List Str}{k n:Nat}{pm:List Md}{g:Env->RS}(F:Fun K x qual st f fd)(S:FnScope N ps (defScope st))(hl:pm.length=ps.length)(hn:N.length=ps.length+n)(ok:Zcm pm=true)
  (hbody:∀(cdv:Value) (A:Around) (outer:List PySem.Env) (s:Shared) (H:Hp) (E:XK),fd.code=cdv->RoomG k (A.deeper (envOfC qual (defScope st) s.heap.objs.size f cdv))->
   PSs (cxOf (L2.CX P w) P w K mg base N qual (defScope st) f cdv A outer s H E) (defBody st) (lS (Zfn G xa E pm n) (pm++List.replicate n .na) (J6 pm n) g)):FnOkG P w K mg base (L2.CX P w) (k+1) f fd ps (SpF G xa pm (Zx pm n g)):=by
 obtain⟨_,_,_,_,_,_,cdv,_,_,rfl,lk,hcd⟩:=F.ex
 have len:∀vs H Q E,SpF G xa pm (Zx pm n g) vs H Q E->vs.length=ps.length:=fun vs H Q E ⟨O,Fs,ds,w,_⟩=>by
  have:=w.ls
  rw[Xx] at this
  omega
 refine ZgZ lk hcd S len fun A outer s H vs Q E hr h=>⟨_,hbody cdv A outer s H E rfl hr, ?_⟩
 have hv:=len vs H Q E h
 have es:L2.start N vs=vs.map some++List.replicate n none:=by
  unfold L2.start
  rw[hn,hv,Nat.add_sub_cancel_left]
 rw[es]
 exact Zfo ok h
theorem Zn0{T:List (Addr × Str)}{P:Addr}{q:Str}:(T.map (·.1)).Nodup->(P,q)∈T->∀p∈T,p.1=P->p.2=q:=by
 induction T with
 |nil=>intro _ h; cases h
 |cons a T ih =>
  intro nd h p hp e
  rw[Xv,X6] at nd
  rcases XB.mp h with h|h <;> rcases XB.mp hp with z|z
  ·rw[z,<- h]
  ·exact(nd.1 (XW.mpr ⟨p,z,by rw[e,<- h]⟩)).elim
  ·exact(nd.1 (XW.mpr ⟨_,h,by rw[<- e,z]⟩)).elim
  ·exact ih nd.2 h p z e
end Pu
namespace Pu
open PySem L2 PySem.Spec PyProof.Rows Pw
section
variable {X:Cx}{ke ve:Expr}{tk tv:TE}{pos:Pos}
def ZqE(tk tv:TE):TE:=fun σ H Q=>∀p,H p=none->tk σ (upd H p (.dT [])) fun x H1=>tv σ H1 fun y H2=>H2 p=some (.dT [])∧∃b ks,x= .ref b∧H2 b=some (.tup (ks.map L2.kV))∧Q (.ref p) (upd H2 p (.dT (putK [] ks y)))
theorem Zpf(hu:X.A.units+1 < cLine)(hk:PE X ke tk)(hv:PE X ve tv):PE X (.Dict [some ke] [ve] pos) (ZqE tk tv):=by
 constructor
 intro pins s σ H Q I want
 have fresh:=I.hok.fresh (XS s.heap.objs.size)
 have I1:=I.laid (a:=s.heap.objs.size) (o:= .dT []) (h':=s.heap.push { cls:= .type "dict",data:= .dict #[] }) (t':=s.toks) (fun _ _ e=>Xe _ e) (XS _) (dt_empty s.heap I.big)
 rw[arm_eval_Dict,zip_pairTrees [some ke] [ve] X.env pos rfl rfl,dictDisplay_pairs (pairTrees [some ke] [ve] X.env pos) (fun z=>by have:=VC List.length z; rw[VD [some ke] [ve] X.env pos rfl rfl] at this; cases this) (by rw[VD [some ke] [ve] X.env pos rfl rfl]; exact(by decide:1 < 17))]
 refine Xd (X4 (Xd ?_))
 unfold subDict
 refine Xd (wpAny_alloc (Xd (XT ?_)))
 rw[if_pos (by rw[VD [some ke] [ve] X.env pos rfl rfl]; exact(by decide:1<=15))]
 refine Xd (pairTrees_cons_walk (thn (hk.run pins _ σ _ _ I1 (want _ fresh)) fun u s1 ⟨x,H1,I2,rx,q1⟩=>thn (hv.run pins s1 σ H1 _ I2 q1) fun r s2 ⟨y,H2,I3,ry,e,b,ks,ex,eb,q⟩=>pairTrees_nil_walk ?_))
 subst ex
 obtain rfl:u=Value.ref b:=rx
 refine XT ?_
 obtain⟨z,hd,xs,rel,dd⟩:=dt_of I3.hok e
 cases rel
 rw[VW]
 have room:(tupleKind (mixKind X.prog X.w)).room X.A:=by
  show X.A.units < cLine
  omega
 refine Xd (Xd ?_)
 show wpAny _ _ (dictSet s.heap.objs.size (.ref b) r >>= fun _=>pure (ForInStep.yield PUnit.unit)) _ _ s2
 refine Xd (wpAny_dictSet_heap (k:=ks) room (key_of I3.hok eb) dd (fun h' dd' hs=> ?_) (Vu _))
 refine Xk ?_
 show wpAny (model X.prog X.w) X.A (pure PUnit.unit) _ _ _
 obtain⟨qo,es,ep,hq,h2,h3,h4,_,h5⟩:=dd'
 refine Xk (Xk (Xk (Xk ⟨.ref s.heap.objs.size,upd H2 s.heap.objs.size (.dT (putK [] ks y)),d_write (ob:= .dT (putK [] ks y)) I3 (by rw[e]; exact True.intro) hs ⟨qo,hq⟩ ⟨?_,hd,_,(KT.put .nil ks eb ry).keeps fun c ys ec=> ?_,qo,es,ep,hq,h2,h3,h4,h5⟩,rfl,q⟩)))
 ·exact XD (length_putK [] ks y) (by rw[sizeLine_eq]; decide)
 ·rw[upd_ne (ne_of ec e (fun z=>nomatch z))]
  exact ec
end
section
variable {K:PySem.W.Frag}{S:Sx K}{X:Cx}{e1 e2:Expr}{f1 f2:Env->R D}{pos:Pos}
def Zh1(x y:D):Option D:=match x with
 |.tup ds=>(D.keys ds).map fun _=> .dtt [(.tup ds,y)]
 |_=>none
def Zh2(f1 f2:Env->R D):Env->R D:=fun ρ=>(f1 ρ).bind fun x ρ1=>(f2 ρ1).bind fun y ρ2=>R.of (Zh1 x y) ρ2
theorem Znv(hu:X.A.units+1 < cLine)(h1:PE X e1 (lE S f1))(h2:PE X e2 (lE S f2)):PE X (.Dict [some e1] [e2] pos) (lF S (.dct .sh) (Zh2 f1 f2)):=by
 refine PE.of (Zpf hu h1 h2) fun σ H Q ⟨B,O,Fs,ρ,w,run⟩ p hp=> ?_
 obtain⟨wp,evp,np,kp⟩:=w.own1 (o:= .dT []) hp
 have pF:p∉Fs.flatten:=np.dj p (Xb.mpr rfl)
 have run:RunF S (.dct .sh) (Zh2 f1 f2 ρ) B O Fs H σ ρ Q:=run
 unfold Zh2 at run
 refine⟨B,_,Fs,ρ,wp, ?_⟩
 cases ea:f1 ρ with
 |bad=>rw[ea] at run; exact run.elim
 |ex x ρ1 =>
  rw[ea] at run
  intro cls dd O' Fs' H' ev wd xr
  exact run cls dd O' Fs' H' (evp.trans ev) wd xr
 |ok x ρ1 =>
  rw[ea] at run
  intro v O1 Fs1 H1 ev1 w1 r1
  have evA:=evp.trans ev1
  have run:RunF S (.dct .sh) ((f2 ρ1).bind fun y ρ2=>R.of (Zh1 x y) ρ2) B O Fs H σ ρ Q:=run
  refine⟨B,O1,Fs1,ρ1,w1, ?_⟩
  cases eb:f2 ρ1 with
  |bad=>rw[eb] at run; exact run.elim
  |ex y ρ2 =>
   rw[eb] at run
   intro cls dd O' Fs' H' ev wd xr
   exact run cls dd O' Fs' H' (evA.trans ev) wd xr
  |ok y ρ2 =>
   rw[eb] at run
   intro v3 O3 Fs3 H3 ev3 w3 r3
   have evB:=evA.trans ev3
   have r1':=r1.ev w1 ev3
   have pn1:p∉Fs1.flatten:=fun z=>by
    rcases ev1.fgrow p z with z|z
    ·exact pF z
    ·rw[Xi] at z; cases z
   have hp1:H1 p=some (.dT []):=ev1.chg p _ Xi pF
   have hp3:H3 p=some (.dT []):=ev3.chg p _ hp1 pn1
   have pn3:p∉Fs3.flatten:=fun z=>by
    rcases ev3.fgrow p z with z|z
    ·exact pn1 z
    ·rw[hp1] at z; cases z
   have op3:O3 p:=ev3.mono p (ev1.mono p (.inr rfl))
   have run:RunF S (.dct .sh) (R.of (Zh1 x y) ρ2) B O Fs H σ ρ Q:=run
   cases x with
   |tup ds =>
    cases ek:D.keys ds with
    |none =>
     have e:Zh1 (.tup ds) y=none:=by
      show Option.map _ (D.keys ds)=_
      rw[ek]
      rfl
     rw[e] at run
     exact run.elim
    |some ks =>
     have e:Zh1 (.tup ds) y=some (.dtt [(.tup ds,y)]):=by
      show Option.map _ (D.keys ds)=_
      rw[ek]
      rfl
     rw[e] at run
     have run:RunF S (.dct .sh) (R.ok (.dtt [(.tup ds,y)]) ρ2) B O Fs H σ ρ Q:=run
     obtain⟨b,vs,rfl,rb,nb,tb⟩:∃b vs,v=V.ref b∧H3 b=some (.tup vs)∧¬ O3 b∧Reps S.G O3 H3 vs ds:=by
      cases r1' with
      |tup r n t=>exact⟨_,_,rfl,r,n,t⟩
     have ev:vs=ks.map L2.kV:=Zfh tb ek
     subst ev
     refine⟨hp3,b,ks,rfl,rb, ?_⟩
     obtain⟨w4,ev4,k4⟩:=Zaa (u:= .dT (putK [] ks v3)) hp w w3 evB op3 pn3 (fun _ z=>nomatch z)
     exact run (.ref p) O3 Fs3 _ [p] ev4 w4 (Zj5 Xi (.cons ek (r3.keep k4) .nil)) ⟨by simp,fun c hc=>by rw[Xb.mp hc]; exact op3,fun c hc=>by rw[Xb.mp hc]; exact pn3,fun c hc=>by rw[Xb.mp hc]; exact hp⟩
   |_=>exact run.elim
end
end Pu
namespace Pu
open PySem L2 PySem.Spec PyProof.Rows Pw
def Zpg(d:Addr)(o:Obj)(kvs:List (List Key × V)):It :=
 ⟨fun i H=>H d=some (.frz o (.dT kvs))∧i < kvs.length,fun i H x H'=>H'=H∧∃k,kvs[i]?=some (k,x),fun i H=>H d=some (.frz o (.dT kvs))∧kvs.length<=i⟩
theorem Zks{P:Program}{w:World}{K:PySem.W.Frag}{d:Addr}{o:Obj}{es:Array DictEntry}{ep:Nat}{kvs:List (List Key × V)}{tg:Expr}(it:Addr)(hod:o.data= .dict es ep) :
  Turn P w K tg (Zpg d o kvs) [it] it (fun i h=>h.get? it=some (DVw.valOb d i kvs.length ep)) where
 mem:=by simp
 obj:=fun i h st b hb=>by
  obtain rfl:b=it:=by simpa using hb
  exact⟨_,st,fun v z=>nomatch z⟩
 keep:=fun i h h' st k=>k it (by simp) _ st
 item:=by
  intro X hP hw hK hc i pins s σ H E I hf st ⟨hd,hi⟩
  subst hP hw hK
  obtain⟨f0,f1,f2,f3,f4,f5⟩:=hf it (by simp)
  obtain⟨hs,hgd,hx,es',ep',hdt,hsz,ent⟩:=ZgT I hd
  obtain⟨rfl,rfl⟩:=dict_ep hod hdt
  obtain⟨⟨k,v⟩,hkv⟩:∃p,kvs[i]?=some p:=⟨kvs[i],Xo hi⟩
  obtain⟨en,q,hen,_,_,ru⟩:=ent i k v hkv
  refine DVw.val_item st hgd hdt hsz hen fun h' st' sb=> ?_
  have I1:Inv X pins σ H { s with heap:=h' }:=I.turned (t':=s.toks) (fun b ob hb e=>(sb.2 b hb).trans e) f0 f1 f3 f4 f5
  exact⟨en.val,rfl,go_of (s:= { s with heap:=h' }) st' rfl rfl (by decide) ⟨v,H,I1,ru,⟨rfl,k,hkv⟩,st',fun b hb=>(hf b hb).1⟩⟩
 done:=by
  intro X hP hw hK hc i pins s σ H E I hf st ⟨hd,hi⟩
  subst hP hw hK
  obtain⟨f0,f1,f2,f3,f4,f5⟩:=hf it (by simp)
  obtain⟨hs,hgd,hx,es',ep',hdt,hsz,ent⟩:=ZgT I hd
  obtain⟨rfl,rfl⟩:=dict_ep hod hdt
  exact DVw.val_end (I.ok.hd hc) st hgd hdt hsz (Array.getElem?_eq_none (by rw[hsz]; exact hi)) fun h' eb=>⟨rfl,I.turned (t':=s.toks) (fun b ob hb e=>eb b ob hb e) f0 f1 f3 f4 f5⟩
 self:=fun A i s Q E st h=>wpAny_pyIter_valiter (d:=d) (i:=i) (n:=kvs.length) (ep:=ep) ⟨_,st,rfl,rfl⟩ h
section
variable {prog:Program}{w:World}{A:Around}{E:Value->Shared->Prop}{s:Shared}
open PySem.W PySem.Calls PyProof.V
theorem Zkt{d:Addr}{es:Array DictEntry}{ep:Nat}(hd:(d == sysModules)=false) :
  MeetsIn prog w (Builtin.«dict.values» ⟨[.ref d],[]⟩) (fun _ R s=>DT.Raw s.heap d es ep∧R (.ok (.ret (.ref s.heap.objs.size))) { s with heap:=s.heap.push (DSub.viewOb "dict_values" d) }):=by
 refine .of_wp fun A R s ⟨hm,h⟩=> ?_
 show wpAny _ _ (Builtin.Dict.noArgs "values" ⟨[.ref d],[]⟩ >>= _) _ _ s
 unfold Builtin.Dict.noArgs
 refine Xd (Xd (wpAny_notOrdered_dict hm.typeIs (Xk ?_)))
 show wpAny _ _ (Builtin.Dict.showsAll d >>= _) _ _ s
 unfold Builtin.Dict.showsAll
 rw[if_neg (show ¬ (d == sysModules)=true by rw[hd]; exact VX)]
 exact Xd (Xk (Xd (wpAny_newObj_type (Xk ⟨_,rfl,h⟩))))
theorem Zgc{d:Addr}{es:Array DictEntry}{ep:Nat}{Q:Value->Shared->Prop}(hd:(d == sysModules)=false)(hm:DT.Raw s.heap d es ep)(go:Q (.ref s.heap.objs.size) { s with heap:=s.heap.push (DSub.viewOb "dict_values" d) }) :
  wpAny (model prog w) A (call (.builtin "dict.values") [.ref d]) Q E s :=
 call_meetsIn F.slot_dict_values hm.typeIs F.entry_dict_values (F.args_dict_values_1 _) (Zkt (es:=es) (ep:=ep) hd) ⟨hm,go⟩
end
def ZlB(td:TE):TI:=fun σ H R=>td σ H fun x H1=>∃d o,x= .ref d∧((∃kvs,H1 d=some (.frz o (.dK kvs))∧R (Itd d o kvs) H1)∨∃kvs,H1 d=some (.frz o (.dT kvs))∧R (Zpg d o kvs) H1)
theorem ZmY{X:Cx}{tg e:Expr}{td:TE}{apos cpos:Pos}(he:PE X e td)(hbase:attributeBase e "values" X.env (eval e X.env)=eval e X.env:=by rfl)(hline:(apos.endLine == cpos.line)=true:=by rfl) :
  PI X tg (.Call (.Attribute e "values" apos) [] [] cpos) (ZlB td):=by
 constructor
 intro pins s σ H R I h
 refine wpAny_Call_method (T:="dict") (id:="dict.values") hbase rfl hline F.plainAttrs_dict F.slot_dict_values F.type_dict_values (thn (he.run pins s σ H _ I h) fun u s1 ⟨x,H1,I1,rx,d,o,ex,q⟩=> ?_)
 subst ex
 obtain rfl:u=Value.ref d:=rx
 have I2:Inv X pins σ H1 { s1 with heap:=s1.heap.push (DSub.viewOb "dict_values" d) }:=I1.kept (t':=s1.toks) fun b ob q=>Xe _ q
 have view:(s1.heap.push (DSub.viewOb "dict_values" d)).get? s1.heap.objs.size=some (DSub.viewOb "dict_values" d):=XA _ rfl
 rcases q with⟨kvs,hd,q⟩|⟨kvs,hd,q⟩
 ·obtain⟨hs,hgd,hx,es,ep,vs,hdt,hsz,kv,hm⟩:=I1.frzK hd
  refine⟨⟨o,hgd,hx.1⟩,fun a z=>⟨o,by cases z; exact hgd,hx.2.1⟩, ?_⟩
  show wpAny _ _ (callWith cpos (.builtin "dict.values") [.ref d] [] []) _ X.xe s1
  refine callWith_method0 (env:=X.env) (first:= [.ref d]) (Zgc (es:=es) (ep:=ep) hs ⟨o,hgd,hx,hdt⟩ (DSub.iter_vals view (Xe _ hgd) hdt (pi_one (tk:=s1.toks) I2 _ (turn_vals _ hdt) ⟨_,XA _ rfl,rfl, ?_⟩ q)))
  rw[hsz]
  rfl
 ·obtain⟨hs,hgd,hx,es,ep,hdt,hsz,ent⟩:=I1.frzT hd
  refine⟨⟨o,hgd,hx.1⟩,fun a z=>⟨o,by cases z; exact hgd,hx.2.1⟩, ?_⟩
  show wpAny _ _ (callWith cpos (.builtin "dict.values") [.ref d] [] []) _ X.xe s1
  refine callWith_method0 (env:=X.env) (first:= [.ref d]) (Zgc (es:=es) (ep:=ep) hs ⟨o,hgd,hx,hdt⟩ (DSub.iter_vals view (Xe _ hgd) hdt (pi_one (tk:=s1.toks) I2 _ (Zks _ hdt) ?_ q)))
  rw[<- hsz]
  exact XA _ rfl
def ZgV:D->Option (List D)
 |.dct kvs=>some (kvs.map fun p=>p.2)
 |.dtt kvs=>some (kvs.map fun p=>p.2)
 |_=>none
section
variable {K:PySem.W.Frag}{S:Sx K}{X:Cx}{i:Nat}
theorem RepK.at3{G:Gx K}{O:Addr->Prop}{H:Hp}:∀{ks:List (Key × V)}{kvs:List (D × D)}{n:Nat}{d:D},RepK G O H ks kvs->(kvs.map fun p=>p.2)[n]?=some d->∃k v,ks[n]?=some (k,v)∧Rep G O H v d
 |_,_,_,_,.nil,e=>by simp at e
 |_,_,0,_,.cons h r _,e=>by cases e; exact⟨_,_,rfl,r⟩
 |_,_,n+1,_,.cons _ _ t,e=>by
  obtain⟨k,v,h1,h2⟩:=RepK.at3 (n:=n) t (by simpa using e)
  exact⟨k,v,by simpa using h1,h2⟩
theorem RepT.at3{G:Gx K}{O:Addr->Prop}{H:Hp}:∀{ks:List (List Key × V)}{kvs:List (D × D)}{n:Nat}{d:D},RepT G O H ks kvs->(kvs.map fun p=>p.2)[n]?=some d->∃k v,ks[n]?=some (k,v)∧Rep G O H v d
 |_,_,_,_,.nil,e=>by simp at e
 |_,_,0,_,.cons h r _,e=>by cases e; exact⟨_,_,rfl,r⟩
 |_,_,n+1,_,.cons _ _ t,e=>by
  obtain⟨k,v,h1,h2⟩:=RepT.at3 (n:=n) t (by simpa using e)
  exact⟨k,v,by simpa using h1,h2⟩
theorem Zn1{σ:L2.St}{H:Hp}{Z:It->Hp->Prop}(hm:S.M[i]?=some .sh)(lk:Zct i σ H)(h:lI S (sIt ZgV (sV i)) σ H Z):ZlB (tVar i) σ H Z:=by
 obtain⟨B,O,Fs,ρ,w,run⟩:=h
 obtain⟨v,d,F,h1,h2,h3,_,v',d',q1,q2,r⟩:=w.get hm
 subst q1 q2
 have run:Run S (vI S) ((sV i ρ).bind fun x ρ1=>R.of (ZgV x) ρ1) B O Fs H σ ρ Z:=run
 unfold sV at run
 rw[h2] at run
 have st:∀{a:Addr}{u:HO},¬ O a->H a=some u->∀O2 H2,Kp0 O Fs.flatten H O2 H2->H2 a=some u:=fun n h O2 H2 k=>k.chg _ _ h fun z=>n (w.sub _ z)
 have kp:∀{O2 H2},Kp0 O Fs.flatten H O2 H2->Kept O H O2 H2:=fun k=>⟨fun b u n _ h=>by
  rcases h with h|⟨o,h⟩
  ·exact .inl (k.chg b _ h fun z=>n (w.sub _ z))
  ·exact .inr ⟨o,k.chg b _ h fun z=>n (w.sub _ z)⟩,fun b P n h=>k.chg b _ h fun z=>n (w.sub _ z),fun b vs n h=>k.chg b _ h fun z=>n (w.sub _ z),fun b o vs n h=>k.chg b _ h fun z=>n (w.sub _ z),fun b C dx fs n h=>k.chg b _ h fun z=>n (w.sub _ z),k.grow⟩
 cases d' with
 |dct kvs =>
  cases r with
  |dk r n t =>
   obtain⟨o,ho⟩:=lk _ _ h1 (.inl ⟨_,rfl⟩) r
   refine⟨_,h1,_,o,rfl,.inl ⟨_,ho,Run.use (VR:=vI S) run w (ItOk.mk (fun j O2 H2 k hj=>⟨st n ho O2 H2 k, ?_⟩) (fun j O2 H2 x H3 d k al hy hd=> ?_) (fun j O2 H2 k hj=>⟨st n ho O2 H2 k, ?_⟩))⟩⟩
   ·rw[t.length]; simpa using hj
   ·obtain⟨rfl,k',e1⟩:=hy
    obtain⟨k1,v1,e3,e5⟩:=RepK.at3 t hd
    rw[e3] at e1
    cases e1
    exact⟨Xt _,e5.keep (kp k)⟩
   ·rw[t.length]; simpa using hj
 |dtt kvs =>
  cases r with
  |dt r n t =>
   obtain⟨o,ho⟩:=lk _ _ h1 (.inr ⟨_,rfl⟩) r
   refine⟨_,h1,_,o,rfl,.inr ⟨_,ho,Run.use (VR:=vI S) run w (ItOk.mk (fun j O2 H2 k hj=>⟨st n ho O2 H2 k, ?_⟩) (fun j O2 H2 x H3 d k al hy hd=> ?_) (fun j O2 H2 k hj=>⟨st n ho O2 H2 k, ?_⟩))⟩⟩
   ·rw[t.length]; simpa using hj
   ·obtain⟨rfl,k',e1⟩:=hy
    obtain⟨k1,v1,e3,e5⟩:=RepT.at3 t hd
    rw[e3] at e1
    cases e1
    exact⟨Xt _,e5.keep (kp k)⟩
   ·rw[t.length]; simpa using hj
 |_=>exact run.elim
end
section
variable {K:PySem.W.Frag}{S:Sx K}{Mt:List Md}{X:Cx}{elt e tgt:Expr}{apos cpos:Pos}{ifs:List Expr}{scope:Scope}{own:List (Str × Nat)}{pos:Pos}{tgf:D->Env->Option Env}{tt:Env->R Bool}{te:Env->R D}{us:List Nat}{i:Nat}
theorem ZpZ(hm:S.M[i]?=some .sh)(hc:X.calm=true)(hN:X.N.Nodup)(hv0:PE X e (tVar i))(ok:BlkOk X.N X.env.scope scope own)(hv:Yi S.M (own.map (·.2))=true)(hu:∀t∈us,t∈own.map (·.2))(wk:Nk Mt S.M)
  (hg:∀(s:Shared) (H:Hp) (C:Addr) (cl:List (Str × Addr)) (fp:List Addr),PG (X.blk s H scope (compEnvC scope cl C X.env) fp) tgt (lG S.tx S.M Mt us tgf))(ht:∀(s:Shared) (H:Hp) (C:Addr) (cl:List (Str × Addr)) (fp:List Addr),PTs (X.blk s H scope (compEnvC scope cl C X.env) fp) ifs (lT (S.inn Mt) tt))
  (he:∀(s:Shared) (H:Hp) (C:Addr) (cl:List (Str × Addr)) (fp:List Addr),PE (X.blk s H scope (compEnvC scope cl C X.env) fp) elt (lE (S.inn Mt) te))(hbase:attributeBase e "values" X.env (eval e X.env)=eval e X.env:=by rfl)(hline:(apos.endLine == cpos.line)=true:=by rfl)(hs:∀x,foldedSetIterable (.Call (.Attribute e "values" apos) [] [] cpos) X.env x=pure x:=by intro _; rfl) :
  PE X (.ListComp elt [⟨tgt,.Call (.Attribute e "values" apos) [] [] cpos,ifs,0⟩] scope pos) (lF S (.lst .sh) (sLk i (sLc (sIt ZgV (sV i)) tgf tt te (own.map (·.2))))) :=
 ZoL hm (ZpH (C:=Zct i) hc hN (ZmY hv0 hbase hline) (fun σ H R lk h=>Zn1 hm lk h) ok hv hu wk hg ht he hs)
end
end Pu
namespace PySem
namespace HandSPX
open PySem PySem.W PySem.Calls PyProof.Rows PySem.Spec
section
variable {prog:Program}{w:World}{M:Model}{A:Around}{E:Value->Shared->Prop}{R:Result->Shared->Prop}{h:Heap}{g:Array GenState}{d:Drawn}{t:Nat}{os:OsState}
variable {nm q:Str}{C N:Addr}{bs bm bmL:List Value}{hdct:Bool}{sn:List Str}{sub:List Value}{ab:Bool}{col:Option Bool}{dd:Option Addr}{k0 k1 k2 k3 k5:Option Value}{BL newId iL:String}
structure Has (BL:String) (bm:List Value):Prop where
 b:bm.contains (.type BL)=true
 a:bm.contains (.type "AttributeError")=false
 n:bm.contains (.type "NameError")=false
theorem Has.in_{bm:List Value}(T:Has BL bm)(C:Addr):(Value.ref C::bm).contains (.type BL)=true∧(Value.ref C::bm).contains (.type "AttributeError")=false∧(Value.ref C::bm).contains (.type "NameError")=false :=
 ⟨by rw[List.contains_cons,T.b,Bool.or_true],by rw[List.contains_cons,T.a]; rfl,by rw[List.contains_cons,T.n]; rfl⟩
theorem Zn2(F:ExcBaseFacts BL newId iL bmL)(T:Has BL bm){args:List Value}{Q:Unit->Shared->Prop}(hC:h.get? C=some (excClassObj nm q C N bs bm hdct sn sub ab col dd k0 k1 k2 k3 k5 newId))(z:Q () ⟨h,g,d,t,os⟩):wpAny M A (checkBuiltinCall newId ⟨.ref C::args,[]⟩) Q E ⟨h,g,d,t,os⟩:=by
 obtain⟨isB,_,_⟩:=T.in_ C
 have star:=F.noStar
 simp only[checkBuiltinCall,F.newKind,F.newSplit,F.newRow]
 repeat (first|(refine wpAny_isSubtype_exc hC ?_; rw[isB])|refine Vr hC ?_|refine wpAny_staticBase_exc hC ?_|refine wpAny_madeBy_exc hC ?_|simp only[bne_self_eq_false,Bool.false_eq_true,if_false]|wp_step)
 exact z
theorem Zp0(F:ExcBaseFacts BL newId iL bmL)(T:Has BL bm){args:List Value}(hC:h.get? C=some (excClassObj nm q C N bs bm hdct sn sub ab col dd k0 k1 k2 k3 k5 newId))(few:args.length<=sizeLine)
  (z:R (.ok (.ret (.ref (h.objs.size+1)))) ⟨(h.push (kdv_tup args)).push (excO C h.objs.size),g,d,t,os⟩):codeAny (model prog w) A (.builtin newId ⟨.ref C::args,[]⟩) R ⟨h,g,d,t,os⟩:=by
 obtain⟨isB,isA,isN⟩:=T.in_ C
 have tail:=F.ends
 refine codeAny_builtinAt F.entry ?_
 unfold Builtin.«BaseException.__new__»
 refine wpAt_bind ?_
 show wpAt _ _ _ (stack >>= _) _ _ _
 refine wpAt_bind (wpAt_stack fun p below=>wpAt_of_wpAny ?_)
 wp_walk
 refine wpAt_of_wpAny ?_
 rw[F.owner]
 repeat (first|(with_reducible refine wpAny_isSubtype_exc hC ?_; first|rw[isB]|rw[isA]|rw[isN])|with_reducible refine wpAny_madeHere_exc F.canon hC ?_|with_reducible refine Vr hC ?_|wp_step)
 show R _ _
 rw[Heap.size_push]
 exact z
theorem Zph(F:ExcBaseFacts BL newId iL bmL)(T:Has BL bm){args:List Value}{f:Addr}{Q:Fin->Shared->Prop}(hC:h.get? C=some (excClassObj nm q C N bs bm hdct sn sub ab col dd k0 k1 k2 k3 k5 newId))(few:args.length<=sizeLine)
  (hi:W.Looks (model prog w) h (typeLookup (.ref C) "__init__") (some (.ref f)))(hb:∀self,W.Looks (model prog w) h (bindSpecial (.ref f) self) (.ref f,[self]))
  (z:codeAny (model prog w) A (.call (.ref f) ⟨.ref (h.objs.size+1)::args,[]⟩) (fun r s'=>match r with|.ok (.ret v)=>v= .none∧Q (.done (.ret (.ref (h.objs.size+1)))) s'|.ok _=>False|.error e=>E e s') ⟨(h.push (kdv_tup args)).push (excO C h.objs.size),g,d,t,os⟩) :
  wpAny (model prog w) A (Builtin.«type.__call__» ⟨.ref C::args,[]⟩) Q E ⟨h,g,d,t,os⟩:=by
 repeat (first|with_reducible refine wpAny_madeBy_exc hC ?_|with_reducible refine Vr hC ?_|wp_step)
 refine codeAny_call_builtin_code (Code.quiet_builtin _ F.quiet) (Zn2 F T hC (Zp0 F T hC few ?_))
 show wpAny _ _ _ _ _ _
 have grown:∀b o,h.get? b=some o->((h.push (kdv_tup args)).push (excO C h.objs.size)).get? b=some o:=fun b o e=>Xe _ (Xe _ e)
 have cl:=grown _ _ hC
 have new:((h.push (kdv_tup args)).push (excO C h.objs.size)).get? (h.objs.size+1)=some (excO C h.objs.size):=by heap_get
 have own:(Value.ref C::bm).contains (.ref C)=true:=by simp
 have look:=hi.keeps grown
 have bound:=(hb (.ref (h.objs.size+1))).keeps grown
 unfold isInstance
 repeat (first|(with_reducible refine wpAny_isSubtype_exc cl ?_; rw[own])|with_reducible refine Vr new ?_|wp_step)
 show wpAny _ _ (typeLookup (.ref C) _) _ _ _
 refine look.at (XT (Xd (bound.at (Xd (Vl (Vi z fun r s' y=> ?_))))))
 rcases r with e|(v|_|_|_) <;> first|exact y|exact y.elim|skip
 obtain⟨rfl,y⟩:=y
 first
  |exact Xk (Xk y)
  |(wp_walk; exact y)
theorem n_call(F:ExcBaseFacts BL newId iL bmL)(T:Has BL bm){args:List Value}{f:Addr}(hC:h.get? C=some (excClassObj nm q C N bs bm hdct sn sub ab col dd k0 k1 k2 k3 k5 newId))
  (hi:W.Looks (model prog w) h (typeLookup (.ref C) "__init__") (some (.ref f)))(hb:∀self,W.Looks (model prog w) h (bindSpecial (.ref f) self) (.ref f,[self]))(few:args.length<=sizeLine)
  (z:codeAny (model prog w) (A.under (.builtin "type.__call__" ⟨.ref C::args,[]⟩)) (.call (.ref f) ⟨.ref (h.objs.size+1)::args,[]⟩) (W.InitBack (h.objs.size+1) R) ⟨(h.push (kdv_tup args)).push (excO C h.objs.size),g,d,t,os⟩) :
  codeAny (model prog w) A (.call (.ref C) ⟨args,[]⟩) R ⟨h,g,d,t,os⟩:=by
 have look:=tc_lookup
 have bound:=tc_bind (.ref C)
 have ty:(⟨h,g,d,t,os⟩:Shared).TypeIs (.ref C) "type" :=⟨_,hC,rfl⟩
 refine codeAny_of_tree ?_
 show wpAny _ _ (callAny (.ref C) _) _ _ _
 repeat (any_goals (first|with_reducible refine Vr hC ?_|assumption|wp_step))
 refine⟨rfl,codeAny_call_builtin_at (Code.quiet_builtin _ (by decide +kernel)) entry_typeCall (wpAny_check_type_call_sub hC (Zph F T hC few hi hb (Vi z fun r s' y=> ?_)))⟩
 rcases r with e|(v|_|_|_) <;> exact y
end
end HandSPX
end PySem
namespace PySem.W
open PySem PySem.Calls PyProof.Rows PyProof.V PySem.Spec
structure IniF (B i:String):Prop where
 plain:plainId i=true
 entry:entryFor table i=some Builtin.«BaseException.__init__»
 kind:builtinKind i=some .slot
 row:Manifest.signature? i=some ⟨.positional,"*",B,.self,[⟨"args",.varPos,false⟩]⟩
 star:(B != "*")=true
section
variable {prog:Program}{w:World}{M:Model}{A:Around}{E:Value->Shared->Prop}{h:Heap}{g:Array GenState}{d:Drawn}{t:Nat}{os:OsState}{s:Shared}{h₀:Heap}{L:Addr}{m:Str->Option Value}{news:List (Addr × Obj)}{K:Frag}{x u:Addr}{B i newId:String}{bmB:List Value}
theorem Zn3(F:IniF B i){nm q:Str}{C N e:Addr}{oe:Obj}{bs bm:List Value}{hdct:Bool}{sn:List Str}{sub:List Value}{ab:Bool}{col:Option Bool}{dd:Option Addr}{k0 k1 k2 k3 k5:Option Value}{args:List Value}{Q:Unit->Shared->Prop}
  (hC:h.get? C=some (excClassObj nm q C N bs bm hdct sn sub ab col dd k0 k1 k2 k3 k5 newId))(he:h.get? e=some oe)(cls:oe.cls= .ref C)(z:Q () ⟨h,g,d,t,os⟩):wpAny M A (checkBoundCall i ⟨.ref e::args,[]⟩) Q E ⟨h,g,d,t,os⟩:=by
 have star:=F.star
 simp only[checkBoundCall,F.kind,F.row]
 repeat (first|with_reducible refine Vr hC ?_|(with_reducible refine Vr he ?_; rw[cls])|wp_step)
 refine wpAny_onRaise ?_
 rw[show ∀(a b:String) (n:Nat),Bind.check ⟨.positional,"*",B,.self,[⟨"args",.varPos,false⟩]⟩ a b n (List.map (fun y=>y.fst) ({ pos:=Value.ref e::args }:Args).kw)=pure () from fun a b n=>check_star_args _ _ _ _ _ _]
 exact Xk z
theorem Zpi{C:Addr}{t1:Addr}{dv:Option Addr}{c2:Value}{args:List Value}{nw:Obj->List (Addr × Obj)}{Q:Value->Shared->Prop}(F:Fr h₀ L s.heap m)(X₀:K.In h₀)(N:News h₀ L s.heap news)(I:IniF B i)(q:excInitIn K C bmB newId=true)(hm:(u,kxs_mw i x)∈news)
  (U:UpdF x (excObj C t1 dv c2) news nw)(few:args.length<=sizeLine)
  (z:∀t' h',Fr h₀ L h' m->News h₀ L h' ((t',excTup args)::nw (excObj C t' dv c2))->(∀p∈news,p.1 < t')->Q .none { s with heap:=h' }):wpAny (model prog w) A (call (.ref u) args) Q E s:=by
 obtain⟨nm,N',qn,bs,bm,hdct,sn,sub,ab,col,dd,k0,k1,k2,k3,k5,hC,_⟩:=excInit_of (X₀.keeps F.keep) q
 have at_u:=(N _ hm).1
 obtain⟨pre,post,rfl,hg,a,b⟩:=U.split
 obtain⟨at_x,xL,xn⟩:=N (x,excObj C t1 dv c2) (by simp)
 have below:∀p∈pre++(x,excObj C t1 dv c2)::post,p.1 < s.heap.objs.size:=fun p hp=>XN (N p hp).1
 have after:∀h',(∀b o,b≠x->s.heap.get? b=some o->h'.get? b=some o)->h'.get? x=some (excObj C s.heap.objs.size dv c2)->h'.get? s.heap.objs.size=some (excTup args)->Q .none { s with heap:=h' }:=fun h' kp ex et=>by
  obtain⟨oL,es,ep,eL,r⟩:=F.ns
  have base:∀b o,h₀.get? b=some o->h'.get? b=some o:=fun b o y=>kp b o (fun e=>by rw[e,xn] at y; cases y) (F.keep b o y)
  refine z s.heap.objs.size h' ⟨⟨oL,es,ep,kp _ _ (fun e=>xL e.symm) eL,r⟩,base,F.above⟩ ?_ below
  rw[hg]
  intro p hp
  rcases XB.mp hp with rfl|hp
  ·refine⟨et,fun e=> ?_, ?_⟩
   ·have lt:=XN (show s.heap.get? L=some oL from eL)
    rw[<- e] at lt
    exact Nat.lt_irrefl _ lt
   ·cases y:h₀.get? s.heap.objs.size with
    |none=>rfl
    |some o=>exact absurd (XN (F.keep _ _ y)) (Nat.lt_irrefl _)
  ·rcases VJ.mp hp with hp|hp
   ·have y:=N p (Vg _ hp)
    exact⟨kp _ _ (a p hp) y.1,y.2⟩
   ·rcases XB.mp hp with rfl|hp
    ·exact⟨ex,xL,xn⟩
    ·have y:=N p (XC _ (.tail _ hp))
     exact⟨kp _ _ (b p hp) y.1,y.2⟩
 obtain⟨hh,g,d,tk,os⟩:=s
 refine Vl (codeAny_of_tree ?_)
 show wpAny _ A.in1 (callAny (.ref u) ⟨args,[]⟩) _ _ _
 simp only[callAny]
 refine Xd (wpAny_load at_u ?_)
 simp only[kxs_mw,show (Value.type "method-wrapper" == Value.type "method" || Value.type "method-wrapper" == Value.type "builtin_function_or_method" || Value.type "method-wrapper" == Value.type "method-wrapper")=true by decide,if_true]
 refine KFB.if_so (by decide) (Xd (Zn3 I hC at_x rfl (Xd (Xk (Xk ?_)))))
 exact⟨plainId_quiet I.plain _,codeAny_builtin I.entry (exc_init_tree (cls:= .ref C) (t0:=t1) (dv:=dv) (c2:=c2) (c3:= .none) (b4:= .bool false) at_x few after)⟩
end
end PySem.W
namespace Pu
open PySem PySem.W PySem.Calls PyProof.Rows L2 PySem.F
theorem Zpj:IniF "KeyError" "KeyError.__init__" where
 plain:=by decide +kernel
 entry:=entryFor_alias (id':="BaseException.__init__") (by rw[fastTable_eq_tree]; kernel_rfl) (by first|rfl|decide +kernel) (by decide +kernel) (by rw[fastTable_eq_tree]; kernel_rfl)
 kind:=by kernel_rfl
 row:=by kernel_rfl
 star:=by decide +kernel
theorem Zh3:HandSPX.Has "LookupError" Zg2:=⟨by decide +kernel,by decide +kernel,by decide +kernel⟩
theorem ZmZ:StoreFacts "KeyError" Zg2 "object.__setattr__" "object" where
 mro:=by kernel_rfl
 slot:= .of (owner:="object") (n:="__setattr__") (by rw[typeLookup_type,builtinLookup_eq_fast]; kernel_rfl) (by decide +kernel) (by decide +kernel) (by decide +kernel)
  (by first|exact .inl (by decide +kernel)|exact .inr (by decide +kernel)) (by rw[isSubtype_type]; kernel_rfl)
 entry:=entry_object_sa
 kind:=by decide +kernel
 split:=by decide +kernel
 hasOwner:=by decide +kernel
 args:=fun a b c=>by unfold argsOk; kernel_rfl
 passes:=fun self=>by kernel_rfl
theorem Zpk:KxsFacts "KeyError" "KeyError.__init__" :=⟨by show builtinType _=_; rw[builtinType_eq_fast]; kernel_rfl,by first|kernel_rfl|rfl⟩
theorem Zku:BaseF "KeyError" "LookupError.__new__" "KeyError.__init__" Zg2 where
 made:=fun {_ _ _ _ _ _ _ _ _ _ _ _ _ _ bm _ _ _ _ _ _ _ _ _ _ _ _ _} hT hC hi hb hr hq=>HandSPX.n_call F.excBase_LookupError (show HandSPX.Has "LookupError" bm from ⟨(hT _).trans Zh3.b,(hT _).trans Zh3.a,(hT _).trans Zh3.n⟩) hC hi hb hr hq
 sup:=fun F X N q hm U hz h=>Zpi F X N Zpj q hm U hz h
 KF:=Zpk
 SF:=ZmZ
end Pu
namespace Pu
open PySem L2 PySem.Spec PyProof.Rows Pw
section
open PySem.W
variable {X:Cx}
theorem ZdT{β:Type}{val:β->V}{enc:β->PyData}{pins:List (Addr × Obj)}{σ:L2.St}{H:Hp}{s:Shared}(I:Inv X pins σ H s):∀{bs:List β}{us:List Value},(∀b∈bs,Dp X.K H (val b) (enc b))->Vals (bs.map val) us->EachIs (fun v b=>RelV (val b) v∧∃as,Reads s.heap v (enc b) as) us bs
 |[],_,_,.nil=> .nil
 |b::bs,_,h,.cons r t=> .cons ⟨r,Dp.reads I _ _ _ (h b (Xg ..)) r⟩ (ZdT I (fun c hc=>h c (Xm _ hc)) t)
end
end Pu
namespace Pu
open PySem L2 PySem.Spec PyProof.Rows Pw
def ZdL(n:Str)(i:Nat)(ρ:Env):Option D:=match ρ[i]? with
 |some (some (.obj _ fs))=>fs.lookup n
 |_=>none
def Zm0(n:Str)(i:Nat)(ρ:Env):Bool:=match ZdL n i ρ with
 |some (.dct _)=>true
 |some (.dtt _)=>true
 |_=>false
def LkF(n:Str)(i:Nat)(σ:L2.St)(H:Hp):Prop:=∀b C dx fs a u,σ[i]?=some (some (.ref b))->H b=some (.ins C dx fs)->fs.lookup n=some (.ref a)->isDct u->Rd H a u->∃o,H a=some (.frz o u)
abbrev Znw(n:Str)(i:Nat)(g:Env->RS):Env->RS:=ZgI (Zm0 n i) g
section
variable {K:PySem.W.Frag}{G:Gx K}{B O:Addr->Prop}{Fs:List (List Addr)}{H:Hp}{σ:L2.St}{ρ:Env}{M:List Md}{i:Nat}{n:Str}
theorem Zh4(w:Wd G B O Fs H σ ρ M)(hm:M[i]?=some .sh){d:D}(h:ZdL n i ρ=some d):∃(b C dx:Addr) (fvs:List (Str × V)) (c:String) (fs:List (Str × D)) (v:V),σ[i]?=some (some (.ref b))∧ρ[i]?=some (some (.obj c fs))∧H b=some (.ins C dx fvs)∧Cls K C∧NoAttr K C n∧fs.lookup n=some d∧fvs.lookup n=some v∧Rep G O H v d:=by
 obtain⟨v,d0,F,h1,h2,h3,_,v',d',q1,q2,r⟩:=w.get hm
 subst q1 q2
 unfold ZdL at h
 rw[h2] at h
 cases d' with
 |obj c fs =>
  cases r with
  |obj e q _ na t =>
   obtain⟨v,l1,l2,l3⟩:=Zc1 t h
   exact⟨_,_,_,_,c,fs,v,h1,h2,q,(G.oc e).cl,na n l3,h,l1,l2⟩
 |_=>cases h
theorem Zn4{v:V}{d:D}(r:Rep G O H v d)(h:(∃ks,d= .dct ks)∨∃ks,d= .dtt ks):∃a u,v= .ref a∧isDct u∧Rd H a u∧¬ O a:=by
 rcases h with⟨ks,rfl⟩|⟨ks,rfl⟩
 ·cases r with
  |dk r n t=>exact⟨_,_,rfl,.inl ⟨_,rfl⟩,r,n⟩
 ·cases r with
  |dt r n t=>exact⟨_,_,rfl,.inr ⟨_,rfl⟩,r,n⟩
theorem Zp1(hm:M[i]?=some .sh):Zj9 G M (Zm0 n i) (LkF n i):=fun {B O Fs H σ ρ} w h=>by
 unfold Zm0 at h
 cases hf:ZdL n i ρ with
 |none=>rw[hf] at h; cases h
 |some d =>
  rw[hf] at h
  have hd:(∃ks,d= .dct ks)∨∃ks,d= .dtt ks:=by
   cases d with
   |dct ks=>exact .inl ⟨ks,rfl⟩
   |dtt ks=>exact .inr ⟨ks,rfl⟩
   |_=>cases h
  obtain⟨b,C,dx,fvs,c,fs,v,h1,_,h3,_,_,_,h4,r⟩:=Zh4 w hm hf
  obtain⟨a,u,rfl,du,ra,nO⟩:=Zn4 r hd
  refine⟨a,u,du,ra,nO,fun H' od e st b' C' dx' fs' a' u' g1 g2 g3 g4 g5=> ?_⟩
  rw[h1] at g1
  cases g1
  have ne:b≠a:=fun z=>by
   subst z
   rcases ra with ra|⟨_,ra⟩
   ·rw[h3] at ra
    cases ra
    rcases du with⟨_,z⟩|⟨_,z⟩ <;> cases z
   ·rw[h3] at ra; cases ra
  rw[st b ne,h3] at g2
  cases g2
  rw[h4] at g3
  cases g3
  rcases g5 with g5|⟨o,g5⟩
  ·rw[e] at g5
   cases g5
   exact absurd rfl (g4.nf _ _)
  ·exact⟨o,g5⟩
end
section
variable {K:PySem.W.Frag}{S:Sx K}{X:Cx}{i:Nat}{n:Str}
theorem Zn5{σ:L2.St}{H:Hp}{B O:Addr->Prop}{Fs:List (List Addr)}{ρ:Env}(w:Wd S.G B O Fs H σ ρ S.M)(hm:S.M[i]?=some .sh){g:D->Option (List D)}{Z:It->Hp->Prop}(run:Run S (vI S) ((sUn (Zy n) (sV i) ρ).bind fun x ρ1=>R.of (g x) ρ1) B O Fs H σ ρ Z){Q:V->Hp->Prop}
  (h:∀v d b C dx fs,σ[i]?=some (some (.ref b))->H b=some (.ins C dx fs)->fs.lookup n=some v->Rep S.G O H v d->Run S (vI S) (R.of (g d) ρ) B O Fs H σ ρ Z->Q v H):tFld K (tVar i) n σ H Q:=by
 obtain⟨v0,d0,F,h1,h2,h3,_,v',d',q1,q2,r⟩:=w.get hm
 subst q1 q2
 have run:Run S (vI S) (((sV i ρ).bind fun x ρ1=>R.of (Zy n x) ρ1).bind fun x ρ1=>R.of (g x) ρ1) B O Fs H σ ρ Z:=run
 unfold sV at run
 rw[h2] at run
 cases d' with
 |obj c fs =>
  cases hl:fs.lookup n with
  |none =>
   have:R.of (Zy n (.obj c fs)) ρ= .bad:=by
    show R.of (fs.lookup n) ρ=_
    rw[hl]
    rfl
   have run:Run S (vI S) ((R.of (Zy n (.obj c fs)) ρ).bind fun x ρ1=>R.of (g x) ρ1) B O Fs H σ ρ Z:=run
   rw[this] at run
   exact run.elim
  |some d =>
   have hf:ZdL n i ρ=some d:=by
    unfold ZdL
    rw[h2]
    exact hl
   obtain⟨b,C,dx,fvs,c',fs',v,g1,g2,g3,g4,g5,g6,g7,g8⟩:=Zh4 w hm hf
   have:R.of (Zy n (.obj c fs)) ρ= .ok d ρ:=by
    show R.of (fs.lookup n) ρ=_
    rw[hl]
    rfl
   have run:Run S (vI S) ((R.of (Zy n (.obj c fs)) ρ).bind fun x ρ1=>R.of (g x) ρ1) B O Fs H σ ρ Z:=run
   rw[this] at run
   exact⟨_,g1,b,C,dx,fvs,v,rfl,g3,g4,g5,g7,h v d b C dx fvs g1 g3 g7 g8 run⟩
 |_=>exact run.elim
theorem Zm1{σ:L2.St}{H:Hp}{Z:It->Hp->Prop}(hm:S.M[i]?=some .sh)(lk:LkF n i σ H)(h:lI S (sIt Qs (sUn (Zy n) (sV i))) σ H Z):ZfB (tFld K (tVar i) n) σ H Z:=by
 obtain⟨B,O,Fs,ρ,w,run⟩:=h
 exact Zn5 w hm run fun v d b C dx fs g1 g2 g3 r run=>ZhU w (fun a u e du rd=>lk _ _ _ _ _ _ g1 g2 (by rw[g3,e]) du rd) r run
end
section
variable {K:PySem.W.Frag}{T:Tx K}{M Mt:List Md}{X:Cx}{e:Expr}{elts:List Expr}{kk:Nat}{tpos apos cpos fpos:Pos}{body:List Stmt}{g:Env->RS}{pos:Pos}{i:Nat}{n:Str}
theorem Zn6{us:List Nat}{tg:D->Env->Option Env}(hK:X.K=K)(hm:M[i]?=some .sh)(hp:PassesOwn (model X.prog X.w) X.A X.env X.xe)(hc:X.calm=true)(hv:PE X e (tVar i))(wx:Wk M T.Mx)(hg:PG X (.Tuple elts kk tpos) (lG T M Mt us tg))(fx:Ye M Mt=true)(fx':Ye Mt M=true)(hb:PSs X body (lS { T with Mb:=M } Mt M g))
  (ha:attributeBase e n X.env (eval e X.env)=eval e X.env:=by rfl)(hbase:attributeBase (.Attribute e n fpos) "items" X.env (eval (.Attribute e n fpos) X.env)=eval (.Attribute e n fpos) X.env:=by rfl)(hline:(apos.endLine == cpos.line)=true:=by rfl)(h1:∀x,foldedSetIterable (.Call (.Attribute (.Attribute e n fpos) "items" apos) [] [] cpos) X.env x=pure x:=by intro _; rfl):PS X (.For (.Tuple elts kk tpos) (.Call (.Attribute (.Attribute e n fpos) "items" apos) [] [] cpos) body [] pos) (lS T M M (Znw n i (Ym (sIt Qs (sUn (Zy n) (sV i))) tg g))):=by
 subst hK
 exact ZjD (Zp1 hm) (Zhi (C:=LkF n i) hp hc (Zdd (pe_fld hv ha) hbase hline) (fun σ H R lk h=>Zm1 (S:=T.ex M) hm lk h) wx hg fx fx' hb h1)
end
end Pu
namespace Pu
open PySem L2 PySem.Spec PyProof.Rows Pw
def Zh5(d:D):Option D:=match d with
 |.dct kvs=>some (.dct kvs)
 |_=>none
section
variable {K:PySem.W.Frag}{S:Sx K}{X:Cx}{e:Expr}{fa:Env->R D}{p pos:Pos}
theorem Zn7(hK:X.K=K)(hm:X.mg "dict" =none)(ha:PE X e (lB S fa))(hgl:Gl X "dict")(he:starEach (e:: []) X.env=(false,eval e X.env)::starEach [] X.env:=by rfl):PE X (.Call (.Name "dict" p) [e] [] pos) (lF S (.dct .sh) (sUn Zh5 fa)):=by
 subst hK
 refine PE.of (pe_callTy call_dictD hgl hm (by decide +kernel) (VI ha L2.pa_nil he) (by decide) (by decide) he (by rfl)) fun σ H Q ⟨B,O,Fs,ρ,w,run⟩=>⟨B,O,Fs,ρ,w,run.bind fun d ρ1 v O1 Fs1 H1 _ ev1 w1 r1 run1=> ?_⟩
 unfold Zh5 at run1
 cases d with
 |dct kvs =>
  have run1:RunF S (.dct .sh) (.ok (.dct kvs) ρ1) B O1 Fs1 H1 σ ρ1 Q:=run1
  obtain⟨a,ks,rfl,e2,e3⟩:=r1.dct
  refine⟨a,ks,rfl,e2,fun q hq=> ?_⟩
  obtain⟨wp,evp,np,kp⟩:=w1.own1 (o:= .dK ks) hq
  exact run1 (.ref q) _ Fs1 _ [q] evp wp (ZgH Xi (e3.keep kp)) np
 |_=>exact run1.elim
end
end Pu
namespace Pu
open PySem L2 PySem.Spec PyProof.Rows Pw
def ZqL:List Key->Str × Str
 |[.inr a,.inr b]=>(a,b)
 |_=>("","")
def Zh6:D->Bool
 |.tup [.str _,.str _]=>true
 |_=>false
theorem Zm2{d:D}(h:Zh6 d=true):∃a b:Str,d= .tup [.str a,.str b]:=by
 unfold Zh6 at h
 split at h
 ·exact⟨_,_,rfl⟩
 ·cases h
end Pu
namespace Pu
open PySem L2 PySem.Spec PyProof.Rows Pw
theorem fsc{N P:List Str}{sc:Scope}(h:sc.kind= .function∧sc.isCoroutine=false∧sc.isGenerator=false∧N.Nodup∧N.take P.length=P∧(∀x∈P,sc.names.lookup x=some .local∨sc.names.lookup x=some .cell)∧∀y∈sc.names,y.2≠ .free):FnScope N P sc :=
 ⟨h.1,h.2.1,h.2.2.1,h.2.2.2.1,h.2.2.2.2.1,h.2.2.2.2.2.1,h.2.2.2.2.2.2⟩
section
variable {K:PySem.W.Frag}{S:Sx K}{X:Cx}{pos:Pos}
theorem ws(i:Nat){x:Str}(hm:S.M[i]?=some .sh:=by exact rfl)(hN:X.N[i]?=some x:=by exact rfl)(hv:Vis X.env.scope x:=by first|exact Or.inl rfl|exact Or.inr (Or.inl rfl)|exact Or.inr (Or.inr rfl))(hd:(x ==("__debug__" :Str))=false:=by decide)
  (hcd:(x ==("__classdict__" :Str))=false:=by decide):PE X (.Name x pos) (lE S (sV i)):=Zoj (pv i hN hv hd hcd) hm
theorem vs(i:Nat){x:Str}(hm:S.M[i]?=some .sh:=by exact rfl)(hN:X.N[i]?=some x:=by exact rfl)(hv:Vis X.env.scope x:=by first|exact Or.inl rfl|exact Or.inr (Or.inl rfl)|exact Or.inr (Or.inr rfl))(hd:(x ==("__debug__" :Str))=false:=by decide)
  (hcd:(x ==("__classdict__" :Str))=false:=by decide):PE X (.Name x pos) (lB S (sV i)):=p_b (Zoj (pv i hN hv hd hcd) hm)
theorem vb(i:Nat){x:Str}(hm:S.M[i]?=some .br:=by exact rfl)(hN:X.N[i]?=some x:=by exact rfl)(hv:Vis X.env.scope x:=by first|exact Or.inl rfl|exact Or.inr (Or.inl rfl)|exact Or.inr (Or.inr rfl))(hd:(x ==("__debug__" :Str))=false:=by decide)
  (hcd:(x ==("__classdict__" :Str))=false:=by decide):PE X (.Name x pos) (lB S (sV i)):=Zqi (pv i hN hv hd hcd) hm
end
theorem wk{M M':List Md}(h:M.map Md.ret=M':=by exact rfl):Wk M M':=wkR h
section
variable {K:PySem.W.Frag}{T:Tx K}{M:List Md}{X:Cx}{pos:Pos}
theorem gn(i:Nat){x:Str}(hN:X.N.Nodup)(hi:X.N[i]?=some x:=by exact rfl)(hx:Loc X.env.scope x:=by exact Or.inl rfl)(hn:nf M i=true:=by exact rfl)(hf:X.fn x=true∨X.env.scope.names.lookup x=some .local:=by first|exact .inl rfl|exact .inr rfl|assumption) :
  PG X (.Name x pos) (lG T M (M.set i .sh) [i] (Zh i)):=Za0 hN hi hx hn hf
end
section
variable {K:PySem.W.Frag}{S:Sx K}{X:Cx}{e:Expr}{es:List Expr}{fs:Env->R (List D)}{pos p:Pos}{ms:List Md}{mg:Str->Option Value}
theorem pc{k k0:Nat}{x q:Str}{st:Stmt}{ps:List Str}{g:List D->RF}{u:UFn X.K X.mg x q st ps}(F:FnOkG X.prog X.w X.K X.mg X.base (L2.CX X.prog X.w) k u.a u.d ps (SpF S.G S.xa ms g))(hr:RoomG k0 X.A)(tk:Takes X S.W)
  (ha:PA X (e::es) (lAs S ms fs))(hk:k<=k0:=by decide)(hg:Gl X x:=by exact rfl)(hdb:(x ==("__debug__" :Str))=false:=by decide)(he:starEach (e::es) X.env=(false,eval e X.env)::starEach es X.env:=by exact rfl)(hpl:(backTo pos (starEach es X.env)).any (·.1)=false:=by exact rfl) :
  PE X (.Call (.Name x p) (e::es) [] pos) (lE S (Zo g fs)):=Zon (CX:=CX0) F (hr.mono hk) hg u.m u.F.kp u.n tk ha hdb he hpl
end
section
variable {K:PySem.W.Frag}{S:Sx K}{X:Cx}{elt tg iter c:Expr}{ifs:List Expr}{scope:Scope}{own:List (Str × Nat)}{pos:Pos}{f:Env->R (List D)}{tgf:D->Env->Option Env}{tt:Env->R Bool}{te:Env->R D}{Mt:List Md}{us:List Nat}
theorem lc{N ps:List Str}{sc:Scope}(F:FnScope N ps sc)(hi:PI X tg iter (lI S f))(nk:Nk Mt S.M)
  (hg:∀(s:Shared) (H:Hp) (C:Addr) (cl:List (Str × Addr)) (fp:List Addr),PG (X.blk s H scope (compEnvC scope cl C X.env) fp) tg (lG S.tx S.M Mt us tgf))(ht:∀(s:Shared) (H:Hp) (C:Addr) (cl:List (Str × Addr)) (fp:List Addr),PTs (X.blk s H scope (compEnvC scope cl C X.env) fp) ifs (lT (S.inn Mt) tt))
  (he:∀(s:Shared) (H:Hp) (C:Addr) (cl:List (Str × Addr)) (fp:List Addr),PE (X.blk s H scope (compEnvC scope cl C X.env) fp) elt (lE (S.inn Mt) te))(hb:blkC N sc scope own=true:=by decide +kernel)(hc:X.calm=true:=by exact rfl)(eN:X.N=N:=by exact rfl)(es:X.env.scope=sc:=by exact rfl)(hv:Yi S.M (own.map (·.2))=true:=by exact rfl)(hu:∀t∈us,t∈own.map (·.2):=by decide)(hs:∀x,foldedSetIterable iter X.env x=pure x:=by intro _; rfl) :
  PE X (.ListComp elt [⟨tg,iter,ifs,0⟩] scope pos) (lF S (.lst .sh) (sLc f tgf tt te (own.map (·.2)))):=by
 subst eN
 subst es
 exact Zmi hc F.nd hi (X8 hb) hv hu nk hg ht he hs
end
theorem oku{P:Program}{w:World}{K:PySem.W.Frag}{G:Gx K}{xa:String->Option Addr}{mg:Str->Option Value}{base:Heap}{x qual:Str}{st:Stmt}{N ps:List Str}{k n:Nat}{pm:List Md}{g:Env->RS}{u:UFn K mg x qual st ps}(S:FnScope N ps (defScope st))
  (hbody:∀(cdv:Value) (A:Around) (outer:List PySem.Env) (s:Shared) (H:Hp) (E:XK),RoomG k (A.deeper (envOfC qual (defScope st) s.heap.objs.size u.a cdv))->
   PSs (cxOf (L2.CX P w) P w K mg base N qual (defScope st) u.a cdv A outer s H E) (defBody st) (lS (Zfn G xa E pm n) (pm++List.replicate n .na) (J6 pm n) g))(hl:pm.length=ps.length:=by exact rfl)(ok:Zcm pm=true:=by exact rfl)(hn:N.length=ps.length+n:=by exact rfl) :
  FnOkG P w K mg base (L2.CX P w) (k+1) u.a u.d ps (SpF G xa pm (Zx pm n g)):=ZgC u.F S hl ok hn hbody
theorem okm{P:Program}{w:World}{K:PySem.W.Frag}{G:Gx K}{xa:String->Option Addr}{mg:Str->Option Value}{base:Heap}{x qual:Str}{st:Stmt}{N ps:List Str}{k n:Nat}{pm:List Md}{g:Env->RS}{u:UMe K x qual st ps}(S:FnScope N ps (defScope st))
  (hbody:∀(cdv:Value) (A:Around) (outer:List PySem.Env) (s:Shared) (H:Hp) (E:XK),RoomG k (A.deeper (envOfC qual (defScope st) s.heap.objs.size u.a cdv))->
   PSs (cxOf (L2.CX P w) P w K mg base N qual (defScope st) u.a cdv A outer s H E) (defBody st) (lS (Zfn G xa E pm n) (pm++List.replicate n .na) (J6 pm n) g))(hl:pm.length=ps.length:=by exact rfl)(ok:Zcm pm=true:=by exact rfl)(hn:N.length=ps.length+n:=by exact rfl) :
  FnOkG P w K mg base (L2.CX P w) (k+1) u.a u.d ps (SpF G xa pm (Zx pm n g)):=ZgC u.F S hl ok hn hbody
end Pu
namespace Pu
open PySem L2 PySem.Spec PyProof.Rows Pw
structure KeyL (scope:Scope) (y:Str):Prop where
 kind:scope.kind= .function
 co:scope.isCoroutine=false
 gen:scope.isGenerator=false
 cell:∀z∈scope.names,z.2≠ .cell
 free:∀z∈scope.names,z.2≠ .free
 par:scope.names.lookup y=some .local
 len:scope.names.lookup ("len" :Str)=some .globalImplicit
def Zkv(scope:Scope)(y:Str):Bool :=
 decide (scope.kind= .function) && !scope.isCoroutine && !scope.isGenerator && (scope.names.all fun z=> !decide (z.2= .cell) && !decide (z.2= .free)) && decide (scope.names.lookup y=some .local) && decide (scope.names.lookup ("len" :Str)=some .globalImplicit)
theorem Zn8{scope:Scope}{y:Str}(h:Zkv scope y=true):KeyL scope y:=by
 unfold Zkv at h
 simp only[Xp,Bool.not_eq_true',decide_eq_true_eq,decide_eq_false_iff_not,XM] at h
 obtain⟨⟨⟨⟨⟨h1,h2⟩,h3⟩,h4⟩,h5⟩,h6⟩:=h
 exact⟨h1,h2,h3,fun z hz=>(h4 z hz).1,fun z hz=>(h4 z hz).2,h5,h6⟩
end Pu
namespace Pu
open PySem L2 PySem.Spec PyProof.Rows Pw
abbrev JH(y:Str)(p1 p2 p3 p4 pos:Pos)(k:Nat):Expr:= .Tuple [.Call (.Name "len" p1) [.Name y p2] [] p3,.Name y p4] k pos
section
variable {prog:Program}{w:World}{A:Around}{E:Value->Shared->Prop}{s:Shared}
theorem Zm3{env:PySem.Env}{y:Str}{t:Addr}{items:Array Value}{m mg mb:Str->Option Value}{Q:Value->Shared->Prop}{p1 p2 p3:Pos}
  (hk:env.scope.kind= .function)(hs:env.kindOf "len" =some .globalImplicit)(hgl:s.heap.Ns env.globals mg)(hmiss:mg "len" =none)(hb:s.heap.Ns env.builtins mb)(hv:mb "len" =some (.builtin "len"))
  (hy:env.kindOf y=some .local)(hn:s.heap.Ns env.locals m)(hm:m y=some (.ref t))(ht:IsTup s.heap t items)(hz:(items.size:Int) < 2 ^ 63)(hd:(y ==("__debug__" :Str))=false)
  (h:∀u tk,Q (.int items.size u) { s with toks:=tk }):wpAny (model prog w) A (eval (.Call (.Name "len" p1) [.Name y p2] [] p3) env) Q E s:=by
 refine Call_ (Calls.Name_function_global hk hs (Calls.loadGlobal_builtin hgl hmiss hb hv ?_))
 refine PyProof.Rows.callWith_builtin1 (args_cons (wpAny_Name (Vp hk hy hn hm (args_nil ?_)) hd))
 exact len_tuple ht hz (h _ _)
theorem Zm4{f c' t:Addr}{q:Str}{params:Arguments}{scope:Scope}{clos:List (Str × Addr)}{pm ctv:Value}{y:Str}{items:Array Value}{p:PyData}{mg mb:Str->Option Value}{p1 p2 p3 p4 pos:Pos}{k:Nat}
  (S:KeyL scope y)(hy:(y ==("__debug__" :Str))=false)(hr:A.depth < recursionLimit)(ho:s.heap.get? f=some (PySem.W.kla_obj "<lambda>" q params (JH y p1 p2 p3 p4 pos k) scope clos pm c' ctv))
  (hc:s.heap.CodeRec (.ref c') q)(hbind:bindArgs (PySem.W.kla_fn "<lambda>" q params (JH y p1 p2 p3 p4 pos k) scope clos pm (.ref c') ctv) ⟨[.ref t],[]⟩=pure [(y,.ref t)])
  (nl:s.heap.NoLimit)(hgl:s.heap.Ns mainGlobals mg)(hmiss:mg "len" =none)(hb:s.heap.Ns builtinsNs mb)(hv:mb "len" =some (.builtin "len"))(ht:IsTup s.heap t items)(hz:(items.size:Int) < 2 ^ 63)(rd:Reads s.heap (.ref t) p []) :
  wpAny (model prog w) A (call (.ref f) [.ref t]) (PySem.W.KeyPure (.tuple [.int (items.size:Int),p]) s) (fun _ _=>False) s:=by
 refine Vl (Vi (PySem.W.kla_callFunE (R:=fun r s'=>match r with|.ok (.ret v)=>PySem.W.KeyPure (.tuple [.int (items.size:Int),p]) s v s'|_=>False) hr ho rfl S.co S.gen rfl hc ?_) fun r s' h=> ?_)
 ·rw[hbind]
  refine Xk (wpAny_newFunctionEnv S.cell (fun z hz=>by rw[Xb.mp hz]; exact S.par) (fun h₁ hns hsb=>⟨nl.fresh _ hsb, ?_⟩) S.kind)
  have kp:∀b o,s.heap.get? b=some o->h₁.get? b=some o:=fun b o e=>hsb.extBut b o (Va (XN e)) (Xe _ e)
  refine PySem.W.kla_codeExpr ?_
  refine wpAny_Tuple_spliced (args_cons (Zm3 (y:=y) (t:=t) (items:=items) (mg:=mg) (mb:=mb) S.kind S.len (hgl.keeps kp) hmiss (hb.keeps kp) hv S.par hns (by simp) (ht.keeps kp) hz hy fun u tk=> ?_))
  refine args_cons (wpAny_Name (Vp S.kind S.par hns (by simp; rfl) (args_nil ?_)) hy)
  refine⟨by show 2<=sizeLine; decide,_,_,rfl,fun b o e=>Xe _ (kp b o e), ?_⟩
  exact .tuple (XA _ rfl) rfl rfl (.cons (.int _ _) (.cons (PyProof.Rows.Reads.keeps (fun b o e=>Xe _ (kp b o e)) rd) .nil))
 ·cases r with
  |error e=>exact h.elim
  |ok fl =>
   cases fl with
   |ret v=>exact h
   |_=>exact h.elim
end
def Zdh(d:D):Bool:=match d with
 |.tup es=>es.all Zh6 && decide (es.length<=1000)
 |_=>false
def prP(x:Str × Str):PyData:= .tuple [.str x.1,.str x.2]
def psP(xs:List (Str × Str)):PyData:= .tuple (xs.map prP)
def prD(x:Str × Str):D:= .tup [.str x.1,.str x.2]
def psD(xs:List (Str × Str)):D:= .tup (xs.map prD)
theorem Zn9{d:D}(h:Zdh d=true):∃xs:List (Str × Str),d=psD xs∧xs.length<=1000:=by
 cases d with
 |tup es =>
  have h:(es.all Zh6 && decide (es.length<=1000))=true:=h
  rw[Xp,VL] at h
  obtain⟨h1,h2⟩:=h
  have:∀es:List D,es.all Zh6=true->∃xs:List (Str × Str),es=xs.map prD:=by
   intro es
   induction es with
   |nil=>exact fun _=>⟨[],rfl⟩
   |cons e es ih =>
    intro h
    rw[List.all_cons,Xp] at h
    obtain⟨a,b,rfl⟩:=Zm2 h.1
    obtain⟨xs,rfl⟩:=ih h.2
    exact⟨(a,b)::xs,rfl⟩
  obtain⟨xs,rfl⟩:=this es h1
  exact⟨xs,rfl,by rw[Xx] at h2; exact h2⟩
 |_=>cases h
theorem ZlC(xs:List (Str × Str)):(psD xs).py=some (psP xs):=by
 have:∀xs:List (Str × Str),D.pys (xs.map prD)=some (xs.map prP):=by
  intro xs
  induction xs with
  |nil=>rfl
  |cons x xs ih =>
   rw[Xv]
   show (match D.py (prD x),D.pys (xs.map prD) with|some p,some ps=>some (p::ps)|_,_=>none)=_
   rw[ih]
   rfl
 show (D.pys (xs.map prD)).map PyData.tuple=_
 rw[this]
 rfl
theorem ZlD{h:Heap}{v:Value}{xs:List (Str × Str)}{as:List Addr}(r:Reads h v (psP xs) as):as= []∧∃(t:Addr) (items:Array Value),v= .ref t∧IsTup h t items∧items.size=xs.length:=by
 have pa:∀{us:List Value}{a b:Str}{as:List Addr},ReadsAll h us [.str a,.str b] as->as= []:=fun {us a b as} r=>by
  cases r with
  |cons r1 r2 =>
   cases r1
   cases r2 with
   |cons r3 r4=>cases r3; cases r4; rfl
 have pr:∀{v:Value}{x:Str × Str}{as:List Addr},Reads h v (prP x) as->as= []:=fun {v x as} r=>by
  cases r with
  |tuple _ _ _ r=>exact pa r
 have al:∀{xs:List (Str × Str)}{us:List Value}{as:List Addr},ReadsAll h us (xs.map prP) as->as= []∧us.length=xs.length:=by
  intro xs
  induction xs with
  |nil=>intro us as r; cases r; exact⟨rfl,rfl⟩
  |cons x xs ih =>
   intro us as r
   cases r with
   |cons r1 r2 =>
    obtain⟨e1,e2⟩:=ih r2
    rw[pr r1,e1]
    exact⟨rfl,by simp[e2]⟩
 cases r with
 |@tuple a o vs n _ as h1 h2 h3 r =>
  obtain⟨e1,e2⟩:=al r
  exact⟨e1,a,vs,rfl,⟨o,h1,h2,n,h3⟩,by rw[<- Array.length_toList]; exact e2⟩
def Zac(xs:List (Str × Str)):PyData:= .tuple [.int (xs.length:Int),psP xs]
def JR(d:D):D:= .tup [.int (match d with|.tup es=>(es.length:Int)|_=>0),d]
def leQ(a b:D):Bool:=leD (JR a) (JR b)
def Zer(d:D):Option D:=match d with
 |.lst ds=>if ds.all Zdh then some (.lst (Za3 leQ ds)) else none
 |_=>none
theorem Zh7:∀a b:List (Str × Str),PySem.W.alikeAll (a.map prP) (b.map prP)=true
 |[],_=>by simp[PySem.W.alikeAll]
 |_::_,[]=>by simp[PySem.W.alikeAll]
 |x::a,y::b=>by
  rw[Xv,Xv,PySem.W.alikeAll,Zh7 a b,Bool.and_true]
  simp[PySem.W.alike,PySem.W.alikeAll,prP]
theorem Zh8:∀xs:List (Str × Str),PyData.depthAll (xs.map prP)<=1
 |[]=>Vu _
 |x::xs=>by
  have:=Zh8 xs
  rw[Xv]
  simp only[PyData.depthAll,prP,PyData.depth]
  omega
section
variable {X:Cx}{pins:List (Addr × Obj)}{σ:L2.St}{H:Hp}{s:Shared}
theorem ZiQ{f c' a:Addr}{q:Str}{params:Arguments}{scope:Scope}{clos:List (Str × Addr)}{pm ctv:Value}{y:Str}{p1 p2 p3 p4 pos:Pos}{k n:Nat}{L:List (V × List (Str × Str))}{Q:VK}
  (I:Inv X pins σ H s)(hr:RoomG (n+1) X.A)(hu:X.A.units+64 < cLine)(S:KeyL scope y)(hy:(y ==("__debug__" :Str))=false)(ho:s.heap.get? f=some (PySem.W.kla_obj "<lambda>" q params (JH y p1 p2 p3 p4 pos k) scope clos pm c' ctv))(hco:H c'=some (LamX.CodeO c' q))
  (hbind:∀v:Value,bindArgs (PySem.W.kla_fn "<lambda>" q params (JH y p1 p2 p3 p4 pos k) scope clos pm (.ref c') ctv) ⟨[v],[]⟩=pure [(y,v)])(hms:X.mg "len" =none)
  (hd:SqL X.K H a (L.map (·.1)))(hl:∀x∈L,Dp X.K H x.1 (psP x.2)∧x.2.length<=1000)
  (go:∀(p:Addr),H p=none->Q (.ref p) (upd H p (.lst ((L.mergeSort (PySem.W.dataLe false fun x=>Zac x.2)).map (·.1))))) :
  wpAny (model X.prog X.w) X.A (call (.builtin "sorted") [.ref a] [(Str.ofString "key",.ref f)]) (EP X pins σ Q) X.xe s:=by
 obtain⟨its,rv,hli,hz⟩:=I.list hd
 rw[Xx] at hz
 obtain⟨⟨oc,vs,tk0,hoc,hdc,hvc⟩,_,_⟩:=I.hok c' _ hco
 obtain⟨mb,hb1,hb2⟩:=I.mod.blt
 refine PySem.W.sorted_key_data (fun x:V × List (Str × Str)=>Zac x.2) hli.isList (ZdT (enc:=fun x:V × List (Str × Str)=>psP x.2) I (fun x hx=>(hl x hx).1) rv) ?_ ?_ hz ?_ (ksk_s1 _ _) (fun _=>ksk_l1 _ _) (fun _=>ksk_t1 _ _) ?_ ?_
 ·intro x hx y hy
  obtain⟨b,_,rfl⟩:=XW.mp hx
  obtain⟨c,_,rfl⟩:=XW.mp hy
  simp[PySem.W.alike,PySem.W.alikeAll,Zac,psP,Zh7]
 ·exact PySem.W.Sortable.tuples fun _=>⟨_,_,rfl⟩
 ·intro x _
  have:(Zac x.2).depth<=3:=by
   have:=Zh8 x.2
   unfold Zac psP
   simp only[PyData.depth,PyData.depthAll]
   omega
  omega
 ·rintro v x ⟨rb,as,rd⟩ hx h tk kp
  obtain⟨rfl,t,items,rfl,t1,t2⟩:=ZlD rd
  have rk:=Zm4 (prog:=X.prog) (w:=X.w) (A:=X.A.in1.in1) (s:= { s with heap:=h,toks:=tk }) (mg:=X.mg) (mb:=mb) (f:=f) (c':=c') (t:=t) (items:=items) (p:=psP x.2) S hy ?_ (kp _ _ ho) ⟨c',oc,vs,tk0,rfl,kp _ _ hoc,hdc,hvc⟩ (hbind _) (I.nolimit.keeps kp) (I.mod.glob.keeps fun b o e=>kp b o (I.bk b o e)) hms (hb1.keeps fun b o e=>kp b o (I.bk b o e)) ((hb2 _ (by decide)).trans (by decide +kernel)) (t1.keeps kp) ?_ (PyProof.Rows.Reads.keeps kp rd)
  ·rw[t2] at rk
   exact rk
  ·have:=hr.dp
   show X.A.depth < recursionLimit
   omega
  ·rw[t2]
   have:=(hl x hx).2
   omega
 ·intro out c h' tk keep fresh got ho ev
  have e2:PySem.W.EachIs (fun v b=>RelV b.1 v) out (L.mergeSort (PySem.W.dataLe false fun x:V × List (Str × Str)=>Zac x.2)):=ev.mono fun _ _ x=>x.1
  refine⟨.ref _,upd H (s.heap.objs.size+1) (.lst ((L.mergeSort (PySem.W.dataLe false fun x:V × List (Str × Str)=>Zac x.2)).map (·.1))),I.laid (t':=tk) keep (VM _) ⟨?_,out,c,ZaY e2,got⟩,rfl,go _ (I.hok.fresh (VM _))⟩
  rw[Xx,List.length_mergeSort]
  exact hz
end
end Pu
namespace Pu
open PySem L2 PySem.Spec PyProof.Rows Pw
section
variable {X:Cx}{CX:CXT}{k:Nat}{f C:Addr}{fd:FuncData}{ps ks:List Str}{sp:Sp}{E:L2.St->XK}{m:Str}{pos apos:Pos}{o:Expr}{kws:List Keyword}{ta:TE}{tk:TA}{ix:List Nat}
theorem ZlE{pl:Sem Bool}(he:PE X o ta)(c:Cls X.K C)(hm:Meth X.K C m f)(F:FnOkG X.prog X.w X.K X.mg X.base CX k f fd ps sp)(hr:RoomG k X.A)(hb:KBx X.K fd ps ks 1 ix)(hx:∀σ,PassesAt CX X σ (E σ))(hkw:PK X kws tk)
  (hall:(backToKw pos (keywordEach kws X.env)).all (·.1.isSome)=true:=by rfl)(hks:(backToKw pos (keywordEach kws X.env)).filterMap (·.1)=ks:=by rfl)
  (hpl:((backTo pos (starEach [] X.env)).any (·.1) || (backToKw pos (keywordEach kws X.env)).any (·.1.isNone))=false:=by rfl)
  (ht:eval (.Call (.Attribute o m apos) [] kws pos) X.env=(do
   let ov <- eval o X.env
   standAt apos.atName
   let (f,first) <- holding [ov] (getMethod ov m pl)
   callWith pos f first (backTo pos (starEach [] X.env)) (backToKw pos (keywordEach kws X.env))):=by rfl) :
  PE X (.Call (.Attribute o m apos) [] kws pos) (fun σ H Q=>ta σ H fun x H1=>∃a dx fs,x= .ref a∧H1 a=some (.ins C dx fs)∧fs.lookup m=none∧tk σ H1 fun zs H2=>zs.length=ks.length∧sp (.ref a::YB ix zs) H2 Q (E σ)):=by
 constructor
 intro pins s σ H Q I h
 refine VN (pl:=pl) (thn (he.run pins s σ H _ I h) ?_) ht
 rintro u s1 ⟨x,H1,J,rx,a,dx,fs,ex,ea,l,q⟩
 subst ex
 obtain rfl:u=Value.ref a:=rx
 refine getmeth_ok J ea c hm l (PySem.W.callWith_KW0 (first:= [.ref a]) (h₀:=X.base) I.ok.mod.kin hm.kp hall (thn (hkw.run pos pins s1 σ H1 _ J q) ?_) hpl)
 rintro ws s2 ⟨zs,H2,J2,rz,l2,q2⟩
 rw[hks]
 exact⟨J2.kIn,Vl (Zeq (us:= [.ref a]) (vs:= [.ref a]) F hr hb hx J2 (.cons rfl .nil) rz rfl (rz.length.symm.trans l2) q2)⟩
end
section
variable {K:PySem.W.Frag}{S:Sx K}{X:Cx}{o:Expr}{kws:List Keyword}{fa:Env->R D}{fs:Env->R (List D)}{pos apos:Pos}{ms:List Md}{ix:List Nat}
def Qt(c:String)(m:Str)(ix:List Nat)(n:Nat)(g:List D->RF)(fa:Env->R D)(fs:Env->R (List D)):Env->R D:=fun ρ=>(fa ρ).bind fun x ρ1=>if isC c m x then (fs ρ1).bind fun ds ρ2=>if ds.length=n then (g (x::YB ix ds)).toR ρ2 else .bad else .bad
theorem ZaQ{pl:Sem Bool}{k:Nat}{f C:Addr}{fd:FuncData}{ps ks:List Str}{m:Str}{c:String}{g:List D->RF}(hK:X.K=K)(hC:S.G.ca c=some C)(hm:Meth X.K C m f)(F:FnOkG X.prog X.w X.K X.mg X.base (L2.CX X.prog X.w) k f fd ps (SpF S.G S.xa (.sh::YB ix ms) g))(hr:RoomG k X.A)(hb:KBx X.K fd ps ks 1 ix)(tk:Takes X S.W)
  (ho:PE X o (lE S fa))(ha:PK X kws (lAs S ms fs))
  (hall:(backToKw pos (keywordEach kws X.env)).all (·.1.isSome)=true:=by rfl)(hks:(backToKw pos (keywordEach kws X.env)).filterMap (·.1)=ks:=by rfl)
  (hpl:((backTo pos (starEach [] X.env)).any (·.1) || (backToKw pos (keywordEach kws X.env)).any (·.1.isNone))=false:=by rfl)
  (ht:eval (.Call (.Attribute o m apos) [] kws pos) X.env=(do
   let ov <- eval o X.env
   standAt apos.atName
   let (f,first) <- holding [ov] (getMethod ov m pl)
   callWith pos f first (backTo pos (starEach [] X.env)) (backToKw pos (keywordEach kws X.env))):=by rfl):PE X (.Call (.Attribute o m apos) [] kws pos) (lE S (Qt c m ix ks.length g fa fs)):=by
 subst hK
 refine PE.of (ZlE (E:=WE S.W) ho (S.G.oc hC).cl hm F hr hb (fun σ=>passAt tk σ) ha hall hks hpl ht) fun σ H Q ⟨B,O,Fs,ρ,w,run⟩=> ?_
 refine⟨B,O,Fs,ρ,w,run.bind fun x ρ1 v O1 Fs1 H1 _ ev1 w1 r1 run1=> ?_⟩
 cases hx:isC c m x with
 |false=>rw[hx] at run1; exact run1.elim
 |true =>
  rw[hx,if_pos rfl] at run1
  obtain⟨a,dx,fvs,rfl,e3,hn⟩:=ZjM hC hx r1
  refine⟨a,dx,fvs,rfl,e3,hn,B,O1,Fs1,ρ1,w1,run1.bind fun ds ρ2 vs O2 Fs2 H2 _ ev2 w2 r2 run2=> ?_⟩
  by_cases hl:ds.length=ks.length
  ·rw[if_pos hl] at run2
   exact⟨r2.len.1.trans (r2.len.2.symm.trans hl),Zcl w2 (.sh (r1.ev w1 ev2) (Jc r2 ix)) run2⟩
  ·rw[if_neg hl] at run2; exact run2.elim
end
end Pu
namespace Pu
open PySem L2 PySem.Spec PyProof.Rows Pw
section
variable {K:PySem.W.Frag}{S:Sx K}{X:Cx}{e:Expr}{fs:Env->R (List D)}
def psL(d:D):List (Str × Str):=match d with
 |.tup es=>es.map fun e=>match e with|.tup [.str a,.str b]=>(a,b)|_=>("","")
 |_=> []
theorem Zpl(xs:List (Str × Str)):psL (psD xs)=xs:=by
 show (xs.map prD).map _=xs
 rw[Vc]
 conv=>rhs; rw[<- List.map_id xs]
 exact VT fun x _=>rfl
theorem Zes{d:D}(h:Zdh d=true):(JR d).pyd=Zac (psL d)∧d=psD (psL d)∧(psL d).length<=1000:=by
 obtain⟨xs,rfl,hl⟩:=Zn9 h
 rw[Zpl]
 refine⟨?_,rfl,hl⟩
 have e:(JR (psD xs)).py=some (Zac xs):=by
  have a1:D.pys [psD xs]=some [psP xs]:=by
   show (match (psD xs).py,D.pys [] with|some p,some ps=>some (p::ps)|_,_=>none)=_
   rw[ZlC]
   rfl
  show (match D.py (.int ((xs.map prD).length:Int)),D.pys [psD xs] with|some p,some ps=>some (p::ps)|_,_=>none).map PyData.tuple=_
  rw[a1,Xx]
  rfl
 unfold D.pyd
 rw[e]
 rfl
theorem ZlF{α β:Type}{f:α->PyData}{g:β->PyData}{x y:α}{u v:β}(h1:f x=g u)(h2:f y=g v):PySem.W.dataLe false f x y=PySem.W.dataLe false g u v:=by
 unfold PySem.W.dataLe PySem.W.sortLe
 dsimp only
 rw[h1,h2]
theorem Zh9{n j:Nat}{m:Md}{c P:Addr}{q:Str}{params:Arguments}{scope:Scope}{y:Str}{p p1 p2 p3 p4 bpos lpos kpos pos:Pos}{i1:Nat}(hK:X.K=K)(hr:RoomG (n+1) X.A)(hun:X.A.units+64 < cLine)(hgl:Gl X "sorted")(hm:X.mg "sorted" =none)(hms:X.mg "len" =none)(ha:PA X [e] (lBs S fs))
    (hj:S.M[j]?=some m)(ht:m.is .tab)(TB:LamX.TabB X.base X.mg c P)(hcode:X.env.code= .ref c)(eq:Zh0 X=q)(hP:(P,q)∈S.G.tb)(hu:∀p∈S.G.tb,p.1=P->p.2=q)(hS:Zkv scope y=true)(hy:(y ==("__debug__" :Str))=false)
    (noDf:defaultsOf params X.env=([],[]))(hbind:∀(q:Str) (cl:List (Str × Addr)) (pm cv ct v:Value),bindArgs (PySem.W.kla_fn "<lambda>" q params (JH y p1 p2 p3 p4 bpos i1) scope cl pm cv ct) ⟨[v],[]⟩=pure [(y,v)])
    (he:backTo pos (starEach (e:: []) X.env)=(false,eval e X.env)::backTo pos (starEach [] X.env):=by rfl)(hpl:(backTo pos (starEach (e:: []) X.env)).any (·.1)=false:=by rfl) :
    PE X (.Call (.Name "sorted" p) [e] [⟨some "key",.Lambda params (JH y p1 p2 p3 p4 bpos i1) scope lpos,kpos⟩] pos) (lE S (sAs (g1 Zer) fs)):=by
  subst hK
  subst eq
  have ks:=Zn8 hS
  constructor
  intro pins s σ H Q I ⟨B,O,Fs,ρ,w,run⟩
  have h1:lBs S fs σ H fun vs H1=>∃B O1 Fs1 ρ1 ds,Wd S.G B O1 Fs1 H1 σ ρ1 S.M∧BReps S.G O1 Fs1.flatten H1 vs ds∧Run S (vE S) (R.of (g1 Zer ds) ρ1) B O1 Fs1 H1 σ ρ1 Q:=⟨B,O,Fs,ρ,w,run.bind fun ds ρ1 vs O1 Fs1 H1 _ ev1 w1 r1 run1=>⟨B,O1,Fs1,ρ1,ds,w1,r1,run1⟩⟩
  refine Ve (ld_blt I hgl hm (u:= .builtin "sorted") (by decide +kernel) ?_)
  refine PyProof.Rows.callWith_kw (thn (ha.run pos pins s σ H _ I h1) fun us s1 ⟨vs,H1,I1,rv,B,O1,Fs1,ρ1,ds,w1,r1,run1⟩=> ?_) he hpl (by rfl) (by rfl)
  obtain⟨d,rfl⟩:∃d,ds= [d]:=by
    match ds,run1 with
    |[d],_=>exact⟨d,rfl⟩
    |[],r=>exact r.elim
    |_::_::_,r=>exact r.elim
  cases r1 with
  |@cons v d vs ds b t =>
  cases t
  obtain⟨u,rfl,ru⟩:=vals1 rv
  obtain⟨xs,rfl,hall⟩:∃xs,d= .lst xs∧xs.all Zdh=true:=by
    cases d with
    |lst xs =>
      by_cases h:xs.all Zdh=true
      · exact⟨xs,rfl,h⟩
      · have r:Run S (vE S) (R.of (if xs.all Zdh then some (D.lst (Za3 leQ xs)) else none) ρ1) B O1 Fs1 H1 σ ρ1 Q:=run1
        rw[if_neg h] at r
        exact r.elim
    |_=>exact run1.elim
  obtain⟨v0,d0,F0,y1,y2,y3,eF,r0,tb⟩:=w1.own hj ht
  obtain⟨ps,t1,t2,t3⟩:=tb _ hP
  obtain⟨a0,vs0,rfl,_,_⟩:=b.lst
  obtain rfl:u=Value.ref a0:=ru
  show wpAny _ _ (evalAll ((do let v <- eval (.Lambda params (JH y p1 p2 p3 p4 bpos i1) scope lpos) X.env; standAt pos; pure v):: [])) _ _ s1
  refine wpAny_evalAll_cons (Xd (ZmX I1 TB hcode t1 t2 (fun n cv e=> ?_) noDf (fun z hz hf=>absurd hf (ks.free z hz)) fun f c' pm' ct H2 s2 I2 made hf nf nfr code=>Xd (X4 (Xk (wpAny_evalAll_nil ?_)))))
  · obtain⟨c0,z1,_,z3⟩:=t3 n cv e
    exact⟨c0,z1,z3⟩
  obtain⟨w2,ev2⟩:=ZnZ w1 hj ht hP hu made code
  have b2:=b.ev w1 ev2
  obtain⟨a,vs,ea,hd,hT⟩:=b2.lst
  cases ea
  obtain⟨z1,z2,z3⟩:=Zej hT
  let L:List (V × List (Str × Str)):=(vs.zip xs).map fun b=>(b.1,psL b.2)
  have xm:∀b∈vs.zip xs,Zdh b.2=true:=fun b hb=>XM.mp hall _ (by rw[<- z2]; exact List.mem_map_of_mem hb)
  have L1:L.map (·.1)=vs:=by
    show ((vs.zip xs).map fun b=>(b.1,psL b.2)).map (·.1)=vs
    rw[Vc]
    exact z1
  refine ZiQ (L:=L) I2 hr hun ks hy hf code (fun v=>hbind _ _ _ _ _ v) hms (by rw[L1]; exact .inl hd) (fun x hx=> ?_) fun p hp=> ?_
  · obtain⟨b,hb,rfl⟩:=XW.mp hx
    obtain⟨_,k1,k2⟩:=Zes (xm b hb)
    refine⟨(z3 b hb).dp ?_,k2⟩
    show b.2.py=some (psP (psL b.2))
    conv=>lhs; rw[k1]
    exact ZlC _
  · refine(run1.shift ev2).of (r:=fun Q=>Q (.ref p) _) w2 fun d ed k=> ?_
    have ed:(if xs.all Zdh then some (D.lst (Za3 leQ xs)) else none)=some d:=ed
    rw[if_pos hall] at ed
    cases ed
    have e1:((vs.zip xs).mergeSort fun b c:V × D=>leQ b.2 c.2).map (fun b=>(b.1,psL b.2))=L.mergeSort (PySem.W.dataLe false fun x=>Zac x.2):=by
      refine List.map_mergeSort (r:=fun b c:V × D=>leQ b.2 c.2) (s:=PySem.W.dataLe false fun x:V × List (Str × Str)=>Zac x.2) (f:=fun b:V × D=>(b.1,psL b.2)) fun b hb c hc=> ?_
      show leD (JR b.2) (JR c.2)=_
      exact ZlF (f:=D.pyd) (g:=fun x:V × List (Str × Str)=>Zac x.2) (Zes (xm b hb)).1 (Zes (xm c hc)).1
    have e2:((vs.zip xs).mergeSort fun b c:V × D=>leQ b.2 c.2).map (·.2)=Za3 leQ xs:=by
      rw[<- ZdE (le:=leQ) (fun a b c=>Zf5 (JR a) (JR b) (JR c)) (fun a b=>Zf4 (JR a) (JR b)),List.map_mergeSort (r:=fun b c:V × D=>leQ b.2 c.2) (s:=leQ) (f:=fun x:V × D=>x.2) (fun a _ b _=>rfl),z2]
    have hrr:Reps S.G O1 H2 ((L.mergeSort (PySem.W.dataLe false fun x=>Zac x.2)).map (·.1)) (Za3 leQ xs):=by
      rw[<- e1,<- e2,Vc]
      exact Zaz fun b hb=>z3 b ((List.mergeSort_perm _ _).mem_iff.mp hb)
    exact k _ _ (ZG hp) (.lst (.inl Xi) (Al.no w2.al hp) (hrr.keep (Kept.same (ZG hp))))
end
end Pu
namespace Pu
open PySem L2 PySem.Spec PyProof.Rows Pw
section
variable {K:PySem.W.Frag}{S:Sx K}{X:Cx}{kws:List Keyword}{fs:Env->R (List D)}{pos p:Pos}{ms pm:List Md}{x:Str}{ix:List Nat}{i j:Nat}{m:Md}
theorem ZlG{k:Nat}{f:Addr}{fd:FuncData}{ps ks:List Str}{g:List D->RF}(F:FnOkG X.prog X.w X.K X.mg X.base (L2.CX X.prog X.w) k f fd ps (SpF S.G S.xa pm g))(hr:RoomG k X.A)(hg:Gl X x)(hm:X.mg x=some (.ref f))(hk:PySem.W.keepIn X.K (.ref f)=true)(hb:KBx X.K fd ps ks 0 ix)(tk:Takes X S.W)
  (hj:S.M[j]?=some m)(ht:m.is .tab)(hp:pm[i]?=some (.op .tab))(hpm:YB ix ms=pm.set i .sh)(ha:PK X kws (lAs S ms fs))
  (hall:(backToKw pos (keywordEach kws X.env)).all (·.1.isSome)=true:=by rfl)(hks:(backToKw pos (keywordEach kws X.env)).filterMap (·.1)=ks:=by rfl)(hdb:(x ==("__debug__" :Str))=false:=by decide)
  (hpl:((backTo pos (starEach [] X.env)).any (·.1) || (backToKw pos (keywordEach kws X.env)).any (·.1.isNone))=false:=by rfl):PE X (.Call (.Name x p) [] kws pos) (lE S (Y0 ix ks.length g fs)):=by
 refine PE.of (ZhX (E:=WE S.W) F hr hg hm hk hb (fun σ=>passAt tk σ) ha hall hks hdb hpl) fun σ H Q ⟨B,O,Fs,ρ,w,run⟩=> ?_
 refine⟨B,O,Fs,ρ,w,run.bind fun ds ρ1 vs O1 Fs1 H1 _ ev1 w1 r1 run1=> ?_⟩
 by_cases hl:ds.length=ks.length
 ·rw[if_pos hl] at run1
  have r2:=Jc r1 ix
  rw[hpm] at r2
  exact⟨r1.len.1.trans (r1.len.2.symm.trans hl),ZlA w1 hj ht hp r2 run1⟩
 ·rw[if_neg hl] at run1; exact run1.elim
end
end Pu
namespace Pu
open PySem L2 PySem.Spec PyProof.Rows Pw
section
variable {X:Cx}{ke ve:Expr}{tk tv:TE}{pos:Pos}
def ZqF(X:Cx)(hs:NestedKey->Int)(tk tv:TE):TE:=fun σ H Q=>∀p,H p=none->tk σ (upd H p (NDO hs p [])) fun x H1=>tv σ H1 fun y H2=>∃H3,ZhA X.K (NestedKey.hash X.w) H2 p x y H3∧Q (.ref p) H3
theorem Zpm{hs:NestedKey->Int}(hu:X.A.units+8 < cLine)(hk:PE X ke tk)(hv:PE X ve tv):PE X (.Dict [some ke] [ve] pos) (ZqF X hs tk tv):=by
 constructor
 intro pins s σ H Q I want
 have fresh:=I.hok.fresh (XS s.heap.objs.size)
 have I1:=I.laid (a:=s.heap.objs.size) (o:=NDO hs s.heap.objs.size []) (h':=s.heap.push { cls:= .type "dict",data:= .dict #[] }) (t':=s.toks) (fun _ _ e=>Xe _ e) (XS _) (Zmx hs s.heap I.big)
 rw[arm_eval_Dict,zip_pairTrees [some ke] [ve] X.env pos rfl rfl,dictDisplay_pairs (pairTrees [some ke] [ve] X.env pos) (fun z=>by have:=VC List.length z; rw[VD [some ke] [ve] X.env pos rfl rfl] at this; cases this) (by rw[VD [some ke] [ve] X.env pos rfl rfl]; exact(by decide:1 < 17))]
 refine Xd (X4 (Xd ?_))
 unfold subDict
 refine Xd (wpAny_alloc (Xd (XT ?_)))
 rw[if_pos (by rw[VD [some ke] [ve] X.env pos rfl rfl]; exact(by decide:1<=15))]
 refine Xd (pairTrees_cons_walk (thn (hk.run pins _ σ _ _ I1 (want _ fresh)) fun u s1 ⟨x,H1,I2,rx,q1⟩=>thn (hv.run pins s1 σ H1 _ I2 q1) fun r s2 ⟨y,H2,I3,ry,H3,g,q⟩=>pairTrees_nil_walk ?_))
 refine XT ?_
 rw[VW]
 refine Xd (Xd ?_)
 show wpAny _ _ (dictSet s.heap.objs.size u r >>= fun _=>pure (ForInStep.yield PUnit.unit)) _ _ s2
 refine Xd (Zo2 hu I3 g rx ry fun s3 I4=> ?_)
 refine Xk ?_
 show wpAny (model X.prog X.w) X.A (pure PUnit.unit) _ _ _
 exact Xk (Xk (Xk (Xk ⟨.ref s.heap.objs.size,H3,I4,rfl,q⟩)))
end
section
variable {K:PySem.W.Frag}{S:Sx K}{X:Cx}{e1 e2:Expr}{f1 f2:Env->R D}{pos:Pos}
def Zkw(f1 f2:Env->R D):Env->R D:=fun ρ=>(f1 ρ).bind fun x ρ1=>(f2 ρ1).bind fun y ρ2=>R.of (Zbq (.dnk []) x y) ρ2
theorem Zp2(hh:S.G.hs=NestedKey.hash X.w)(hu:X.A.units+8 < cLine)(h1:PE X e1 (lE S f1))(h2:PE X e2 (lE S f2))(hK:X.K=K:=by rfl):PE X (.Dict [some e1] [e2] pos) (lF S .nk (Zkw f1 f2)):=by
 subst hK
 refine PE.of (Zpm (hs:=S.G.hs) hu h1 h2) fun σ H Q ⟨B,O,Fs,ρ,w,run⟩ p hp=> ?_
 obtain⟨wp,evp,np,kp⟩:=w.own1 (o:=NDO S.G.hs p []) hp ZjJ
 have pF:p∉Fs.flatten:=np.dj p (Xb.mpr rfl)
 have run:RunF S .nk (Zkw f1 f2 ρ) B O Fs H σ ρ Q:=run
 unfold Zkw at run
 refine⟨B,_,Fs,ρ,wp, ?_⟩
 cases ea:f1 ρ with
 |bad=>rw[ea] at run; exact run.elim
 |ex x ρ1 =>
  rw[ea] at run
  intro cls dd O' Fs' H' ev wd xr
  exact run cls dd O' Fs' H' (evp.trans ev) wd xr
 |ok x ρ1 =>
  rw[ea] at run
  intro v O1 Fs1 H1 ev1 w1 r1
  have evA:=evp.trans ev1
  have run:RunF S .nk ((f2 ρ1).bind fun y ρ2=>R.of (Zbq (.dnk []) x y) ρ2) B O Fs H σ ρ Q:=run
  refine⟨B,O1,Fs1,ρ1,w1, ?_⟩
  cases eb:f2 ρ1 with
  |bad=>rw[eb] at run; exact run.elim
  |ex y ρ2 =>
   rw[eb] at run
   intro cls dd O' Fs' H' ev wd xr
   exact run cls dd O' Fs' H' (evA.trans ev) wd xr
  |ok y ρ2 =>
   rw[eb] at run
   intro v3 O3 Fs3 H3 ev3 w3 r3
   have evB:=evA.trans ev3
   have r1':=r1.ev w1 ev3
   have pn1:p∉Fs1.flatten:=fun z=>by
    rcases ev1.fgrow p z with z|z
    ·exact pF z
    ·rw[Xi] at z; cases z
   have hp1:H1 p=some (NDO S.G.hs p []):=ev1.chg p _ Xi pF
   have hp3:H3 p=some (NDO S.G.hs p []):=ev3.chg p _ hp1 pn1
   have pn3:p∉Fs3.flatten:=fun z=>by
    rcases ev3.fgrow p z with z|z
    ·exact pn1 z
    ·rw[hp1] at z; cases z
   have op3:O3 p:=ev3.mono p (ev1.mono p (.inr rfl))
   have run:RunF S .nk (R.of (Zbq (.dnk []) x y) ρ2) B O Fs H σ ρ Q:=run
   cases ed:Zbq (.dnk []) x y with
   |none=>rw[ed] at run; exact run.elim
   |some d' =>
    rw[ed] at run
    have run:RunF S .nk (R.ok d' ρ2) B O Fs H σ ρ Q:=run
    have ow:Own S.G O3 H3 .nk (.ref p) (.dnk []) [p]:=⟨p,[],[],rfl,rfl,hp3,.nil,rfl⟩
    obtain⟨u,nu,dp,ow'⟩:=Zga ow op3 r1' r3 ed
    obtain⟨w4,ev4,k4⟩:=Zaa (u:=u) hp w w3 evB op3 pn3 nu
    exact⟨_,by rw[<- hh]; exact dp,run (.ref p) O3 Fs3 _ [p] ev4 w4 ow' ⟨by simp,fun c hc=>by rw[Xb.mp hc]; exact op3,fun c hc=>by rw[Xb.mp hc]; exact pn3,fun c hc=>by rw[Xb.mp hc]; exact hp⟩⟩
end
end Pu
namespace Pu
open PySem L2 PySem.Spec PyProof.Rows Pw
def Zdi(d:D)(lo hi:Option Int):Option D:=match d with
 |.klt ns=>some (.lst ((Jh ns lo hi).map .int))
 |d=>Zcn d lo hi
def ZfC(fa:Env->R D)(fl fh:Env->R (Option Int)):Env->R D:=fun ρ=>(fa ρ).bind fun x ρ1=>(fl ρ1).bind fun l ρ2=>(fh ρ2).bind fun h ρ3=>R.of (Zdi x l h) ρ3
theorem Zm5{α β:Type}(f:α->β)(xs:List α)(lo hi:Option Int):Jh (xs.map f) lo hi=(Jh xs lo hi).map f:=by
 unfold Jh
 rw[Xx,List.map_take,List.map_drop]
section
variable {K:PySem.W.Frag}{G:Gx K}{O:Addr->Prop}{F:List Addr}{H:Hp}
theorem ZeV:∀ns:List Int,Reps G O H (ns.map V.int) (ns.map D.int)
 |[]=> .nil
 |n::ns=> .cons (.int n) (ZeV ns)
theorem Zoa{x:V}{a d:D}{lo hi:Option Int}(al:Al O H)(e:Zdi a lo hi=some d)(h:BRep G O F H x a)(Q:VK)(k:∀v H',Same H H'->Rep G O H' v d->Q v H'):Zfs K x lo hi H Q:=by
 by_cases hk:∃ns,a= .klt ns
 ·obtain⟨ns,rfl⟩:=hk
  cases e
  obtain⟨p,rfl,r⟩:∃p,x= .ref p∧Zoi K p (ns.map V.int):=by
   rcases h with hb|⟨p,_,_,hb|hb|hb⟩
   ·cases hb with
    |klt r=>exact⟨_,rfl,r⟩
   ·obtain⟨_,_,_,_,_,z,_⟩:=hb
    cases z
   ·obtain⟨_,_,_,_,_,⟨_,z,_⟩|⟨_,z,_⟩⟩:=hb
    ·cases z
    ·cases z
   ·obtain⟨_,_,_,_,_,_,_,_,z,_⟩:=hb
    cases z
  refine .inl ⟨p,ns.map V.int,rfl,.inr r,fun q hq=>k _ _ (ZG hq) (.lst (.inl ?_) (Al.no al hq) (ZeV (Jh ns lo hi)))⟩
  show upd H q (.lst (cutV (ns.map V.int) lo hi)) q=_
  rw[Xi]
  congr 2
  exact Zm5 V.int ns lo hi
 ·have e2:Zdi a lo hi=Zcn a lo hi:=by
   cases a with
   |klt ns=>exact(hk ⟨_,rfl⟩).elim
   |_=>rfl
  exact Zlg al (e2 ▸ e) h Q k
end
section
variable {K:PySem.W.Frag}{S:Sx K}{X:Cx}{a:Expr}{fa:Env->R D}{pos:Pos}
theorem Zm6{lo hi:Option Expr}{p2:Pos}{fl fh:Env->R (Option Int)}(hK:X.K=K)(ha:PE X a (lB S fa))(hl:PO X lo (lO S fl))(hh:PO X hi (lO S fh)):PE X (.Subscript a (.Slice lo hi none p2) pos) (lE S (ZfC fa fl fh)):=by
 subst hK
 refine PE.of (pe_slice Zlf ha hl hh) fun σ H Q ⟨B,O,Fs,ρ,w,run⟩=>⟨B,O,Fs,ρ,w,run.bind fun x ρ1 v O1 Fs1 H1 _ ev1 w1 r1 run1=>⟨B,O1,Fs1,ρ1,w1,run1.bind fun l ρ2 l' O2 Fs2 H2 _ ev2 w2 r2 run2=>⟨B,O2,Fs2,ρ2,w2,run2.bind fun h ρ3 h' O3 Fs3 H3 _ ev3 w3 r3 run3=> ?_⟩⟩⟩
 cases (show l'=l from r2)
 cases (show h'=h from r3)
 exact run3.of (r:=fun Q=>Zfs X.K v l h H3 Q) w3 fun d e k=>Zoa w3.al e ((r1.ev w1 ev2).ev w2 ev3) Q k
end
end Pu
namespace Pu
open PySem L2 Pw
abbrev Jq:List Str:= ["names","pairs","found","middle","name","one","other"]
theorem Z4:FnScope Jq ["names","pairs"] (defScope Qj):=fsc (by decide +kernel)
abbrev Zdj:List Str:= ["values","value"]
theorem ZaA:FnScope Zdj ["values"] (defScope JJ):=fsc (by decide +kernel)
abbrev Zgg:List Str:= ["value"]
theorem ZfD:FnScope Zgg ["value"] (defScope Zau):=fsc (by decide +kernel)
abbrev ZlH:List Str:= ["value","sign"]
theorem ZcA:FnScope ZlH ["value"] (defScope ZcU):=fsc (by decide +kernel)
abbrev Zia:List Str:= ["value"]
theorem Zgh:FnScope Zia ["value"] (defScope ZaR):=fsc (by decide +kernel)
abbrev ZiR:List Str:= ["value"]
theorem Zib:FnScope ZiR ["value"] (defScope Zbz):=fsc (by decide +kernel)
abbrev Zkx:List Str:= ["places","value"]
theorem ZiS:FnScope Zkx ["places","value"] (defScope Zb7):=fsc (by decide +kernel)
abbrev Zic:List Str:= ["places","value","one","start","end","lost"]
theorem YY:FnScope Zic ["places","value"] (defScope ZaS):=fsc (by decide +kernel)
abbrev ZdN:List Str:= ["value","one"]
theorem QU:FnScope ZdN ["value"] (defScope Jf):=fsc (by decide +kernel)
abbrev n_Step___init__:List Str:= ["self","name","places","arrows","start","end","lost","place"]
theorem Z1:FnScope n_Step___init__ ["self","name","places","arrows"] (defScope ZU):=fsc (by decide +kernel)
abbrev Zb0:List Str:= ["self","head","lines","tail","start","end","lost"]
theorem YC:FnScope Zb0 ["self"] (defScope Q5):=fsc (by decide +kernel)
abbrev Zgi:List Str:= ["self","other"]
theorem ZfE:FnScope Zgi ["self","other"] (defScope Zav):=fsc (by decide +kernel)
abbrev ZiT:List Str:= ["value","one","step"]
theorem QV:FnScope ZiT ["value"] (defScope ZbA):=fsc (by decide +kernel)
abbrev Zdk:List Str:= ["value"]
theorem ZcQ:FnScope Zdk ["value"] (defScope QQ):=fsc (by decide +kernel)
abbrev ZiU:List Str:= ["spot","value","pair"]
theorem Za7:FnScope ZiU ["spot","value"] (defScope ZbB):=fsc (by decide +kernel)
abbrev n_Work___init__:List Str:= ["self","steps","ahead","step","number","name","place"]
theorem ZX:FnScope n_Work___init__ ["self","steps","ahead"] (defScope ZV):=fsc (by decide +kernel)
abbrev Zb1:List Str:= ["self","lines","step","one","other"]
theorem YV:FnScope Zb1 ["self"] (defScope Q6):=fsc (by decide +kernel)
abbrev ZfF:List Str:= ["self"]
theorem ZeW:FnScope ZfF ["self"] (defScope JZ):=fsc (by decide +kernel)
abbrev Zgj:List Str:= ["self","other"]
theorem ZfG:FnScope Zgj ["self","other"] (defScope Zaw):=fsc (by decide +kernel)
abbrev Zky:List Str:= ["value"]
theorem ZiV:FnScope Zky ["value"] (defScope Zb8):=fsc (by decide +kernel)
abbrev Zkz:List Str:= ["value"]
theorem ZiW:FnScope Zkz ["value"] (defScope Zb9):=fsc (by decide +kernel)
abbrev Zid:List Str:= ["value","one"]
theorem Qz:FnScope Zid ["value"] (defScope ZaT):=fsc (by decide +kernel)
abbrev ZdO:List Str:= ["self","place"]
theorem Zdl:FnScope ZdO ["self","place"] (defScope Jg):=fsc (by decide +kernel)
abbrev ZkA:List Str:= ["steps","value"]
theorem ZiX:FnScope ZkA ["steps","value"] (defScope Zca):=fsc (by decide +kernel)
abbrev Zie:List Str:= ["steps","value","one"]
theorem ZaB:FnScope Zie ["steps","value"] (defScope ZaU):=fsc (by decide +kernel)
abbrev n_Kitchen___init__:List Str:= ["self","work","traces","limits","step","trace","place","level"]
theorem Yf:FnScope n_Kitchen___init__ ["self","work","traces","limits"] (defScope ZK):=fsc (by decide +kernel)
abbrev ZiY:List Str:= ["word","digits","sign"]
theorem Za8:FnScope ZiY ["word","digits"] (defScope ZbC):=fsc (by decide +kernel)
abbrev ZkB:List Str:= ["piece","words","lost"]
theorem ZbO:FnScope ZkB ["piece"] (defScope Zcb):=fsc (by decide +kernel)
abbrev ZlI:List Str:= ["text","head","sign","rest","words","arrows","piece"]
theorem Qg:FnScope ZlI ["text"] (defScope ZcW):=fsc (by decide +kernel)
abbrev ZiZ:List Str:= ["cls","text","made"]
theorem Zdm:FnScope ZiZ ["cls","text"] (defScope QC):=fsc (by decide +kernel)
abbrev ZlJ:List Str:= ["line","words"]
theorem ZeX:FnScope ZlJ ["line"] (defScope ZcX):=fsc (by decide +kernel)
abbrev Zif:List Str:= ["lines","at","steps","pairs"]
theorem Jz:FnScope Zif ["lines","at"] (defScope ZaW):=fsc (by decide +kernel)
abbrev Zi0:List Str:= ["cls","text","lines","steps","pairs","at","step"]
theorem Y9:FnScope Zi0 ["cls","text"] (defScope QD):=fsc (by decide +kernel)
abbrev ZkC:List Str:= ["word"]
theorem Zi1:FnScope ZkC ["word"] (defScope Zcc):=fsc (by decide +kernel)
abbrev ZkD:List Str:= ["line","words","level"]
theorem ZbP:FnScope ZkD ["line"] (defScope Zcd):=fsc (by decide +kernel)
abbrev ZkE:List Str:= ["line","words","level","word"]
theorem Jr:FnScope ZkE ["line"] (defScope Zce):=fsc (by decide +kernel)
abbrev Zi2:List Str:= ["lines","at","traces","limits"]
theorem JS:FnScope Zi2 ["lines","at"] (defScope ZbD):=fsc (by decide +kernel)
abbrev ZfH:List Str:= ["cls","text","lines","steps","pairs","at","traces","limits","step"]
theorem Z7:FnScope ZfH ["cls","text"] (defScope J0):=fsc (by decide +kernel)
abbrev Zi3:List Str:= ["self","name"]
theorem Zig:FnScope Zi3 ["self","name"] (defScope QE):=fsc (by decide +kernel)
abbrev Zdn:List Str:= ["work","done","rest","name","one"]
theorem YJ:FnScope Zdn ["work","done"] (defScope JK):=fsc (by decide +kernel)
abbrev ZkF:List Str:= ["work","limit"]
theorem Zi4:FnScope ZkF ["work","limit"] (defScope Zcf):=fsc (by decide +kernel)
abbrev Zi5:List Str:= ["work","step","place"]
theorem Zih:FnScope Zi5 ["work","step","place"] (defScope ZbE):=fsc (by decide +kernel)
abbrev Zm7:List Str:= ["here","there","found","place","pair"]
theorem Zbs:FnScope Zm7 ["here","there"] (defScope Zd6):=fsc (by decide +kernel)
abbrev Znx:List Str:= ["here","step","found","place","level","way","end","lost","pair"]
theorem JT:FnScope Znx ["here","step"] (defScope Zgy):=fsc (by decide +kernel)
abbrev ZlK:List Str:= ["kitchen","trace","first","one","place","level","layer","found","later","lot","here","name","wide"]
theorem Yt:FnScope ZlK ["kitchen","trace"] (defScope ZcY):=fsc (by decide +kernel)
abbrev ZkG:List Str:= ["kitchen","trace","step","place","found","lot","here"]
theorem Js:FnScope ZkG ["kitchen","trace","step","place"] (defScope Zcg):=fsc (by decide +kernel)
abbrev Zi6:List Str:= ["kitchen","limit","trace","step","place","level"]
theorem QW:FnScope Zi6 ["kitchen","limit"] (defScope ZbF):=fsc (by decide +kernel)
abbrev Zob:List Str:= ["kitchen","at","limit"]
theorem ZcB:FnScope Zob ["kitchen"] (defScope Zfb):=fsc (by decide +kernel)
abbrev ZcR:List Str:= ["self","work"]
theorem ZcC:FnScope ZcR ["self","work"] (defScope QH):=fsc (by decide +kernel)
abbrev ZfI:List Str:= ["work","value","at","name"]
theorem JU:FnScope ZfI ["work","value"] (defScope Y7):=fsc (by decide +kernel)
abbrev Zgk:List Str:= ["self","pairs"]
theorem ZfJ:FnScope Zgk ["self","pairs"] (defScope Qd):=fsc (by decide +kernel)
abbrev Zi7:List Str:= ["kitchen","pairs","work"]
theorem Zdo:FnScope Zi7 ["kitchen","pairs"] (defScope QF):=fsc (by decide +kernel)
abbrev Zad:List Str:= ["kitchen","names","pairs","single","rest","double","at","pair","one","other"]
theorem ZD:FnScope Zad ["kitchen"] (defScope Yv):=fsc (by decide +kernel)
abbrev ZcL:List Str:= ["work","counts","turn","later","done","many","name","lot","one"]
theorem ZT:FnScope ZcL ["work"] (defScope YW):=fsc (by decide +kernel)
abbrev ZeY:List Str:= ["self","one","other"]
theorem Zet:FnScope ZeY ["self","one","other"] (defScope YT):=fsc (by decide +kernel)
abbrev Zi8:List Str:= ["kitchen","at","limit"]
theorem Za9:FnScope Zi8 ["kitchen"] (defScope ZbG):=fsc (by decide +kernel)
abbrev Zgl:List Str:= ["way","last","places","found","place","name","end"]
theorem Qu:FnScope Zgl ["way","last","places"] (defScope Zax):=fsc (by decide +kernel)
abbrev ZlL:List Str:= ["lot","other","one"]
theorem ZcD:FnScope ZlL ["lot","other"] (defScope ZcZ):=fsc (by decide +kernel)
abbrev ZkH:List Str:= ["lots","found","lot","other"]
theorem Jt:FnScope ZkH ["lots"] (defScope Q7):=fsc (by decide +kernel)
abbrev Zgm:List Str:= ["self","place","arrow"]
theorem Zae:FnScope Zgm ["self","place"] (defScope Qe):=fsc (by decide +kernel)
abbrev ZcM:List Str:= ["self","pairs","changed","name","place","step"]
theorem Yy:FnScope ZcM ["self","pairs"] (defScope YX):=fsc (by decide +kernel)
abbrev Zeu:List Str:= ["kitchen","places","waiting","known","found","chosen","harm","one","wide"]
theorem YH:FnScope Zeu ["kitchen","places"] (defScope YN):=fsc (by decide +kernel)
abbrev ZkI:List Str:= ["work","value"]
theorem Zi9:FnScope ZkI ["work","value"] (defScope Q8):=fsc (by decide +kernel)
abbrev Zja:List Str:= ["self","start","end"]
theorem Zii:FnScope Zja ["self","start","end"] (defScope QG):=fsc (by decide +kernel)
abbrev Zp3:List Str:= ["_law_script","_law_zone","_law_zcell","_law_zlines","_law_zmade","_law_zwork","_law_zstep","_law_zfound","_law_zcut","_law_zright"]
theorem Qv:FnScope Zp3 ["_law_script"] (defScope Zgz):=fsc (by decide +kernel)
theorem ZfK:XTx Jk "word" :=⟨⟨_,_,_,_,_,_,_,_,_,_,_,_,_,rfl,.inl ⟨_,_,_,rfl⟩,by decide +kernel,rfl,rfl,fun _ _ _ _ _ _ _ _ _ _ _=>rfl,by decide +kernel,by decide +kernel,by decide +kernel,by decide +kernel,by decide +kernel,by decide +kernel,by decide +kernel,by decide +kernel,by decide +kernel,by decide +kernel,by decide +kernel⟩⟩
theorem ZfL:XTx Jl "word" :=⟨⟨_,_,_,_,_,_,_,_,_,_,_,_,_,rfl,.inl ⟨_,_,_,rfl⟩,by decide +kernel,rfl,rfl,fun _ _ _ _ _ _ _ _ _ _ _=>rfl,by decide +kernel,by decide +kernel,by decide +kernel,by decide +kernel,by decide +kernel,by decide +kernel,by decide +kernel,by decide +kernel,by decide +kernel,by decide +kernel,by decide +kernel⟩⟩
theorem ZdP:XTx QK "word" :=⟨⟨_,_,_,_,_,_,_,_,_,_,_,_,_,rfl,.inl ⟨_,_,_,rfl⟩,by decide +kernel,rfl,rfl,fun _ _ _ _ _ _ _ _ _ _ _=>rfl,by decide +kernel,by decide +kernel,by decide +kernel,by decide +kernel,by decide +kernel,by decide +kernel,by decide +kernel,by decide +kernel,by decide +kernel,by decide +kernel,by decide +kernel⟩⟩
theorem ZfM:XTx Jm "at" :=⟨⟨_,_,_,_,_,_,_,_,_,_,_,_,_,rfl,.inl ⟨_,_,_,rfl⟩,by decide +kernel,rfl,rfl,fun _ _ _ _ _ _ _ _ _ _ _=>rfl,by decide +kernel,by decide +kernel,by decide +kernel,by decide +kernel,by decide +kernel,by decide +kernel,by decide +kernel,by decide +kernel,by decide +kernel,by decide +kernel,by decide +kernel⟩⟩
theorem ZlM:XTx ZaE "name" :=⟨⟨_,_,_,_,_,_,_,_,_,_,_,_,_,rfl,.inr ⟨_,rfl⟩,by decide +kernel,rfl,rfl,fun _ _ _ _ _ _ _ _ _ _ _=>rfl,by decide +kernel,by decide +kernel,by decide +kernel,by decide +kernel,by decide +kernel,by decide +kernel,by decide +kernel,by decide +kernel,by decide +kernel,by decide +kernel,by decide +kernel⟩⟩
theorem ZkJ:XTx Zan "name" :=⟨⟨_,_,_,_,_,_,_,_,_,_,_,_,_,rfl,.inr ⟨_,rfl⟩,by decide +kernel,rfl,rfl,fun _ _ _ _ _ _ _ _ _ _ _=>rfl,by decide +kernel,by decide +kernel,by decide +kernel,by decide +kernel,by decide +kernel,by decide +kernel,by decide +kernel,by decide +kernel,by decide +kernel,by decide +kernel,by decide +kernel⟩⟩
def YQ(n:Str):Shp:=if n="leads" then .dct (.lst .sh) else .sh
structure Txt (P:Program) (w:World) (K:PySem.W.Frag) (mg:Str->Option Value) where
 bl:∀x∈(["abs","all","any","bool","dict","enumerate","int","isinstance","len","list","range","sorted","str","sum","tuple"]:List Str),mg x=none
 qa:Tok
 qb:mg "DIGITS_kitchens" =some (.int 19 qa)
 qc:Tok
 qd:mg "DIGITS_steps" =some (.int 19 qc)
 qe:Tok
 qf:mg "DIGITS_words" =some (.str "0123456789" qe)
 qg:Tok
 qh:mg "LETTERS" =some (.str "abcdefghijklmnopqrstuvwxyz" qg)
 qi:Tok
 qj:mg "LIMIT_WORDS" =some (.int 5 qi)
 qk:Addr
 ql:mg "RESERVED" =some (.ref qk)
 qm:KTup K qk [.str "at",.str "go",.str "ahead",.str "trace",.str "limit",.str "work"]
 qp:Tok
 qr:mg "TRACE_WORDS" =some (.int 4 qp)
 qs:UFn K mg "all_ahead" "all_ahead" Qj ["names","pairs"]
 qt:UFn K mg "are_unlike" "are_unlike" JJ ["values"]
 qu:UFn K mg "is_sequence" "is_sequence" Zau ["value"]
 qv:UFn K mg "is_name" "is_name" ZcU ["value"]
 qw:UFn K mg "is_integer" "is_integer" ZaR ["value"]
 qx:UFn K mg "is_number" "is_number" Zbz ["value"]
 qy:UFn K mg "is_arrow" "is_arrow" Zb7 ["places","value"]
 q1a:UFn K mg "are_arrows" "are_arrows" ZaS ["places","value"]
 q1b:UFn K mg "is_row_of_names" "is_row_of_names" Jf ["value"]
 q1c:Addr
 q1d:FuncData
 q1e:Addr
 q1f:KTup K q1e []
 q1g:FunD K "__init__" "Step.__init__" (defArgs ZU) (defBody ZU) (defScope ZU) [.ref q1e] [] q1c q1d
 n_Step___init__:Binds K q1d ["self","name","places","arrows"] []
 q1h:∃ds,Vals [.ref q1e] ds∧Binds K q1d ["self","name","places","arrows"] ds
 q1i:UMe K "__str__" "Step.__str__" Q5 ["self"]
 q1j:UMe K "__eq__" "Step.__eq__" Zav ["self","other"]
 q1k:UFn K mg "are_steps" "are_steps" ZbA ["value"]
 q1l:UFn K mg "is_pair_of_names" "is_pair_of_names" QQ ["value"]
 q1m:UFn K mg "are_pairs" "are_pairs" ZbB ["spot","value"]
 q1n:Addr
 q1o:FuncData
 q1p:Addr
 q1q:KTup K q1p []
 q1r:FunD K "__init__" "Work.__init__" (defArgs ZV) (defBody ZV) (defScope ZV) [.ref q1p] [] q1n q1o
 n_Work___init__:Binds K q1o ["self","steps","ahead"] []
 q1s:∃ds,Vals [.ref q1p] ds∧Binds K q1o ["self","steps","ahead"] ds
 q1t:UMe K "__str__" "Work.__str__" Q6 ["self"]
 q1u:UMe K "__len__" "Work.__len__" JZ ["self"]
 q1v:UMe K "__eq__" "Work.__eq__" Zaw ["self","other"]
 q1w:UFn K mg "is_level" "is_level" Zb8 ["value"]
 q1x:UFn K mg "is_trace" "is_trace" Zb9 ["value"]
 q1y:UFn K mg "are_traces" "are_traces" ZaT ["value"]
 q1z:UMe K "is_touched" "Step.is_touched" Jg ["self","place"]
 q2a:UFn K mg "is_limit" "is_limit" Zca ["steps","value"]
 q2b:UFn K mg "are_limits" "are_limits" ZaU ["steps","value"]
 q2c:Addr
 q2d:FuncData
 q2e:Addr
 q2f:KTup K q2e []
 q2g:Addr
 q2h:KTup K q2g []
 q2i:FunD K "__init__" "Kitchen.__init__" (defArgs ZK) (defBody ZK) (defScope ZK) [.ref q2e,.ref q2g] [] q2c q2d
 n_Kitchen___init__:Binds K q2d ["self","work","traces","limits"] []
 q2j:∃ds,Vals [.ref q2g] ds∧Binds K q2d ["self","work","traces","limits"] ds
 q2k:∃ds,Vals [.ref q2e,.ref q2g] ds∧Binds K q2d ["self","work","traces","limits"] ds
 q2l:UFn K mg "tail_lines" "tail_lines" ZcV ["traces","limits"]
 q2m:UMe K "__str__" "Kitchen.__str__" ZaD ["self"]
 q2n:UMe K "__eq__" "Kitchen.__eq__" ZaV ["self","other"]
 q2o:UFn K mg "number_in" "number_in" ZbC ["word","digits"]
 q2p:UFn K mg "arrow_in" "arrow_in" Zcb ["piece"]
 q2q:UFn K mg "step_in" "step_in" ZcW ["text"]
 q2r:UMe K "read" "Step.read" QC ["cls","text"]
 q2s:UFn K mg "pair_in" "pair_in" ZcX ["line"]
 q2t:UFn K mg "read_lines" "read_lines" ZaW ["lines","at"]
 q2u:UMe K "read" "Work.read" QD ["cls","text"]
 q2v:UFn K mg "level_in" "level_in" Zcc ["word"]
 q2w:UFn K mg "trace_in" "trace_in" Zcd ["line"]
 q2x:UFn K mg "limit_in" "limit_in" Zce ["line"]
 q2y:UFn K mg "read_tail" "read_tail" ZbD ["lines","at"]
 q2z:UMe K "read" "Kitchen.read" J0 ["cls","text"]
 q37:UMe K "step" "Work.step" QE ["self","name"]
 q38:UFn K mg "next_steps" "next_steps" JK ["work","done"]
 q39:UFn K mg "leads_on" "leads_on" Zcf ["work","limit"]
 q3a:UFn K mg "need_step" "need_step" ZbE ["work","step","place"]
 q3b:UFn K mg "joined" "joined" Zd6 ["here","there"]
 u_led:UFn K mg "led" "led" Zgy ["here","step"]
 q3c:UFn K mg "lots_of" "lots_of" ZcY ["kitchen","trace"]
 q3d:UFn K mg "best_way" "best_way" Zcg ["kitchen","trace","step","place"]
 q3e:UFn K mg "is_harmed" "is_harmed" ZbF ["kitchen","limit"]
 q3f:UFn K mg "harms" "harms" Zfb ["kitchen"]
 q3g:UMe K "with_work" "Kitchen.with_work" QH ["self","work"]
 q3h:UFn K mg "is_beginning" "is_beginning" Y7 ["work","value"]
 q3i:UMe K "fenced" "Work.fenced" Qd ["self","pairs"]
 q3j:UFn K mg "is_fenced" "is_fenced" QF ["kitchen","pairs"]
 q3k:UFn K mg "least_fences" "least_fences" Yv ["kitchen"]
 q3l:UFn K mg "many_orders" "many_orders" YW ["work"]
 q3m:UMe K "is_ahead" "Work.is_ahead" YT ["self","one","other"]
 q3n:UFn K mg "some_harm" "some_harm" ZbG ["kitchen"]
 q3o:UFn K mg "washings_on" "washings_on" Zax ["way","last","places"]
 q3p:UFn K mg "is_part" "is_part" ZcZ ["lot","other"]
 q3q:UFn K mg "least_of" "least_of" Q7 ["lots"]
 q3r:UMe K "washed" "Step.washed" Qe ["self","place"]
 q3s:UMe K "washed" "Work.washed" YX ["self","pairs"]
 q3t:UFn K mg "least_washings" "least_washings" YN ["kitchen","places"]
 q3u:UFn K mg "is_order" "is_order" Q8 ["work","value"]
 q3v:UMe K "loss" "Step.loss" QG ["self","start","end"]
 u_law:UFn K mg "law" "law" Zgz ["_law_script"]
 q3w:KBx K q1d ["self","name","places","arrows"] ["arrows","places","name"] 1 [2,1,0]
 q3x:KBx K q3t.d ["kitchen","places"] ["places","kitchen"] 0 [1,0]
 q3y:KBx K q3j.d ["kitchen","pairs"] ["pairs","kitchen"] 0 [1,0]
 q3z:KBx K q3j.d ["kitchen","pairs"] ["kitchen","pairs"] 0 [0,1]
 q40:KBx K q3k.d ["kitchen"] ["kitchen"] 0 [0]
 q41:KBx K q2u.d ["cls","text"] ["text"] 1 [0]
 q42:KBx K q3h.d ["work","value"] ["value","work"] 0 [1,0]
 q43:KBx K q3m.d ["self","one","other"] ["other","one"] 1 [1,0]
 q44:KBx K q3i.d ["self","pairs"] ["pairs"] 1 [0]
 q45:KBx K q1o ["self","steps","ahead"] ["ahead","steps"] 1 [1,0]
 q46:KBx K q3l.d ["work"] ["work"] 0 [0]
 q47:KBx K q3u.d ["work","value"] ["value","work"] 0 [1,0]
 q48:KBx K q2r.d ["cls","text"] ["text"] 1 [0]
 q49:KBx K q3v.d ["self","start","end"] ["end","start"] 1 [1,0]
 q4a:KBx K q37.d ["self","name"] ["name"] 1 [0]
 q4b:KBx K q3r.d ["self","place"] ["place"] 1 [0]
 q4c:KBx K q3s.d ["self","pairs"] ["pairs"] 1 [0]
 q4d:UEx mg "InvalidKitchen"
 q4e:UEx mg "InvalidStep"
 q4f:UEx mg "InvalidText"
 q4g:UEx mg "InvalidWork"
 q4h:UCl K mg "Kitchen"
 q4i:UEx mg "NoPlace"
 q4j:UEx mg "NoStep"
 q4k:UCl K mg "Step"
 q4l:UCl K mg "Work"
 q4m:Addr
 q4n:InitK P K "ValueError" "ValueError.__new__" "ValueError.__init__" Zg1 q4e.a q4m "word"
 q4o:Addr
 q4p:InitK P K "ValueError" "ValueError.__new__" "ValueError.__init__" Zg1 q4g.a q4o "word"
 q4q:Addr
 q4r:InitK P K "ValueError" "ValueError.__new__" "ValueError.__init__" Zg1 q4d.a q4q "word"
 q4s:Addr
 q4t:InitK P K "ValueError" "ValueError.__new__" "ValueError.__init__" Zg1 q4f.a q4s "at"
 q4u:Addr
 q4v:InitK P K "KeyError" "LookupError.__new__" "KeyError.__init__" Zg2 q4j.a q4u "name"
 q4w:Addr
 q4x:InitK P K "KeyError" "LookupError.__new__" "KeyError.__init__" Zg2 q4i.a q4w "name"
 q4y:ExC K q4g.a
 q4z:PySem.W.subIn K (.ref q4d.a) (.ref q4g.a)=some false
 q50:PySem.W.subIn K (.ref q4e.a) (.ref q4g.a)=some false
 q51:PySem.W.subIn K (.ref q4f.a) (.ref q4g.a)=some false
 q52:PySem.W.subIn K (.ref q4g.a) (.ref q4g.a)=some true
 q53:PySem.W.subIn K (.ref q4i.a) (.ref q4g.a)=some false
 q54:PySem.W.subIn K (.ref q4j.a) (.ref q4g.a)=some false
 q55:Addr
 q56:Addr
 q57:q3q.d.code= .ref q55
 tnd:([q56]:List Addr).Nodup
 q58:Mk K q4h.a q2c
 q59:Meth K q4h.a "__str__" q2m.a
 q5a:Meth K q4h.a "__eq__" q2n.a
 q5b:Meth K q4h.a "with_work" q3g.a
 q5c:Value
 q5d:ClX.CRead K q4h.a q5c
 q5e:Addr
 q5f:ClX.CMet K q4h.a q5c "read" q5e q2z.a
 q5g:∀f∈(["work","traces","limits","starts"]:List Str),NoAttr K q4h.a f
 q5h:∀e∈([q4k.a,q4l.a]:List Addr),PySem.W.kitOne K (.ref q4h.a) (.ref e)=some false
 q5i:Mk K q4k.a q1c
 q5j:Meth K q4k.a "__str__" q1i.a
 q5k:Meth K q4k.a "__eq__" q1j.a
 q5l:Meth K q4k.a "is_touched" q1z.a
 q5m:Meth K q4k.a "washed" q3r.a
 q5n:Meth K q4k.a "loss" q3v.a
 q5o:Value
 q5p:ClX.CRead K q4k.a q5o
 q5q:Addr
 q5r:ClX.CMet K q4k.a q5o "read" q5q q2r.a
 q5s:∀f∈(["name","places","arrows","losses","leads"]:List Str),NoAttr K q4k.a f
 q5t:∀e∈([q4h.a,q4l.a]:List Addr),PySem.W.kitOne K (.ref q4k.a) (.ref e)=some false
 q5u:Mk K q4l.a q1n
 q5v:Meth K q4l.a "__str__" q1t.a
 q5w:Meth K q4l.a "__len__" q1u.a
 q5x:Meth K q4l.a "__eq__" q1v.a
 q5y:Meth K q4l.a "step" q37.a
 q5z:Meth K q4l.a "fenced" q3i.a
 q60:Meth K q4l.a "is_ahead" q3m.a
 q61:Meth K q4l.a "washed" q3s.a
 q62:Value
 q63:ClX.CRead K q4l.a q62
 q64:Addr
 q65:ClX.CMet K q4l.a q62 "read" q64 q2u.a
 q66:∀f∈(["steps","names","spot","ahead","after","places"]:List Str),NoAttr K q4l.a f
 q67:∀e∈([q4h.a,q4k.a]:List Addr),PySem.W.kitOne K (.ref q4l.a) (.ref e)=some false
theorem Zp4{P:Program}{w:World}{K:PySem.W.Frag}{mg:Str->Option Value}(T:Txt P w K mg):mg "abs" =none:=T.bl _ (.head _)
theorem Zam{P:Program}{w:World}{K:PySem.W.Frag}{mg:Str->Option Value}(T:Txt P w K mg):mg "all" =none:=T.bl _ (.tail _ (.head _))
theorem ZkK{P:Program}{w:World}{K:PySem.W.Frag}{mg:Str->Option Value}(T:Txt P w K mg):mg "any" =none:=T.bl _ (.tail _ (.tail _ (.head _)))
theorem Zpn{P:Program}{w:World}{K:PySem.W.Frag}{mg:Str->Option Value}(T:Txt P w K mg):mg "bool" =none:=T.bl _ (.tail _ (.tail _ (.tail _ (.head _))))
theorem Zpo{P:Program}{w:World}{K:PySem.W.Frag}{mg:Str->Option Value}(T:Txt P w K mg):mg "dict" =none:=T.bl _ (.tail _ (.tail _ (.tail _ (.tail _ (.head _)))))
theorem Ju{P:Program}{w:World}{K:PySem.W.Frag}{mg:Str->Option Value}(T:Txt P w K mg):mg "enumerate" =none:=T.bl _ (.tail _ (.tail _ (.tail _ (.tail _ (.tail _ (.head _))))))
theorem ZgW{P:Program}{w:World}{K:PySem.W.Frag}{mg:Str->Option Value}(T:Txt P w K mg):mg "int" =none:=T.bl _ (.tail _ (.tail _ (.tail _ (.tail _ (.tail _ (.tail _ (.head _)))))))
theorem Z5{P:Program}{w:World}{K:PySem.W.Frag}{mg:Str->Option Value}(T:Txt P w K mg):mg "isinstance" =none:=T.bl _ (.tail _ (.tail _ (.tail _ (.tail _ (.tail _ (.tail _ (.tail _ (.head _))))))))
theorem Z3{P:Program}{w:World}{K:PySem.W.Frag}{mg:Str->Option Value}(T:Txt P w K mg):mg "len" =none:=T.bl _ (.tail _ (.tail _ (.tail _ (.tail _ (.tail _ (.tail _ (.tail _ (.tail _ (.head _)))))))))
theorem Zpp{P:Program}{w:World}{K:PySem.W.Frag}{mg:Str->Option Value}(T:Txt P w K mg):mg "list" =none:=T.bl _ (.tail _ (.tail _ (.tail _ (.tail _ (.tail _ (.tail _ (.tail _ (.tail _ (.tail _ (.head _))))))))))
theorem Zoc{P:Program}{w:World}{K:PySem.W.Frag}{mg:Str->Option Value}(T:Txt P w K mg):mg "range" =none:=T.bl _ (.tail _ (.tail _ (.tail _ (.tail _ (.tail _ (.tail _ (.tail _ (.tail _ (.tail _ (.tail _ (.head _)))))))))))
theorem QX{P:Program}{w:World}{K:PySem.W.Frag}{mg:Str->Option Value}(T:Txt P w K mg):mg "sorted" =none:=T.bl _ (.tail _ (.tail _ (.tail _ (.tail _ (.tail _ (.tail _ (.tail _ (.tail _ (.tail _ (.tail _ (.tail _ (.head _))))))))))))
theorem ZaJ{P:Program}{w:World}{K:PySem.W.Frag}{mg:Str->Option Value}(T:Txt P w K mg):mg "str" =none:=T.bl _ (.tail _ (.tail _ (.tail _ (.tail _ (.tail _ (.tail _ (.tail _ (.tail _ (.tail _ (.tail _ (.tail _ (.tail _ (.head _)))))))))))))
theorem Zp5{P:Program}{w:World}{K:PySem.W.Frag}{mg:Str->Option Value}(T:Txt P w K mg):mg "sum" =none:=T.bl _ (.tail _ (.tail _ (.tail _ (.tail _ (.tail _ (.tail _ (.tail _ (.tail _ (.tail _ (.tail _ (.tail _ (.tail _ (.tail _ (.head _))))))))))))))
theorem Z8{P:Program}{w:World}{K:PySem.W.Frag}{mg:Str->Option Value}(T:Txt P w K mg):mg "tuple" =none:=T.bl _ (.tail _ (.tail _ (.tail _ (.tail _ (.tail _ (.tail _ (.tail _ (.tail _ (.tail _ (.tail _ (.tail _ (.tail _ (.tail _ (.tail _ (.head _)))))))))))))))
end Pu
namespace Pu
open PySem L2 Pw
section
variable {P:Program}{w:World}{K:PySem.W.Frag}{mg:Str->Option Value}{base:Heap}
def caF(T:Txt P w K mg)(c:String):Option Addr:=if c="Kitchen" then some T.q4h.a else if c="Step" then some T.q4k.a else if c="Work" then some T.q4l.a else none
def xaF(T:Txt P w K mg)(c:String):Option Addr:=if c="InvalidKitchen" then some T.q4d.a else if c="InvalidStep" then some T.q4e.a else if c="InvalidText" then some T.q4f.a else if c="InvalidWork" then some T.q4g.a else if c="NoPlace" then some T.q4i.a else if c="NoStep" then some T.q4j.a else none
def gxF(T:Txt P w K mg):Gx K where
 ca:=caF T
 hs:=NestedKey.hash w
 oc:=fun {c a} h=>by
  unfold caF at h
  split at h
  ·cases h; exact T.q4h.o
  split at h
  ·cases h; exact T.q4k.o
  split at h
  ·cases h; exact T.q4l.o
  cases h
 tb:= [(T.q56,((("least_of" :Str)++(".<locals>." :Str))++("<lambda>" :Str)))]
 di:=fun {c c' a b} h h' hn=>by
  unfold caF at h h'
  split at h
  ·rename_i hc
   cases h
   split at h'
   ·rename_i he
    cases h'
    exact absurd (hc.trans he.symm) hn
   split at h'
   ·rename_i he
    cases h'
    exact(T.q5h _ (.head _))
   split at h'
   ·rename_i he
    cases h'
    exact(T.q5h _ (.tail _ (.head _)))
   cases h'
  split at h
  ·rename_i hc
   cases h
   split at h'
   ·rename_i he
    cases h'
    exact(T.q5t _ (.head _))
   split at h'
   ·rename_i he
    cases h'
    exact absurd (hc.trans he.symm) hn
   split at h'
   ·rename_i he
    cases h'
    exact(T.q5t _ (.tail _ (.head _)))
   cases h'
  split at h
  ·rename_i hc
   cases h
   split at h'
   ·rename_i he
    cases h'
    exact(T.q67 _ (.head _))
   split at h'
   ·rename_i he
    cases h'
    exact(T.q67 _ (.tail _ (.head _)))
   split at h'
   ·rename_i he
    cases h'
    exact absurd (hc.trans he.symm) hn
   cases h'
  cases h
abbrev OkU{P:Program}{w:World}{K:PySem.W.Frag}{mg:Str->Option Value}(base:Heap)(T:Txt P w K mg)(k:Nat){n q:Str}{st:Stmt}{ps:List Str}(u:UFn K mg n q st ps)(pm:List Md)(f:List D->RF):Prop:=FnOkG P w K mg base (L2.CX P w) k u.a u.d ps (SpF (gxF T) (xaF T) pm f)
abbrev OkM{P:Program}{w:World}{K:PySem.W.Frag}{mg:Str->Option Value}(base:Heap)(T:Txt P w K mg)(k:Nat){n q:Str}{st:Stmt}{ps:List Str}(u:UMe K n q st ps)(pm:List Md)(f:List D->RF):Prop:=FnOkG P w K mg base (L2.CX P w) k u.a u.d ps (SpF (gxF T) (xaF T) pm f)
def JV(n:String):Bool:=n == "InvalidWork"
theorem ZeZ(T:Txt P w K mg):∀n D,xaF T n=some D->PySem.W.exmOne K (.ref D) (.ref T.q4g.a)=some (JV n):=by
 intro n D h
 unfold xaF at h
 split at h
 ·rename_i hc
  cases h
  subst hc
  exact T.q4y.exm T.q4z
 split at h
 ·rename_i hc
  cases h
  subst hc
  exact T.q4y.exm T.q50
 split at h
 ·rename_i hc
  cases h
  subst hc
  exact T.q4y.exm T.q51
 split at h
 ·rename_i hc
  cases h
  subst hc
  exact T.q4y.exm T.q52
 split at h
 ·rename_i hc
  cases h
  subst hc
  exact T.q4y.exm T.q53
 split at h
 ·rename_i hc
  cases h
  subst hc
  exact T.q4y.exm T.q54
 cases h
def ZkL(T:Txt P w K mg):List (Addr × Addr):= [(T.q55,T.q56)]
theorem Zdp(T:Txt P w K mg):(T.q56,((("least_of" :Str)++(".<locals>." :Str))++("<lambda>" :Str)))∈(gxF T).tb:= .head _
theorem Zij(T:Txt P w K mg)(hB:∀p∈ZkL T,LamX.TabB base mg p.1 p.2):LamX.TabB base mg T.q55 T.q56:=hB (T.q55,T.q56) (.head _)
theorem Zik(T:Txt P w K mg):∀p∈(gxF T).tb,p.1=T.q56->p.2=((("least_of" :Str)++(".<locals>." :Str))++("<lambda>" :Str)):=Zn0 (show ((gxF T).tb.map (·.1)).Nodup from T.tnd) (Zdp T)
end
end Pu
namespace Pu
open PySem L2 Pw
section
variable {P:Program}{w:World}{K:PySem.W.Frag}{mg:Str->Option Value}{base:Heap}
def Zjb:Env->RS:=(Zg (ZB 2 (sDc (fun _ _=>false) (sIt D.seq (sV 0)) (Zh 4) ZO (sV 4) (sDc (fun _ _=>false) (sIt D.seq (sV 1)) (Yu 2 (Pu.tCons (Zh 5) (Pu.tCons (Zh 6) Pu.tNil))) (sB (sOp gEq (sV 6) (sV 4))) (sV 5) (sC (.bl true)) [5,6]) [4]))
  (Zg (Ym (sIt D.seq (sV 0)) (Zh 3)
  (Ym (sIt D.seq (sV 0)) (Zh 4)
  (ZW (sB (sOp (gIn false) (sV 3) (sOp gIx (sV 2) (sV 4))))
  (Zc3 2 (sV 4) (Zke (sOp gIx (sV 2) (sV 4)) (sOp gIx (sV 2) (sV 3))))
  sNx)))
  (Zu (sDc (fun _ _=>false) (sIt D.seq (sV 0)) (Zh 4) ZO (sV 4) (sAs (g1 Yd) (Za (sLc (sIt D.seq (sV 0)) (Zh 5) (sB (sOp (gIn false) (sV 5) (sOp gIx (sV 2) (sV 4)))) (sV 5) [5]) Zb)) [4]))))
def ZdU:List D->RF:=Zx [.sh,.sh] 5 Zjb
theorem Zil(T:Txt P w K mg):OkU base T 1 T.qs [.sh,.sh] ZdU:=oku Z4 fun _ _ _ _ _ _ hr =>
  (Zc (JM (i:=2) Z4.nd rfl (Or.inr rfl) (Zcu (b:=(fun _ _=>false)) (own:= [("name",4)]) (us:= [4]) (u1 hr) (by rfl) Z4.nd (ZA rfl (vs 0)) (X8 (own:= [("name",4)]) (N:=Jq) (sc:=defScope Qj) (by decide +kernel)) rfl (by decide) (Nk.na 4 (Nk.refl _)) (fun _ _ _ _ _=>(Za0 (i:=4) Z4.nd rfl (Or.inr rfl) rfl (Or.inl rfl))) (fun _ _ _ _ _=>ZC) (fun _ _ _ _ _=>(ws 4)) (fun _ _ _ _ _=>(ZL (Zcu (b:=(fun _ _=>false)) (own:= [("one",5),("other",6)]) (us:= [5,6]) (u1 hr) (by rfl) Z4.nd (ZA rfl (vs 1)) (X8 (own:= [("one",5),("other",6)]) (N:=Jq) (sc:=(relS _ (defScope Qj))) (by decide +kernel)) rfl (by decide) (Nk.na 5 (Nk.na 6 (Nk.refl _))) (fun _ _ _ _ _=>(Yh rfl rfl (Zm (gn 5 Z4.nd) (Zm (gn 6 Z4.nd) Z0)))) (fun _ _ _ _ _=>(Qp (Zeb rfl (u64 hr) (vs 6) (vs 4)))) (fun _ _ _ _ _=>(ws 5)) (fun _ _ _ _ _=>Qc))))) wk rfl)
  (Zc (Qm (XG rfl) rfl (ZA rfl (vs 0)) wk (gn 3 Z4.nd) rfl rfl
  (Zf (ZQ (Wk.na 3 (Wk.refl _)) (Qm (XG rfl) rfl (ZA rfl (vs 0)) wk (gn 4 Z4.nd) rfl rfl
  (Zf (ZZ (ZbH rfl (u65 hr) (vs 3) (p_b (JL (j:=2) rfl (Or.inl rfl) (Or.inl rfl) (Zr rfl (u1 hr) (vb 2) (vs 4) (fun _ _=>rfl)))) (by rfl)) wk
  (Zf (ZQ (Wk.na 4 (Wk.refl _)) (Zcr (u1 hr) (pv 2) rfl (Or.inl rfl) (ws 4) (ZL (ZpQ (JL (j:=2) rfl (Or.inl rfl) (Or.inl rfl) (Zr rfl (u1 hr) (vb 2) (vs 4) (fun _ _=>rfl))) (JL (j:=2) rfl (Or.inl rfl) (Or.inl rfl) (Zr rfl (u1 hr) (vb 2) (vs 3) (fun _ _=>rfl))))) wk)))
  (Jn (Wk.na 4 (Wk.refl _)) ZJ)))))))
  (Zf (YS (Wk.fr 2 _ rfl (Wk.refl _)) rfl (Zp (ZL (Zcu (b:=(fun _ _=>false)) (own:= [("name",4)]) (us:= [4]) (u1 hr) (by rfl) Z4.nd (ZA rfl (vs 0)) (X8 (own:= [("name",4)]) (N:=Jq) (sc:=defScope Qj) (by decide +kernel)) rfl (by decide) (Nk.na 4 (Nk.refl _)) (fun _ _ _ _ _=>(Za0 (i:=4) Z4.nd rfl (Or.inr rfl) rfl (Or.inl rfl))) (fun _ _ _ _ _=>ZC) (fun _ _ _ _ _=>(ws 4)) (fun _ _ _ _ _=>(Yc rfl (Z8 T) (Zi (p_b (ZL (Zmi (own:= [("one",5)]) (us:= [5]) (by rfl) Z4.nd (ZA rfl (vs 0)) (X8 (own:= [("one",5)]) (N:=Jq) (sc:=(relS _ (defScope Qj))) (by decide +kernel)) rfl (by decide) (Nk.na 5 (Nk.refl _)) (fun _ _ _ _ _=>(gn 5 Z4.nd)) (fun _ _ _ _ _=>(Qp (ZbH rfl (u65 hr) (vs 5) (p_b (Zr rfl (u1 hr) (vs 2) (vs 4) (fun _ _=>rfl))) (by rfl)))) (fun _ _ _ _ _=>(ws 5))))) Zl) (by rfl))))) wk wk)))))
def Zim:Env->RS:=(Zu (sOp gEq (sAs (g1 Yo) (Za (sDc (ZoM (Zh 1) ZO (sV 1) (sC (.bl true)) [1]) (sIt D.seq (sV 0)) (Zh 1) ZO (sV 1) (sC (.bl true)) [1]) Zb)) (sAs (g1 Yo) (Za (sV 0) Zb))))
def QY:List D->RF:=Zx [.br] 1 Zim
theorem JA(T:Txt P w K mg):OkU base T 1 T.qt [.br] QY:=oku ZaA fun _ _ _ _ _ _ hr =>
  (Zf (Zp (JN rfl (u64 hr) (p_b (Ya rfl (Z3 T) (Zi (p_b (ZL (Zcu (b:=(ZoM (Zh 1) ZO (sV 1) (sC (.bl true)) [1])) (own:= [("value",1)]) (us:= [1]) (u1 hr) (by rfl) ZaA.nd (ZA rfl (vb 0)) (X8 (own:= [("value",1)]) (N:=Zdj) (sc:=defScope JJ) (by decide +kernel)) rfl (by decide) (Nk.na 1 (Nk.refl _)) (fun _ _ _ _ _=>(gn 1 ZaA.nd)) (fun _ _ _ _ _=>ZC) (fun _ _ _ _ _=>(ws 1)) (fun _ _ _ _ _=>Qc)))) Zl) (by rfl))) (p_b (Ya rfl (Z3 T) (Zi (vb 0) Zl) (by rfl)))) wk wk))
def Zgn:Env->RS:=(Zu (sUn ZgE (sV 0)))
def YK:List D->RF:=Zx [.br] 0 Zgn
theorem YR(T:Txt P w K mg):OkU base T 1 T.qu [.br] YK:=oku ZfD fun _ _ _ _ _ _ hr =>
  (Zf (Zp (Zot rfl (Z5 T) rfl (vb 0) (pe_bltn (v:= .ty "list") rfl (Zpp T) (by decide +kernel) rfl) (pe_bltn (v:= .ty "tuple") rfl (Z8 T) (by decide +kernel) rfl)) wk wk))
def ZlN:Env->RS:=(Zg (ZW (sOr (ZS (sB (sUn (ZbI "str") (sV 0)))) (sOr (ZS (sB (Zex gLe gLe (sC (.int 1)) (sAs (g1 Yo) (Za (sV 0) Zb)) (sC (.int 6))))) (sB (sOp (gIn false) (sV 0) (sC (.ktp [(.str "at"),(.str "go"),(.str "ahead"),(.str "trace"),(.str "limit"),(.str "work")]))))))
  (Zu (sC (.bl false)))
  sNx)
  (Zu (sAs (g1 Zay) (Za (sLc (sIt Zj2 (sV 0)) (Zh 1) ZO (sOp (gIn false) (sV 1) (sC (.str "abcdefghijklmnopqrstuvwxyz"))) [1]) Zb))))
def ZP:List D->RF:=Zx [.br] 1 ZlN
theorem ZN(T:Txt P w K mg):OkU base T 1 T.qv [.br] ZP:=oku ZcA fun _ _ _ _ _ _ hr =>
  (Zc (ZZ (PW.pt (Yj (ZI (ZF (Zbn rfl rfl (Z5 T) rfl (vb 0) (pe_bltn (v:= .ty "str") rfl (ZaJ T) (by decide +kernel) rfl)))) (Yj (ZI (Zjy (op_le.or op_le_str) (op_le.or op_le_str) oLe oLe (p_b Zk) (p_b (Ya rfl (Z3 T) (Zi (vb 0) Zl) (by rfl))) (p_b Zk))) (YU (ZbH rfl (u65 hr) (vb 0) (p_b (Zpy (Vt (v:= .ref T.qk) rfl T.ql rfl) T.qm (fun _ _=>(Reps.cons (Rep.str _) (Reps.cons (Rep.str _) (Reps.cons (Rep.str _) (Reps.cons (Rep.str _) (Reps.cons (Rep.str _) (Reps.cons (Rep.str _) Reps.nil))))))))) (by rfl)))))) wk
  (Zf (Zp Qc wk wk))
  ZJ)
  (Zf (Zp (Zah rfl rfl (Zam T) (Zi (p_b (ZL (lc (own:= [("sign",1)]) (us:= [1]) ZcA (Zni (vb 0)) (Nk.na 1 (Nk.refl _)) (fun _ _ _ _ _=>(gn 1 ZcA.nd)) (fun _ _ _ _ _=>ZC) (fun _ _ _ _ _=>(ZaZ rfl (u65 hr) (vs 1) (p_b (Zle (Vt (v:= .str "abcdefghijklmnopqrstuvwxyz") rfl T.qh ⟨_,rfl⟩))) (by rfl)))))) Zl) (by rfl)) wk wk)))
def Zin:Env->RS:=(Zu (Z9 (sUn (ZbI "int") (sV 0)) (ZgB (sUn (ZbI "bool") (sV 0)))))
def Zba:List D->RF:=Zx [.br] 0 Zin
theorem ZcN(T:Txt P w K mg):OkU base T 1 T.qw [.br] Zba:=oku Zgh fun _ _ _ _ _ _ hr =>
  (Zf (Zp (YA (Zbn rfl rfl (Z5 T) rfl (vb 0) (pe_bltn (v:= .ty "int") rfl (ZgW T) (by decide +kernel) rfl)) (Y2 (Zng (Zbn rfl rfl (Z5 T) rfl (vb 0) (pe_bltn (v:= .ty "bool") rfl (Zpn T) (by decide +kernel) rfl))))) wk wk))
def Zjc:Env->RS:=(Zu (Z9 (Zo Zba (Za (sV 0) Zb)) (sOp gGe (sV 0) (sC (.int 0)))))
def ZdV:List D->RF:=Zx [.br] 0 Zjc
theorem Zio(T:Txt P w K mg):OkU base T 2 T.qx [.br] ZdV:=oku Zib fun _ _ _ _ _ _ hr =>
  (Zf (Zp (YA (pc (ZcN T) hr (Xc rfl rfl rfl rfl) (Zt (vb 0) Zd)) (Y2 (Zmj (vb 0) (p_b Zk)))) wk wk))
def ZkM:Env->RS:=(Zg (ZW (sOr (ZS (sB (sUn (ZbI "tuple") (sV 1)))) (sOr (sB (sOp gNe (sAs (g1 Yo) (Za (sV 1) Zb)) (sC (.int 3)))) (sOr (ZS (sB (Zo ZP (Za (sOp gIx (sV 1) (sC (.int 0))) Zb)))) (ZS (sB (Zo ZP (Za (sOp gIx (sV 1) (sC (.int 1))) Zb)))))))
  (Zu (sC (.bl false)))
  sNx)
  (Zu (Z9 (sOp (gIn false) (sOp gIx (sV 1) (sC (.int 0))) (sV 0)) (Z9 (sOp (gIn false) (sOp gIx (sV 1) (sC (.int 1))) (sV 0)) (Zo ZdV (Za (sOp gIx (sV 1) (sC (.int 2))) Zb))))))
def Ze0:List D->RF:=Zx [.br,.br] 0 ZkM
theorem Zjd(T:Txt P w K mg):OkU base T 3 T.qy [.br,.br] Ze0:=oku ZiS fun _ _ _ _ _ _ hr =>
  (Zc (ZZ (PW.pt (Yj (ZI (ZF (Zbn rfl rfl (Z5 T) rfl (vb 1) (pe_bltn (v:= .ty "tuple") rfl (Z8 T) (by decide +kernel) rfl)))) (Yj (JF rfl (u64 hr) (p_b (Ya rfl (Z3 T) (Zi (vb 1) Zl) (by rfl))) (p_b Zk)) (Yj (ZI (ZF (pc (ZN T) hr (Xc rfl rfl rfl rfl) (Zt (p_b (Zr rfl (u1 hr) (vb 1) (p_b Zk) (fun _ _=>rfl))) Zd)))) (YU (ZI (ZF (pc (ZN T) hr (Xc rfl rfl rfl rfl) (Zt (p_b (Zr rfl (u1 hr) (vb 1) (p_b Zk) (fun _ _=>rfl))) Zd))))))))) wk
  (Zf (Zp Qc wk wk))
  ZJ)
  (Zf (Zp (YA (ZaZ rfl (u65 hr) (p_b (Zr rfl (u1 hr) (vb 1) (p_b Zk) (fun _ _=>rfl))) (vb 0) (by rfl)) (YA (ZaZ rfl (u65 hr) (p_b (Zr rfl (u1 hr) (vb 1) (p_b Zk) (fun _ _=>rfl))) (vb 0) (by rfl)) (Y2 (pc (Zio T) hr (Xc rfl rfl rfl rfl) (Zt (p_b (Zr rfl (u1 hr) (vb 1) (p_b Zk) (fun _ _=>rfl))) Zd))))) wk wk)))
def Ziq:Env->RS:=(Zg (ZW (sOr (ZS (sB (Zo YK (Za (sV 1) Zb)))) (ZS (sB (sAs (g1 Zay) (Za (sLc (sIt D.seq (sV 1)) (Zh 2) ZO (Zo Ze0 (Za (sV 0) (Za (sV 2) Zb))) [2]) Zb)))))
  (Zu (sC (.bl false)))
  sNx)
  (Zu (Zo QY (Za (sLc (sIt D.seq (sV 1)) (Yu 3 (Pu.tCons (Zh 3) (Pu.tCons (Zh 4) (Pu.tCons (Zh 5) Pu.tNil)))) ZO (sAs Zw (Za (sV 3) (Za (sV 4) Zb))) [3,4,5]) Zb))))
def Zdq:List D->RF:=Zx [.br,.br] 4 Ziq
theorem Zgo(T:Txt P w K mg):OkU base T 4 T.q1a [.br,.br] Zdq:=oku YY fun _ _ _ _ _ _ hr =>
  (Zc (ZZ (PW.pt (Yj (ZI (ZF (pc (YR T) hr (Xc rfl rfl rfl rfl) (Zt (vb 1) Zd)))) (YU (ZI (ZF (Zah rfl rfl (Zam T) (Zi (p_b (ZL (lc (own:= [("one",2)]) (us:= [2]) YY (ZA rfl (vb 1)) (Nk.na 2 (Nk.refl _)) (fun _ _ _ _ _=>(gn 2 YY.nd)) (fun _ _ _ _ _=>ZC) (fun _ _ _ _ _=>(pc (Zjd T) hr takes0 (Zt (vb 0) (Zt (vs 2) Zd))))))) Zl) (by rfl))))))) wk
  (Zf (Zp Qc wk wk))
  ZJ)
  (Zf (Zp (pc (JA T) hr (Xc rfl rfl rfl rfl) (Zt (p_b (ZL (lc (own:= [("start",3),("end",4),("lost",5)]) (us:= [3,4,5]) YY (ZA rfl (vb 1)) (Nk.na 3 (Nk.na 4 (Nk.na 5 (Nk.refl _)))) (fun _ _ _ _ _=>(Yh rfl rfl (Zm (gn 3 YY.nd) (Zm (gn 4 YY.nd) (Zm (gn 5 YY.nd) Z0))))) (fun _ _ _ _ _=>ZC) (fun _ _ _ _ _=>(ZH (Pu.ps_cons (ws 3) (Pu.ps_cons (ws 4) Pu.ps_nil))))))) Zd)) wk wk)))
def ZdQ:Env->RS:=(Zu (Z9 (Zo YK (Za (sV 0) Zb)) (sAs (g1 Zay) (Za (sLc (sIt D.seq (sV 0)) (Zh 1) ZO (Zo ZP (Za (sV 1) Zb)) [1]) Zb))))
def Qn:List D->RF:=Zx [.br] 1 ZdQ
theorem QZ(T:Txt P w K mg):OkU base T 2 T.q1b [.br] Qn:=oku QU fun _ _ _ _ _ _ hr =>
  (Zf (Zp (YA (pc (YR T) hr (Xc rfl rfl rfl rfl) (Zt (vb 0) Zd)) (Y2 (Zah rfl rfl (Zam T) (Zi (p_b (ZL (lc (own:= [("one",1)]) (us:= [1]) QU (ZA rfl (vb 0)) (Nk.na 1 (Nk.refl _)) (fun _ _ _ _ _=>(gn 1 QU.nd)) (fun _ _ _ _ _=>ZC) (fun _ _ _ _ _=>(pc (ZN T) hr takes0 (Zt (vs 1) Zd)))))) Zl) (by rfl)))) wk wk))
def Zbt:Env->RS:=(Zg (ZW (ZS (sB (Zo ZP (Za (sV 1) Zb))))
  (YM "InvalidStep" "word" (sC (.str "name")))
  sNx)
  (Zg (ZW (sOr (ZS (sB (Zo Qn (Za (sV 2) Zb)))) (sOr (sB (sOp gEq (sAs (g1 Yo) (Za (sV 2) Zb)) (sC (.int 0)))) (ZS (sB (Zo QY (Za (sV 2) Zb))))))
  (YM "InvalidStep" "word" (sC (.str "places")))
  sNx)
  (Zg (ZW (ZS (sB (Zo Zdq (Za (sV 2) (Za (sV 3) Zb)))))
  (YM "InvalidStep" "word" (sC (.str "arrows")))
  sNx)
  (Zg (Qy 0 "Step" "name" (sV 1))
  (Zg (Qy 0 "Step" "places" (sAs (g1 Yd) (Za (sAs (g1 Jb) (Za (sV 2) Zb)) Zb)))
  (Zg (Qy 0 "Step" "arrows" (sAs (g1 Yd) (Za (sAs (g1 Jb) (Za (sV 3) Zb)) Zb)))
  (Zg (Qy 0 "Step" "losses" (sDc (fun _ _=>true) (sIt D.seq (J9 0 (Ln.fld Ln.here "arrows"))) (Yu 3 (Pu.tCons (Zh 4) (Pu.tCons (Zh 5) (Pu.tCons (Zh 6) Pu.tNil)))) ZO (sAs Zw (Za (sV 4) (Za (sV 5) Zb))) (sV 6) [4,5,6]))
  (Zg (Znk 0 "Step" "leads" (Zmt false (sIt D.seq (J9 0 (Ln.fld Ln.here "places"))) (Zh 7) ZO (sV 7) (sAs ZE Zb) [7]))
  (Ym (sIt D.seq (J9 0 (Ln.fld Ln.here "arrows"))) (Yu 3 (Pu.tCons (Zh 4) (Pu.tCons (Zh 5) (Pu.tCons (Zh 6) Pu.tNil))))
  (sDo (Zj8 0 (Ln.key (Ln.fld Ln.here "leads") 4) Yn (Za (sAs Zw (Za (sV 5) (Za (sV 6) Zb))) Zb))))))))))))
def YD:List D->RF:=Zx [(.op (.obj YQ)),.sh,.br,.br] 4 Zbt
theorem Qa(T:Txt P w K mg):FnOkG P w K mg base (L2.CX P w) 5 T.q1c T.q1d ["self","name","places","arrows"] (SpF (gxF T) (xaF T) [(.op (.obj YQ)),.sh,.br,.br] YD) :=
 Zhm (pm:= [(.op (.obj YQ)),.sh,.br,.br]) (n:=4) (g:=Zbt) (k:=4) T.q1g Z1 rfl rfl rfl fun cdv A outer s H E hr =>
  (Zc (ZZ (ZI (ZF (pc (ZN T) hr (Xc rfl rfl rfl rfl) (Zt (vs 1) Zd)))) wk
  (Zf (Yl (k:=0) (c:="InvalidStep") rfl T.q4n QP rfl (hr.mono (by decide)) rfl rfl T.q4e.m (Xc rfl rfl rfl rfl) Zv wk))
  ZJ)
  (Zc (ZZ (PW.pt (Yj (ZI (ZF (pc (QZ T) hr (Xc rfl rfl rfl rfl) (Zt (vb 2) Zd)))) (Yj (Zeb rfl (u64 hr) (p_b (Ya rfl (Z3 T) (Zi (vb 2) Zl) (by rfl))) (p_b Zk)) (YU (ZI (ZF (pc (JA T) hr (Xc rfl rfl rfl rfl) (Zt (vb 2) Zd)))))))) wk
  (Zf (Yl (k:=0) (c:="InvalidStep") rfl T.q4n QP rfl (hr.mono (by decide)) rfl rfl T.q4e.m (Xc rfl rfl rfl rfl) Zv wk))
  ZJ)
  (Zc (ZZ (ZI (ZF (pc (Zgo T) hr (Xc rfl rfl rfl rfl) (Zt (vb 2) (Zt (vb 3) Zd))))) wk
  (Zf (Yl (k:=0) (c:="InvalidStep") rfl T.q4n QP rfl (hr.mono (by decide)) rfl rfl T.q4e.m (Xc rfl rfl rfl rfl) Zv wk))
  ZJ)
  (Zc (QL (c:="Step") (C:=T.q4k.a) (fsh:=YQ) rfl (pv 0) rfl (Or.inr rfl) rfl rfl (T.q5s _ (.head _)) (ws 1) wk)
  (Zc (QL (c:="Step") (C:=T.q4k.a) (fsh:=YQ) rfl (pv 0) rfl (Or.inr rfl) rfl rfl (T.q5s _ (.tail _ (.head _))) (Yc rfl (Z8 T) (Zi (p_b (JG rfl (u64 hr) rfl (QX T) (Zi (vb 2) Zl) (by rfl))) Zl) (by rfl)) wk)
  (Zc (QL (c:="Step") (C:=T.q4k.a) (fsh:=YQ) rfl (pv 0) rfl (Or.inr rfl) rfl rfl (T.q5s _ (.tail _ (.tail _ (.head _)))) (Yc rfl (Z8 T) (Zi (p_b (JG rfl (u64 hr) rfl (QX T) (Zi (vb 3) Zl) (by rfl))) Zl) (by rfl)) wk)
  (Zc (QL (c:="Step") (C:=T.q4k.a) (fsh:=YQ) rfl (pv 0) rfl (Or.inr rfl) rfl rfl (T.q5s _ (.tail _ (.tail _ (.tail _ (.head _))))) (ZL (Zcu (b:=(fun _ _=>true)) (own:= [("start",4),("end",5),("lost",6)]) (us:= [4,5,6]) (u1 hr) (by rfl) Z1.nd (ZA rfl (p_b (ZbK (JP rfl (JO (pv 0)) rfl) rfl (Or.inr rfl)))) (X8 (own:= [("start",4),("end",5),("lost",6)]) (N:=n_Step___init__) (sc:=defScope ZU) (by decide +kernel)) rfl (by decide) (Nk.na 4 (Nk.na 5 (Nk.na 6 (Nk.refl _)))) (fun _ _ _ _ _=>(Yh rfl rfl (Zm (gn 4 Z1.nd) (Zm (gn 5 Z1.nd) (Zm (gn 6 Z1.nd) Z0))))) (fun _ _ _ _ _=>ZC) (fun _ _ _ _ _=>(ZH (Pu.ps_cons (ws 4) (Pu.ps_cons (ws 5) Pu.ps_nil)))) (fun _ _ _ _ _=>(ws 6)))) wk)
  (Zc (ZoH (t:= .dct (.lst .sh)) (c:="Step") (C:=T.q4k.a) (fsh:=YQ) rfl (pv 0) rfl (Or.inr rfl) rfl rfl (T.q5s _ (.tail _ (.tail _ (.tail _ (.tail _ (.head _)))))) (ZpP (b:=false) (own:= [("place",7)]) (us:= [7]) (u1 hr) (by rfl) Z1.nd (ZA rfl (p_b (ZbK (JP rfl (JO (pv 0)) rfl) rfl (Or.inr rfl)))) (X8 (own:= [("place",7)]) (N:=n_Step___init__) (sc:=defScope ZU) (by decide +kernel)) rfl (by decide) (Nk.na 7 (Nk.refl _)) (fun _ _ _ _ _=>(gn 7 Z1.nd)) (fun _ _ _ _ _=>ZC) (fun _ _ _ _ _=>(ws 7)) (fun _ _ _ _ _=>(Jw Pu.ps_nil))) wk)
  (Zf (ZQ (Wk.na 1 (Wk.na 2 (Wk.na 3 (Wk.refl _)))) (Qm (XG rfl) rfl (ZA rfl (p_b (ZbK (JP rfl (JO (pv 0)) rfl) rfl (Or.inr rfl)))) wk (Yh rfl rfl (Zm (gn 4 Z1.nd) (Zm (gn 5 Z1.nd) (Zm (gn 6 Z1.nd) Z0)))) rfl rfl
  (Zf (ZQ (Wk.na 4 (Wk.na 5 (Wk.na 6 (Wk.refl _)))) (Yg (ZoC Yr rfl Xn Xq Xr XU rfl (ZpL rfl (u1 hr) (JP rfl (JO (pv 0)) rfl) (pv 4) rfl (fun _ _=>rfl)) rfl (Or.inr rfl) (ZoJ (ZoI ZnI) rfl rfl) (Pu.ps_cons (ZH (Pu.ps_cons (ws 5) (Pu.ps_cons (ws 6) Pu.ps_nil))) Pu.ps_nil)) wk))))))))))))))
def ZfN:Env->RS:=(Zg (ZB 1 (sM1 Zaq (sC (.str " ")) (sAs ZE (Za (sUn (Zy "name") (sV 0)) (Za (sC (.str "at")) (Jy (sUn (Zy "places") (sV 0)) Zb))))))
  (Zg (ZB 2 (sLc (sIt D.seq (sUn (Zy "arrows") (sV 0))) (Yu 3 (Pu.tCons (Zh 4) (Pu.tCons (Zh 5) (Pu.tCons (Zh 6) Pu.tNil)))) ZO (ZdB [(sUn QR (sV 4)),(sC (.str " ")),(sUn QR (sV 5)),(sC (.str " ")),(sUn QR (sV 6))] Str.empty) [4,5,6]))
  (Zg (ZB 3 (sIf (sB (sOp gGt (sAs (g1 Yo) (Za (sV 2) Zb)) (sC (.int 0)))) (sOp QO (sC (.str " go ")) (sM1 Zaq (sC (.str ", ")) (sV 2))) (sC (.str ""))))
  (Zu (ZdB [(sUn QR (sV 1)),(sUn QR (sV 3))] Str.empty)))))
def Yz:List D->RF:=Zx [.br] 6 ZfN
theorem Qh(T:Txt P w K mg):OkM base T 1 T.q1i [.br] Yz:=okm YC fun _ _ _ _ _ _ hr =>
  (Zc (ZY (i:=1) YC.nd rfl (Or.inl rfl) (ZdJ rfl (p_b Zv) (p_b (Pu.p_lst (Pu.ps_cons (Zz rfl (vb 0) rfl) (Pu.ps_cons Zv (Qq rfl (p_b (Zz rfl (vb 0) rfl)) Pu.ps_nil)))))) wk rfl)
  (Zc (ZQ (Wk.fr 2 _ rfl (Wk.refl _)) (Zfq (i:=2) (own:= [("start",4),("end",5),("lost",6)]) (us:= [4,5,6]) (by rfl) YC.nd rfl rfl (sw_true rfl rfl rfl (by decide +kernel)) (ZA rfl (p_b (Zz rfl (vb 0) rfl))) (X8 (own:= [("start",4),("end",5),("lost",6)]) (N:=Zb0) (sc:=defScope Q5) (by decide +kernel)) rfl (by decide) (Nk.na 4 (Nk.na 5 (Nk.na 6 (Nk.refl _)))) (fun _ _ _ _ _=>(Yh rfl rfl (Zm (gn 4 YC.nd) (Zm (gn 5 YC.nd) (Zm (gn 6 YC.nd) Z0))))) (fun _ _ _ _ _=>ZC) (fun _ _ _ _ _=>(Zeg [(sUn QR (sV 4)),(sC (.str " ")),(sUn QR (sV 5)),(sC (.str " ")),(sUn QR (sV 6))] (PJ.cons (Zco (vs 4)) (PJ.cons ZgG (PJ.cons (Zco (vs 5)) (PJ.cons ZgG (PJ.cons (Zco (vs 6)) PJ.nil))))))) wk rfl))
  (Zc (ZY (i:=3) YC.nd rfl (Or.inl rfl) (Zck (Zed (p_b (Ya rfl (Z3 T) (Zi (vs 2) Zl) (by rfl))) (p_b Zk)) (Za5 rfl (p_b Zv) (p_b (ZdJ rfl (p_b Zv) (vs 2)))) Zv) wk rfl)
  (Zf (Zp (Zeg [(sUn QR (sV 1)),(sUn QR (sV 3))] (PJ.cons (Zco (vs 1)) (PJ.cons (Zco (vs 3)) PJ.nil))) wk wk)))))
def Zgp:Env->RS:=(Zu (Z9 (sUn (Zfr "Step") (sV 1)) (sOp gEq (sAs (g1 (QM "Step" Yz)) (Za (sV 0) Zb)) (sAs (g1 (QM "Step" Yz)) (Za (sV 1) Zb)))))
def QA:List D->RF:=Zx [.br,.br] 0 Zgp
theorem Zb2(T:Txt P w K mg):OkM base T 4 T.q1j [.br,.br] QA:=okm ZfE fun _ _ _ _ _ _ hr =>
  (Zf (Zp (YA (ZgD (c:="Step") rfl rfl (Z5 T) rfl (vb 1) (Vt (v:= .ref T.q4k.a) rfl T.q4k.m rfl)) (Y2 (JN rfl (u64 hr) (p_b (Zap (c:="Step") rfl rfl T.q5j (Qh T) T.q1i.n (hr.mono (by decide)) (ZaJ T) (Zi (vb 0) Zl) (by rfl))) (p_b (Zap (c:="Step") rfl rfl T.q5j (Qh T) T.q1i.n (hr.mono (by decide)) (ZaJ T) (Zi (vb 1) Zl) (by rfl)))))) wk wk))
def Zje:Env->RS:=(Zg (ZW (sOr (ZS (sB (Zo YK (Za (sV 0) Zb)))) (sOr (sB (sOp gEq (sAs (g1 Yo) (Za (sV 0) Zb)) (sC (.int 0)))) (ZS (sB (sAs (g1 Zay) (Za (sLc (sIt D.seq (sV 0)) (Zh 1) ZO (sUn (Zfr "Step") (sV 1)) [1]) Zb))))))
  (Zu (sC (.bl false)))
  sNx)
  (Zu (Zo QY (Za (sLc (sIt D.seq (sV 0)) (Zh 2) ZO (sUn (Zy "name") (sV 2)) [2]) Zb))))
def ZdW:List D->RF:=Zx [.br] 2 Zje
theorem Zir(T:Txt P w K mg):OkU base T 2 T.q1k [.br] ZdW:=oku QV fun _ _ _ _ _ _ hr =>
  (Zc (ZZ (PW.pt (Yj (ZI (ZF (pc (YR T) hr (Xc rfl rfl rfl rfl) (Zt (vb 0) Zd)))) (Yj (Zeb rfl (u64 hr) (p_b (Ya rfl (Z3 T) (Zi (vb 0) Zl) (by rfl))) (p_b Zk)) (YU (ZI (ZF (Zah rfl rfl (Zam T) (Zi (p_b (ZL (lc (own:= [("one",1)]) (us:= [1]) QV (ZA rfl (vb 0)) (Nk.na 1 (Nk.refl _)) (fun _ _ _ _ _=>(gn 1 QV.nd)) (fun _ _ _ _ _=>ZC) (fun _ _ _ _ _=>(ZgD (c:="Step") rfl rfl (Z5 T) rfl (vs 1) (Vt (v:= .ref T.q4k.a) rfl T.q4k.m rfl)))))) Zl) (by rfl)))))))) wk
  (Zf (Zp Qc wk wk))
  ZJ)
  (Zf (Zp (pc (JA T) hr (Xc rfl rfl rfl rfl) (Zt (p_b (ZL (lc (own:= [("step",2)]) (us:= [2]) QV (ZA rfl (vb 0)) (Nk.na 2 (Nk.refl _)) (fun _ _ _ _ _=>(gn 2 QV.nd)) (fun _ _ _ _ _=>ZC) (fun _ _ _ _ _=>(Zz rfl (vs 2) rfl))))) Zd)) wk wk)))
def Zdr:Env->RS:=(Zu (Z9 (sUn (ZbI "tuple") (sV 0)) (Z9 (sOp gEq (sAs (g1 Yo) (Za (sV 0) Zb)) (sC (.int 2))) (Z9 (Zo Qn (Za (sV 0) Zb)) (sOp gNe (sOp gIx (sV 0) (sC (.int 0))) (sOp gIx (sV 0) (sC (.int 1))))))))
def Zas:List D->RF:=Zx [.br] 0 Zdr
theorem ZcS(T:Txt P w K mg):OkU base T 3 T.q1l [.br] Zas:=oku ZcQ fun _ _ _ _ _ _ hr =>
  (Zf (Zp (YA (Zbn rfl rfl (Z5 T) rfl (vb 0) (pe_bltn (v:= .ty "tuple") rfl (Z8 T) (by decide +kernel) rfl)) (YA (JN rfl (u64 hr) (p_b (Ya rfl (Z3 T) (Zi (vb 0) Zl) (by rfl))) (p_b Zk)) (YA (pc (QZ T) hr (Xc rfl rfl rfl rfl) (Zt (vb 0) Zd)) (Y2 (Zqt rfl (u64 hr) (p_b (Zr rfl (u1 hr) (vb 0) (p_b Zk) (fun _ _=>rfl))) (p_b (Zr rfl (u1 hr) (vb 0) (p_b Zk) (fun _ _=>rfl)))))))) wk wk))
def Zjf:Env->RS:=(Zg (ZW (ZS (sB (Zo YK (Za (sV 1) Zb))))
  (Zu (sC (.bl false)))
  sNx)
  (Zu (sAs (g1 Zay) (Za (sLc (sIt D.seq (sV 1)) (Zh 2) ZO (Z9 (Zo Zas (Za (sV 2) Zb)) (Z9 (sOp (gIn false) (sOp gIx (sV 2) (sC (.int 0))) (sV 0)) (sOp (gIn false) (sOp gIx (sV 2) (sC (.int 1))) (sV 0)))) [2]) Zb))))
def ZdX:List D->RF:=Zx [.br,.br] 1 Zjf
theorem Zis(T:Txt P w K mg):OkU base T 4 T.q1m [.br,.br] ZdX:=oku Za7 fun _ _ _ _ _ _ hr =>
  (Zc (ZZ (ZI (ZF (pc (YR T) hr (Xc rfl rfl rfl rfl) (Zt (vb 1) Zd)))) wk
  (Zf (Zp Qc wk wk))
  ZJ)
  (Zf (Zp (Zah rfl rfl (Zam T) (Zi (p_b (ZL (lc (own:= [("pair",2)]) (us:= [2]) Za7 (ZA rfl (vb 1)) (Nk.na 2 (Nk.refl _)) (fun _ _ _ _ _=>(gn 2 Za7.nd)) (fun _ _ _ _ _=>ZC) (fun _ _ _ _ _=>(YA (pc (ZcS T) hr takes0 (Zt (vs 2) Zd)) (YA (ZaZ rfl (u65 hr) (p_b (Zr rfl (u1 hr) (vs 2) (p_b Zk) (fun _ _=>rfl))) (vb 0) (by rfl)) (Y2 (ZaZ rfl (u65 hr) (p_b (Zr rfl (u1 hr) (vs 2) (p_b Zk) (fun _ _=>rfl))) (vb 0) (by rfl))))))))) Zl) (by rfl)) wk wk)))
def Zbu:Env->RS:=(Zg (ZW (ZS (sB (Zo ZdW (Za (sV 1) Zb))))
  (YM "InvalidWork" "word" (sC (.str "steps")))
  sNx)
  (Zg (Qy 0 "Work" "steps" (sAs (g1 Yd) (Za (sV 1) Zb)))
  (Zg (Qy 0 "Work" "names" (sAs (g1 Yd) (Za (sLc (sIt D.seq (sV 1)) (Zh 3) ZO (sUn (Zy "name") (sV 3)) [3]) Zb)))
  (Zg (Qy 0 "Work" "spot" (sDc (fun _ _=>false) (sIt Zcv (J9 0 (Ln.fld Ln.here "names"))) (Yu 2 (Pu.tCons (Zh 4) (Pu.tCons (Zh 5) Pu.tNil))) ZO (sV 5) (sV 4) [4,5]))
  (Zg (ZW (ZS (sB (Zo ZdX (Za (J9 0 (Ln.fld Ln.here "spot")) (Za (sV 2) Zb)))))
  (YM "InvalidWork" "word" (sC (.str "ahead")))
  sNx)
  (Zg (Qy 0 "Work" "ahead" (sAs (g1 Yd) (Za (sV 2) Zb)))
  (Zg (Qy 0 "Work" "after" (Zo ZdU (Za (J9 0 (Ln.fld Ln.here "names")) (Za (J9 0 (Ln.fld Ln.here "ahead")) Zb))))
  (Zg (ZW (sB (sAs (g1 Zhb) (Za (sLc (sIt D.seq (J9 0 (Ln.fld Ln.here "names"))) (Zh 5) ZO (sOp (gIn false) (sV 5) (sOp gIx (J9 0 (Ln.fld Ln.here "after")) (sV 5))) [5]) Zb)))
  (YM "InvalidWork" "word" (sC (.str "ahead")))
  sNx)
  (Qy 0 "Work" "places" (sAs (g1 Yd) (Za (sAs (g1 Jb) (Za (Zmw (fun _ _=>false) (sIt D.seq (sV 1)) (Zh 3) ZO (sIt D.seq (sUn (Zy "places") (sV 3))) (Zh 6) ZO (sV 6) (sC (.bl true)) [3,6] [6]) Zb)) Zb)))))))))))
def YE:List D->RF:=Zx [(.op (.obj Z2)),.br,.br] 4 Zbu
theorem Qb(T:Txt P w K mg):FnOkG P w K mg base (L2.CX P w) 5 T.q1n T.q1o ["self","steps","ahead"] (SpF (gxF T) (xaF T) [(.op (.obj Z2)),.br,.br] YE) :=
 Zhm (pm:= [(.op (.obj Z2)),.br,.br]) (n:=4) (g:=Zbu) (k:=4) T.q1r ZX rfl rfl rfl fun cdv A outer s H E hr =>
  (Zc (ZZ (ZI (ZF (pc (Zir T) hr (Xc rfl rfl rfl rfl) (Zt (vb 1) Zd)))) wk
  (Zf (Yl (k:=0) (c:="InvalidWork") rfl T.q4p QP rfl (hr.mono (by decide)) rfl rfl T.q4g.m (Xc rfl rfl rfl rfl) Zv wk))
  ZJ)
  (Zc (QL (c:="Work") (C:=T.q4l.a) (fsh:=Z2) rfl (pv 0) rfl (Or.inr rfl) rfl rfl (T.q66 _ (.head _)) (Yc rfl (Z8 T) (Zi (vb 1) Zl) (by rfl)) wk)
  (Zc (QL (c:="Work") (C:=T.q4l.a) (fsh:=Z2) rfl (pv 0) rfl (Or.inr rfl) rfl rfl (T.q66 _ (.tail _ (.head _))) (Yc rfl (Z8 T) (Zi (p_b (ZL (lc (own:= [("step",3)]) (us:= [3]) ZX (ZA rfl (vb 1)) (Nk.na 3 (Nk.refl _)) (fun _ _ _ _ _=>(gn 3 ZX.nd)) (fun _ _ _ _ _=>ZC) (fun _ _ _ _ _=>(Zz rfl (vs 3) rfl))))) Zl) (by rfl)) wk)
  (Zc (QL (c:="Work") (C:=T.q4l.a) (fsh:=Z2) rfl (pv 0) rfl (Or.inr rfl) rfl rfl (T.q66 _ (.tail _ (.tail _ (.head _)))) (ZL (Zcu (b:=(fun _ _=>false)) (own:= [("number",4),("name",5)]) (us:= [4,5]) (u1 hr) (by rfl) ZX.nd (Zdb rfl (Ju T) (p_b (ZbK (JP rfl (JO (pv 0)) rfl) rfl (Or.inr rfl)))) (X8 (own:= [("number",4),("name",5)]) (N:=n_Work___init__) (sc:=defScope ZV) (by decide +kernel)) rfl (by decide) (Nk.na 4 (Nk.na 5 (Nk.refl _))) (fun _ _ _ _ _=>(Yh rfl rfl (Zm (gn 4 ZX.nd) (Zm (gn 5 ZX.nd) Z0)))) (fun _ _ _ _ _=>ZC) (fun _ _ _ _ _=>(ws 5)) (fun _ _ _ _ _=>(ws 4)))) wk)
  (Zc (ZZ (ZI (ZF (pc (Zis T) hr (Xc rfl rfl rfl rfl) (Zt (p_b (ZbK (JP rfl (JO (pv 0)) rfl) rfl (Or.inr rfl))) (Zt (vb 2) Zd))))) wk
  (Zf (Yl (k:=0) (c:="InvalidWork") rfl T.q4p QP rfl (hr.mono (by decide)) rfl rfl T.q4g.m (Xc rfl rfl rfl rfl) Zv wk))
  ZJ)
  (Zc (QL (c:="Work") (C:=T.q4l.a) (fsh:=Z2) rfl (pv 0) rfl (Or.inr rfl) rfl rfl (T.q66 _ (.tail _ (.tail _ (.tail _ (.head _))))) (Yc rfl (Z8 T) (Zi (vb 2) Zl) (by rfl)) wk)
  (Zc (QL (c:="Work") (C:=T.q4l.a) (fsh:=Z2) rfl (pv 0) rfl (Or.inr rfl) rfl rfl (T.q66 _ (.tail _ (.tail _ (.tail _ (.tail _ (.head _)))))) (pc (Zil T) hr (Xc rfl rfl rfl rfl) (Zn (ZbK (JP rfl (JO (pv 0)) rfl) rfl (Or.inr rfl)) (Zn (ZbK (JP rfl (JO (pv 0)) rfl) rfl (Or.inr rfl)) Zd))) wk)
  (Zc (ZZ (ZF (ZjX rfl rfl (ZkK T) (Zi (p_b (ZL (lc (own:= [("name",5)]) (us:= [5]) ZX (ZA rfl (p_b (ZbK (JP rfl (JO (pv 0)) rfl) rfl (Or.inr rfl)))) (Nk.na 5 (Nk.refl _)) (fun _ _ _ _ _=>(gn 5 ZX.nd)) (fun _ _ _ _ _=>ZC) (fun _ _ _ _ _=>(ZaZ rfl (u65 hr) (vs 5) (p_b (Zr rfl (u1 hr) (p_b (ZbK (JP rfl (JO (pv 0)) rfl) rfl (Or.inr rfl))) (vs 5) (fun _ _=>rfl))) (by rfl)))))) Zl) (by rfl))) wk
  (Zf (Yl (k:=0) (c:="InvalidWork") rfl T.q4p QP rfl (hr.mono (by decide)) rfl rfl T.q4g.m (Xc rfl rfl rfl rfl) Zv wk))
  ZJ)
  (Zf (ZQ (Wk.na 1 (Wk.na 2 (Wk.refl _))) (QL (c:="Work") (C:=T.q4l.a) (fsh:=Z2) rfl (pv 0) rfl (Or.inr rfl) rfl rfl (T.q66 _ (.tail _ (.tail _ (.tail _ (.tail _ (.tail _ (.head _))))))) (Yc rfl (Z8 T) (Zi (p_b (JG rfl (u64 hr) rfl (QX T) (Zi (p_b (ZL (ZpS (b:=(fun _ _=>false)) (Mt:= [(.op (.obj Z2)),.br,.br,.sh,.na,.na,.na]) (Mt1:= [(.op (.obj Z2)),.br,.br,.sh,.na,.na,.sh]) (own:= [("step",3),("place",6)]) (us:= [3]) (us1:= [6]) (vs1:= [6]) (u1 hr) (by rfl) ZX.nd (ZA rfl (vb 1)) (X8 (own:= [("step",3),("place",6)]) (N:=n_Work___init__) (sc:=defScope ZV) (by decide +kernel)) rfl (by decide) (Nk.na 3 (Nk.refl _)) (by decide) rfl (by decide) (Nk.na 6 (Nk.refl _)) (by intro j hj; simp at hj; subst hj; intro z; cases z) (fun _ _ _ _ _=>(gn 3 ZX.nd)) (fun _ _ _ _ _=>ZC) (fun _ _ _ _ _=>(Zlq rfl (Zz rfl (vs 3) rfl))) (fun _ _ _ _ _=>(gn 6 ZX.nd)) (fun _ _ _ _ _=>ZC) (fun _ _ _ _ _=>(ws 6)) (fun _ _ _ _ _=>Qc)))) Zl) (by rfl))) Zl) (by rfl)) wk)))))))))))
def ZfO:Env->RS:=(Zg (ZB 1 (sLc (sIt D.seq (sUn (Zy "steps") (sV 0))) (Zh 2) ZO (sAs (g1 (QM "Step" Yz)) (Za (sV 2) Zb)) [2]))
  (Zu (sM1 Zaq (sC (.str "\n")) (sAs ZE (Jy (sV 1) (Jy (sLc (sIt D.seq (sUn (Zy "ahead") (sV 0))) (Yu 2 (Pu.tCons (Zh 3) (Pu.tCons (Zh 4) Pu.tNil))) ZO (ZdB [(sC (.str "ahead ")),(sUn QR (sV 3)),(sC (.str " ")),(sUn QR (sV 4))] Str.empty) [3,4]) Zb))))))
def Qw:List D->RF:=Zx [.br] 4 ZfO
theorem JW(T:Txt P w K mg):OkM base T 4 T.q1t [.br] Qw:=okm YV fun _ _ _ _ _ _ hr =>
  (Zc (ZQ (Wk.fr 1 _ rfl (Wk.refl _)) (Zfq (i:=1) (own:= [("step",2)]) (us:= [2]) (by rfl) YV.nd rfl rfl (sw_true rfl rfl rfl (by decide +kernel)) (ZA rfl (p_b (Zz rfl (vb 0) rfl))) (X8 (own:= [("step",2)]) (N:=Zb1) (sc:=defScope Q6) (by decide +kernel)) rfl (by decide) (Nk.na 2 (Nk.refl _)) (fun _ _ _ _ _=>(gn 2 YV.nd)) (fun _ _ _ _ _=>ZC) (fun _ _ _ _ _=>(Zap (c:="Step") rfl rfl T.q5j (Qh T) T.q1i.n (hr.mono (by decide)) (ZaJ T) (Zi (vs 2) Zl) (by rfl))) wk rfl))
  (Zf (Zp (ZdJ rfl (p_b Zv) (p_b (Pu.p_lst (Qq rfl (vs 1) (Qq rfl (p_b (ZL (lc (own:= [("one",3),("other",4)]) (us:= [3,4]) YV (ZA rfl (p_b (Zz rfl (vb 0) rfl))) (Nk.na 3 (Nk.na 4 (Nk.refl _))) (fun _ _ _ _ _=>(Yh rfl rfl (Zm (gn 3 YV.nd) (Zm (gn 4 YV.nd) Z0)))) (fun _ _ _ _ _=>ZC) (fun _ _ _ _ _=>(Zeg [(sC (.str "ahead ")),(sUn QR (sV 3)),(sC (.str " ")),(sUn QR (sV 4))] (PJ.cons ZgG (PJ.cons (Zco (vs 3)) (PJ.cons ZgG (PJ.cons (Zco (vs 4)) PJ.nil))))))))) Pu.ps_nil))))) wk wk)))
def ZfP:Env->RS:=(Zu (sAs (g1 Yo) (Za (sUn (Zy "steps") (sV 0)) Zb)))
def Zaf:List D->RF:=Zx [.br] 0 ZfP
theorem Zbv(T:Txt P w K mg):OkM base T 1 T.q1u [.br] Zaf:=okm ZeW fun _ _ _ _ _ _ hr =>
  (Zf (Zp (Ya rfl (Z3 T) (Zi (p_b (Zz rfl (vb 0) rfl)) Zl) (by rfl)) wk wk))
def Zgq:Env->RS:=(Zu (Z9 (sUn (Zfr "Work") (sV 1)) (sOp gEq (sAs (g1 (QM "Work" Qw)) (Za (sV 0) Zb)) (sAs (g1 (QM "Work" Qw)) (Za (sV 1) Zb)))))
def QB:List D->RF:=Zx [.br,.br] 0 Zgq
theorem Zb3(T:Txt P w K mg):OkM base T 7 T.q1v [.br,.br] QB:=okm ZfG fun _ _ _ _ _ _ hr =>
  (Zf (Zp (YA (ZgD (c:="Work") rfl rfl (Z5 T) rfl (vb 1) (Vt (v:= .ref T.q4l.a) rfl T.q4l.m rfl)) (Y2 (JN rfl (u64 hr) (p_b (Zap (c:="Work") rfl rfl T.q5v (JW T) T.q1t.n (hr.mono (by decide)) (ZaJ T) (Zi (vb 0) Zl) (by rfl))) (p_b (Zap (c:="Work") rfl rfl T.q5v (JW T) T.q1t.n (hr.mono (by decide)) (ZaJ T) (Zi (vb 1) Zl) (by rfl)))))) wk wk))
def ZkN:Env->RS:=(Zu (Z9 (Zo Zba (Za (sV 0) Zb)) (sOp gGe (sV 0) (sC (.int 1)))))
def ZcE:List D->RF:=Zx [.br] 0 ZkN
theorem ZdY(T:Txt P w K mg):OkU base T 2 T.q1w [.br] ZcE:=oku ZiV fun _ _ _ _ _ _ hr =>
  (Zf (Zp (YA (pc (ZcN T) hr (Xc rfl rfl rfl rfl) (Zt (vb 0) Zd)) (Y2 (Zmj (vb 0) (p_b Zk)))) wk wk))
def ZkO:Env->RS:=(Zg (ZW (sOr (ZS (sB (sUn (ZbI "tuple") (sV 0)))) (sB (sOp gNe (sAs (g1 Yo) (Za (sV 0) Zb)) (sC (.int 3)))))
  (Zu (sC (.bl false)))
  sNx)
  (Zu (Z9 (Zo ZP (Za (sOp gIx (sV 0) (sC (.int 0))) Zb)) (Z9 (Zo ZP (Za (sOp gIx (sV 0) (sC (.int 1))) Zb)) (Zo ZcE (Za (sOp gIx (sV 0) (sC (.int 2))) Zb))))))
def Ze1:List D->RF:=Zx [.br] 0 ZkO
theorem Zjg(T:Txt P w K mg):OkU base T 3 T.q1x [.br] Ze1:=oku ZiW fun _ _ _ _ _ _ hr =>
  (Zc (ZZ (PW.pt (Yj (ZI (ZF (Zbn rfl rfl (Z5 T) rfl (vb 0) (pe_bltn (v:= .ty "tuple") rfl (Z8 T) (by decide +kernel) rfl)))) (YU (JF rfl (u64 hr) (p_b (Ya rfl (Z3 T) (Zi (vb 0) Zl) (by rfl))) (p_b Zk))))) wk
  (Zf (Zp Qc wk wk))
  ZJ)
  (Zf (Zp (YA (pc (ZN T) hr (Xc rfl rfl rfl rfl) (Zt (p_b (Zr rfl (u1 hr) (vb 0) (p_b Zk) (fun _ _=>rfl))) Zd)) (YA (pc (ZN T) hr (Xc rfl rfl rfl rfl) (Zt (p_b (Zr rfl (u1 hr) (vb 0) (p_b Zk) (fun _ _=>rfl))) Zd)) (Y2 (pc (ZdY T) hr (Xc rfl rfl rfl rfl) (Zt (p_b (Zr rfl (u1 hr) (vb 0) (p_b Zk) (fun _ _=>rfl))) Zd))))) wk wk)))
def Zit:Env->RS:=(Zg (ZW (sOr (ZS (sB (Zo YK (Za (sV 0) Zb)))) (ZS (sB (sAs (g1 Zay) (Za (sLc (sIt D.seq (sV 0)) (Zh 1) ZO (Zo Ze1 (Za (sV 1) Zb)) [1]) Zb)))))
  (Zu (sC (.bl false)))
  sNx)
  (Zu (Zo QY (Za (sLc (sIt D.seq (sV 0)) (Zh 1) ZO (sAs Zw (Za (sOp gIx (sV 1) (sC (.int 0))) (Za (sOp gIx (sV 1) (sC (.int 1))) Zb))) [1]) Zb))))
def Zds:List D->RF:=Zx [.br] 1 Zit
theorem Zgr(T:Txt P w K mg):OkU base T 4 T.q1y [.br] Zds:=oku Qz fun _ _ _ _ _ _ hr =>
  (Zc (ZZ (PW.pt (Yj (ZI (ZF (pc (YR T) hr (Xc rfl rfl rfl rfl) (Zt (vb 0) Zd)))) (YU (ZI (ZF (Zah rfl rfl (Zam T) (Zi (p_b (ZL (lc (own:= [("one",1)]) (us:= [1]) Qz (ZA rfl (vb 0)) (Nk.na 1 (Nk.refl _)) (fun _ _ _ _ _=>(gn 1 Qz.nd)) (fun _ _ _ _ _=>ZC) (fun _ _ _ _ _=>(pc (Zjg T) hr takes0 (Zt (vs 1) Zd)))))) Zl) (by rfl))))))) wk
  (Zf (Zp Qc wk wk))
  ZJ)
  (Zf (Zp (pc (JA T) hr (Xc rfl rfl rfl rfl) (Zt (p_b (ZL (lc (own:= [("one",1)]) (us:= [1]) Qz (ZA rfl (vb 0)) (Nk.na 1 (Nk.refl _)) (fun _ _ _ _ _=>(gn 1 Qz.nd)) (fun _ _ _ _ _=>ZC) (fun _ _ _ _ _=>(ZH (Pu.ps_cons (Zr rfl (u1 hr) (vs 1) (p_b Zk) (fun _ _=>rfl)) (Pu.ps_cons (Zr rfl (u1 hr) (vs 1) (p_b Zk) (fun _ _=>rfl)) Pu.ps_nil))))))) Zd)) wk wk)))
def ZdR:Env->RS:=(Zu (Z9 (Zo ZP (Za (sV 1) Zb)) (sOp (gIn false) (sV 1) (sUn (Zy "leads") (sV 0)))))
def Qo:List D->RF:=Zx [.br,.br] 0 ZdR
theorem Q0(T:Txt P w K mg):OkM base T 2 T.q1z [.br,.br] Qo:=okm Zdl fun _ _ _ _ _ _ hr =>
  (Zf (Zp (YA (pc (ZN T) hr (Xc rfl rfl rfl rfl) (Zt (vb 1) Zd)) (Y2 (ZaZ rfl (u65 hr) (vb 1) (p_b (Zz rfl (vb 0) rfl)) (by rfl)))) wk wk))
end
end Pu
namespace Pu
open PySem L2 Pw
section
variable {P:Program}{w:World}{K:PySem.W.Frag}{mg:Str->Option Value}{base:Heap}
def ZkP:Env->RS:=(Zg (ZW (sOr (ZS (sB (sUn (ZbI "tuple") (sV 1)))) (sOr (sB (sOp gNe (sAs (g1 Yo) (Za (sV 1) Zb)) (sC (.int 4)))) (sOr (ZS (sB (Zo ZP (Za (sOp gIx (sV 1) (sC (.int 0))) Zb)))) (ZS (sB (Zo ZP (Za (sOp gIx (sV 1) (sC (.int 1))) Zb)))))))
  (Zu (sC (.bl false)))
  sNx)
  (Zg (ZW (sOr (sB (sOp (gIn true) (sOp gIx (sV 1) (sC (.int 1))) (sV 0))) (ZS (sB (Ys "Step" "is_touched" [] Qo (sOp gIx (sV 0) (sOp gIx (sV 1) (sC (.int 1)))) (Za (sOp gIx (sV 1) (sC (.int 2))) Zb)))))
  (Zu (sC (.bl false)))
  sNx)
  (Zu (Zo ZcE (Za (sOp gIx (sV 1) (sC (.int 3))) Zb)))))
def Ze2:List D->RF:=Zx [.sh,.br] 0 ZkP
theorem Zjh(T:Txt P w K mg):OkU base T 3 T.q2a [.sh,.br] Ze2:=oku ZiX fun _ _ _ _ _ _ hr =>
  (Zc (ZZ (PW.pt (Yj (ZI (ZF (Zbn rfl rfl (Z5 T) rfl (vb 1) (pe_bltn (v:= .ty "tuple") rfl (Z8 T) (by decide +kernel) rfl)))) (Yj (JF rfl (u64 hr) (p_b (Ya rfl (Z3 T) (Zi (vb 1) Zl) (by rfl))) (p_b Zk)) (Yj (ZI (ZF (pc (ZN T) hr (Xc rfl rfl rfl rfl) (Zt (p_b (Zr rfl (u1 hr) (vb 1) (p_b Zk) (fun _ _=>rfl))) Zd)))) (YU (ZI (ZF (pc (ZN T) hr (Xc rfl rfl rfl rfl) (Zt (p_b (Zr rfl (u1 hr) (vb 1) (p_b Zk) (fun _ _=>rfl))) Zd))))))))) wk
  (Zf (Zp Qc wk wk))
  ZJ)
  (Zc (ZZ (PW.pt (Yj (ZdA rfl (u65 hr) (p_b (Zr rfl (u1 hr) (vb 1) (p_b Zk) (fun _ _=>rfl))) (vs 0) (by rfl)) (YU (ZI (ZF (Zho (ms:= [.br]) (c:="Step") (ms2:= []) rfl rfl T.q5l (Q0 T) (hr.mono (by decide)) T.q1z.n .nil DReps.nil (Xc rfl rfl rfl rfl) (p_b (Zr rfl (u1 hr) (vs 0) (p_b (Zr rfl (u1 hr) (vb 1) (p_b Zk) (fun _ _=>rfl))) (fun _ _=>rfl))) (Zt (p_b (Zr rfl (u1 hr) (vb 1) (p_b Zk) (fun _ _=>rfl))) Zd))))))) wk
  (Zf (Zp Qc wk wk))
  ZJ)
  (Zf (Zp (pc (ZdY T) hr (Xc rfl rfl rfl rfl) (Zt (p_b (Zr rfl (u1 hr) (vb 1) (p_b Zk) (fun _ _=>rfl))) Zd)) wk wk))))
def Ziu:Env->RS:=(Zu (Z9 (Zo YK (Za (sV 1) Zb)) (sAs (g1 Zay) (Za (sLc (sIt D.seq (sV 1)) (Zh 2) ZO (Zo Ze2 (Za (sV 0) (Za (sV 2) Zb))) [2]) Zb))))
def Zdt:List D->RF:=Zx [.sh,.br] 1 Ziu
theorem Zgs(T:Txt P w K mg):OkU base T 4 T.q2b [.sh,.br] Zdt:=oku ZaB fun _ _ _ _ _ _ hr =>
  (Zf (Zp (YA (pc (YR T) hr (Xc rfl rfl rfl rfl) (Zt (vb 1) Zd)) (Y2 (Zah rfl rfl (Zam T) (Zi (p_b (ZL (lc (own:= [("one",2)]) (us:= [2]) ZaB (ZA rfl (vb 1)) (Nk.na 2 (Nk.refl _)) (fun _ _ _ _ _=>(gn 2 ZaB.nd)) (fun _ _ _ _ _=>ZC) (fun _ _ _ _ _=>(pc (Zjh T) hr takes0 (Zn (ws 0) (Zt (vs 2) Zd))))))) Zl) (by rfl)))) wk wk))
def Zat:Env->RS:=(Zg (ZW (ZS (sB (sUn (Zfr "Work") (sV 1))))
  (YM "InvalidKitchen" "word" (sC (.str "work")))
  sNx)
  (Zg (ZW (ZS (sB (Zo Zds (Za (sV 2) Zb))))
  (YM "InvalidKitchen" "word" (sC (.str "traces")))
  sNx)
  (Zg (ZW (ZS (sB (Zo Zdt (Za (sDc (fun _ _=>false) (sIt D.seq (sUn (Zy "steps") (sV 1))) (Zh 4) ZO (sUn (Zy "name") (sV 4)) (sV 4) [4]) (Za (sV 3) Zb)))))
  (YM "InvalidKitchen" "word" (sC (.str "limits")))
  sNx)
  (Zg (Qy 0 "Kitchen" "work" (sV 1))
  (Zg (Qy 0 "Kitchen" "traces" (sAs (g1 Yd) (Za (sV 2) Zb)))
  (Zg (Qy 0 "Kitchen" "limits" (sAs (g1 Yd) (Za (sV 3) Zb)))
  (Qy 0 "Kitchen" "starts" (sDc (fun _ _=>true) (sIt D.seq (J9 0 (Ln.fld Ln.here "traces"))) (Yu 3 (Pu.tCons (Zh 5) (Pu.tCons (Zh 6) (Pu.tCons (Zh 7) Pu.tNil)))) ZO (sAs Zw (Za (sV 5) (Za (sV 6) Zb))) (sV 7) [5,6,7]))))))))
def Q2:List D->RF:=Zx [(.op (.obj Z2)),.sh,.br,.br] 4 Zat
theorem JY(T:Txt P w K mg):FnOkG P w K mg base (L2.CX P w) 5 T.q2c T.q2d ["self","work","traces","limits"] (SpF (gxF T) (xaF T) [(.op (.obj Z2)),.sh,.br,.br] Q2) :=
 Zhm (pm:= [(.op (.obj Z2)),.sh,.br,.br]) (n:=4) (g:=Zat) (k:=4) T.q2i Yf rfl rfl rfl fun cdv A outer s H E hr =>
  (Zc (ZZ (ZI (ZF (ZgD (c:="Work") rfl rfl (Z5 T) rfl (vs 1) (Vt (v:= .ref T.q4l.a) rfl T.q4l.m rfl)))) wk
  (Zf (Yl (k:=0) (c:="InvalidKitchen") rfl T.q4r QP rfl (hr.mono (by decide)) rfl rfl T.q4d.m (Xc rfl rfl rfl rfl) Zv wk))
  ZJ)
  (Zc (ZZ (ZI (ZF (pc (Zgr T) hr (Xc rfl rfl rfl rfl) (Zt (vb 2) Zd)))) wk
  (Zf (Yl (k:=0) (c:="InvalidKitchen") rfl T.q4r QP rfl (hr.mono (by decide)) rfl rfl T.q4d.m (Xc rfl rfl rfl rfl) Zv wk))
  ZJ)
  (Zc (ZZ (ZI (ZF (pc (Zgs T) hr (Xc rfl rfl rfl rfl) (Zn (ZL (Zcu (b:=(fun _ _=>false)) (own:= [("step",4)]) (us:= [4]) (u1 hr) (by rfl) Yf.nd (ZA rfl (p_b (Zz rfl (vs 1) rfl))) (X8 (own:= [("step",4)]) (N:=n_Kitchen___init__) (sc:=defScope ZK) (by decide +kernel)) rfl (by decide) (Nk.na 4 (Nk.refl _)) (fun _ _ _ _ _=>(gn 4 Yf.nd)) (fun _ _ _ _ _=>ZC) (fun _ _ _ _ _=>(Zz rfl (vs 4) rfl)) (fun _ _ _ _ _=>(ws 4)))) (Zt (vb 3) Zd))))) wk
  (Zf (Yl (k:=0) (c:="InvalidKitchen") rfl T.q4r QP rfl (hr.mono (by decide)) rfl rfl T.q4d.m (Xc rfl rfl rfl rfl) Zv wk))
  ZJ)
  (Zc (QL (c:="Kitchen") (C:=T.q4h.a) (fsh:=Z2) rfl (pv 0) rfl (Or.inr rfl) rfl rfl (T.q5g _ (.head _)) (ws 1) wk)
  (Zc (QL (c:="Kitchen") (C:=T.q4h.a) (fsh:=Z2) rfl (pv 0) rfl (Or.inr rfl) rfl rfl (T.q5g _ (.tail _ (.head _))) (Yc rfl (Z8 T) (Zi (vb 2) Zl) (by rfl)) wk)
  (Zc (QL (c:="Kitchen") (C:=T.q4h.a) (fsh:=Z2) rfl (pv 0) rfl (Or.inr rfl) rfl rfl (T.q5g _ (.tail _ (.tail _ (.head _)))) (Yc rfl (Z8 T) (Zi (vb 3) Zl) (by rfl)) wk)
  (Zf (ZQ (Wk.na 1 (Wk.na 2 (Wk.na 3 (Wk.refl _)))) (QL (c:="Kitchen") (C:=T.q4h.a) (fsh:=Z2) rfl (pv 0) rfl (Or.inr rfl) rfl rfl (T.q5g _ (.tail _ (.tail _ (.tail _ (.head _))))) (ZL (Zcu (b:=(fun _ _=>true)) (own:= [("trace",5),("place",6),("level",7)]) (us:= [5,6,7]) (u1 hr) (by rfl) Yf.nd (ZA rfl (p_b (ZbK (JP rfl (JO (pv 0)) rfl) rfl (Or.inr rfl)))) (X8 (own:= [("trace",5),("place",6),("level",7)]) (N:=n_Kitchen___init__) (sc:=defScope ZK) (by decide +kernel)) rfl (by decide) (Nk.na 5 (Nk.na 6 (Nk.na 7 (Nk.refl _)))) (fun _ _ _ _ _=>(Yh rfl rfl (Zm (gn 5 Yf.nd) (Zm (gn 6 Yf.nd) (Zm (gn 7 Yf.nd) Z0))))) (fun _ _ _ _ _=>ZC) (fun _ _ _ _ _=>(ZH (Pu.ps_cons (ws 5) (Pu.ps_cons (ws 6) Pu.ps_nil)))) (fun _ _ _ _ _=>(ws 7)))) wk)))))))))
def Zji:Env->RS:=(Zg (ZW (sOr (ZS (sB (Zex gLe gLe (sC (.int 1)) (sAs (g1 Yo) (Za (sV 0) Zb)) (sV 1)))) (ZS (sB (sAs (g1 Zay) (Za (sLc (sIt Zj2 (sV 0)) (Zh 2) ZO (sOp (gIn false) (sV 2) (sC (.str "0123456789"))) [2]) Zb)))))
  (Zu (sC .non))
  sNx)
  (Zu (sIf (sOr (sB (sOp gEq (sV 0) (sC (.str "0")))) (sB (sOp gNe (sOp gIx (sV 0) (sC (.int 0))) (sC (.str "0"))))) (sAs (g1 Zbl) (Za (sV 0) Zb)) (sC .non))))
def ZbQ:List D->RF:=Zx [.sh,.sh] 1 Zji
theorem Zdu(T:Txt P w K mg):OkU base T 1 T.q2o [.sh,.sh] ZbQ:=oku Za8 fun _ _ _ _ _ _ hr =>
  (Zc (ZZ (PW.pt (Yj (ZI (Zjy (op_le.or op_le_str) (op_le.or op_le_str) oLe oLe (p_b Zk) (p_b (Ya rfl (Z3 T) (Zi (vs 0) Zl) (by rfl))) (vs 1))) (YU (ZI (ZF (Zah rfl rfl (Zam T) (Zi (p_b (ZL (lc (own:= [("sign",2)]) (us:= [2]) Za8 (Zni (vs 0)) (Nk.na 2 (Nk.refl _)) (fun _ _ _ _ _=>(gn 2 Za8.nd)) (fun _ _ _ _ _=>ZC) (fun _ _ _ _ _=>(ZaZ rfl (u65 hr) (vs 2) (p_b (Zle (Vt (v:= .str "0123456789") rfl T.qf ⟨_,rfl⟩))) (by rfl)))))) Zl) (by rfl))))))) wk
  (Zf (Zp Y1 wk wk))
  ZJ)
  (Zf (Zp (Zck (PW.pt (Yj (Zeb rfl (u64 hr) (vs 0) (p_b Zv)) (YU (JF rfl (u64 hr) (p_b (Zr rfl (u1 hr) (vs 0) (p_b Zk) (fun _ _=>rfl))) (p_b Zv))))) (Zhc (ZgW T) (Zi (vs 0) Zl) (by rfl)) Y1) wk wk)))
def ZkQ:Env->RS:=(Zg (ZB 1 (sM1 Qr (sV 0) (sC (.str " "))))
  (Zg (ZW (sOr (sB (sOp gNe (sAs (g1 Yo) (Za (sV 1) Zb)) (sC (.int 3)))) (sOr (ZS (sB (Zo ZP (Za (sOp gIx (sV 1) (sC (.int 0))) Zb)))) (ZS (sB (Zo ZP (Za (sOp gIx (sV 1) (sC (.int 1))) Zb))))))
  (Zu (sC .non))
  sNx)
  (Zg (ZB 2 (Zo ZbQ (Za (sOp gIx (sV 1) (sC (.int 2))) (Za (sC (.int 19)) Zb))))
  (Zu (sIf (sB (sUn Zd7 (sV 2))) (sC .non) (sAs Zw (Za (sOp gIx (sV 1) (sC (.int 0))) (Za (sOp gIx (sV 1) (sC (.int 1))) (Za (sV 2) Zb)))))))))
def Ze3:List D->RF:=Zx [.sh] 2 ZkQ
theorem Zjj(T:Txt P w K mg):OkU base T 2 T.q2p [.sh] Ze3:=oku ZbO fun _ _ _ _ _ _ hr =>
  (Zc (ZY (i:=1) ZbO.nd rfl (Or.inl rfl) (QT rfl (vs 0) (p_b Zv)) wk rfl)
  (Zc (ZZ (PW.pt (Yj (JF rfl (u64 hr) (p_b (Ya rfl (Z3 T) (Zi (vs 1) Zl) (by rfl))) (p_b Zk)) (Yj (ZI (ZF (pc (ZN T) hr (Xc rfl rfl rfl rfl) (Zt (p_b (Zr rfl (u1 hr) (vs 1) (p_b Zk) (fun _ _=>rfl))) Zd)))) (YU (ZI (ZF (pc (ZN T) hr (Xc rfl rfl rfl rfl) (Zt (p_b (Zr rfl (u1 hr) (vs 1) (p_b Zk) (fun _ _=>rfl))) Zd)))))))) wk
  (Zf (Zp Y1 wk wk))
  ZJ)
  (Zc (ZY (i:=2) ZbO.nd rfl (Or.inl rfl) (pc (Zdu T) hr (Xc rfl rfl rfl rfl) (Zn (Zr rfl (u1 hr) (vs 1) (p_b Zk) (fun _ _=>rfl)) (Zn (ZgA (Vt (v:= .int 19) rfl T.qd ⟨_,rfl⟩)) Zd))) wk rfl)
  (Zf (Zp (Zck (Zey (vs 2)) Y1 (ZH (Pu.ps_cons (Zr rfl (u1 hr) (vs 1) (p_b Zk) (fun _ _=>rfl)) (Pu.ps_cons (Zr rfl (u1 hr) (vs 1) (p_b Zk) (fun _ _=>rfl)) (Pu.ps_cons (ws 2) Pu.ps_nil))))) wk wk)))))
def ZlO:Env->RS:=(Zg (Zfm (sM1 Zal (sV 0) (sC (.str " go "))) (Yu 3 (Pu.tCons (Zh 1) (Pu.tCons (Zh 2) (Pu.tCons (Zh 3) Pu.tNil)))))
  (Zg (ZB 4 (sM1 Qr (sV 1) (sC (.str " "))))
  (Zg (ZW (sOr (sB (sOp gLt (sAs (g1 Yo) (Za (sV 4) Zb)) (sC (.int 3)))) (sOr (ZS (sB (Zo ZP (Za (sOp gIx (sV 4) (sC (.int 0))) Zb)))) (sOr (sB (sOp gNe (sOp gIx (sV 4) (sC (.int 1))) (sC (.str "at")))) (ZS (sB (Zo Qn (Za (Za2 (sV 4) (Zai (sC (.int 2))) Zbo) Zb)))))))
  (Zu (sC .non))
  sNx)
  (Zg (ZB 5 (sIf (sB (sOp gNe (sV 2) (sC (.str "")))) (sLc (sIt D.seq (sM1 Qr (sV 3) (sC (.str ", ")))) (Zh 6) ZO (Zo Ze3 (Za (sV 6) Zb)) [6]) (sAs ZE Zb)))
  (Zu (sIf (sB (sOp (gIn false) (sC .non) (sV 5))) (sC .non) (sAs Zw (Za (sOp gIx (sV 4) (sC (.int 0))) (Za (Za2 (sV 4) (Zai (sC (.int 2))) Zbo) (Za (sV 5) Zb))))))))))
def Zbw:List D->RF:=Zx [.sh] 6 ZlO
theorem ZcF(T:Txt P w K mg):OkU base T 3 T.q2q [.sh] Zbw:=oku Qg fun _ _ _ _ _ _ hr =>
  (Zc (ZeF (ZhT rfl (vs 0) (p_b Zv)) wk (Yh rfl rfl (Zm (gn 1 Qg.nd) (Zm (gn 2 Qg.nd) (Zm (gn 3 Qg.nd) Z0)))))
  (Zc (ZY (i:=4) Qg.nd rfl (Or.inl rfl) (QT rfl (vs 1) (p_b Zv)) wk rfl)
  (Zc (ZZ (PW.pt (Yj (Zec (p_b (Ya rfl (Z3 T) (Zi (vs 4) Zl) (by rfl))) (p_b Zk)) (Yj (ZI (ZF (pc (ZN T) hr (Xc rfl rfl rfl rfl) (Zt (p_b (Zr rfl (u1 hr) (vs 4) (p_b Zk) (fun _ _=>rfl))) Zd)))) (Yj (JF rfl (u64 hr) (p_b (Zr rfl (u1 hr) (vs 4) (p_b Zk) (fun _ _=>rfl))) (p_b Zv)) (YU (ZI (ZF (pc (QZ T) hr (Xc rfl rfl rfl rfl) (Zt (p_b (ZaN rfl (vs 4) (Zao (p_b Zk)) ZbY)) Zd))))))))) wk
  (Zf (Zp Y1 wk wk))
  ZJ)
  (Zc (ZY (i:=5) Qg.nd rfl (Or.inl rfl) (Zck (JF rfl (u64 hr) (vs 2) (p_b Zv)) (ZL (lc (own:= [("piece",6)]) (us:= [6]) Qg (ZA rfl (p_b (QT rfl (vs 3) (p_b Zv)))) (Nk.na 6 (Nk.refl _)) (fun _ _ _ _ _=>(gn 6 Qg.nd)) (fun _ _ _ _ _=>ZC) (fun _ _ _ _ _=>(pc (Zjj T) hr takes0 (Zn (ws 6) Zd))))) (Pu.p_lst Pu.ps_nil)) wk rfl)
  (Zf (Zp (Zck (ZbH rfl (u65 hr) (p_b Y1) (vs 5) (by rfl)) Y1 (ZH (Pu.ps_cons (Zr rfl (u1 hr) (vs 4) (p_b Zk) (fun _ _=>rfl)) (Pu.ps_cons (ZaN rfl (vs 4) (Zao (p_b Zk)) ZbY) (Pu.ps_cons (ws 5) Pu.ps_nil))))) wk wk))))))
def Zjk:Env->RS:=(Zg (ZB 2 (Zo Zbw (Za (sV 1) Zb)))
  (Zg (ZW (sB (sUn Zd7 (sV 2)))
  (YM "InvalidText" "at" (sC (.int 0)))
  sNx)
  (Zu (ZdH "Step" 3 YD (sV 0) (sV 2)))))
def ZbR:List D->RF:=Zx [.sh,.sh] 1 Zjk
theorem Ziv(T:Txt P w K mg):OkM base T 7 T.q2r [.sh,.sh] ZbR:=okm Zdm fun _ _ _ _ _ _ hr =>
  (Zc (ZY (i:=2) Zdm.nd rfl (Or.inl rfl) (pc (ZcF T) hr (Xc rfl rfl rfl rfl) (Zn (ws 1) Zd)) wk rfl)
  (Zc (ZZ (Zey (vs 2)) wk
  (Zf (Yl (k:=0) (c:="InvalidText") rfl T.q4t QP rfl (hr.mono (by decide)) rfl rfl T.q4f.m (Xc rfl rfl rfl rfl) Zk wk))
  ZJ)
  (Zf (Zp (Zeo (c:="Step") (C:=T.q4k.a) (fsh:=YQ) (ms:= [.sh,.br,.br]) rfl T.q5i (Qa T) rfl (hr.mono (by decide)) T.n_Step___init__ rfl (Xc rfl rfl rfl rfl) (ws 0) (vs 2)) wk wk))))
def ZlP:Env->RS:=(Zg (ZB 1 (sM1 Qr (sV 0) (sC (.str " "))))
  (Zg (ZW (sOr (sB (sOp gNe (sAs (g1 Yo) (Za (sV 1) Zb)) (sC (.int 3)))) (sOr (sB (sOp gNe (sOp gIx (sV 1) (sC (.int 0))) (sC (.str "ahead")))) (sOr (ZS (sB (Zo ZP (Za (sOp gIx (sV 1) (sC (.int 1))) Zb)))) (ZS (sB (Zo ZP (Za (sOp gIx (sV 1) (sC (.int 2))) Zb)))))))
  (Zu (sC .non))
  sNx)
  (Zu (sAs Zw (Za (sOp gIx (sV 1) (sC (.int 1))) (Za (sOp gIx (sV 1) (sC (.int 2))) Zb))))))
def Zdv:List D->RF:=Zx [.sh] 1 ZlP
theorem Ze4(T:Txt P w K mg):OkU base T 2 T.q2s [.sh] Zdv:=oku ZeX fun _ _ _ _ _ _ hr =>
  (Zc (ZY (i:=1) ZeX.nd rfl (Or.inl rfl) (QT rfl (vs 0) (p_b Zv)) wk rfl)
  (Zc (ZZ (PW.pt (Yj (JF rfl (u64 hr) (p_b (Ya rfl (Z3 T) (Zi (vs 1) Zl) (by rfl))) (p_b Zk)) (Yj (JF rfl (u64 hr) (p_b (Zr rfl (u1 hr) (vs 1) (p_b Zk) (fun _ _=>rfl))) (p_b Zv)) (Yj (ZI (ZF (pc (ZN T) hr (Xc rfl rfl rfl rfl) (Zt (p_b (Zr rfl (u1 hr) (vs 1) (p_b Zk) (fun _ _=>rfl))) Zd)))) (YU (ZI (ZF (pc (ZN T) hr (Xc rfl rfl rfl rfl) (Zt (p_b (Zr rfl (u1 hr) (vs 1) (p_b Zk) (fun _ _=>rfl))) Zd))))))))) wk
  (Zf (Zp Y1 wk wk))
  ZJ)
  (Zf (Zp (ZH (Pu.ps_cons (Zr rfl (u1 hr) (vs 1) (p_b Zk) (fun _ _=>rfl)) (Pu.ps_cons (Zr rfl (u1 hr) (vs 1) (p_b Zk) (fun _ _=>rfl)) Pu.ps_nil))) wk wk))))
def Ziw:Env->RS:=(Zg (Zek 2 3 (sAs ZE Zb) (sAs ZE Zb))
  (Zg (Jo (Zcj (sB (sOp gLt (sV 1) (sAs (g1 Yo) (Za (sV 0) Zb)))) (sB (sUn Zdz (Zo Zbw (Za (sOp gIx (sV 0) (sV 1)) Zb)))))
  (Zg (sDo (Yk 2 Yn (Za (Zo Zbw (Za (sOp gIx (sV 0) (sV 1)) Zb)) Zb)))
  (Zft 1 Zcp (sC (.int 1)))) 100000)
  (Zg (Jo (Zcj (sB (sOp gGt (sAs (g1 Yo) (Za (sV 2) Zb)) (sC (.int 0)))) (Zcj (sB (sOp gLt (sV 1) (sAs (g1 Yo) (Za (sV 0) Zb)))) (sB (sUn Zdz (Zo Zdv (Za (sOp gIx (sV 0) (sV 1)) Zb))))))
  (Zg (sDo (Yk 3 Yn (Za (Zo Zdv (Za (sOp gIx (sV 0) (sV 1)) Zb)) Zb)))
  (Zft 1 Zcp (sC (.int 1)))) 100000)
  (Zg (ZW (sB (sOp gEq (sAs (g1 Yo) (Za (sV 2) Zb)) (sC (.int 0))))
  (YM "InvalidText" "at" (sV 1))
  sNx)
  (Zu (sAs Zw (Za (sV 2) (Za (sV 3) (Za (sV 1) Zb)))))))))
def Zbb:List D->RF:=Zx [.sh,.sh] 2 Ziw
theorem ZcO(T:Txt P w K mg):OkU base T 4 T.q2t [.sh,.sh] Zbb:=oku Jz fun _ _ _ _ _ _ hr =>
  (Zc (ZgK (i:=2) (j:=3) (t1:= .lst .sh) (t2:= .lst .sh) rfl Jz.nd rfl rfl (by decide) rfl rfl (by rfl) (Jw Pu.ps_nil) (Jw Pu.ps_nil) wk rfl rfl)
  (Zc (ZaM 100000 (XG rfl) (PW.pt (Zbk (Zec (vs 1) (p_b (Ya rfl (Z3 T) (Zi (vs 0) Zl) (by rfl)))) (ZbX (Zez (p_b (pc (ZcF T) hr (Xc rfl rfl rfl rfl) (Zn (Zr rfl (u1 hr) (vs 0) (vs 1) (fun _ _=>rfl)) Zd))))))) wk
  (Zc (Yg (Yq Yr rfl Xn Xq Xr XU rfl (pv 2) rfl (Or.inl rfl) (Pu.ps_cons (pc (ZcF T) hr (Xc rfl rfl rfl rfl) (Zn (Zr rfl (u1 hr) (vs 0) (vs 1) (fun _ _=>rfl)) Zd)) Pu.ps_nil)) wk)
  (Zf (ZeI (i:=1) Jz.nd rfl (Or.inl rfl) (p_b Zk) wk rfl))))
  (Zc (YS (Wk.fr 2 _ rfl (Wk.refl _)) rfl (ZaM 100000 (XG rfl) (PW.pt (Zbk (Zed (p_b (Ya rfl (Z3 T) (Zi (vs 2) Zl) (by rfl))) (p_b Zk)) (Zbk (Zec (vs 1) (p_b (Ya rfl (Z3 T) (Zi (vs 0) Zl) (by rfl)))) (ZbX (Zez (p_b (pc (Ze4 T) hr (Xc rfl rfl rfl rfl) (Zn (Zr rfl (u1 hr) (vs 0) (vs 1) (fun _ _=>rfl)) Zd)))))))) wk
  (Zc (Yg (Yq Yr rfl Xn Xq Xr XU rfl (pv 3) rfl (Or.inl rfl) (Pu.ps_cons (pc (Ze4 T) hr (Xc rfl rfl rfl rfl) (Zn (Zr rfl (u1 hr) (vs 0) (vs 1) (fun _ _=>rfl)) Zd)) Pu.ps_nil)) wk)
  (Zf (ZeI (i:=1) Jz.nd rfl (Or.inl rfl) (p_b Zk) wk rfl)))))
  (Zc (YS (Wk.fr 3 _ rfl (Wk.refl _)) rfl (ZZ (Zeb rfl (u64 hr) (p_b (Ya rfl (Z3 T) (Zi (vs 2) Zl) (by rfl))) (p_b Zk)) wk
  (Zf (Yl (k:=0) (c:="InvalidText") rfl T.q4t QP rfl (hr.mono (by decide)) rfl rfl T.q4f.m (Xc rfl rfl rfl rfl) (ws 1) wk))
  ZJ))
  (Zf (Zp (ZH (Pu.ps_cons (ws 2) (Pu.ps_cons (ws 3) (Pu.ps_cons (ws 1) Pu.ps_nil)))) wk wk))))))
def Zjl:Env->RS:=(Zg (ZB 2 (sM1 Qr (sV 1) (sC (.str "\n"))))
  (Zg (Zfm (Zo Zbb (Za (sV 2) (Za (sC (.int 0)) Zb))) (Yu 3 (Pu.tCons (Zh 3) (Pu.tCons (Zh 4) (Pu.tCons (Zh 5) Pu.tNil)))))
  (Zg (ZW (sB (sOp gLt (sV 5) (sAs (g1 Yo) (Za (sV 2) Zb))))
  (YM "InvalidText" "at" (sV 5))
  sNx)
  (Zu (ZhI "Work" [] YE (sV 0) (Za (sLc (sIt D.seq (sV 3)) (Zh 6) ZO (ZdH "Step" 3 YD (sC (.cls "Step")) (sV 6)) [6]) (Za (sV 4) Zb)))))))
def ZbS:List D->RF:=Zx [.sh,.sh] 5 Zjl
theorem Zix(T:Txt P w K mg):OkM base T 7 T.q2u [.sh,.sh] ZbS:=okm Y9 fun _ _ _ _ _ _ hr =>
  (Zc (ZY (i:=2) Y9.nd rfl (Or.inl rfl) (QT rfl (vs 1) (p_b Zv)) wk rfl)
  (Zc (ZeF (pc (ZcO T) hr (Xc rfl rfl rfl rfl) (Zn (ws 2) (Zn Zk Zd))) wk (Yh rfl rfl (Zm (gn 3 Y9.nd) (Zm (gn 4 Y9.nd) (Zm (gn 5 Y9.nd) Z0)))))
  (Zc (ZZ (Zec (vs 5) (p_b (Ya rfl (Z3 T) (Zi (vs 2) Zl) (by rfl)))) wk
  (Zf (Yl (k:=0) (c:="InvalidText") rfl T.q4t QP rfl (hr.mono (by decide)) rfl rfl T.q4f.m (Xc rfl rfl rfl rfl) (ws 5) wk))
  ZJ)
  (Zf (Zp (ZjK (c:="Work") (C:=T.q4l.a) (fsh:=Z2) (ms:= [.br,.br]) (ms2:= []) T.q5u (Qb T) rfl (hr.mono (by decide)) T.n_Work___init__ .nil DReps.nil (Xc rfl rfl rfl rfl) (ws 0) (Zt (p_b (ZL (lc (own:= [("step",6)]) (us:= [6]) Y9 (ZA rfl (vs 3)) (Nk.na 6 (Nk.refl _)) (fun _ _ _ _ _=>(gn 6 Y9.nd)) (fun _ _ _ _ _=>ZC) (fun _ _ _ _ _=>(Zeo (c:="Step") (C:=T.q4k.a) (fsh:=YQ) (ms:= [.sh,.br,.br]) rfl T.q5i (Qa T) rfl (hr.mono (by decide)) T.n_Step___init__ rfl takes0 (ZeR (Vt (v:= .ref T.q4k.a) rfl T.q4k.m rfl) rfl) (vs 6)))))) (Zt (vs 4) Zd))) wk wk)))))
def ZkR:Env->RS:=(Zu (Zo ZbQ (Za (sV 0) (Za (sC (.int 19)) Zb))))
def ZcG:List D->RF:=Zx [.sh] 0 ZkR
theorem ZdZ(T:Txt P w K mg):OkU base T 2 T.q2v [.sh] ZcG:=oku Zi1 fun _ _ _ _ _ _ hr =>
  (Zf (Zp (pc (Zdu T) hr (Xc rfl rfl rfl rfl) (Zn (ws 0) (Zn (ZgA (Vt (v:= .int 19) rfl T.qb ⟨_,rfl⟩)) Zd))) wk wk))
def ZkS:Env->RS:=(Zg (ZB 1 (sM1 Qr (sV 0) (sC (.str " "))))
  (Zg (ZW (sOr (sB (sOp gNe (sAs (g1 Yo) (Za (sV 1) Zb)) (sC (.int 4)))) (sOr (sB (sOp gNe (sOp gIx (sV 1) (sC (.int 0))) (sC (.str "trace")))) (sOr (ZS (sB (Zo ZP (Za (sOp gIx (sV 1) (sC (.int 1))) Zb)))) (ZS (sB (Zo ZP (Za (sOp gIx (sV 1) (sC (.int 2))) Zb)))))))
  (Zu (sC .non))
  sNx)
  (Zg (ZB 2 (Zo ZcG (Za (sOp gIx (sV 1) (sC (.int 3))) Zb)))
  (Zu (sIf (sB (sUn Zd7 (sV 2))) (sC .non) (sAs Zw (Za (sOp gIx (sV 1) (sC (.int 1))) (Za (sOp gIx (sV 1) (sC (.int 2))) (Za (sV 2) Zb)))))))))
def ZcH:List D->RF:=Zx [.sh] 2 ZkS
theorem Zd0(T:Txt P w K mg):OkU base T 3 T.q2w [.sh] ZcH:=oku ZbP fun _ _ _ _ _ _ hr =>
  (Zc (ZY (i:=1) ZbP.nd rfl (Or.inl rfl) (QT rfl (vs 0) (p_b Zv)) wk rfl)
  (Zc (ZZ (PW.pt (Yj (JF rfl (u64 hr) (p_b (Ya rfl (Z3 T) (Zi (vs 1) Zl) (by rfl))) (p_b (ZgA (Vt (v:= .int 4) rfl T.qr ⟨_,rfl⟩)))) (Yj (JF rfl (u64 hr) (p_b (Zr rfl (u1 hr) (vs 1) (p_b Zk) (fun _ _=>rfl))) (p_b Zv)) (Yj (ZI (ZF (pc (ZN T) hr (Xc rfl rfl rfl rfl) (Zt (p_b (Zr rfl (u1 hr) (vs 1) (p_b Zk) (fun _ _=>rfl))) Zd)))) (YU (ZI (ZF (pc (ZN T) hr (Xc rfl rfl rfl rfl) (Zt (p_b (Zr rfl (u1 hr) (vs 1) (p_b Zk) (fun _ _=>rfl))) Zd))))))))) wk
  (Zf (Zp Y1 wk wk))
  ZJ)
  (Zc (ZY (i:=2) ZbP.nd rfl (Or.inl rfl) (pc (ZdZ T) hr (Xc rfl rfl rfl rfl) (Zn (Zr rfl (u1 hr) (vs 1) (p_b Zk) (fun _ _=>rfl)) Zd)) wk rfl)
  (Zf (Zp (Zck (Zey (vs 2)) Y1 (ZH (Pu.ps_cons (Zr rfl (u1 hr) (vs 1) (p_b Zk) (fun _ _=>rfl)) (Pu.ps_cons (Zr rfl (u1 hr) (vs 1) (p_b Zk) (fun _ _=>rfl)) (Pu.ps_cons (ws 2) Pu.ps_nil))))) wk wk)))))
def ZkT:Env->RS:=(Zg (ZB 1 (sM1 Qr (sV 0) (sC (.str " "))))
  (Zg (ZW (sOr (sB (sOp gNe (sAs (g1 Yo) (Za (sV 1) Zb)) (sC (.int 5)))) (sOr (sB (sOp gNe (sOp gIx (sV 1) (sC (.int 0))) (sC (.str "limit")))) (ZS (sB (sAs (g1 Zay) (Za (sLc (sIt D.seq (Za2 (sV 1) (Zai (sC (.int 1))) (Zai (sC (.int 4))))) (Zh 3) ZO (Zo ZP (Za (sV 3) Zb)) [3]) Zb))))))
  (Zu (sC .non))
  sNx)
  (Zg (ZB 2 (Zo ZcG (Za (sOp gIx (sV 1) (sC (.int 4))) Zb)))
  (Zu (sIf (sB (sUn Zd7 (sV 2))) (sC .non) (sAs Zw (Za (sOp gIx (sV 1) (sC (.int 1))) (Za (sOp gIx (sV 1) (sC (.int 2))) (Za (sOp gIx (sV 1) (sC (.int 3))) (Za (sV 2) Zb))))))))))
def ZcI:List D->RF:=Zx [.sh] 3 ZkT
theorem Zd1(T:Txt P w K mg):OkU base T 3 T.q2x [.sh] ZcI:=oku Jr fun _ _ _ _ _ _ hr =>
  (Zc (ZY (i:=1) Jr.nd rfl (Or.inl rfl) (QT rfl (vs 0) (p_b Zv)) wk rfl)
  (Zc (ZZ (PW.pt (Yj (JF rfl (u64 hr) (p_b (Ya rfl (Z3 T) (Zi (vs 1) Zl) (by rfl))) (p_b (ZgA (Vt (v:= .int 5) rfl T.qj ⟨_,rfl⟩)))) (Yj (JF rfl (u64 hr) (p_b (Zr rfl (u1 hr) (vs 1) (p_b Zk) (fun _ _=>rfl))) (p_b Zv)) (YU (ZI (ZF (Zah rfl rfl (Zam T) (Zi (p_b (ZL (lc (own:= [("word",3)]) (us:= [3]) Jr (ZA rfl (p_b (ZaN rfl (vs 1) (Zao (p_b Zk)) (Zao (p_b Zk))))) (Nk.na 3 (Nk.refl _)) (fun _ _ _ _ _=>(gn 3 Jr.nd)) (fun _ _ _ _ _=>ZC) (fun _ _ _ _ _=>(pc (ZN T) hr takes0 (Zt (vs 3) Zd)))))) Zl) (by rfl)))))))) wk
  (Zf (Zp Y1 wk wk))
  ZJ)
  (Zc (ZY (i:=2) Jr.nd rfl (Or.inl rfl) (pc (ZdZ T) hr (Xc rfl rfl rfl rfl) (Zn (Zr rfl (u1 hr) (vs 1) (p_b Zk) (fun _ _=>rfl)) Zd)) wk rfl)
  (Zf (Zp (Zck (Zey (vs 2)) Y1 (ZH (Pu.ps_cons (Zr rfl (u1 hr) (vs 1) (p_b Zk) (fun _ _=>rfl)) (Pu.ps_cons (Zr rfl (u1 hr) (vs 1) (p_b Zk) (fun _ _=>rfl)) (Pu.ps_cons (Zr rfl (u1 hr) (vs 1) (p_b Zk) (fun _ _=>rfl)) (Pu.ps_cons (ws 2) Pu.ps_nil)))))) wk wk)))))
def Zjm:Env->RS:=(Zg (Zek 2 3 (sAs ZE Zb) (sAs ZE Zb))
  (Zg (Jo (Zcj (sB (sOp gLt (sV 1) (sAs (g1 Yo) (Za (sV 0) Zb)))) (sB (sUn Zdz (Zo ZcH (Za (sOp gIx (sV 0) (sV 1)) Zb)))))
  (Zg (sDo (Yk 2 Yn (Za (Zo ZcH (Za (sOp gIx (sV 0) (sV 1)) Zb)) Zb)))
  (Zft 1 Zcp (sC (.int 1)))) 100000)
  (Zg (Jo (Zcj (sB (sOp gLt (sV 1) (sAs (g1 Yo) (Za (sV 0) Zb)))) (sB (sUn Zdz (Zo ZcI (Za (sOp gIx (sV 0) (sV 1)) Zb)))))
  (Zg (sDo (Yk 3 Yn (Za (Zo ZcI (Za (sOp gIx (sV 0) (sV 1)) Zb)) Zb)))
  (Zft 1 Zcp (sC (.int 1)))) 100000)
  (Zu (sAs Zw (Za (sV 2) (Za (sV 3) (Za (sV 1) Zb))))))))
def Zd2:List D->RF:=Zx [.sh,.sh] 2 Zjm
theorem Ziy(T:Txt P w K mg):OkU base T 4 T.q2y [.sh,.sh] Zd2:=oku JS fun _ _ _ _ _ _ hr =>
  (Zc (ZgK (i:=2) (j:=3) (t1:= .lst .sh) (t2:= .lst .sh) rfl JS.nd rfl rfl (by decide) rfl rfl (by rfl) (Jw Pu.ps_nil) (Jw Pu.ps_nil) wk rfl rfl)
  (Zc (ZaM 100000 (XG rfl) (PW.pt (Zbk (Zec (vs 1) (p_b (Ya rfl (Z3 T) (Zi (vs 0) Zl) (by rfl)))) (ZbX (Zez (p_b (pc (Zd0 T) hr (Xc rfl rfl rfl rfl) (Zn (Zr rfl (u1 hr) (vs 0) (vs 1) (fun _ _=>rfl)) Zd))))))) wk
  (Zc (Yg (Yq Yr rfl Xn Xq Xr XU rfl (pv 2) rfl (Or.inl rfl) (Pu.ps_cons (pc (Zd0 T) hr (Xc rfl rfl rfl rfl) (Zn (Zr rfl (u1 hr) (vs 0) (vs 1) (fun _ _=>rfl)) Zd)) Pu.ps_nil)) wk)
  (Zf (ZeI (i:=1) JS.nd rfl (Or.inl rfl) (p_b Zk) wk rfl))))
  (Zc (YS (Wk.fr 2 _ rfl (Wk.refl _)) rfl (ZaM 100000 (XG rfl) (PW.pt (Zbk (Zec (vs 1) (p_b (Ya rfl (Z3 T) (Zi (vs 0) Zl) (by rfl)))) (ZbX (Zez (p_b (pc (Zd1 T) hr (Xc rfl rfl rfl rfl) (Zn (Zr rfl (u1 hr) (vs 0) (vs 1) (fun _ _=>rfl)) Zd))))))) wk
  (Zc (Yg (Yq Yr rfl Xn Xq Xr XU rfl (pv 3) rfl (Or.inl rfl) (Pu.ps_cons (pc (Zd1 T) hr (Xc rfl rfl rfl rfl) (Zn (Zr rfl (u1 hr) (vs 0) (vs 1) (fun _ _=>rfl)) Zd)) Pu.ps_nil)) wk)
  (Zf (ZeI (i:=1) JS.nd rfl (Or.inl rfl) (p_b Zk) wk rfl)))))
  (Zf (YS (Wk.fr 3 _ rfl (Wk.refl _)) rfl (Zp (ZH (Pu.ps_cons (ws 2) (Pu.ps_cons (ws 3) (Pu.ps_cons (ws 1) Pu.ps_nil)))) wk wk))))))
def ZfQ:Env->RS:=(Zg (ZB 2 (sM1 Qr (sV 1) (sC (.str "\n"))))
  (Zg (Zfm (Zo Zbb (Za (sV 2) (Za (sC (.int 0)) Zb))) (Yu 3 (Pu.tCons (Zh 3) (Pu.tCons (Zh 4) (Pu.tCons (Zh 5) Pu.tNil)))))
  (Zg (Zfm (Zo Zd2 (Za (sV 2) (Za (sV 5) Zb))) (Yu 3 (Pu.tCons (Zh 6) (Pu.tCons (Zh 7) (Pu.tCons (Zh 5) Pu.tNil)))))
  (Zg (ZW (sB (sOp gLt (sV 5) (sAs (g1 Yo) (Za (sV 2) Zb))))
  (YM "InvalidText" "at" (sV 5))
  sNx)
  (Zu (ZhI "Kitchen" [] Q2 (sV 0) (Za (ZdC "Work" [] YE (Za (sLc (sIt D.seq (sV 3)) (Zh 8) ZO (ZdH "Step" 3 YD (sC (.cls "Step")) (sV 8)) [8]) (Za (sV 4) Zb))) (Za (sV 6) (Za (sV 7) Zb)))))))))
def Zag:List D->RF:=Zx [.sh,.sh] 7 ZfQ
theorem Ze5(T:Txt P w K mg):OkM base T 7 T.q2z [.sh,.sh] Zag:=okm Z7 fun _ _ _ _ _ _ hr =>
  (Zc (ZY (i:=2) Z7.nd rfl (Or.inl rfl) (QT rfl (vs 1) (p_b Zv)) wk rfl)
  (Zc (ZeF (pc (ZcO T) hr (Xc rfl rfl rfl rfl) (Zn (ws 2) (Zn Zk Zd))) wk (Yh rfl rfl (Zm (gn 3 Z7.nd) (Zm (gn 4 Z7.nd) (Zm (gn 5 Z7.nd) Z0)))))
  (Zc (ZeF (pc (Ziy T) hr (Xc rfl rfl rfl rfl) (Zn (ws 2) (Zn (ws 5) Zd))) wk (Yh rfl rfl (Zm (gn 6 Z7.nd) (Zm (gn 7 Z7.nd) (Zm (gn 5 Z7.nd) Z0)))))
  (Zc (ZZ (Zec (vs 5) (p_b (Ya rfl (Z3 T) (Zi (vs 2) Zl) (by rfl)))) wk
  (Zf (Yl (k:=0) (c:="InvalidText") rfl T.q4t QP rfl (hr.mono (by decide)) rfl rfl T.q4f.m (Xc rfl rfl rfl rfl) (ws 5) wk))
  ZJ)
  (Zf (Zp (ZjK (c:="Kitchen") (C:=T.q4h.a) (fsh:=Z2) (ms:= [.sh,.br,.br]) (ms2:= []) T.q58 (JY T) rfl (hr.mono (by decide)) T.n_Kitchen___init__ .nil DReps.nil (Xc rfl rfl rfl rfl) (ws 0) (Zn (Zc5 (c:="Work") (C:=T.q4l.a) (fsh:=Z2) (ms:= [.br,.br]) (ms2:= []) T.q5u (Qb T) rfl (hr.mono (by decide)) rfl T.q4l.m T.n_Work___init__ .nil DReps.nil (Xc rfl rfl rfl rfl) (Zt (p_b (ZL (lc (own:= [("step",8)]) (us:= [8]) Z7 (ZA rfl (vs 3)) (Nk.na 8 (Nk.refl _)) (fun _ _ _ _ _=>(gn 8 Z7.nd)) (fun _ _ _ _ _=>ZC) (fun _ _ _ _ _=>(Zeo (c:="Step") (C:=T.q4k.a) (fsh:=YQ) (ms:= [.sh,.br,.br]) rfl T.q5i (Qa T) rfl (hr.mono (by decide)) T.n_Step___init__ rfl takes0 (ZeR (Vt (v:= .ref T.q4k.a) rfl T.q4k.m rfl) rfl) (vs 8)))))) (Zt (vs 4) Zd))) (Zt (vs 6) (Zt (vs 7) Zd)))) wk wk))))))
def Zjn:Env->RS:=(Zg (ZW (sOr (ZS (sB (Zo ZP (Za (sV 1) Zb)))) (sB (sOp (gIn true) (sV 1) (sUn (Zy "spot") (sV 0)))))
  (YM "NoStep" "name" (sV 1))
  sNx)
  (Zu (sOp gIx (sUn (Zy "steps") (sV 0)) (sOp gIx (sUn (Zy "spot") (sV 0)) (sV 1)))))
def Yb:List D->RF:=Zx [.sh,.sh] 0 Zjn
theorem YF(T:Txt P w K mg):OkM base T 2 T.q37 [.sh,.sh] Yb:=okm Zig fun _ _ _ _ _ _ hr =>
  (Zc (ZZ (PW.pt (Yj (ZI (ZF (pc (ZN T) hr (Xc rfl rfl rfl rfl) (Zt (vs 1) Zd)))) (YU (ZdA rfl (u65 hr) (vs 1) (p_b (Zz rfl (vs 0) rfl)) (by rfl))))) wk
  (Zf (Yl (k:=0) (c:="NoStep") rfl T.q4v Zku rfl (hr.mono (by decide)) rfl rfl T.q4j.m (Xc rfl rfl rfl rfl) (ws 1) wk))
  ZJ)
  (Zf (Zp (Zr rfl (u1 hr) (p_b (Zz rfl (vs 0) rfl)) (p_b (Zr rfl (u1 hr) (p_b (Zz rfl (vs 0) rfl)) (vs 1) (fun _ _=>rfl))) (fun _ _=>rfl)) wk wk)))
def Ziz:Env->RS:=(Zg (ZB 2 (sLc (sIt D.seq (sUn (Zy "names") (sV 0))) (Zh 3) (sB (sOp (gIn true) (sV 3) (sV 1))) (sV 3) [3]))
  (Zu (sAs (g1 Yd) (Za (sLc (sIt D.seq (sV 2)) (Zh 3) (ZS (sB (sAs (g1 Zhb) (Za (sLc (sIt D.seq (sOp gIx (sUn (Zy "after") (sV 0)) (sV 3))) (Zh 4) ZO (sOp (gIn false) (sV 4) (sV 2)) [4]) Zb)))) (sV 3) [3]) Zb))))
def Q3:List D->RF:=Zx [.sh,.sh] 3 Ziz
theorem JC(T:Txt P w K mg):OkU base T 1 T.q38 [.sh,.sh] Q3:=oku YJ fun _ _ _ _ _ _ hr =>
  (Zc (ZY (i:=2) YJ.nd rfl (Or.inr rfl) (ZL (lc (own:= [("name",3)]) (us:= [3]) YJ (ZA rfl (p_b (Zz rfl (vs 0) rfl))) (Nk.na 3 (Nk.refl _)) (fun _ _ _ _ _=>(gn 3 YJ.nd)) (fun _ _ _ _ _=>(Qp (ZdA rfl (u65 hr) (vs 3) (vs 1) (by rfl)))) (fun _ _ _ _ _=>(ws 3)))) wk rfl)
  (Zf (Zp (Yc rfl (Z8 T) (Zi (p_b (ZL (lc (own:= [("name",3)]) (us:= [3]) YJ (ZA rfl (vs 2)) (Nk.na 3 (Nk.refl _)) (fun _ _ _ _ _=>(gn 3 YJ.nd)) (fun _ _ _ _ _=>(Qp (ZI (ZF (ZjX rfl rfl (ZkK T) (Zi (p_b (ZL (Zmi (own:= [("one",4)]) (us:= [4]) (by rfl) YJ.nd (ZA rfl (p_b (Zr rfl (u1 hr) (p_b (Zz rfl (vs 0) rfl)) (vs 3) (fun _ _=>rfl)))) (X8 (own:= [("one",4)]) (N:=Zdn) (sc:=(relS _ (defScope JK))) (by decide +kernel)) rfl (by decide) (Nk.na 4 (Nk.refl _)) (fun _ _ _ _ _=>(gn 4 YJ.nd)) (fun _ _ _ _ _=>ZC) (fun _ _ _ _ _=>(ZaZ rfl (u65 hr) (vs 4) (vs 2) (by rfl)))))) Zl) (by rfl)))))) (fun _ _ _ _ _=>(ws 3))))) Zl) (by rfl)) wk wk)))
def ZkU:Env->RS:=(Zu (sOp gGt (sAs (g1 Yo) (Za (sOp gIx (sUn (Zy "leads") (Ys "Work" "step" [] Yb (sV 0) (Za (sOp gIx (sV 1) (sC (.int 1))) Zb))) (sOp gIx (sV 1) (sC (.int 2)))) Zb)) (sC (.int 0))))
def Ze6:List D->RF:=Zx [.sh,.sh] 0 ZkU
theorem Zjo(T:Txt P w K mg):OkU base T 3 T.q39 [.sh,.sh] Ze6:=oku Zi4 fun _ _ _ _ _ _ hr =>
  (Zf (Zp (Zqu (p_b (Ya rfl (Z3 T) (Zi (p_b (Zr rfl (u1 hr) (p_b (Zz rfl (p_b (YG (ms:= [.sh]) (c:="Work") (ms2:= []) rfl rfl T.q5y (YF T) (hr.mono (by decide)) T.q37.n .nil DReps.nil (Xc rfl rfl rfl rfl) (ws 0) (Zn (Zr rfl (u1 hr) (vs 1) (p_b Zk) (fun _ _=>rfl)) Zd))) rfl)) (p_b (Zr rfl (u1 hr) (vs 1) (p_b Zk) (fun _ _=>rfl))) (fun _ _=>rfl))) Zl) (by rfl))) (p_b Zk)) wk wk))
def Zjp:Env->RS:=(ZW (ZS (sB (Ys "Step" "is_touched" [] Qo (Ys "Work" "step" [] Yb (sV 0) (Za (sV 1) Zb)) (Za (sV 2) Zb))))
  (YM "NoPlace" "name" (sV 2))
  sNx)
def Zd3:List D->RF:=Zx [.sh,.sh,.sh] 0 Zjp
theorem ZiA(T:Txt P w K mg):OkU base T 3 T.q3a [.sh,.sh,.sh] Zd3:=oku Zih fun _ _ _ _ _ _ hr =>
  (Zf (ZZ (ZI (ZF (Zho (ms:= [.br]) (c:="Step") (ms2:= []) rfl rfl T.q5l (Q0 T) (hr.mono (by decide)) T.q1z.n .nil DReps.nil (Xc rfl rfl rfl rfl) (p_b (YG (ms:= [.sh]) (c:="Work") (ms2:= []) rfl rfl T.q5y (YF T) (hr.mono (by decide)) T.q37.n .nil DReps.nil (Xc rfl rfl rfl rfl) (ws 0) (Zn (ws 1) Zd))) (Zt (vs 2) Zd)))) wk
  (Zf (Yl (k:=0) (c:="NoPlace") rfl T.q4x Zku rfl (hr.mono (by decide)) rfl rfl T.q4i.m (Xc rfl rfl rfl rfl) (ws 2) wk))
  (Jn (Wk.na 0 (Wk.na 1 (Wk.na 2 (Wk.refl _)))) ZJ)))
def Zm8:Env->RS:=(Zg (ZB 2 (sUn Zh5 (sV 0)))
  (Zg (Zc7 1 (Ym (sIt Qs (sV 1)) (Yu 2 (Pu.tCons (Zh 3) (Pu.tCons (Zh 4) Pu.tNil)))
  (ZW (sB (sOp gGt (sOp gIx (sV 4) (sC (.int 0))) (sOp gIx (ZeN (sV 2) (sV 3) (sAs Zw (Za (sC (.int 0)) (Za (sC .non) Zb)))) (sC (.int 0)))))
  (Zc3 2 (sV 3) (sV 4))
  sNx)))
  (Zu (sV 2))))
def ZiB:List D->RF:=Zx [.sh,.sh] 3 Zm8
theorem ZlQ(T:Txt P w K mg):OkU base T 1 T.q3b [.sh,.sh] ZiB:=oku Zbs fun _ _ _ _ _ _ hr =>
  (Zc (JM (i:=2) Zbs.nd rfl (Or.inl rfl) (Zn7 rfl (Zpo T) (vs 0) (by rfl)) wk rfl)
  (Zc (ZeS (i:=1) rfl (XG rfl) rfl (pv 1) wk (Yh rfl rfl (Zm (gn 3 Zbs.nd) (Zm (gn 4 Zbs.nd) Z0))) rfl rfl
  (Zf (ZZ (Zed (p_b (Zr rfl (u1 hr) (vs 4) (p_b Zk) (fun _ _=>rfl))) (p_b (Zr rfl (u1 hr) (p_b (JL (j:=2) rfl (Or.inl rfl) (Or.inl rfl) (ZeO (u1 hr) (vb 2) (vs 3) (ZH (Pu.ps_cons Zk (Pu.ps_cons Y1 Pu.ps_nil))) ⟨rfl,rfl,rfl,rfl⟩))) (p_b Zk) (fun _ _=>rfl)))) wk
  (Zf (ZQ (Wk.na 3 (Wk.na 4 (Wk.refl _))) (Zcr (u1 hr) (pv 2) rfl (Or.inl rfl) (ws 3) (ws 4) wk)))
  (Jn (Wk.na 3 (Wk.na 4 (Wk.refl _))) ZJ))))
  (Zf (YS (Wk.fr 2 _ rfl (Wk.refl _)) rfl (Zp (ws 2) wk wk)))))
end
end Pu
namespace Pu
open PySem L2 Pw
section
variable {P:Program}{w:World}{K:PySem.W.Frag}{mg:Str->Option Value}{base:Heap}
def Zp6:Env->RS:=(Zg (Zc7 0 (ZB 2 (sDc (fun _ _=>false) (sIt Qs (sV 0)) (Yu 2 (Pu.tCons (Zh 3) (Pu.tCons (Zh 8) Pu.tNil))) (sB (sOp (gIn true) (sV 3) (sUn (Zy "leads") (sV 1)))) (sV 3) (sV 8) [3,8])))
  (Zg (Zc7 0 (Ym (sIt Qs (sV 0)) (Yu 2 (Pu.tCons (Zh 3) (Pu.tCons (Yu 2 (Pu.tCons (Zh 4) (Pu.tCons (Zh 5) Pu.tNil))) Pu.tNil)))
  (Ym (sIt D.seq (sIf (sB (sOp (gIn false) (sV 3) (sUn (Zy "leads") (sV 1)))) (sOp gIx (sUn (Zy "leads") (sV 1)) (sV 3)) (sAs ZE Zb))) (Yu 2 (Pu.tCons (Zh 6) (Pu.tCons (Zh 7) Pu.tNil)))
  (ZW (Zcj (sB (sOp gGe (sOp Zg7 (sV 4) (sV 7)) (sC (.int 1)))) (sB (sOp gGt (sOp Zg7 (sV 4) (sV 7)) (sOp gIx (ZeN (sV 2) (sV 6) (sAs Zw (Za (sC (.int 0)) (Za (sC .non) Zb)))) (sC (.int 0))))))
  (Zc3 2 (sV 6) (sAs Zw (Za (sOp Zg7 (sV 4) (sV 7)) (Za (sAs Zw (Jy (sV 5) (Za (sAs Zw (Za (sUn (Zy "name") (sV 1)) (Za (sV 6) Zb))) Zb))) Zb))))
  sNx))))
  (Zu (sV 2))))
def Zny:List D->RF:=Zx [.sh,.sh] 7 Zp6
theorem Zpq(T:Txt P w K mg):OkU base T 1 T.u_led [.sh,.sh] Zny:=oku JT fun _ _ _ _ _ _ hr =>
  (Zc (ZmR (k:=0) (i:=2) (b:=(fun _ _=>false)) (own:= [("place",3),("pair",8)]) (us:= [3,8]) rfl (u1 hr) (by rfl) JT.nd rfl rfl (ZmP rfl rfl rfl (by decide +kernel)) (pv 0) (X8 (own:= [("place",3),("pair",8)]) (N:=Znx) (sc:=defScope Zgy) (by decide +kernel)) rfl (by decide) (Nk.na 3 (Nk.na 8 (Nk.refl _))) (fun _ _ _ _ _=>(Yh rfl rfl (Zm (gn 3 JT.nd) (Zm (gn 8 JT.nd) Z0)))) (fun _ _ _ _ _=>(Qp (ZdA rfl (u65 hr) (vs 3) (p_b (Zz rfl (vs 1) rfl)) (by rfl)))) (fun _ _ _ _ _=>(ws 3)) (fun _ _ _ _ _=>(ws 8)) wk rfl)
  (Zc (ZeS (i:=0) rfl (XG rfl) rfl (pv 0) wk (Yh rfl rfl (Zm (gn 3 JT.nd) (Zm (Yh rfl rfl (Zm (gn 4 JT.nd) (Zm (gn 5 JT.nd) Z0))) Z0))) rfl rfl
  (Zf (ZQ (Wk.na 3 (Wk.na 4 (Wk.na 5 (Wk.refl _)))) (Qm (XG rfl) rfl (ZA rfl (p_b (Zck (ZbH rfl (u65 hr) (vs 3) (p_b (Zz rfl (vs 1) rfl)) (by rfl)) (Zr rfl (u1 hr) (p_b (Zz rfl (vs 1) rfl)) (vs 3) (fun _ _=>rfl)) (Pu.p_lst Pu.ps_nil)))) wk (Yh rfl rfl (Zm (gn 6 JT.nd) (Zm (gn 7 JT.nd) Z0))) rfl rfl
  (Zf (ZZ (PW.pt (Zbk (Zqv (p_b (Zj3 (vs 4) (vs 7))) (p_b Zk)) (ZbX (Zed (p_b (Zj3 (vs 4) (vs 7))) (p_b (Zr rfl (u1 hr) (p_b (JL (j:=2) rfl (Or.inl rfl) (Or.inl rfl) (ZeO (u1 hr) (vb 2) (vs 6) (ZH (Pu.ps_cons Zk (Pu.ps_cons Y1 Pu.ps_nil))) ⟨rfl,rfl,rfl,rfl⟩))) (p_b Zk) (fun _ _=>rfl))))))) wk
  (Zf (ZQ (Wk.na 6 (Wk.na 7 (Wk.refl _))) (Zcr (u1 hr) (pv 2) rfl (Or.inl rfl) (ws 6) (ZH (Pu.ps_cons (Zj3 (vs 4) (vs 7)) (Pu.ps_cons (ZH (Qq rfl (vs 5) (Pu.ps_cons (ZH (Pu.ps_cons (Zz rfl (vs 1) rfl) (Pu.ps_cons (ws 6) Pu.ps_nil))) Pu.ps_nil))) Pu.ps_nil))) wk)))
  (Jn (Wk.na 6 (Wk.na 7 (Wk.refl _))) ZJ)))))))
  (Zf (YS (Wk.fr 2 _ rfl (Wk.refl _)) rfl (Zp (ws 2) wk wk)))))
def ZlR:Env->RS:=(Zg (ZB 2 (sC (.dct [])))
  (Zg (Znw "starts" 0 (Ym (sIt Qs (sUn (Zy "starts") (sV 0))) (Yu 2 (Pu.tCons (Yu 2 (Pu.tCons (Zh 3) (Pu.tCons (Zh 4) Pu.tNil))) (Pu.tCons (Zh 5) Pu.tNil)))
  (ZW (sB (sOp gEq (sV 3) (sV 1)))
  (Zc3 2 (sV 4) (sAs Zw (Za (sV 5) (Za (sAs Zw (Za (sV 4) Zb)) Zb))))
  sNx)))
  (Zg (Zek 6 7 (Zh2 (sAs Zw Zb) (sV 2)) (sAs ZE Zb))
  (Zg (Jo (sB (sOp gGt (sAs (g1 Yo) (Za (sV 6) Zb)) (sC (.int 0))))
  (Zg (ZB 8 (sC (.dtt [])))
  (Zg (Zc7 6 (Ym (sIt Qs (sV 6)) (Yu 2 (Pu.tCons (Zh 9) (Pu.tCons (Zh 10) Pu.tNil)))
  (Zg (sDo (Yk 7 Yn (Za (sAs Zw (Za (sV 9) (Za (sV 10) Zb))) Zb)))
  (Ym (sIt D.seq (Zo Q3 (Za (sUn (Zy "work") (sV 0)) (Za (sV 9) Zb)))) (Zh 11)
  (Zg (ZB 12 (sAs (g1 Yd) (Za (sAs (g1 Jb) (Za (sAs ZE (Jy (sV 9) (Za (sV 11) Zb))) Zb)) Zb)))
  (Zc3 8 (sV 12) (Zo ZiB (Za (ZeN (sV 8) (sV 12) (sC (.dct []))) (Za (Zo Zny (Za (sV 10) (Za (Ys "Work" "step" [] Yb (sUn (Zy "work") (sV 0)) (Za (sV 11) Zb)) Zb))) Zb)))))))))
  (ZB 6 (sV 8)))) 100000)
  (Zu (sV 7))))))
def Zgd:List D->RF:=Zx [.sh,.sh] 11 ZlR
theorem ZkV(T:Txt P w K mg):OkU base T 3 T.q3c [.sh,.sh] Zgd:=oku Yt fun _ _ _ _ _ _ hr =>
  (Zc (JM (i:=2) Yt.nd rfl (Or.inl rfl) Zoo wk rfl)
  (Zc (Zn6 (n:="starts") (i:=0) rfl rfl (XG rfl) rfl (pv 0) wk (Yh rfl rfl (Zm (Yh rfl rfl (Zm (gn 3 Yt.nd) (Zm (gn 4 Yt.nd) Z0))) (Zm (gn 5 Yt.nd) Z0))) rfl rfl
  (Zf (ZZ (Zeb rfl (u64 hr) (vs 3) (vs 1)) wk
  (Zf (ZQ (Wk.na 3 (Wk.na 4 (Wk.na 5 (Wk.refl _)))) (Zcr (u1 hr) (pv 2) rfl (Or.inl rfl) (ws 4) (ZH (Pu.ps_cons (ws 5) (Pu.ps_cons (ZH (Pu.ps_cons (ws 4) Pu.ps_nil)) Pu.ps_nil))) wk)))
  (Jn (Wk.na 3 (Wk.na 4 (Wk.na 5 (Wk.refl _)))) ZJ))))
  (Zc (YS (Wk.fr 2 _ rfl (Wk.refl _)) rfl (ZgK (i:=6) (j:=7) (t1:= .sh) (t2:= .lst .sh) rfl Yt.nd rfl rfl (by decide) rfl rfl (by rfl) (ZoP (ZL (Znv (u1 hr) (ZH Pu.ps_nil) (ws 2)))) (Jw Pu.ps_nil) wk rfl rfl))
  (Zc (ZaM 100000 (XG rfl) (Zed (p_b (Ya rfl (Z3 T) (Zi (vs 6) Zl) (by rfl))) (p_b Zk)) wk
  (Zc (JM (i:=8) Yt.nd rfl (Or.inl rfl) Zop wk rfl)
  (Zc (ZeS (i:=6) rfl (XG rfl) rfl (pv 6) wk (Yh rfl rfl (Zm (gn 9 Yt.nd) (Zm (gn 10 Yt.nd) Z0))) rfl rfl
  (Zc (Yg (Yq Yr rfl Xn Xq Xr XU rfl (pv 7) rfl (Or.inl rfl) (Pu.ps_cons (ZH (Pu.ps_cons (ws 9) (Pu.ps_cons (ws 10) Pu.ps_nil))) Pu.ps_nil)) wk)
  (Zf (ZQ (Wk.na 9 (Wk.na 10 (Wk.refl _))) (Qm (XG rfl) rfl (ZA rfl (p_b (pc (JC T) hr (Xc rfl rfl rfl rfl) (Zn (Zz rfl (vs 0) rfl) (Zn (ws 9) Zd))))) wk (gn 11 Yt.nd) rfl rfl
  (Zc (ZY (i:=12) Yt.nd rfl (Or.inl rfl) (Yc rfl (Z8 T) (Zi (p_b (JG rfl (u64 hr) rfl (QX T) (Zi (p_b (Pu.p_lst (Qq rfl (vs 9) (Pu.ps_cons (ws 11) Pu.ps_nil)))) Zl) (by rfl))) Zl) (by rfl)) wk rfl)
  (Zf (ZQ (Wk.na 11 (Wk.na 12 (Wk.refl _))) (Zcr (u1 hr) (pv 8) rfl (Or.inl rfl) (ws 12) (pc (ZlQ T) hr (Xc rfl rfl rfl rfl) (Zn (JL (j:=8) rfl (Or.inl rfl) (Or.inl rfl) (ZeO (u1 hr) (vb 8) (vs 12) (ZL Zoo) ⟨rfl,rfl,rfl,rfl⟩)) (Zn (pc (Zpq T) hr (Xc rfl rfl rfl rfl) (Zn (ws 10) (Zn (YG (ms:= [.sh]) (c:="Work") (ms2:= []) rfl rfl T.q5y (YF T) (hr.mono (by decide)) T.q37.n .nil DReps.nil (Xc rfl rfl rfl rfl) (Zz rfl (vs 0) rfl) (Zn (ws 11) Zd)) Zd))) Zd))) wk)))))))))
  (Zf (ZQ (Wk.na 8 (Wk.refl _)) (YS (Wk.fr 8 _ rfl (Wk.refl _)) rfl (ZY (i:=6) Yt.nd rfl (Or.inl rfl) (ws 8) wk rfl)))))))
  (Zf (YS (Wk.fr 7 _ rfl (Wk.refl _)) rfl (Zp (ws 7) wk wk)))))))
def ZkW:Env->RS:=(Zg (sDo (Zo Zd3 (Za (sUn (Zy "work") (sV 0)) (Za (sV 2) (Za (sV 3) Zb)))))
  (Zg (ZB 4 (sAs Zw (Za (sC (.int 0)) (Za (sC .non) Zb))))
  (Zg (Ym (sIt D.seq (Zo Zgd (Za (sV 0) (Za (sV 1) Zb)))) (Yu 2 (Pu.tCons (Zh 5) (Pu.tCons (Zh 6) Pu.tNil)))
  (ZW (Zcj (sB (sOp (gIn false) (sV 3) (sV 6))) (Zcj (sB (sOp (gIn false) (sV 2) (Zo Q3 (Za (sUn (Zy "work") (sV 0)) (Za (sV 5) Zb))))) (sB (sOp gGt (sOp gIx (sOp gIx (sV 6) (sV 3)) (sC (.int 0))) (sOp gIx (sV 4) (sC (.int 0)))))))
  (ZB 4 (sOp gIx (sV 6) (sV 3)))
  sNx))
  (Zu (sV 4)))))
def ZcJ:List D->RF:=Zx [.sh,.sh,.sh,.sh] 3 ZkW
theorem Zd4(T:Txt P w K mg):OkU base T 4 T.q3d [.sh,.sh,.sh,.sh] ZcJ:=oku Js fun _ _ _ _ _ _ hr =>
  (Zc (Yg (pc (ZiA T) hr (Xc rfl rfl rfl rfl) (Zn (Zz rfl (vs 0) rfl) (Zn (ws 2) (Zn (ws 3) Zd)))) wk)
  (Zc (ZY (i:=4) Js.nd rfl (Or.inl rfl) (ZH (Pu.ps_cons Zk (Pu.ps_cons Y1 Pu.ps_nil))) wk rfl)
  (Zc (Qm (XG rfl) rfl (ZA rfl (p_b (pc (ZkV T) hr (Xc rfl rfl rfl rfl) (Zn (ws 0) (Zn (ws 1) Zd))))) wk (Yh rfl rfl (Zm (gn 5 Js.nd) (Zm (gn 6 Js.nd) Z0))) rfl rfl
  (Zf (ZZ (PW.pt (Zbk (ZbH rfl (u65 hr) (vs 3) (vs 6) (by rfl)) (Zbk (ZbH rfl (u65 hr) (vs 2) (p_b (pc (JC T) hr (Xc rfl rfl rfl rfl) (Zn (Zz rfl (vs 0) rfl) (Zn (ws 5) Zd)))) (by rfl)) (ZbX (Zed (p_b (Zr rfl (u1 hr) (p_b (Zr rfl (u1 hr) (vs 6) (vs 3) (fun _ _=>rfl))) (p_b Zk) (fun _ _=>rfl))) (p_b (Zr rfl (u1 hr) (vs 4) (p_b Zk) (fun _ _=>rfl)))))))) wk
  (Zf (ZQ (Wk.na 5 (Wk.na 6 (Wk.refl _))) (ZY (i:=4) Js.nd rfl (Or.inl rfl) (Zr rfl (u1 hr) (vs 6) (vs 3) (fun _ _=>rfl)) wk rfl)))
  (Jn (Wk.na 5 (Wk.na 6 (Wk.refl _))) ZJ))))
  (Zf (Zp (ws 4) wk wk)))))
def Zjq:Env->RS:=(Zg (Zfm (sV 1) (Yu 4 (Pu.tCons (Zh 2) (Pu.tCons (Zh 3) (Pu.tCons (Zh 4) (Pu.tCons (Zh 5) Pu.tNil))))))
  (Zu (Z9 (Zo Ze6 (Za (sUn (Zy "work") (sV 0)) (Za (sV 1) Zb))) (sOp gGe (sOp gIx (Zo ZcJ (Za (sV 0) (Za (sV 2) (Za (sV 3) (Za (sV 4) Zb))))) (sC (.int 0))) (sV 5)))))
def ZbT:List D->RF:=Zx [.sh,.sh] 4 Zjq
theorem Zdw(T:Txt P w K mg):OkU base T 5 T.q3e [.sh,.sh] ZbT:=oku QW fun _ _ _ _ _ _ hr =>
  (Zc (ZeF (ws 1) wk (Yh rfl rfl (Zm (gn 2 QW.nd) (Zm (gn 3 QW.nd) (Zm (gn 4 QW.nd) (Zm (gn 5 QW.nd) Z0))))))
  (Zf (Zp (YA (pc (Zjo T) hr (Xc rfl rfl rfl rfl) (Zn (Zz rfl (vs 0) rfl) (Zn (ws 1) Zd))) (Y2 (Zmj (p_b (Zr rfl (u1 hr) (p_b (pc (Zd4 T) hr (Xc rfl rfl rfl rfl) (Zn (ws 0) (Zn (ws 2) (Zn (ws 3) (Zn (ws 4) Zd)))))) (p_b Zk) (fun _ _=>rfl))) (vs 5)))) wk wk)))
def Zod:Env->RS:=(Zu (sAs (g1 Yd) (Za (sLc (sIt Zcv (sUn (Zy "limits") (sV 0))) (Yu 2 (Pu.tCons (Zh 1) (Pu.tCons (Zh 2) Pu.tNil))) (sB (Zo ZbT (Za (sV 0) (Za (sV 2) Zb)))) (sV 1) [1,2]) Zb)))
def ZjQ:List D->RF:=Zx [.sh] 2 Zod
theorem Zm9(T:Txt P w K mg):OkU base T 6 T.q3f [.sh] ZjQ:=oku ZcB fun _ _ _ _ _ _ hr =>
  (Zf (Zp (Yc rfl (Z8 T) (Zi (p_b (ZL (lc (own:= [("at",1),("limit",2)]) (us:= [1,2]) ZcB (Zdb rfl (Ju T) (p_b (Zz rfl (vs 0) rfl))) (Nk.na 1 (Nk.na 2 (Nk.refl _))) (fun _ _ _ _ _=>(Yh rfl rfl (Zm (gn 1 ZcB.nd) (Zm (gn 2 ZcB.nd) Z0)))) (fun _ _ _ _ _=>(Qp (ZF (pc (Zdw T) hr takes0 (Zn (ws 0) (Zn (ws 2) Zd)))))) (fun _ _ _ _ _=>(ws 1))))) Zl) (by rfl)) wk wk))
def ZcT:Env->RS:=(Zu (ZdC "Kitchen" [] Q2 (Za (sV 1) (Za (sUn (Zy "traces") (sV 0)) (Za (sUn (Zy "limits") (sV 0)) Zb)))))
def QJ:List D->RF:=Zx [.sh,.sh] 0 ZcT
theorem JX(T:Txt P w K mg):OkM base T 7 T.q3g [.sh,.sh] QJ:=okm ZcC fun _ _ _ _ _ _ hr =>
  (Zf (Zp (Zc5 (c:="Kitchen") (C:=T.q4h.a) (fsh:=Z2) (ms:= [.sh,.br,.br]) (ms2:= []) T.q58 (JY T) rfl (hr.mono (by decide)) rfl T.q4h.m T.n_Kitchen___init__ .nil DReps.nil (Xc rfl rfl rfl rfl) (Zn (ws 1) (Zt (p_b (Zz rfl (vs 0) rfl)) (Zt (p_b (Zz rfl (vs 0) rfl)) Zd)))) wk wk))
def ZfR:Env->RS:=(Zg (ZW (ZS (sB (sUn (ZbI "tuple") (sV 1))))
  (Zu (sC (.bl false)))
  sNx)
  (Zg (Ym (sIt Zcv (sV 1)) (Yu 2 (Pu.tCons (Zh 2) (Pu.tCons (Zh 3) Pu.tNil)))
  (ZW (sOr (ZS (sB (Zo ZP (Za (sV 3) Zb)))) (sB (sOp (gIn true) (sV 3) (Zo Q3 (Za (sV 0) (Za (Za2 (sV 1) Zbo (Zai (sV 2))) Zb))))))
  (Zu (sC (.bl false)))
  sNx))
  (Zu (sC (.bl true)))))
def Jd:List D->RF:=Zx [.sh,.sh] 2 ZfR
theorem Zbx(T:Txt P w K mg):OkU base T 2 T.q3h [.sh,.sh] Jd:=oku JU fun _ _ _ _ _ _ hr =>
  (Zc (ZZ (ZI (ZF (Zbn rfl rfl (Z5 T) rfl (vs 1) (pe_bltn (v:= .ty "tuple") rfl (Z8 T) (by decide +kernel) rfl)))) wk
  (Zf (Zp Qc wk wk))
  ZJ)
  (Zc (Qm (XG rfl) rfl (Zdb rfl (Ju T) (vs 1)) wk (Yh rfl rfl (Zm (gn 2 JU.nd) (Zm (gn 3 JU.nd) Z0))) rfl rfl
  (Zf (ZZ (PW.pt (Yj (ZI (ZF (pc (ZN T) hr (Xc rfl rfl rfl rfl) (Zt (vs 3) Zd)))) (YU (ZdA rfl (u65 hr) (vs 3) (p_b (pc (JC T) hr (Xc rfl rfl rfl rfl) (Zn (ws 0) (Zn (ZaN rfl (vs 1) ZbY (Zao (vs 2))) Zd)))) (by rfl))))) wk
  (Zf (Zp Qc wk wk))
  (Jn (Wk.na 2 (Wk.na 3 (Wk.refl _))) ZJ))))
  (Zf (Zp Qc wk wk))))
def Zgt:Env->RS:=(Zg (ZW (ZS (sB (Zo YK (Za (sV 1) Zb))))
  (YM "InvalidWork" "word" (sC (.str "ahead")))
  sNx)
  (Zu (ZdC "Work" [] YE (Za (sUn (Zy "steps") (sV 0)) (Za (sAs ZE (Jy (sUn (Zy "ahead") (sV 0)) (Jy (sV 1) Zb))) Zb)))))
def JD:List D->RF:=Zx [.sh,.br] 0 Zgt
theorem Zb4(T:Txt P w K mg):OkM base T 7 T.q3i [.sh,.br] JD:=okm ZfJ fun _ _ _ _ _ _ hr =>
  (Zc (ZZ (ZI (ZF (pc (YR T) hr (Xc rfl rfl rfl rfl) (Zt (vb 1) Zd)))) wk
  (Zf (Yl (k:=0) (c:="InvalidWork") rfl T.q4p QP rfl (hr.mono (by decide)) rfl rfl T.q4g.m (Xc rfl rfl rfl rfl) Zv wk))
  ZJ)
  (Zf (Zp (Zc5 (c:="Work") (C:=T.q4l.a) (fsh:=Z2) (ms:= [.br,.br]) (ms2:= []) T.q5u (Qb T) rfl (hr.mono (by decide)) rfl T.q4l.m T.n_Work___init__ .nil DReps.nil (Xc rfl rfl rfl rfl) (Zt (p_b (Zz rfl (vs 0) rfl)) (Zt (p_b (Pu.p_lst (Qq rfl (p_b (Zz rfl (vs 0) rfl)) (Qq rfl (vb 1) Pu.ps_nil)))) Zd))) wk wk)))
def Zjr:Env->RS:=(Zg (ZmD JV
  (ZB 2 (Ys "Work" "fenced" [] JD (sUn (Zy "work") (sV 0)) (Za (sV 1) Zb)))
  (Zu (sC (.bl false))))
  (Zu (sOp gEq (sAs (g1 Yo) (Za (Zo ZjQ (Za (Ys "Kitchen" "with_work" [] QJ (sV 0) (Za (sV 2) Zb)) Zb)) Zb)) (sC (.int 0)))))
def Y6:List D->RF:=Zx [.sh,.sh] 1 Zjr
theorem Q4(T:Txt P w K mg):OkU base T 8 T.q3j [.sh,.sh] Y6:=oku Zdo fun _ _ _ _ _ _ hr =>
  (Zc (ZpV (ok:=JV) (Mt:= [.sh,.sh,.na]) rfl rfl rfl ⟨rfl,by decide,.inl T.q4g.m⟩ (Xc rfl rfl rfl rfl) (ZeZ T) (fun _ _ _ tk ps =>
  (Zf (ZY (i:=2) Zdo.nd rfl (Or.inl rfl) (YG (ms:= [.br]) (c:="Work") (ms2:= []) rfl rfl T.q5z (Zb4 T) (hr.mono (by decide)) T.q3i.n .nil DReps.nil tk (Zz rfl (vs 0) rfl) (Zt (vs 1) Zd)) (Wk.refl _) rfl))) (fun _ _ =>
  (Zf (Zp Qc wk wk))) wk)
  (Zf (Zp (JN rfl (u64 hr) (p_b (Ya rfl (Z3 T) (Zi (p_b (pc (Zm9 T) hr (Xc rfl rfl rfl rfl) (Zn (YG (ms:= [.sh]) (c:="Kitchen") (ms2:= []) rfl rfl T.q5b (JX T) (hr.mono (by decide)) T.q3g.n .nil DReps.nil (Xc rfl rfl rfl rfl) (ws 0) (Zn (ws 2) Zd)) Zd))) Zl) (by rfl))) (p_b Zk)) wk wk)))
def ZfS:Env->RS:=(Zg (ZW (sB (Zo Y6 (Za (sV 0) (Za (sAs Zw Zb) Zb))))
  (Zu (sAs Zw (Za (sAs Zw Zb) Zb)))
  sNx)
  (Zg (ZB 1 (sAs (g1 Jb) (Za (sUn (Zy "names") (sUn (Zy "work") (sV 0))) Zb)))
  (Zg (ZB 2 (ZmG (sIt D.seq (sV 1)) (Zh 8) ZO (sIt D.seq (sV 1)) (Zh 9) (sB (sOp gNe (sV 8) (sV 9))) (sAs Zw (Za (sV 8) (Za (sV 9) Zb))) [8,9] [9]))
  (Zg (ZB 3 (sLc (sIt D.seq (sV 2)) (Zh 7) (sB (Zo Y6 (Za (sV 0) (Za (sAs ZE (Za (sV 7) Zb)) Zb)))) (sV 7) [7]))
  (Zg (ZB 4 (sLc (sIt D.seq (sV 2)) (Zh 7) (sB (sOp (gIn true) (sV 7) (sV 3))) (sV 7) [7]))
  (Zg (ZB 5 (sAs ZE Zb))
  (Zg (Ym (sIt Zcv (sV 4)) (Yu 2 (Pu.tCons (Zh 6) (Pu.tCons (Zh 7) Pu.tNil)))
  (sDo (Yk 5 ZmJ (Za (sLc (sIt D.seq (Za2 (sV 4) (Zai (sOp QO (sV 6) (sC (.int 1)))) Zbo)) (Zh 9) (sB (Zo Y6 (Za (sV 0) (Za (sAs Zw (Za (sV 7) (Za (sV 9) Zb))) Zb)))) (sAs Zw (Za (sV 7) (Za (sV 9) Zb))) [9]) Zb))))
  (Zu (sAs Zw (Jy (sLc (sIt D.seq (sV 3)) (Zh 7) ZO (sAs Zw (Za (sV 7) Zb)) [7]) (Jy (sV 5) Zb)))))))))))
def Qx:List D->RF:=Zx [.sh] 9 ZfS
theorem Zby(T:Txt P w K mg):OkU base T 9 T.q3k [.sh] Qx:=oku ZD fun _ _ _ _ _ _ hr =>
  (Zc (ZZ (ZF (pc (Q4 T) hr (Xc rfl rfl rfl rfl) (Zn (ws 0) (Zn (ZH Pu.ps_nil) Zd)))) wk
  (Zf (Zp (ZH (Pu.ps_cons (ZH Pu.ps_nil) Pu.ps_nil)) wk wk))
  ZJ)
  (Zc (ZY (i:=1) ZD.nd rfl (Or.inr rfl) (JG rfl (u64 hr) rfl (QX T) (Zi (p_b (Zz rfl (p_b (Zz rfl (vs 0) rfl)) rfl)) Zl) (by rfl)) wk rfl)
  (Zc (ZQ (Wk.fr 2 _ rfl (Wk.refl _)) (ZmI (i:=2) (Mt:= [.sh,.sh,.na,.na,.na,.na,.na,.na,.sh,.na]) (Mt1:= [.sh,.sh,.na,.na,.na,.na,.na,.na,.sh,.sh]) (own:= [("one",8),("other",9)]) (us:= [8]) (us1:= [9]) (vs1:= [9]) (by rfl) ZD.nd rfl rfl (sw_true rfl rfl rfl (by decide +kernel)) (ZA rfl (vs 1)) (X8 (own:= [("one",8),("other",9)]) (N:=Zad) (sc:=defScope Yv) (by decide +kernel)) rfl (by decide) (Nk.na 8 (Nk.refl _)) (by decide) rfl (by decide) (Nk.na 9 (Nk.refl _)) (by intro j hj; simp at hj; subst hj; intro z; cases z) (fun _ _ _ _ _=>(gn 8 ZD.nd)) (fun _ _ _ _ _=>ZC) (fun _ _ _ _ _=>(Zlq rfl (ws 1))) (fun _ _ _ _ _=>(gn 9 ZD.nd)) (fun _ _ _ _ _=>(Qp (JF rfl (u64 hr) (vs 8) (vs 9)))) (fun _ _ _ _ _=>(ZH (Pu.ps_cons (ws 8) (Pu.ps_cons (ws 9) Pu.ps_nil)))) wk rfl))
  (Zc (ZY (i:=3) ZD.nd rfl (Or.inr rfl) (ZL (lc (own:= [("pair",7)]) (us:= [7]) ZD (ZA rfl (vs 2)) (Nk.na 7 (Nk.refl _)) (fun _ _ _ _ _=>(gn 7 ZD.nd)) (fun _ _ _ _ _=>(Qp (ZF (pc (Q4 T) hr takes0 (Zn (ws 0) (Zn (Pu.p_lst (Pu.ps_cons (ws 7) Pu.ps_nil)) Zd)))))) (fun _ _ _ _ _=>(ws 7)))) wk rfl)
  (Zc (ZQ (Wk.fr 4 _ rfl (Wk.refl _)) (Zfq (i:=4) (own:= [("pair",7)]) (us:= [7]) (by rfl) ZD.nd rfl rfl (sw_true rfl rfl rfl (by decide +kernel)) (ZA rfl (vs 2)) (X8 (own:= [("pair",7)]) (N:=Zad) (sc:=defScope Yv) (by decide +kernel)) rfl (by decide) (Nk.na 7 (Nk.refl _)) (fun _ _ _ _ _=>(gn 7 ZD.nd)) (fun _ _ _ _ _=>(Qp (ZdA rfl (u65 hr) (vs 7) (vs 3) (by rfl)))) (fun _ _ _ _ _=>(ws 7)) wk rfl))
  (Zc (JM (i:=5) ZD.nd rfl (Or.inl rfl) (Jw Pu.ps_nil) wk rfl)
  (Zc (Qm (XG rfl) rfl (Zdb rfl (Ju T) (vs 4)) wk (Yh rfl rfl (Zm (gn 6 ZD.nd) (Zm (Za0 (i:=7) ZD.nd rfl (Or.inr rfl) rfl) Z0))) rfl rfl
  (Zf (ZQ (Wk.na 6 (Wk.na 7 (Wk.refl _))) (Yg (Yq Zo6 rfl Xn PySem.F.slot_list_extend PySem.F.type_list_extend Zkp rfl (pv 5) rfl (Or.inl rfl) (Pu.ps_cons (ZL (lc (own:= [("other",9)]) (us:= [9]) ZD (ZA rfl (p_b (ZaN rfl (vs 4) (Zao (p_b (Za5 rfl (vs 6) (p_b Zk)))) ZbY))) (Nk.na 9 (Nk.refl _)) (fun _ _ _ _ _=>(gn 9 ZD.nd)) (fun _ _ _ _ _=>(Qp (ZF (pc (Q4 T) hr takes0 (Zn (ws 0) (Zn (ZH (Pu.ps_cons (ws 7) (Pu.ps_cons (ws 9) Pu.ps_nil))) Zd)))))) (fun _ _ _ _ _=>(ZH (Pu.ps_cons (ws 7) (Pu.ps_cons (ws 9) Pu.ps_nil)))))) Pu.ps_nil)) wk))))
  (Zf (YS (Wk.fr 5 _ rfl (Wk.refl _)) rfl (Zp (ZH (Qq rfl (p_b (ZL (lc (own:= [("pair",7)]) (us:= [7]) ZD (ZA rfl (vs 3)) (Nk.na 7 (Nk.refl _)) (fun _ _ _ _ _=>(gn 7 ZD.nd)) (fun _ _ _ _ _=>ZC) (fun _ _ _ _ _=>(ZH (Pu.ps_cons (ws 7) Pu.ps_nil)))))) (Qq rfl (vs 5) Pu.ps_nil))) wk wk))))))))))
def Zgu:Env->RS:=(Zg (ZB 1 (Zh2 (sAs Zw Zb) (sC (.int 1))))
  (Zg (Ym (Zoq Zmf (Za (sAs (g1 (ZeM "Work" Zaf)) (Za (sV 0) Zb)) Zb)) (Zh 2)
  (Zg (ZB 3 (sC (.dtt [])))
  (Zg (Zc7 1 (Ym (sIt Qs (sV 1)) (Yu 2 (Pu.tCons (Zh 4) (Pu.tCons (Zh 5) Pu.tNil)))
  (Ym (sIt D.seq (Zo Q3 (Za (sV 0) (Za (sV 4) Zb)))) (Zh 6)
  (Zg (ZB 7 (sAs (g1 Yd) (Za (sLc (sIt D.seq (sUn (Zy "names") (sV 0))) (Zh 8) (sOr (sB (sOp (gIn false) (sV 8) (sV 4))) (sB (sOp gEq (sV 8) (sV 6)))) (sV 8) [8]) Zb)))
  (Zc3 3 (sV 7) (sOp QO (ZeN (sV 3) (sV 7) (sC (.int 0))) (sV 5)))))))
  (ZB 1 (sV 3)))))
  (Zu (sAs (g1 Zmb) (Za (sLk 1 (sLc (sIt ZgV (sV 1)) (Zh 5) ZO (sAs (g1 Zbl) (Za (sV 5) Zb)) [5])) Zb)))))
def ZaC:List D->RF:=Zx [.sh] 8 Zgu
theorem ZfT(T:Txt P w K mg):OkU base T 4 T.q3l [.sh] ZaC:=oku ZT fun _ _ _ _ _ _ hr =>
  (Zc (ZY (i:=1) ZT.nd rfl (Or.inl rfl) (ZL (Znv (u1 hr) (ZH Pu.ps_nil) Zk)) wk rfl)
  (Zc (Qm (XG rfl) rfl (Zmg rfl (Zoc T) (Zi (p_b (Zln (c:="Work") rfl rfl T.q5w (Zbv T) T.q1u.n (hr.mono (by decide)) (Z3 T) (Zi (vs 0) Zl) (by rfl))) Zl) (h1:=(Zmh ZnF))) wk (gn 2 ZT.nd) rfl rfl
  (Zc (JM (i:=3) ZT.nd rfl (Or.inl rfl) Zop wk rfl)
  (Zc (ZeS (i:=1) rfl (XG rfl) rfl (pv 1) wk (Yh rfl rfl (Zm (Za0 (i:=4) ZT.nd rfl (Or.inr rfl) rfl) (Zm (gn 5 ZT.nd) Z0))) rfl rfl
  (Zf (ZQ (Wk.na 4 (Wk.na 5 (Wk.refl _))) (Qm (XG rfl) rfl (ZA rfl (p_b (pc (JC T) hr (Xc rfl rfl rfl rfl) (Zn (ws 0) (Zn (ws 4) Zd))))) wk (Za0 (i:=6) ZT.nd rfl (Or.inr rfl) rfl) rfl rfl
  (Zc (ZY (i:=7) ZT.nd rfl (Or.inl rfl) (Yc rfl (Z8 T) (Zi (p_b (ZL (lc (own:= [("one",8)]) (us:= [8]) ZT (ZA rfl (p_b (Zz rfl (vs 0) rfl))) (Nk.na 8 (Nk.refl _)) (fun _ _ _ _ _=>(gn 8 ZT.nd)) (fun _ _ _ _ _=>(Qp (PW.pt (Yj (ZbH rfl (u65 hr) (vs 8) (vs 4) (by rfl)) (YU (Zeb rfl (u64 hr) (vs 8) (vs 6))))))) (fun _ _ _ _ _=>(ws 8))))) Zl) (by rfl)) wk rfl)
  (Zf (ZQ (Wk.na 6 (Wk.na 7 (Wk.refl _))) (Zcr (u1 hr) (pv 3) rfl (Or.inl rfl) (ws 7) (Za5 rfl (p_b (JL (j:=3) rfl (Or.inl rfl) (Or.inl rfl) (ZeO (u1 hr) (vb 3) (vs 7) Zk ⟨rfl,rfl,rfl,rfl⟩))) (vs 5)) wk))))))))
  (Zf (ZQ (Wk.na 2 (Wk.na 3 (Wk.refl _))) (YS (Wk.fr 3 _ rfl (Wk.refl _)) rfl (ZY (i:=1) ZT.nd rfl (Or.inl rfl) (ws 3) wk rfl)))))))
  (Zf (Zp (ZpE rfl rfl (Zp5 T) (Zi (p_b (ZL (ZpZ (i:=1) (own:= [("many",5)]) (us:= [5]) rfl (by rfl) ZT.nd (pv 1) (X8 (own:= [("many",5)]) (N:=ZcL) (sc:=defScope YW) (by decide +kernel)) rfl (by decide) (Nk.na 5 (Nk.refl _)) (fun _ _ _ _ _=>(gn 5 ZT.nd)) (fun _ _ _ _ _=>ZC) (fun _ _ _ _ _=>(Zhc (ZgW T) (Zi (vs 5) Zl) (by rfl)))))) Zl) (by rfl)) wk wk))))
def Ze7:Env->RS:=(Zu (sOp (gIn false) (sUn (Zy "name") (Ys "Work" "step" [] Yb (sV 0) (Za (sV 1) Zb))) (sOp gIx (sUn (Zy "after") (sV 0)) (sUn (Zy "name") (Ys "Work" "step" [] Yb (sV 0) (Za (sV 2) Zb))))))
def Qi:List D->RF:=Zx [.sh,.sh,.sh] 0 Ze7
theorem Zbc(T:Txt P w K mg):OkM base T 3 T.q3m [.sh,.sh,.sh] Qi:=okm Zet fun _ _ _ _ _ _ hr =>
  (Zf (Zp (ZaZ rfl (u65 hr) (p_b (Zz rfl (p_b (YG (ms:= [.sh]) (c:="Work") (ms2:= []) rfl rfl T.q5y (YF T) (hr.mono (by decide)) T.q37.n .nil DReps.nil (Xc rfl rfl rfl rfl) (ws 0) (Zn (ws 1) Zd))) rfl)) (p_b (Zr rfl (u1 hr) (p_b (Zz rfl (vs 0) rfl)) (p_b (Zz rfl (p_b (YG (ms:= [.sh]) (c:="Work") (ms2:= []) rfl rfl T.q5y (YF T) (hr.mono (by decide)) T.q37.n .nil DReps.nil (Xc rfl rfl rfl rfl) (ws 0) (Zn (ws 2) Zd))) rfl)) (fun _ _=>rfl))) (by rfl)) wk wk))
def Zjs:Env->RS:=(Zg (Ym (sIt Zcv (sUn (Zy "limits") (sV 0))) (Yu 2 (Pu.tCons (Zh 1) (Pu.tCons (Zh 2) Pu.tNil)))
  (ZW (sB (Zo ZbT (Za (sV 0) (Za (sV 2) Zb))))
  (Zu (sAs Zw (Za (sV 1) (Za (sOp gIx (Zo ZcJ (Za (sV 0) (Za (sOp gIx (sV 2) (sC (.int 0))) (Za (sOp gIx (sV 2) (sC (.int 1))) (Za (sOp gIx (sV 2) (sC (.int 2))) Zb))))) (sC (.int 1))) Zb))))
  sNx))
  (Zu (sC .non)))
def Zd5:List D->RF:=Zx [.sh] 2 Zjs
theorem ZiC(T:Txt P w K mg):OkU base T 6 T.q3n [.sh] Zd5:=oku Za9 fun _ _ _ _ _ _ hr =>
  (Zc (Qm (XG rfl) rfl (Zdb rfl (Ju T) (p_b (Zz rfl (vs 0) rfl))) wk (Yh rfl rfl (Zm (gn 1 Za9.nd) (Zm (gn 2 Za9.nd) Z0))) rfl rfl
  (Zf (ZZ (ZF (pc (Zdw T) hr (Xc rfl rfl rfl rfl) (Zn (ws 0) (Zn (ws 2) Zd)))) wk
  (Zf (Zp (ZH (Pu.ps_cons (ws 1) (Pu.ps_cons (Zr rfl (u1 hr) (p_b (pc (Zd4 T) hr (Xc rfl rfl rfl rfl) (Zn (ws 0) (Zn (Zr rfl (u1 hr) (vs 2) (p_b Zk) (fun _ _=>rfl)) (Zn (Zr rfl (u1 hr) (vs 2) (p_b Zk) (fun _ _=>rfl)) (Zn (Zr rfl (u1 hr) (vs 2) (p_b Zk) (fun _ _=>rfl)) Zd)))))) (p_b Zk) (fun _ _=>rfl)) Pu.ps_nil))) wk wk))
  (Jn (Wk.na 1 (Wk.na 2 (Wk.refl _))) ZJ))))
  (Zf (Zp Y1 wk wk)))
def Zgv:Env->RS:=(Zg (Zek 3 4 (sAs ZE Zb) (sOp gIx (sV 0) (sC (.int 0))))
  (Zg (Ym (sIt D.seq (sAs ZE (Jy (Za2 (sV 0) (Zai (sC (.int 1))) Zbo) (Za (sAs Zw (Za (sV 1) (Za (sC .non) Zb))) Zb)))) (Yu 2 (Pu.tCons (Zh 5) (Pu.tCons (Zh 6) Pu.tNil)))
  (Zg (ZW (sB (sOp (gIn false) (sV 4) (sV 2)))
  (sDo (Yk 3 Yn (Za (sAs Zw (Za (sV 5) (Za (sV 4) Zb))) Zb)))
  sNx)
  (ZB 4 (sV 6))))
  (Zu (sAs (g1 Yd) (Za (sAs (g1 Jb) (Za (sV 3) Zb)) Zb)))))
def ZcP:List D->RF:=Zx [.sh,.sh,.sh] 4 Zgv
theorem ZfU(T:Txt P w K mg):OkU base T 1 T.q3o [.sh,.sh,.sh] ZcP:=oku Qu fun _ _ _ _ _ _ hr =>
  (Zc (ZgK (i:=3) (j:=4) (t1:= .lst .sh) (t2:= .sh) rfl Qu.nd rfl rfl (by decide) rfl rfl (by rfl) (Jw Pu.ps_nil) (ZoP (Zr rfl (u1 hr) (vs 0) (p_b Zk) (fun _ _=>rfl))) wk rfl rfl)
  (Zc (Qm (XG rfl) rfl (ZA rfl (p_b (Pu.p_lst (Qq rfl (p_b (ZaN rfl (vs 0) (Zao (p_b Zk)) ZbY)) (Pu.ps_cons (ZH (Pu.ps_cons (ws 1) (Pu.ps_cons Y1 Pu.ps_nil))) Pu.ps_nil))))) wk (Yh rfl rfl (Zm (gn 5 Qu.nd) (Zm (gn 6 Qu.nd) Z0))) rfl rfl
  (Zc (ZZ (ZbH rfl (u65 hr) (vs 4) (vs 2) (by rfl)) wk
  (Zf (Yg (Yq Yr rfl Xn Xq Xr XU rfl (pv 3) rfl (Or.inl rfl) (Pu.ps_cons (ZH (Pu.ps_cons (ws 5) (Pu.ps_cons (ws 4) Pu.ps_nil))) Pu.ps_nil)) wk))
  ZJ)
  (Zf (ZQ (Wk.na 5 (Wk.na 6 (Wk.refl _))) (ZY (i:=4) Qu.nd rfl (Or.inl rfl) (ws 6) wk rfl)))))
  (Zf (YS (Wk.fr 3 _ rfl (Wk.refl _)) rfl (Zp (Yc rfl (Z8 T) (Zi (p_b (JG rfl (u64 hr) rfl (QX T) (Zi (vs 3) Zl) (by rfl))) Zl) (by rfl)) wk wk)))))
def ZlS:Env->RS:=(Zu (sAs (g1 Zay) (Za (sLc (sIt D.seq (sV 0)) (Zh 2) ZO (sOp (gIn false) (sV 2) (sV 1)) [2]) Zb)))
def Zge:List D->RF:=Zx [.sh,.sh] 1 ZlS
theorem ZkX(T:Txt P w K mg):OkU base T 1 T.q3p [.sh,.sh] Zge:=oku ZcD fun _ _ _ _ _ _ hr =>
  (Zf (Zp (Zah rfl rfl (Zam T) (Zi (p_b (ZL (lc (own:= [("one",2)]) (us:= [2]) ZcD (ZA rfl (vs 0)) (Nk.na 2 (Nk.refl _)) (fun _ _ _ _ _=>(gn 2 ZcD.nd)) (fun _ _ _ _ _=>ZC) (fun _ _ _ _ _=>(ZaZ rfl (u65 hr) (vs 2) (vs 1) (by rfl)))))) Zl) (by rfl)) wk wk))
def Ze8:Env->RS:=(Zg (ZB 1 (sAs ZE Zb))
  (Zg (Ym (sIt D.seq (sAs (g1 Zer) (Za (sV 0) Zb))) (Zh 2)
  (ZW (ZS (sB (sAs (g1 Zhb) (Za (sLc (sIt D.seq (sV 1)) (Zh 3) ZO (Zo Zge (Za (sV 3) (Za (sV 2) Zb))) [3]) Zb))))
  (sDo (Yk 1 Yn (Za (sV 2) Zb)))
  sNx))
  (Zu (sV 1))))
def Ze9:List D->RF:=Zx [(.op .tab)] 3 Ze8
theorem Zjt(T:Txt P w K mg)(hB:∀p∈ZkL T,LamX.TabB base mg p.1 p.2):FnOkG P w K mg base (L2.CX P w) 3 T.q3q.a T.q3q.d ["lots"] (SpF (gxF T) (xaF T) [(.op .tab)] Ze9) :=
 Zpe (pm:= [(.op .tab)]) (n:=3) (g:=Ze8) (k:=2) T.q3q.F Jt rfl rfl rfl fun cdv A outer s H E hc hr =>
  (Zc (JM (i:=1) Jt.nd rfl (Or.inl rfl) (Jw Pu.ps_nil) wk rfl)
  (Zc (Qm (XG rfl) rfl (ZA rfl (p_b (Zh9 (n:=0) (j:=0) (m:=(.op .tab)) (c:=T.q55) (P:=T.q56) (q:=((("least_of" :Str)++(".<locals>." :Str))++("<lambda>" :Str))) rfl (hr.mono (by decide)) (u64 hr) (by rfl) (QX T) (Z3 T) (Zi (p_b (ZhZ (pv 0) rfl (Or.inr rfl))) Zl) rfl (Or.inr rfl) (Zij T hB) (by exact hc.symm.trans T.q57) (by rfl) (by exact Zdp T) (by exact Zik T) (by decide +kernel) (by decide +kernel) (by rfl) (fun _ _ _ _ _ _=>rfl)))) wk (Za0 (i:=2) Jt.nd rfl (Or.inr rfl) rfl) rfl rfl
  (Zf (ZZ (ZI (ZF (ZjX rfl rfl (ZkK T) (Zi (p_b (ZL (Zow (j:=1) rfl (Or.inl rfl) (Or.inl rfl) (lc (own:= [("other",3)]) (us:= [3]) Jt (ZA rfl (vb 1)) (Nk.na 3 (Nk.refl _)) (fun _ _ _ _ _=>(gn 3 Jt.nd)) (fun _ _ _ _ _=>ZC) (fun _ _ _ _ _=>(pc (ZkX T) hr takes0 (Zn (ws 3) (Zn (ws 2) Zd)))))))) Zl) (by rfl)))) wk
  (Zf (ZQ (Wk.na 2 (Wk.refl _)) (Yg (Yq Yr rfl Xn Xq Xr XU rfl (pv 1) rfl (Or.inl rfl) (Pu.ps_cons (ws 2) Pu.ps_nil)) wk)))
  (Jn (Wk.na 2 (Wk.refl _)) ZJ))))
  (Zf (YS (Wk.fr 1 _ rfl (Wk.refl _)) rfl (Zp (ws 1) wk wk)))))
def Zgw:Env->RS:=(Zg (ZW (ZS (sB (Ys "Step" "is_touched" [] Qo (sV 0) (Za (sV 1) Zb))))
  (YM "NoPlace" "name" (sV 1))
  sNx)
  (Zu (ZdC "Step" [] YD (Za (sUn (Zy "name") (sV 0)) (Za (sUn (Zy "places") (sV 0)) (Za (sLc (sIt D.seq (sUn (Zy "arrows") (sV 0))) (Zh 2) (sB (sOp gNe (sOp gIx (sV 2) (sC (.int 0))) (sV 1))) (sV 2) [2]) Zb))))))
def YZ:List D->RF:=Zx [.sh,.sh] 1 Zgw
theorem Je(T:Txt P w K mg):OkM base T 7 T.q3r [.sh,.sh] YZ:=okm Zae fun _ _ _ _ _ _ hr =>
  (Zc (ZZ (ZI (ZF (Zho (ms:= [.br]) (c:="Step") (ms2:= []) rfl rfl T.q5l (Q0 T) (hr.mono (by decide)) T.q1z.n .nil DReps.nil (Xc rfl rfl rfl rfl) (vs 0) (Zt (vs 1) Zd)))) wk
  (Zf (Yl (k:=0) (c:="NoPlace") rfl T.q4x Zku rfl (hr.mono (by decide)) rfl rfl T.q4i.m (Xc rfl rfl rfl rfl) (ws 1) wk))
  ZJ)
  (Zf (Zp (Zc5 (c:="Step") (C:=T.q4k.a) (fsh:=YQ) (ms:= [.sh,.br,.br]) (ms2:= []) T.q5i (Qa T) rfl (hr.mono (by decide)) rfl T.q4k.m T.n_Step___init__ .nil DReps.nil (Xc rfl rfl rfl rfl) (Zn (Zz rfl (vs 0) rfl) (Zt (p_b (Zz rfl (vs 0) rfl)) (Zt (p_b (ZL (lc (own:= [("arrow",2)]) (us:= [2]) Zae (ZA rfl (p_b (Zz rfl (vs 0) rfl))) (Nk.na 2 (Nk.refl _)) (fun _ _ _ _ _=>(gn 2 Zae.nd)) (fun _ _ _ _ _=>(Qp (JF rfl (u64 hr) (p_b (Zr rfl (u1 hr) (vs 2) (p_b Zk) (fun _ _=>rfl))) (vs 1)))) (fun _ _ _ _ _=>(ws 2))))) Zd)))) wk wk)))
def Zgx:Env->RS:=(Zg (ZB 2 (sDc (fun _ _=>false) (sIt D.seq (sUn (Zy "steps") (sV 0))) (Zh 5) ZO (sUn (Zy "name") (sV 5)) (sV 5) [5]))
  (Zg (Ym (sIt D.seq (sV 1)) (Yu 2 (Pu.tCons (Zh 3) (Pu.tCons (Zh 4) Pu.tNil)))
  (Zg (sDo (Ys "Step" "washed" [] YZ (Ys "Work" "step" [] Yb (sV 0) (Za (sV 3) Zb)) (Za (sV 4) Zb)))
  (Zc3 2 (sV 3) (Ys "Step" "washed" [] YZ (sOp gIx (sV 2) (sV 3)) (Za (sV 4) Zb)))))
  (Zu (ZdC "Work" [] YE (Za (sLc (sIt D.seq (sUn (Zy "names") (sV 0))) (Zh 3) ZO (sOp gIx (sV 2) (sV 3)) [3]) (Za (sUn (Zy "ahead") (sV 0)) Zb))))))
def JE:List D->RF:=Zx [.sh,.sh] 4 Zgx
theorem Zb5(T:Txt P w K mg):OkM base T 8 T.q3s [.sh,.sh] JE:=okm Yy fun _ _ _ _ _ _ hr =>
  (Zc (JM (i:=2) Yy.nd rfl (Or.inr rfl) (Zcu (b:=(fun _ _=>false)) (own:= [("step",5)]) (us:= [5]) (u1 hr) (by rfl) Yy.nd (ZA rfl (p_b (Zz rfl (vs 0) rfl))) (X8 (own:= [("step",5)]) (N:=ZcM) (sc:=defScope YX) (by decide +kernel)) rfl (by decide) (Nk.na 5 (Nk.refl _)) (fun _ _ _ _ _=>(gn 5 Yy.nd)) (fun _ _ _ _ _=>ZC) (fun _ _ _ _ _=>(Zz rfl (vs 5) rfl)) (fun _ _ _ _ _=>(ws 5))) wk rfl)
  (Zc (Qm (XG rfl) rfl (ZA rfl (vs 1)) wk (Yh rfl rfl (Zm (gn 3 Yy.nd) (Zm (gn 4 Yy.nd) Z0))) rfl rfl
  (Zc (Yg (YG (ms:= [.sh]) (c:="Step") (ms2:= []) rfl rfl T.q5m (Je T) (hr.mono (by decide)) T.q3r.n .nil DReps.nil (Xc rfl rfl rfl rfl) (YG (ms:= [.sh]) (c:="Work") (ms2:= []) rfl rfl T.q5y (YF T) (hr.mono (by decide)) T.q37.n .nil DReps.nil (Xc rfl rfl rfl rfl) (ws 0) (Zn (ws 3) Zd)) (Zn (ws 4) Zd)) wk)
  (Zf (ZQ (Wk.na 3 (Wk.na 4 (Wk.refl _))) (Zcr (u1 hr) (pv 2) rfl (Or.inl rfl) (ws 3) (YG (ms:= [.sh]) (c:="Step") (ms2:= []) rfl rfl T.q5m (Je T) (hr.mono (by decide)) T.q3r.n .nil DReps.nil (Xc rfl rfl rfl rfl) (JL (j:=2) rfl (Or.inl rfl) (Or.inl rfl) (Zr rfl (u1 hr) (vb 2) (vs 3) (fun _ _=>rfl))) (Zn (ws 4) Zd)) wk)))))
  (Zf (YS (Wk.fr 2 _ rfl (Wk.refl _)) rfl (Zp (Zc5 (c:="Work") (C:=T.q4l.a) (fsh:=Z2) (ms:= [.br,.br]) (ms2:= []) T.q5u (Qb T) rfl (hr.mono (by decide)) rfl T.q4l.m T.n_Work___init__ .nil DReps.nil (Xc rfl rfl rfl rfl) (Zt (p_b (ZL (lc (own:= [("name",3)]) (us:= [3]) Yy (ZA rfl (p_b (Zz rfl (vs 0) rfl))) (Nk.na 3 (Nk.refl _)) (fun _ _ _ _ _=>(gn 3 Yy.nd)) (fun _ _ _ _ _=>ZC) (fun _ _ _ _ _=>(Zr rfl (u1 hr) (vs 2) (vs 3) (fun _ _=>rfl)))))) (Zt (p_b (Zz rfl (vs 0) rfl)) Zd))) wk wk)))))
def Zbd:Env->RS:=(Zg (ZgQ 2 3 4 (sAs ZE (Za (sAs Zw Zb) Zb)) (Zkw (sAs Zw Zb) (sC (.bl true))) (sAs ZE Zb))
  (Zg (Jo (sB (sOp gGt (sAs (g1 Yo) (Za (sV 2) Zb)) (sC (.int 0))))
  (Zg (ZB 5 (Yk 2 Zou Zb))
  (Zg (ZB 6 (Zo Zd5 (Za (Ys "Kitchen" "with_work" [] QJ (sV 0) (Za (Ys "Work" "washed" [] JE (sUn (Zy "work") (sV 0)) (Za (sV 5) Zb)) Zb)) Zb)))
  (Zg (ZW (sB (sUn Zd7 (sV 6)))
  (Zg (sDo (Yk 4 Yn (Za (sV 5) Zb)))
  sCt)
  sNx)
  (Ym (sIt D.seq (Zo ZcP (Za (sOp gIx (sV 6) (sC (.int 1))) (Za (sOp gIx (sOp gIx (sUn (Zy "limits") (sV 0)) (sOp gIx (sV 6) (sC (.int 0)))) (sC (.int 1))) (Za (sV 1) Zb))))) (Zh 7)
  (Zg (ZB 8 (sAs (g1 Yd) (Za (sAs (g1 Jb) (Za (sAs ZE (Jy (sV 5) (Za (sV 7) Zb))) Zb)) Zb)))
  (ZW (sB (ZgU true (sV 8)  3))
  (Zg (Znt 3 (sV 8) (sC (.bl true)))
  (sDo (Yk 2 Yn (Za (sV 8) Zb))))
  sNx)))))) 100000)
  (Zu (sAs (g1 Yd) (Za (Zo Ze9 (Za (sV 4) Zb)) Zb)))))
def JI:List D->RF:=Zx [(.op .tab),.sh] 7 Zbd
theorem ZdS(T:Txt P w K mg)(hB:∀p∈ZkL T,LamX.TabB base mg p.1 p.2):FnOkG P w K mg base (L2.CX P w) 9 T.q3t.a T.q3t.d ["kitchen","places"] (SpF (gxF T) (xaF T) [(.op .tab),.sh] JI) :=
 ZgC (pm:= [(.op .tab),.sh]) (n:=7) (g:=Zbd) (k:=8) T.q3t.F YH rfl rfl rfl fun cdv A outer s H E hr =>
  (Zc (Zo7 (i:=2) (j:=3) (l:=4) (t1:= .lst .sh) (t2:= .nk) (t3:= .lst .sh) rfl YH.nd rfl rfl rfl (by decide) (by decide) (by decide) rfl rfl rfl (by rfl) (Jw (Pu.ps_cons (ZH Pu.ps_nil) Pu.ps_nil)) (Zp2 rfl (u8 hr) (ZH Pu.ps_nil) Qc) (Jw Pu.ps_nil) wk rfl rfl rfl rfl)
  (Zc (ZaM 100000 (XG rfl) (Zed (p_b (JL (j:=2) rfl (Or.inl rfl) (Or.inl rfl) (Ya rfl (Z3 T) (Zi (vb 2) Zl) (by rfl)))) (p_b Zk)) wk
  (Zc (ZY (i:=5) YH.nd rfl (Or.inl rfl) (ZnG Zov rfl Xn PySem.F.slot_list_pop PySem.F.type_list_pop mt_pop rfl (pv 2) rfl (Or.inl rfl)) wk rfl)
  (Zc (ZY (i:=6) YH.nd rfl (Or.inl rfl) (pc (ZiC T) hr (Xc rfl rfl rfl rfl) (Zn (YG (ms:= [.sh]) (c:="Kitchen") (ms2:= []) rfl rfl T.q5b (JX T) (hr.mono (by decide)) T.q3g.n .nil DReps.nil (Xc rfl rfl rfl rfl) (ZhZ (pv 0) rfl (Or.inr rfl)) (Zn (YG (ms:= [.sh]) (c:="Work") (ms2:= []) rfl rfl T.q61 (Zb5 T) (hr.mono (by decide)) T.q3s.n .nil DReps.nil (Xc rfl rfl rfl rfl) (Zz rfl (p_b (ZhZ (pv 0) rfl (Or.inr rfl))) rfl) (Zn (ws 5) Zd)) Zd)) Zd)) wk rfl)
  (Zc (ZZ (Zey (vs 6)) wk
  (Zc (Yg (Yq Yr rfl Xn Xq Xr XU rfl (pv 4) rfl (Or.inl rfl) (Pu.ps_cons (ws 5) Pu.ps_nil)) wk)
  (Zf (ZjZ (Wk.na 5 (Wk.na 6 (Wk.refl _))))))
  ZJ)
  (Zf (ZQ (Wk.na 5 (Wk.na 6 (Wk.refl _))) (Qm (XG rfl) rfl (ZA rfl (p_b (pc (ZfU T) hr (Xc rfl rfl rfl rfl) (Zn (Zr rfl (u1 hr) (vs 6) (p_b Zk) (fun _ _=>rfl)) (Zn (Zr rfl (u1 hr) (p_b (Zr rfl (u1 hr) (p_b (Zz rfl (p_b (ZhZ (pv 0) rfl (Or.inr rfl))) rfl)) (p_b (Zr rfl (u1 hr) (vs 6) (p_b Zk) (fun _ _=>rfl))) (fun _ _=>rfl))) (p_b Zk) (fun _ _=>rfl)) (Zn (ws 1) Zd)))))) wk (gn 7 YH.nd) rfl rfl
  (Zc (ZY (i:=8) YH.nd rfl (Or.inl rfl) (Yc rfl (Z8 T) (Zi (p_b (JG rfl (u64 hr) rfl (QX T) (Zi (p_b (Pu.p_lst (Qq rfl (vs 5) (Pu.ps_cons (ws 7) Pu.ps_nil)))) Zl) (by rfl))) Zl) (by rfl)) wk rfl)
  (Zf (ZZ (ZnY rfl (u65 hr) rfl (Or.inl rfl) (vs 8) (pv 3) (by rfl)) wk
  (Zc (Zpa rfl (u9 hr) (pv 3) rfl (Or.inl rfl) (ws 8) Qc wk)
  (Zf (ZQ (Wk.na 7 (Wk.na 8 (Wk.refl _))) (Yg (Yq Yr rfl Xn Xq Xr XU rfl (pv 2) rfl (Or.inl rfl) (Pu.ps_cons (ws 8) Pu.ps_nil)) wk))))
  (Jn (Wk.na 7 (Wk.na 8 (Wk.refl _))) ZJ)))))))))))
  (Zf (YS (Wk.fr 2 _ rfl (Wk.fr 3 _ rfl (Wk.fr 4 _ rfl (Wk.refl _)))) rfl (Zp (Yc rfl (Z8 T) (Zi (p_b (ZmW (i:=0) (j:=0) (m:=(.op .tab)) (Zjt T hB) (hr.mono (by decide)) rfl T.q3q.m T.q3q.F.kp T.q3q.n (Xc rfl rfl rfl rfl) rfl (Or.inr rfl) rfl (Zn (ws 4) Zd))) Zl) (by rfl)) wk wk)))))
def ZkY:Env->RS:=(Zu (Z9 (Zo Jd (Za (sV 0) (Za (sV 1) Zb))) (sOp gEq (sAs (g1 Yo) (Za (sV 1) Zb)) (sAs (g1 (ZeM "Work" Zaf)) (Za (sV 0) Zb)))))
def ZcK:List D->RF:=Zx [.sh,.sh] 0 ZkY
theorem Zju(T:Txt P w K mg):OkU base T 4 T.q3u [.sh,.sh] ZcK:=oku Zi9 fun _ _ _ _ _ _ hr =>
  (Zf (Zp (YA (pc (Zbx T) hr (Xc rfl rfl rfl rfl) (Zn (ws 0) (Zn (ws 1) Zd))) (Y2 (JN rfl (u64 hr) (p_b (Ya rfl (Z3 T) (Zi (vs 1) Zl) (by rfl))) (p_b (Zln (c:="Work") rfl rfl T.q5w (Zbv T) T.q1u.n (hr.mono (by decide)) (Z3 T) (Zi (vs 0) Zl) (by rfl)))))) wk wk))
def Zjv:Env->RS:=(Zg (ZW (sOr (ZS (sB (Zo ZP (Za (sV 1) Zb)))) (ZS (sB (Zo ZP (Za (sV 2) Zb)))))
  (Zu (sC .non))
  sNx)
  (Zu (sIf (sB (sOp (gIn false) (sAs Zw (Za (sV 1) (Za (sV 2) Zb))) (sUn (Zy "losses") (sV 0)))) (sOp gIx (sUn (Zy "losses") (sV 0)) (sAs Zw (Za (sV 1) (Za (sV 2) Zb)))) (sC .non))))
def ZbU:List D->RF:=Zx [.sh,.sh,.sh] 0 Zjv
theorem ZiD(T:Txt P w K mg):OkM base T 2 T.q3v [.sh,.sh,.sh] ZbU:=okm Zii fun _ _ _ _ _ _ hr =>
  (Zc (ZZ (PW.pt (Yj (ZI (ZF (pc (ZN T) hr (Xc rfl rfl rfl rfl) (Zt (vs 1) Zd)))) (YU (ZI (ZF (pc (ZN T) hr (Xc rfl rfl rfl rfl) (Zt (vs 2) Zd))))))) wk
  (Zf (Zp Y1 wk wk))
  ZJ)
  (Zf (Zp (Zck (ZbH rfl (u65 hr) (p_b (ZH (Pu.ps_cons (ws 1) (Pu.ps_cons (ws 2) Pu.ps_nil)))) (p_b (Zz rfl (vs 0) rfl)) (by rfl)) (Zr rfl (u1 hr) (p_b (Zz rfl (vs 0) rfl)) (p_b (ZH (Pu.ps_cons (ws 1) (Pu.ps_cons (ws 2) Pu.ps_nil)))) (fun _ _=>rfl)) Y1) wk wk)))
end
end Pu
namespace Pu
open PySem L2 Pw
section
variable {P:Program}{w:World}{K:PySem.W.Frag}{mg:Str->Option Value}{base:Heap}
def ZgX:Env->RS:=(Zg (ZB 1 (sC (.str "chop")))
  (Zg (Ym (sIt D.seq (ZfC (sV 0) Zbo (Zai (sC (.int 40))))) (Zh 2)
  (ZB 1 (sOp gIx (sAs ZE (Za (sC (.str "chop")) (Za (sC (.str "b")) (Za (sC (.str "zz")) Zb)))) (sOp Zff (sAs (g1 Zhd) (Za (sAs (g1 Zbl) (Za (sV 2) Zb)) Zb)) (sC (.int 3))))))
  (Zg (ZB 3 (sAs ZE (Za (sOp QO (sV 1) (sC (.str " at nuts board go nuts board 0"))) (Za (sC (.str "cut at board plate go board plate 1")) Zb))))
  (Zg (ZB 3 (sOp QO (sV 3) (sAs ZE (Za (sC (.str "serve at plate go plate plate 0")) Zb))))
  (Zg (ZB 4 (ZhJ "Kitchen" [] Zag (sC (.cls "Kitchen")) (Za (sM1 Zaq (sC (.str "\n")) (sOp QO (sV 3) (sAs ZE (Za (sC (.str "trace nut nuts 5")) (Za (sC (.str "limit nut serve plate 3")) Zb))))) Zb)))
  (Zg (ZB 5 (sUn (Zy "work") (sV 4)))
  (Zg (ZB 6 (Zdf "Step" [2,1,0] 3 YD (Za (sAs ZE (Za (sAs Zw (Za (sC (.str "pan")) (Za (sC (.str "pan")) (Za (sC (.int 1)) Zb)))) Zb)) (Za (sAs ZE (Za (sC (.str "pan")) Zb)) (Za (sV 1) Zb)))))
  (Zg (ZB 7 (sAs ZE (Za (sOp gEq (Y0 [1,0] 2 JI (Za (sAs ZE (Za (sC (.str "board")) Zb)) (Za (sV 4) Zb))) (sAs Zw (Za (sAs Zw (Za (sAs Zw (Za (sC (.str "cut")) (Za (sC (.str "board")) Zb))) Zb)) Zb))) Zb)))
  (Zg (sDo (Yk 7 Yn (Za (sOp Zdc (Y0 [1,0] 2 Y6 (Za (sAs ZE (Za (sAs Zw (Za (sC (.str "cut")) (Za (sV 1) Zb))) Zb)) (Za (sV 4) Zb))) (sC (.bl true))) Zb)))
  (Zg (sDo (Yk 7 Yn (Za (sOp Zdc (Y0 [0,1] 2 Y6 (Za (sV 4) (Za (sAs Zw Zb) Zb))) (sC (.bl false))) Zb)))
  (Zg (sDo (Yk 7 Yn (Za (sOp gEq (Y0 [0] 1 Qx (Za (sV 4) Zb)) (Zo Qx (Za (sV 4) Zb))) Zb)))
  (Zg (sDo (Yk 7 Yn (Za (Z9 (sOp Zdc (Qt "Work" "is_ahead" [1,0] 2 Qi (sV 5) (Za (sV 1) (Za (sC (.str "cut")) Zb))) (sC (.bl false))) (sOp gEq (sUn (Zy "name") (Qt "Work" "step" [0] 1 Yb (sV 5) (Za (sV 1) Zb))) (sV 1))) Zb)))
  (Zg (sDo (Yk 7 Yn (Za (Ys "Work" "is_ahead" [] Qi (Qt "Work" "fenced" [0] 1 JD (sV 5) (Za (sAs ZE (Za (sAs Zw (Za (sC (.str "cut")) (Za (sV 1) Zb))) Zb)) Zb)) (Za (sC (.str "cut")) (Za (sV 1) Zb))) Zb)))
  (Zg (sDo (Yk 7 Yn (Za (sOp (JQ "Work" QB) (ZbZ "Work" [0] 1 ZbS (sC (.cls "Work")) (Za (sAs (g1 (QM "Work" Qw)) (Za (sV 5) Zb)) Zb)) (sV 5)) Zb)))
  (Zg (sDo (Yk 7 Yn (Za (Z9 (sOp (JQ "Work" QB) (Zdf "Work" [1,0] 2 YE (Za (sAs ZE Zb) (Za (sUn (Zy "steps") (sV 5)) Zb))) (sV 5)) (sOp gEq (Y0 [0] 1 ZaC (Za (sV 5) Zb)) (sC (.int 6)))) Zb)))
  (Zg (sDo (Yk 7 Yn (Za (Z9 (Y0 [1,0] 2 Jd (Za (sAs Zw (Za (sC (.str "cut")) Zb)) (Za (sV 5) Zb))) (ZgB (Y0 [1,0] 2 ZcK (Za (sAs Zw (Za (sC (.str "cut")) Zb)) (Za (sV 5) Zb))))) Zb)))
  (Zg (sDo (Yk 7 Yn (Za (Z9 (sOp gEq (sAs (g1 (QM "Step" Yz)) (Za (sV 6) Zb)) (sOp QO (sV 1) (sC (.str " at pan go pan pan 1")))) (sOp (JQ "Step" QA) (ZbZ "Step" [0] 1 ZbR (sC (.cls "Step")) (Za (sAs (g1 (QM "Step" Yz)) (Za (sV 6) Zb)) Zb)) (sV 6))) Zb)))
  (Zg (ZB 8 (Ys "Work" "step" [] Yb (sV 5) (Za (sC (.str "cut")) Zb)))
  (Zg (sDo (Yk 7 Yn (Za (Z9 (sOp gEq (Qt "Step" "loss" [1,0] 2 ZbU (sV 8) (Za (sC (.str "plate")) (Za (sC (.str "board")) Zb))) (sC (.int 1))) (sOp gEq (sUn (Zy "arrows") (Qt "Step" "washed" [0] 1 YZ (sV 8) (Za (sC (.str "board")) Zb))) (sAs Zw Zb))) Zb)))
  (Zg (sDo (Yk 7 Yn (Za (sOp (JQ "Step" QA) (Ys "Work" "step" [] Yb (Qt "Work" "washed" [0] 1 JE (sV 5) (Za (sAs ZE (Za (sAs Zw (Za (sC (.str "cut")) (Za (sC (.str "board")) Zb))) Zb)) Zb)) (Za (sC (.str "cut")) Zb)) (Ys "Step" "washed" [] YZ (sV 8) (Za (sC (.str "board")) Zb))) Zb)))
  (Zu (sOp gEq (sLc (sIt D.seq (sV 7)) (Zh 9) (sB (sOp ZgP (sV 9) (sC (.bl true)))) (sV 9) [9]) (sAs ZE Zb)))))))))))))))))))))))
def ZkZ:List D->RF:=Zx [(.op .tab)] 9 ZgX
theorem Zpr(T:Txt P w K mg)(hB:∀p∈ZkL T,LamX.TabB base mg p.1 p.2):FnOkG P w K mg base (L2.CX P w) 10 T.u_law.a T.u_law.d ["_law_script"] (SpF (gxF T) (xaF T) [(.op .tab)] ZkZ) :=
 ZgC (pm:= [(.op .tab)]) (n:=9) (g:=ZgX) (k:=9) T.u_law.F Qv rfl rfl rfl fun cdv A outer s H E hr =>
  (Zc (ZY (i:=1) Qv.nd rfl (Or.inl rfl) Zv wk rfl)
  (Zc (Qm (XG rfl) rfl (ZA rfl (p_b (Zm6 rfl (p_b (ZhZ (pv 0) rfl (Or.inr rfl))) ZbY (Zao (p_b Zk))))) wk (gn 2 Qv.nd) rfl rfl
  (Zf (ZQ (Wk.na 2 (Wk.refl _)) (ZY (i:=1) Qv.nd rfl (Or.inl rfl) (Zr rfl (u1 hr) (p_b (Pu.p_lst (Pu.ps_cons Zv (Pu.ps_cons Zv (Pu.ps_cons Zv Pu.ps_nil))))) (p_b (ZpJ (p_b (ZpG (Zp4 T) (Zi (p_b (Zhc (ZgW T) (Zi (vs 2) Zl) (by rfl))) Zl) (by rfl))) (p_b Zk))) (fun _ _=>rfl)) wk rfl))))
  (Zc (ZY (i:=3) Qv.nd rfl (Or.inl rfl) (Pu.p_lst (Pu.ps_cons (Za5 rfl (vs 1) (p_b Zv)) (Pu.ps_cons Zv Pu.ps_nil))) wk rfl)
  (Zc (ZY (i:=3) Qv.nd rfl (Or.inl rfl) (Za5 rfl (vs 3) (p_b (Pu.p_lst (Pu.ps_cons Zv Pu.ps_nil)))) wk rfl)
  (Zc (ZY (i:=4) Qv.nd rfl (Or.inl rfl) (ZnT (ms:= [.sh]) (ms2:= []) (c:="Kitchen") (mc:=T.q5c) (pr:=T.q5e) rfl T.q5d T.q5f (Ze5 T) (hr.mono (by decide)) T.q2z.n .nil DReps.nil (Xc rfl rfl rfl rfl) (ZeR (Vt (v:= .ref T.q4h.a) rfl T.q4h.m rfl) rfl) (Zn (ZdJ rfl (p_b Zv) (p_b (Za5 rfl (vs 3) (p_b (Pu.p_lst (Pu.ps_cons Zv (Pu.ps_cons Zv Pu.ps_nil))))))) Zd)) wk rfl)
  (Zc (ZY (i:=5) Qv.nd rfl (Or.inl rfl) (Zz rfl (vs 4) rfl) wk rfl)
  (Zc (ZY (i:=6) Qv.nd rfl (Or.inl rfl) (ZjO (ix:= [2,1,0]) (ms:= [.br,.br,.sh]) (ks:= ["arrows","places","name"]) (c:="Step") (C:=T.q4k.a) (fsh:=YQ) T.q5i (Qa T) rfl (hr.mono (by decide)) rfl T.q4k.m T.q3w (Xc rfl rfl rfl rfl) (ZeT (p_b (Pu.p_lst (Pu.ps_cons (ZH (Pu.ps_cons Zv (Pu.ps_cons Zv (Pu.ps_cons Zk Pu.ps_nil)))) Pu.ps_nil))) (ZeT (p_b (Pu.p_lst (Pu.ps_cons Zv Pu.ps_nil))) (YL (ws 1) Yx)))) wk rfl)
  (Zc (JM (i:=7) Qv.nd rfl (Or.inl rfl) (Jw (Pu.ps_cons (JN rfl (u64 hr) (p_b (ZlG (ix:= [1,0]) (ms:= [.sh,.sh]) (ks:= ["places","kitchen"]) (pm:= [(.op .tab),.sh]) (i:=0) (j:=0) (m:=(.op .tab)) (ZdS T hB) (hr.mono (by decide)) rfl T.q3t.m T.q3t.F.kp T.q3x (Xc rfl rfl rfl rfl) rfl (Or.inr rfl) rfl rfl (YL (Pu.p_lst (Pu.ps_cons Zv Pu.ps_nil)) (YL (ws 4) Yx)))) (p_b (ZH (Pu.ps_cons (ZH (Pu.ps_cons (ZH (Pu.ps_cons Zv (Pu.ps_cons Zv Pu.ps_nil))) Pu.ps_nil)) Pu.ps_nil)))) Pu.ps_nil)) wk rfl)
  (Zc (Yg (Yq Yr rfl Xn Xq Xr XU rfl (pv 7) rfl (Or.inl rfl) (Pu.ps_cons (Zko (p_b (ZaO (ix:= [1,0]) (ms:= [.sh,.sh]) (ks:= ["pairs","kitchen"]) (Q4 T) (hr.mono (by decide)) rfl T.q3j.m T.q3j.F.kp T.q3y (Xc rfl rfl rfl rfl) (YL (Pu.p_lst (Pu.ps_cons (ZH (Pu.ps_cons Zv (Pu.ps_cons (ws 1) Pu.ps_nil))) Pu.ps_nil)) (YL (ws 4) Yx)))) (p_b Qc)) Pu.ps_nil)) wk)
  (Zc (Yg (Yq Yr rfl Xn Xq Xr XU rfl (pv 7) rfl (Or.inl rfl) (Pu.ps_cons (Zko (p_b (ZaO (ix:= [0,1]) (ms:= [.sh,.sh]) (ks:= ["kitchen","pairs"]) (Q4 T) (hr.mono (by decide)) rfl T.q3j.m T.q3j.F.kp T.q3z (Xc rfl rfl rfl rfl) (YL (ws 4) (YL (ZH Pu.ps_nil) Yx)))) (p_b Qc)) Pu.ps_nil)) wk)
  (Zc (Yg (Yq Yr rfl Xn Xq Xr XU rfl (pv 7) rfl (Or.inl rfl) (Pu.ps_cons (JN rfl (u64 hr) (p_b (ZaO (ix:= [0]) (ms:= [.sh]) (ks:= ["kitchen"]) (Zby T) (hr.mono (by decide)) rfl T.q3k.m T.q3k.F.kp T.q40 (Xc rfl rfl rfl rfl) (YL (ws 4) Yx))) (p_b (pc (Zby T) hr (Xc rfl rfl rfl rfl) (Zn (ws 4) Zd)))) Pu.ps_nil)) wk)
  (Zc (Yg (Yq Yr rfl Xn Xq Xr XU rfl (pv 7) rfl (Or.inl rfl) (Pu.ps_cons (YA (Zko (p_b (ZaQ (ix:= [1,0]) (ms:= [.sh,.sh]) (ks:= ["other","one"]) (c:="Work") rfl rfl T.q60 (Zbc T) (hr.mono (by decide)) T.q43 (Xc rfl rfl rfl rfl) (ws 5) (YL (ws 1) (YL Zv Yx)))) (p_b Qc)) (Y2 (JN rfl (u64 hr) (p_b (Zz rfl (p_b (ZaQ (ix:= [0]) (ms:= [.sh]) (ks:= ["name"]) (c:="Work") rfl rfl T.q5y (YF T) (hr.mono (by decide)) T.q4a (Xc rfl rfl rfl rfl) (ws 5) (YL (ws 1) Yx))) rfl)) (vs 1)))) Pu.ps_nil)) wk)
  (Zc (Yg (Yq Yr rfl Xn Xq Xr XU rfl (pv 7) rfl (Or.inl rfl) (Pu.ps_cons (YG (ms:= [.sh,.sh]) (c:="Work") (ms2:= []) rfl rfl T.q60 (Zbc T) (hr.mono (by decide)) T.q3m.n .nil DReps.nil (Xc rfl rfl rfl rfl) (ZaQ (ix:= [0]) (ms:= [.br]) (ks:= ["pairs"]) (c:="Work") rfl rfl T.q5z (Zb4 T) (hr.mono (by decide)) T.q44 (Xc rfl rfl rfl rfl) (ws 5) (ZeT (p_b (Pu.p_lst (Pu.ps_cons (ZH (Pu.ps_cons Zv (Pu.ps_cons (ws 1) Pu.ps_nil))) Pu.ps_nil))) Yx)) (Zn Zv (Zn (ws 1) Zd))) Pu.ps_nil)) wk)
  (Zc (Yg (Yq Yr rfl Xn Xq Xr XU rfl (pv 7) rfl (Or.inl rfl) (Pu.ps_cons (ZgL (c:="Work") rfl rfl T.q5x (Zb3 T) T.q1v.n (hr.mono (by decide)) (p_b (ZhY (ix:= [0]) (ms:= [.sh]) (ks:= ["text"]) (c:="Work") (mc:=T.q62) (pr:=T.q64) rfl T.q63 T.q65 (Zix T) (hr.mono (by decide)) T.q41 (Xc rfl rfl rfl rfl) (ZeR (Vt (v:= .ref T.q4l.a) rfl T.q4l.m rfl) rfl) (YL (Zap (c:="Work") rfl rfl T.q5v (JW T) T.q1t.n (hr.mono (by decide)) (ZaJ T) (Zi (vs 5) Zl) (by rfl)) Yx))) (vs 5)) Pu.ps_nil)) wk)
  (Zc (Yg (Yq Yr rfl Xn Xq Xr XU rfl (pv 7) rfl (Or.inl rfl) (Pu.ps_cons (YA (ZgL (c:="Work") rfl rfl T.q5x (Zb3 T) T.q1v.n (hr.mono (by decide)) (p_b (ZjO (ix:= [1,0]) (ms:= [.br,.br]) (ks:= ["ahead","steps"]) (c:="Work") (C:=T.q4l.a) (fsh:=Z2) T.q5u (Qb T) rfl (hr.mono (by decide)) rfl T.q4l.m T.q45 (Xc rfl rfl rfl rfl) (ZeT (p_b (Pu.p_lst Pu.ps_nil)) (ZeT (p_b (Zz rfl (vs 5) rfl)) Yx)))) (vs 5)) (Y2 (JN rfl (u64 hr) (p_b (ZaO (ix:= [0]) (ms:= [.sh]) (ks:= ["work"]) (ZfT T) (hr.mono (by decide)) rfl T.q3l.m T.q3l.F.kp T.q46 (Xc rfl rfl rfl rfl) (YL (ws 5) Yx))) (p_b Zk)))) Pu.ps_nil)) wk)
  (Zc (Yg (Yq Yr rfl Xn Xq Xr XU rfl (pv 7) rfl (Or.inl rfl) (Pu.ps_cons (YA (ZaO (ix:= [1,0]) (ms:= [.sh,.sh]) (ks:= ["value","work"]) (Zbx T) (hr.mono (by decide)) rfl T.q3h.m T.q3h.F.kp T.q42 (Xc rfl rfl rfl rfl) (YL (ZH (Pu.ps_cons Zv Pu.ps_nil)) (YL (ws 5) Yx))) (Y2 (Zng (ZaO (ix:= [1,0]) (ms:= [.sh,.sh]) (ks:= ["value","work"]) (Zju T) (hr.mono (by decide)) rfl T.q3u.m T.q3u.F.kp T.q47 (Xc rfl rfl rfl rfl) (YL (ZH (Pu.ps_cons Zv Pu.ps_nil)) (YL (ws 5) Yx)))))) Pu.ps_nil)) wk)
  (Zc (Yg (Yq Yr rfl Xn Xq Xr XU rfl (pv 7) rfl (Or.inl rfl) (Pu.ps_cons (YA (JN rfl (u64 hr) (p_b (Zap (c:="Step") rfl rfl T.q5j (Qh T) T.q1i.n (hr.mono (by decide)) (ZaJ T) (Zi (vs 6) Zl) (by rfl))) (p_b (Za5 rfl (vs 1) (p_b Zv)))) (Y2 (ZgL (c:="Step") rfl rfl T.q5k (Zb2 T) T.q1j.n (hr.mono (by decide)) (p_b (ZhY (ix:= [0]) (ms:= [.sh]) (ks:= ["text"]) (c:="Step") (mc:=T.q5o) (pr:=T.q5q) rfl T.q5p T.q5r (Ziv T) (hr.mono (by decide)) T.q48 (Xc rfl rfl rfl rfl) (ZeR (Vt (v:= .ref T.q4k.a) rfl T.q4k.m rfl) rfl) (YL (Zap (c:="Step") rfl rfl T.q5j (Qh T) T.q1i.n (hr.mono (by decide)) (ZaJ T) (Zi (vs 6) Zl) (by rfl)) Yx))) (vs 6)))) Pu.ps_nil)) wk)
  (Zc (ZY (i:=8) Qv.nd rfl (Or.inl rfl) (YG (ms:= [.sh]) (c:="Work") (ms2:= []) rfl rfl T.q5y (YF T) (hr.mono (by decide)) T.q37.n .nil DReps.nil (Xc rfl rfl rfl rfl) (ws 5) (Zn Zv Zd)) wk rfl)
  (Zc (Yg (Yq Yr rfl Xn Xq Xr XU rfl (pv 7) rfl (Or.inl rfl) (Pu.ps_cons (YA (JN rfl (u64 hr) (p_b (ZaQ (ix:= [1,0]) (ms:= [.sh,.sh]) (ks:= ["end","start"]) (c:="Step") rfl rfl T.q5n (ZiD T) (hr.mono (by decide)) T.q49 (Xc rfl rfl rfl rfl) (ws 8) (YL Zv (YL Zv Yx)))) (p_b Zk)) (Y2 (JN rfl (u64 hr) (p_b (Zz rfl (p_b (ZaQ (ix:= [0]) (ms:= [.sh]) (ks:= ["place"]) (c:="Step") rfl rfl T.q5m (Je T) (hr.mono (by decide)) T.q4b (Xc rfl rfl rfl rfl) (ws 8) (YL Zv Yx))) rfl)) (p_b (ZH Pu.ps_nil))))) Pu.ps_nil)) wk)
  (Zc (Yg (Yq Yr rfl Xn Xq Xr XU rfl (pv 7) rfl (Or.inl rfl) (Pu.ps_cons (ZgL (c:="Step") rfl rfl T.q5k (Zb2 T) T.q1j.n (hr.mono (by decide)) (p_b (YG (ms:= [.sh]) (c:="Work") (ms2:= []) rfl rfl T.q5y (YF T) (hr.mono (by decide)) T.q37.n .nil DReps.nil (Xc rfl rfl rfl rfl) (ZaQ (ix:= [0]) (ms:= [.sh]) (ks:= ["pairs"]) (c:="Work") rfl rfl T.q61 (Zb5 T) (hr.mono (by decide)) T.q4c (Xc rfl rfl rfl rfl) (ws 5) (YL (Pu.p_lst (Pu.ps_cons (ZH (Pu.ps_cons Zv (Pu.ps_cons Zv Pu.ps_nil))) Pu.ps_nil)) Yx)) (Zn Zv Zd))) (p_b (YG (ms:= [.sh]) (c:="Step") (ms2:= []) rfl rfl T.q5m (Je T) (hr.mono (by decide)) T.q3r.n .nil DReps.nil (Xc rfl rfl rfl rfl) (ws 8) (Zn Zv Zd)))) Pu.ps_nil)) wk)
  (Zf (YS (Wk.fr 7 _ rfl (Wk.refl _)) rfl (Zp (JN rfl (u64 hr) (p_b (ZL (lc (own:= [("_law_zright",9)]) (us:= [9]) Qv (ZA rfl (vs 7)) (Nk.na 9 (Nk.refl _)) (fun _ _ _ _ _=>(gn 9 Qv.nd)) (fun _ _ _ _ _=>(Qp (Zo5 (vs 9) (p_b Qc)))) (fun _ _ _ _ _=>(ws 9))))) (p_b (Pu.p_lst Pu.ps_nil))) wk wk)))))))))))))))))))))))
end
end Pu
namespace Pu
open PySem L2
section
variable {ρ ρ1 ρ2 ρ3:Env}{a b c d e:D}{ds es:List D}{fa fb fc f:Env->R D}{fs gs:Env->R (List D)}{k j:Bool}{t t2:Env->R Bool}
theorem ZqG{i:Nat}(h:ρ[i]?=some (some d)):sV i ρ= .ok d ρ:=by unfold sV; rw[h]
theorem Znz{g:D->D->Option D}(ha:fa ρ= .ok a ρ1)(hb:fb ρ1= .ok b ρ2)(hg:g a b=some d):sOp g fa fb ρ= .ok d ρ2:=by
 unfold sOp; rw[ha]; show (fb ρ1).bind _=_; rw[hb]; show R.of _ _=_; rw[hg]; rfl
theorem Zk0{g:List D->Option D}(ha:fs ρ= .ok ds ρ1)(hg:g ds=some d):sAs g fs ρ= .ok d ρ1:=by
 unfold sAs; rw[ha]; show R.of _ _=_; rw[hg]; rfl
theorem ZiE:Zb ρ= .ok [] ρ:=rfl
theorem Zb6(ha:fa ρ= .ok a ρ1)(hb:fs ρ1= .ok ds ρ2):Za fa fs ρ= .ok (a::ds) ρ2:=by
 unfold Za; rw[ha]; show (fs ρ1).bind _=_; rw[hb]; rfl
theorem Zp7{g:D->Option (List D)}(ha:fa ρ= .ok a ρ1)(hg:g a=some ds):sIt g fa ρ= .ok ds ρ1:=by
 unfold sIt; rw[ha]; show R.of _ _=_; rw[hg]; rfl
/- statements -/
variable {g g2 g3:Env->RS}{r:RS}
theorem ZlT(h:g ρ= .nx ρ1)(h2:g2 ρ1=r):Zg g g2 ρ=r:=by unfold Zg; rw[h]; exact h2
theorem ZlU{i:Nat}(h:f ρ= .ok d ρ1):ZB i f ρ= .nx (ρ1.set i (some d)):=by unfold ZB; rw[h]; rfl
theorem Zps{tg:D->Env->Option Env}(h:fs ρ= .ok ds ρ1)(h2:Za1 tg g ds ρ1=r):Ym fs tg g ρ=r:=by unfold Ym; rw[h]; exact h2
theorem Zp8{pm:List Md}{n:Nat}(h:g (ds.map some++List.replicate n none)= .rt d ρ):Zx pm n g ds= .ok d (Y8 pm ds ρ):=by unfold Zx; rw[h]
end
end Pu
namespace Pu
open PySem L2
section
variable {ρ ρ1 ρ2 ρ3:Env}{a b c d e:D}{ds es:List D}{fa fb fc f:Env->R D}{fs gs:Env->R (List D)}{k j:Bool}{t t2:Env->R Bool}
theorem ZiF:sC d ρ= .ok d ρ:=rfl
end
end Pu
namespace Pu
open PySem L2
theorem ZiG{α:Type}(l:List α)(n:Nat):Jh l none (some (n:Int))=l.take n:=by
 unfold Jh
 rw[HT.sIx_none,HT.sIx_nat]
 show (l.drop 0).take (min n l.length - 0)=_
 rw[List.drop_zero,Nat.sub_zero]
 rcases Nat.le_total n l.length with h|h
 ·rw[Nat.min_eq_left h]
 ·rw[Nat.min_eq_right h,List.take_of_length_le h,List.take_of_length_le (XS _)]
end Pu
namespace Pu
open PySem L2
theorem Zpt{α:Type}(l:List α)(n:Nat):L2.atI l (n:Int)=l[n]?:=by
 unfold L2.atI L2.ixN
 rw[if_pos (by omega)]
 by_cases h:(n:Int) < l.length
 ·rw[if_pos h]
  show l[(n:Int).toNat]?=_
  rw[Int.toNat_natCast]
 ·rw[if_neg h]
  show none=_
  rw[Vz (by omega)]
theorem ZiH{l:List D}{n:Nat}{d:D}(h:l[n]?=some d):gIx (.lst l) (.int (n:Int))=some d:=(Zpt l n).trans h
theorem Zpu(l:List D)(n:Nat):Zcn (.lst l) none (some (n:Int))=some (.lst (l.take n)):=by
 show some (D.lst (Jh l none (some (n:Int))))=_
 rw[ZiG]
theorem ZlV{α:Type}{tg:D->Env->Option Env}{g:Env->RS}{f:α->D}{I:Nat->Env->Prop}:∀(xs:List α) (n:Nat) (ρ:Env) (_:I n ρ) (_:∀(k:Nat) (hk:k < xs.length) (ρ:Env),I (n+k) ρ->∃ρ1,tg (f xs[k]) ρ=some ρ1∧∃ρ2,(g ρ1= .nx ρ2∨g ρ1= .ct ρ2)∧I (n+(k+1)) ρ2),∃ρ',Za1 tg g (xs.map f) ρ= .nx ρ'∧I (n+xs.length) ρ'
 |[],n,ρ,h,_=>⟨ρ,rfl,h⟩
 |x::xs,n,ρ,h,H=>by
  obtain⟨ρ1,h1,ρ2,h2,h3⟩:=H 0 (by simp) ρ h
  obtain⟨ρ',h4,h5⟩:=ZlV (tg:=tg) (g:=g) (f:=f) (I:=I) xs (n+1) ρ2 h3 fun k hk ρ hI=>by
   have:=H (k+1) (by simpa using hk) ρ (by rw[show n+(k+1)=n+1+k by omega]; exact hI)
   obtain⟨ρ1,a,ρ2,b,c⟩:=this
   refine⟨ρ1,by simpa using a,ρ2,b, ?_⟩
   rw[show n+1+(k+1)=n+(k+1+1) by omega]
   exact c
  refine⟨ρ', ?_,by rw[Xs,show n+(xs.length+1)=n+1+xs.length by omega]; exact h5⟩
  have h1':tg (f x) ρ=some ρ1:=h1
  show Za1 tg g (f x::xs.map f) ρ=_
  unfold Za1
  rw[h1']
  show (g ρ1).loop _=_
  rcases h2 with h2|h2 <;> rw[h2] <;> exact h4
theorem Zoe{α:Type}{tg:D->Env->Option Env}{g:Env->RS}{f:α->D}(I:Nat->Env->Prop)(xs:List α){ρ:Env}(h:I 0 ρ)(H:∀(k:Nat) (hk:k < xs.length) (ρ:Env),I k ρ->∃ρ1,tg (f xs[k]) ρ=some ρ1∧∃ρ2,(g ρ1= .nx ρ2∨g ρ1= .ct ρ2)∧I (k+1) ρ2):∃ρ',Za1 tg g (xs.map f) ρ= .nx ρ'∧I xs.length ρ':=by
 obtain⟨ρ',a,b⟩:=ZlV (tg:=tg) (g:=g) (f:=f) (I:=I) xs 0 ρ h fun k hk ρ hI=>by
  rw[Nat.zero_add] at hI
  rw[Nat.zero_add]
  exact H k hk ρ hI
 rw[Nat.zero_add] at b
 exact⟨ρ',a,b⟩
end Pu
namespace Pu
open PySem L2
def ZdM:RS->Bool
 |.rt (.bl true) _=>true
 |_=>false
theorem Zna{r:RS}(h:ZdM r=true):∃ρ,r= .rt (.bl true) ρ:=by
 unfold ZdM at h
 split at h
 ·exact⟨_,rfl⟩
 ·cases h
def Zfa:Env->RS:=(Zg (ZB 3 (sAs ZE (Za (sOp QO (sV 1) (sC (.str " at nuts board go nuts board 0"))) (Za (sC (.str "cut at board plate go board plate 1")) Zb)))) (Zg (ZB 3 (sOp QO (sV 3) (sAs ZE (Za (sC (.str "serve at plate go plate plate 0")) Zb)))) (Zg (ZB 4 (ZhJ "Kitchen" [] Zag (sC (.cls "Kitchen")) (Za (sM1 Zaq (sC (.str "\n")) (sOp QO (sV 3) (sAs ZE (Za (sC (.str "trace nut nuts 5")) (Za (sC (.str "limit nut serve plate 3")) Zb))))) Zb))) (Zg (ZB 5 (sUn (Zy "work") (sV 4))) (Zg (ZB 6 (Zdf "Step" [2,1,0] 3 YD (Za (sAs ZE (Za (sAs Zw (Za (sC (.str "pan")) (Za (sC (.str "pan")) (Za (sC (.int 1)) Zb)))) Zb)) (Za (sAs ZE (Za (sC (.str "pan")) Zb)) (Za (sV 1) Zb))))) (Zg (ZB 7 (sAs ZE (Za (sOp gEq (Y0 [1,0] 2 JI (Za (sAs ZE (Za (sC (.str "board")) Zb)) (Za (sV 4) Zb))) (sAs Zw (Za (sAs Zw (Za (sAs Zw (Za (sC (.str "cut")) (Za (sC (.str "board")) Zb))) Zb)) Zb))) Zb))) (Zg (sDo (Yk 7 Yn (Za (sOp Zdc (Y0 [1,0] 2 Y6 (Za (sAs ZE (Za (sAs Zw (Za (sC (.str "cut")) (Za (sV 1) Zb))) Zb)) (Za (sV 4) Zb))) (sC (.bl true))) Zb))) (Zg (sDo (Yk 7 Yn (Za (sOp Zdc (Y0 [0,1] 2 Y6 (Za (sV 4) (Za (sAs Zw Zb) Zb))) (sC (.bl false))) Zb))) (Zg (sDo (Yk 7 Yn (Za (sOp gEq (Y0 [0] 1 Qx (Za (sV 4) Zb)) (Zo Qx (Za (sV 4) Zb))) Zb))) (Zg (sDo (Yk 7 Yn (Za (Z9 (sOp Zdc (Qt "Work" "is_ahead" [1,0] 2 Qi (sV 5) (Za (sV 1) (Za (sC (.str "cut")) Zb))) (sC (.bl false))) (sOp gEq (sUn (Zy "name") (Qt "Work" "step" [0] 1 Yb (sV 5) (Za (sV 1) Zb))) (sV 1))) Zb))) (Zg (sDo (Yk 7 Yn (Za (Ys "Work" "is_ahead" [] Qi (Qt "Work" "fenced" [0] 1 JD (sV 5) (Za (sAs ZE (Za (sAs Zw (Za (sC (.str "cut")) (Za (sV 1) Zb))) Zb)) Zb)) (Za (sC (.str "cut")) (Za (sV 1) Zb))) Zb))) (Zg (sDo (Yk 7 Yn (Za (sOp (JQ "Work" QB) (ZbZ "Work" [0] 1 ZbS (sC (.cls "Work")) (Za (sAs (g1 (QM "Work" Qw)) (Za (sV 5) Zb)) Zb)) (sV 5)) Zb))) (Zg (sDo (Yk 7 Yn (Za (Z9 (sOp (JQ "Work" QB) (Zdf "Work" [1,0] 2 YE (Za (sAs ZE Zb) (Za (sUn (Zy "steps") (sV 5)) Zb))) (sV 5)) (sOp gEq (Y0 [0] 1 ZaC (Za (sV 5) Zb)) (sC (.int 6)))) Zb))) (Zg (sDo (Yk 7 Yn (Za (Z9 (Y0 [1,0] 2 Jd (Za (sAs Zw (Za (sC (.str "cut")) Zb)) (Za (sV 5) Zb))) (ZgB (Y0 [1,0] 2 ZcK (Za (sAs Zw (Za (sC (.str "cut")) Zb)) (Za (sV 5) Zb))))) Zb))) (Zg (sDo (Yk 7 Yn (Za (Z9 (sOp gEq (sAs (g1 (QM "Step" Yz)) (Za (sV 6) Zb)) (sOp QO (sV 1) (sC (.str " at pan go pan pan 1")))) (sOp (JQ "Step" QA) (ZbZ "Step" [0] 1 ZbR (sC (.cls "Step")) (Za (sAs (g1 (QM "Step" Yz)) (Za (sV 6) Zb)) Zb)) (sV 6))) Zb))) (Zg (ZB 8 (Ys "Work" "step" [] Yb (sV 5) (Za (sC (.str "cut")) Zb))) (Zg (sDo (Yk 7 Yn (Za (Z9 (sOp gEq (Qt "Step" "loss" [1,0] 2 ZbU (sV 8) (Za (sC (.str "plate")) (Za (sC (.str "board")) Zb))) (sC (.int 1))) (sOp gEq (sUn (Zy "arrows") (Qt "Step" "washed" [0] 1 YZ (sV 8) (Za (sC (.str "board")) Zb))) (sAs Zw Zb))) Zb))) (Zg (sDo (Yk 7 Yn (Za (sOp (JQ "Step" QA) (Ys "Work" "step" [] Yb (Qt "Work" "washed" [0] 1 JE (sV 5) (Za (sAs ZE (Za (sAs Zw (Za (sC (.str "cut")) (Za (sC (.str "board")) Zb))) Zb)) Zb)) (Za (sC (.str "cut")) Zb)) (Ys "Step" "washed" [] YZ (sV 8) (Za (sC (.str "board")) Zb))) Zb))) (Zu (sOp gEq (sLc (sIt D.seq (sV 7)) (Zh 9) (sB (sOp ZgP (sV 9) (sC (.bl true)))) (sV 9) [9]) (sAs ZE Zb)))))))))))))))))))))
def Zdx:List Str:= ["chop","b","zz"]
abbrev E56(x z c:Option D):Env:= [x,z,c,none,none,none,none,none,none,none]
theorem Znb(X C:Option D):ZdM (Zfa (E56 X (some (.str "chop")) C))=true:=by kernel_rfl
theorem Zp9(X C:Option D):ZdM (Zfa (E56 X (some (.str "b")) C))=true:=by kernel_rfl
theorem Zpv(X C:Option D):ZdM (Zfa (E56 X (some (.str "zz")) C))=true:=by kernel_rfl
theorem Zpw{X Z:Option D}(i:Int):∃z∈Zdx,(ZB 1 (sOp gIx (sAs ZE (Za (sC (.str "chop")) (Za (sC (.str "b")) (Za (sC (.str "zz")) Zb)))) (sOp Zff (sAs (g1 Zhd) (Za (sAs (g1 Zbl) (Za (sV 2) Zb)) Zb)) (sC (.int 3))))) (E56 X Z (some (.int i)))= .nx (E56 X (some (.str z)) (some (.int i))):=by
 let k:Nat:=((i.natAbs:Int) % 3).toNat
 have k3:k < 3:=by show ((i.natAbs:Int) % 3).toNat < 3; omega
 have ek:(i.natAbs:Int) % 3=(k:Int):=by show _=((((i.natAbs:Int) % 3).toNat:Nat):Int); omega
 have gm:Zff (.int (i.natAbs:Int)) (.int 3)=some (.int (k:Int)):=by
  rw[<- ek]
  rfl
 have ga:g1 Zhd [.int i]=some (.int (i.natAbs:Int)):=by
  show some (D.int (if i < 0 then -i else i))=_
  congr 2
  split <;> omega
 have gi:∃z∈Zdx,gIx (.lst [.str "chop",.str "b",.str "zz"]) (.int (k:Int))=some (.str z):=by
  have:k=0∨k=1∨k=2:=by omega
  rcases this with h|h|h
  ·rw[h]; exact⟨"chop",by simp[Zdx],ZiH (n:=0) rfl⟩
  ·rw[h]; exact⟨"b",by simp[Zdx],ZiH (n:=1) rfl⟩
  ·rw[h]; exact⟨"zz",by simp[Zdx],ZiH (n:=2) rfl⟩
 obtain⟨z,hz,gi⟩:=gi
 exact⟨z,hz,ZlU (Znz (Zk0 (Zb6 ZiF (Zb6 ZiF (Zb6 ZiF ZiE))) rfl) (Znz (Zk0 (Zb6 (Zk0 (Zb6 (ZqG rfl) ZiE) rfl) ZiE) ga) ZiF gm) gi)⟩
theorem law_true:∀(x:D) (ns:List Int),x= .lst (ns.map .int)∨x= .klt ns->ns.length<=63->∃ds,ZkZ [x]= .ok (.bl true) ds:=fun x ns hx hl=>by
 let X:Option D:=some x
 have cut:Zdi x none (some 40)=some (.lst ((ns.take 40).map .int)):=by
  rcases hx with rfl|rfl
  ·show Zcn (.lst (ns.map .int)) none (some ((40:Nat):Int))=_
   rw[Zpu,<- List.map_take]
  ·show some (D.lst ((Jh ns none (some ((40:Nat):Int))).map .int))=_
   rw[ZiG]
 obtain⟨ρ',lp,z,c,rfl,hz⟩:=Zoe (tg:=Zh 2) (g:=(ZB 1 (sOp gIx (sAs ZE (Za (sC (.str "chop")) (Za (sC (.str "b")) (Za (sC (.str "zz")) Zb)))) (sOp Zff (sAs (g1 Zhd) (Za (sAs (g1 Zbl) (Za (sV 2) Zb)) Zb)) (sC (.int 3)))))) (f:=D.int) (fun _ ρ=>∃(z:Str) (c:Option D),ρ=E56 X (some (.str z)) c∧z∈Zdx) (ns.take 40) (ρ:=E56 X (some (.str "chop")) none) ⟨"chop",none,rfl,by simp[Zdx]⟩ fun k hk ρ ⟨z,c,hρ,hz⟩=>by
  subst hρ
  obtain⟨z',hz',e⟩:=Zpw (X:=X) (Z:=some (.str z)) (ns.take 40)[k]
  exact⟨_,rfl,_,.inl e,z',_,rfl,hz'⟩
 have sl:sIt D.seq (ZfC (sV 0) Zbo (Zai (sC (.int 40)))) (E56 X (some (.str "chop")) none)= .ok ((ns.take 40).map .int) (E56 X (some (.str "chop")) none):=by
  refine Zp7 (a:= .lst ((ns.take 40).map .int)) ?_ rfl
  show R.of (Zdi x none (some 40)) _=_
  rw[cut]
  rfl
 have all:ZdM (Zfa (E56 X (some (.str z)) c))=true:=by
  simp only[Zdx,XB,List.not_mem_nil,or_false] at hz
  rcases hz with rfl|rfl|rfl
  ·exact Znb X c
  ·exact Zp9 X c
  ·exact Zpv X c
 obtain⟨ρ2,e2⟩:=Zna all
 have:ZgX (E56 X none none)= .rt (.bl true) ρ2:=by
  unfold ZgX
  exact ZlT (ρ1:=E56 X (some (.str "chop")) none) (ZlU ZiF) (ZlT (Zps sl lp) e2)
 exact⟨_,Zp8 (pm:= [.op .tab]) (n:=9) (ds:= [x]) this⟩
end Pu
namespace Pw
open PySem L2 PySem.Spec PyProof.Rows
section
variable {P:Program}{w:World}{K:PySem.W.Frag}{mg mb:Str->Option Value}{CX:CXT}{k:Nat}{fa a:Addr}{fd:FuncData}{x:Str}{sp:Sp}{s:Shared}{vs:List Value}{ns:List Int}{cs:List (Addr × Addr)}
abbrev Znc:Obj:= { cls:= .none,data:= .fields #[] }
theorem law_runT{H:Hp}(KX:K.In s.heap)(hns:s.heap.Ns mainGlobals mg)(hb:s.heap.Ns builtinsNs mb)(hbb:∀x:Str,x≠"__name__"->mb x=bootBuiltins x)(hlim:s.heap.NoLimit)(hg:s.gens=#[])
  (tabs:∀p∈cs,s.heap.get? p.2=some Znc)(codes:∀p∈cs,PySem.W.CodeHd s.heap p.1 p.2)
  (hbm:∃(bm:Addr) (ob:Obj),mg "__builtins__" =some (.ref bm)∧bm≠builtinsNs∧s.heap.get? bm=some ob∧ob.cls= .type "module"∧ob.dict=some builtinsNs∧ob.data= .plain)
  (ha:s.heap.get? a=some { cls:= .type "list",data:= .seq vs.toArray })(hr:RoomG k callerA)(F:∀base:Heap,K.In base->base.Ns mainGlobals mg->(∀p∈cs,LamX.TabB base mg p.1 p.2)->FnOkG P w K mg base CX k fa fd [x] sp)
  (hbind:∀(s:Shared) (u:Value),BindsTo s fd ⟨[u],[]⟩ [(x,u)])(want:sp [.ref a] H (fun v _=>v= .bl true) fun _ _ _=>False)(hCX:∀H e s',CX [] H s (fun _ _ _=>False) e s'->False)
  (inT:∀p∈cs,H p.2=some (.tbl #[]))(only:∀b,H b=none∨(∃p∈cs,p.2=b)∨∃o xs,H b=some (.frz o (.lst xs)))(hok:HOk P w H s.heap)(at_:∀b u,H b=some u->K.lookup b=none∧(b=a∨∃p∈cs,p.2=b)):codeAny (model P w) callerA (.call (.ref fa) ⟨[.ref a],[]⟩) (ZpY s) s:=by
 have low:∀{b:Addr}{o:Obj},s.heap.get? b=some o->H b=none->(hidT s.heap H).get? b=some o:=fun e n=>hidT_get e n
 have free:∀{b:Addr}{o:Obj},s.heap.get? b=some o->(∀us n,o.data≠ .seq us n)->o.data≠ .fields #[]->H b=none:=fun {b o} e h1 h2=>by
  cases q:H b with
  |none=>rfl
  |some u =>
   rcases(at_ b u q).2 with rfl|⟨p,hp,rfl⟩
   ·rw[ha] at e
    cases e
    exact(h1 _ _ rfl).elim
   ·rw[tabs p hp] at e
    cases e
    exact(h2 rfl).elim
 have freeK:∀{b:Addr}{o:Obj},K.lookup b=some o->H b=none:=fun {b o} e=>by
  cases q:H b with
  |none=>rfl
  |some u =>
   rw[(at_ b u q).1] at e
   cases e
 have names:∀{b:Addr}{m:Str->Option Value},s.heap.Ns b m->(hidT s.heap H).Ns b m:=by
  rintro b m ⟨o,es,ep,e,d,r⟩
  exact⟨o,es,ep,low e (free e (fun us n z=>by rw[d] at z; cases z) (fun z=>by rw[d] at z; cases z)),d,r⟩
 have KB:K.In (hidT s.heap H):=fun b o e=>low (KX b o e) (freeK e)
 obtain⟨mc,l1,l2⟩:=hlim
 have md:Mod K mg (hidT s.heap H):= { kin:=KB,glob:=names hns,blt:=⟨mb,names hb,hbb⟩,nolimit:=⟨mc,names l1,l2⟩ }
 have TB:∀p∈cs,LamX.TabB (hidT s.heap H) mg p.1 p.2:=fun p hp=>by
  refine { code:= ?_,bm:= ?_,gP:=fun z=> ?_ }
  ·obtain⟨o,us,file,tf,flags,tg,inF,text,tt,e1,r1,r2,r3,r⟩:=codes p hp
   refine⟨o,us,file,tf,flags,tg,inF,text,tt,low e1 (free e1 (fun ws n z=>by rw[r2] at z; cases z) fun z=> ?_),r1,r2,r3,r⟩
   rw[r2] at z
   cases z
   simp at r3
  ·obtain⟨bm,ob,b1,b2,b3,b4,b5,b6⟩:=hbm
   have n1:bm≠mainGlobals:=fun q=>by
    obtain⟨o,es,ep,e,d,_⟩:=hns
    rw[q,e] at b3
    cases b3
    rw[d] at b6
    cases b6
   have n2:bm≠p.2:=fun q=>by
    rw[q,tabs p hp] at b3
    cases b3
    cases b6
   exact⟨bm,ob,b1,b2,n1,n2,low b3 (free b3 (fun us n z=>by rw[b6] at z; cases z) (fun z=>by rw[b6] at z; cases z)),b4,b5,b6⟩
  ·obtain⟨o,es,ep,e,d,_⟩:=hns
   rw[z,tabs p hp] at e
   cases e
   cases d
 have e0:Env0 P w K mg (hidT s.heap H) callerA [] s H:= { frames:=rfl,mod:=md,bs:=fun b o e=>of_hidT e,bsz:=Vx (hidT_size _ _),funs:=trivial,frf:=(fun b z=>nomatch z),hok:=hok,bare:= .of_eq hg }
 refine Vi ((F _ KB (names hns) TB).run callerA [] s H _ [.ref a] [.ref a] _ _ hr e0 (hbind s _) (.cons rfl .nil) want) fun out s' h=> ?_
 rcases out with e|fl
 ·exact(hCX H e s' h).elim
 ·cases fl with
  |ret u =>
   obtain⟨v,H',os,bare,un,hok',ru,q⟩:=h
   cases (show v= .bl true from q)
   cases (show u=Value.bool true from ru)
   have same:∀b o,(¬ ∃p∈cs,p.2=b)->s.heap.get? b=some o->s'.heap.get? b=some o:=fun b o nb e=>by
    rcases only b with z|z|⟨ob,xs,z⟩
    ·exact un.keep b o e z (fun y=>nomatch y) (fun y=>nomatch y)
    ·exact absurd z nb
    ·have c1:=(hok b _ z).1
     have c2:=(hok' b _ (un.frzs b ob _ z)).1
     rw[e] at c1
     cases c1
     exact c2
   have grown:∀p∈cs,∃more:Array Value,s'.heap.get? p.2=some { cls:= .none,data:= .fields more }:=fun p hp=>by
    obtain⟨more,z⟩:=un.tbls p.2 #[] (inT p hp)
    exact⟨_,hok' p.2 _ z⟩
   refine⟨rfl,⟨fun b o e=> ?_,fun b o e=> ?_⟩,os,bare⟩
   ·by_cases hb:∃p∈cs,p.2=b
    ·obtain⟨p,hp,rfl⟩:=hb
     obtain⟨more,hm⟩:=grown p hp
     rw[tabs p hp] at e
     cases e
     exact .inr (.inl ⟨((codes p hp).tab (tabs p hp)).isCodeTable,rfl,#[],more,rfl,by rw[Array.empty_append]; exact hm⟩)
    ·exact .inl (same b o hb e)
   ·by_cases hb:∃p∈cs,p.2=b
    ·obtain⟨p,hp,rfl⟩:=hb
     obtain⟨more,hm⟩:=grown p hp
     exact⟨_,hm⟩
    ·exact⟨o,same b o hb e⟩
  |next=>exact h.elim
  |brk=>exact h.elim
  |cont=>exact h.elim
end
def LawG(l:PySem.W.OpenLaw)(w:World)(K:PySem.W.Frag)(CX:CXT)(k n:Nat)(x:Str)(mg:Str->Option Value)(fa:Addr)(h:Heap):Prop :=
 ∃(fd:FuncData) (cs:List (Addr × Addr)) (sp:Sp),(∀p∈cs,h.get? p.2=some Znc)∧(∀p∈cs,K.lookup p.2=none)∧(∀p∈cs,PySem.W.CodeHd h p.1 p.2)∧(∀(s:Shared) (u:Value),BindsTo s fd ⟨[u],[]⟩ [(x,u)])∧
  (∀(H:Hp) (a:Addr) (ns:List Int),ns.length<=n->(∀p∈cs,H p.2=some (.tbl #[]))->SqL K H a (ns.map V.int)->sp [.ref a] H (fun v _=>v= .bl true) fun _ _ _=>False)∧
  ∀base:Heap,K.In base->base.Ns mainGlobals mg->(∀p∈cs,LamX.TabB base mg p.1 p.2)->FnOkG l.prog w K mg base CX k fa fd [x] sp
end Pw
namespace Pu
open PySem L2 PySem.Spec PyProof.Rows Pw
def spLawT(K:PySem.W.Frag)(tb:List (Addr × Str)):Sp:=fun vs H Q _=>∃(a:Addr) (ns:List Int),vs= [.ref a]∧SqL K H a (ns.map V.int)∧ns.length<=63∧(∀p∈tb,H p.1=some (.tbl #[]))∧∀H',Q (.bl true) H'
theorem Zof{K:PySem.W.Frag}{G:Gx K}{xa:String->Option Addr}{f:List D->RF}{vs:List V}{H:Hp}{Q:VK}{E:XK}(nd:(G.tb.map (·.1)).Nodup)
  (hf:∀(x:D) (ns:List Int),x= .lst (ns.map .int)∨x= .klt ns->ns.length<=63->∃ds,f [x]= .ok (.bl true) ds)(h:spLawT K G.tb vs H Q E):SpF G xa [.op .tab] f vs H Q E:=by
 obtain⟨a,ns,rfl,hs,hl,inT,k⟩:=h
 let O:Addr->Prop:=fun b=>b∈G.tb.map (·.1)
 have at_:∀b,O b->H b=some (.tbl #[]):=fun b hb=>by
  obtain⟨p,hp,rfl⟩:=XW.mp hb
  exact inT p hp
 obtain⟨x,hx,r⟩:∃x,(x=D.lst (ns.map .int)∨x= .klt ns)∧Rep G O H (.ref a) x:=by
  rcases hs with hs|hs
  ·refine⟨_,.inl rfl,.lst hs (fun z=> ?_) (Zdg ns)⟩
   have:=at_ a z
   rcases hs with hs|⟨o,hs⟩
   ·rw[hs] at this; cases this
   ·rw[hs] at this; cases this
  ·exact⟨_,.inr rfl,.klt hs⟩
 obtain⟨ds,e⟩:=hf x ns hx hl
 have empty:TriplesOk (#[]:Array Value).toList:=True.intro
 have wd:Wd G O O [G.tb.map (·.1)] H ([V.ref a].map some) ([x].map some) [.op .tab]:=by
  refine⟨by simpa using nd,fun b hb=>(show b∈G.tb.map (·.1) by simpa only[Xw,List.flatten_nil,Vd] using hb),fun _ h=>h,fun b hb=>⟨⟨.tbl #[],fun _ z=>nomatch z⟩,at_ b hb⟩,rfl,rfl,rfl,fun i m v d F e1 e2 e3 e4=> ?_⟩
  cases i with
  |zero =>
   cases e1; cases e2; cases e3; cases e4
   refine⟨_,_,rfl,rfl,rfl,r,fun p hp=>⟨#[],inT p hp,empty,fun n cv hc=> ?_⟩⟩
   have z:codeAmong n []=some cv:=hc
   simp[codeAmong] at z
  |succ i=>cases e1
 refine⟨O,_,[x],wd, ?_⟩
 rw[e]
 intro v O' Fs' H' _ _ rv
 cases rv
 exact k H'
end Pu
namespace HZ
open PySem PySem.Spec PyProof.Rows L2 He
theorem walk_ofXT{l:PySem.W.OpenLaw}{n k:Nat}{q:Program}{loose:List Str}{XP:(Str->Option Value)->Heap->Prop}{YP:World->Heap->Prop}{d:DefRec}{CX:World->CXT}{x:Str}
  (hn:l.most=some n)(hn2:n<=sizeLine)(hdf:d.params.defaults= [])(hr:Pw.RoomG k callerA)
  (F:∀(w:World) (mg:Str->Option Value) (fa:Addr) (h:Heap),YP w h->h.Ns mainGlobals mg->mg d.name=some (.ref fa)->∃K:PySem.W.Frag,K.In h∧Pw.LawG l w K (CX w) k n x mg fa h)
  (hCX:∀(w:World) (H:Hp) (s:Shared) (e:Value) (s':Shared),CX w [] H s (fun _ _ _=>False) e s'->False) :
  PySem.W.WalkO q loose XP YP l.row.toRowW d [] (fun f vs=>PySem.call f vs):=by
 refine Att.attach_callB hn hdf ?_
 intro w s₀ s mg mb fa o pm cd doc a vs ns G Y ho hd hcd hmg ha hi hlen hbits hg
 obtain⟨K,KX,fd,cs,sp,tabs,noK,codes,hb,hsp,hF⟩:=F w mg fa _ Y G.T.g hmg
 have rv:=vals_ints hi
 have lv:vs.length=ns.length:=hi.length
 have hz:ns.length<=sizeLine:=XD hlen hn2
 have aT:¬ ∃p∈cs,p.2=a:=fun⟨p,hp,e⟩=>by
  have:=tabs p hp
  rw[e,ha] at this
  exact nomatch (VC Obj.data (XJ this):Data.seq vs.toArray _=Data.fields #[])
 classical
 let T:Hp:=fun b=>if ∃p∈cs,p.2=b then some (.tbl #[]) else none
 have T1:∀b,(∃p∈cs,p.2=b)->T b=some (.tbl #[]):=fun b h=>if_pos h
 have T0:∀b,¬ (∃p∈cs,p.2=b)->T b=none:=fun b h=>if_neg h
 cases hk:K.lookup a with
 |some o1 =>
  have e:=KX a o1 hk
  rw[ha] at e
  cases e
  refine Pw.law_runT (H:=T) (cs:=cs) KX G.T.g G.T.b G.T.builtins G.T.nolimit hg tabs codes G.T.bmain ha hr hF hb (hsp _ a ns hlen (fun p hp=>T1 _ ⟨p,hp,rfl⟩) (.inr ⟨_,vs.toArray,_,hk,rfl,rfl,rfl,by rw[Vq,lv]; exact hz,by simpa using rv⟩)) (fun H e s'=>hCX w H s e s') (fun p hp=>T1 _ ⟨p,hp,rfl⟩) (fun b=> ?_) (fun b u z=> ?_) (fun b u z=> ?_)
  ·by_cases h:∃p∈cs,p.2=b
   ·exact .inr (.inl h)
   ·exact .inl (T0 b h)
  ·by_cases h:∃p∈cs,p.2=b
   ·rw[T1 b h] at z
    cases z
    obtain⟨p,hp,rfl⟩:=h
    exact tabs p hp
   ·rw[T0 b h] at z
    cases z
  ·by_cases h:∃p∈cs,p.2=b
   ·obtain⟨p,hp,rfl⟩:=h
    exact⟨noK p hp,.inr ⟨p,hp,rfl⟩⟩
   ·rw[T0 b h] at z
    cases z
 |none =>
  let H0:Hp:=fun b=>if b=a then some (HO.frz { cls:= .type "list",data:= .seq vs.toArray } (.lst (ns.map V.int))) else T b
  have Ha:H0 a=some (HO.frz { cls:= .type "list",data:= .seq vs.toArray } (.lst (ns.map V.int))):=if_pos rfl
  have Hn:∀b,b≠a->H0 b=T b:=fun b h=>if_neg h
  have inT:∀p∈cs,H0 p.2=some (.tbl #[]):=fun p hp=>by
   rw[Hn _ fun z=>aT ⟨p,hp,z⟩]
   exact T1 _ ⟨p,hp,rfl⟩
  refine Pw.law_runT (H:=H0) (cs:=cs) KX G.T.g G.T.b G.T.builtins G.T.nolimit hg tabs codes G.T.bmain ha hr hF hb (hsp _ a ns hlen inT (.inl (.inr ⟨_,Ha⟩))) (fun H e s'=>hCX w H s e s') inT (fun b=> ?_) (fun b u z=> ?_) (fun b u z=> ?_)
  ·by_cases e:b=a
   ·subst e
    exact .inr (.inr ⟨_,_,Ha⟩)
   ·by_cases h:∃p∈cs,p.2=b
    ·exact .inr (.inl h)
    ·exact .inl ((Hn b e).trans (T0 b h))
  ·by_cases e:b=a
   ·subst e
    rw[Ha] at z
    cases z
    exact⟨ha,by rw[Xx]; exact hz,vs,_,rv,ha⟩
   ·rw[Hn b e] at z
    by_cases h:∃p∈cs,p.2=b
    ·rw[T1 b h] at z
     cases z
     obtain⟨p,hp,rfl⟩:=h
     exact tabs p hp
    ·rw[T0 b h] at z
     cases z
  ·by_cases e:b=a
   ·exact⟨by rw[e]; exact hk,.inl e⟩
   ·rw[Hn b e] at z
    by_cases h:∃p∈cs,p.2=b
    ·obtain⟨p,hp,rfl⟩:=h
     exact⟨noK p hp,.inr ⟨p,hp,rfl⟩⟩
    ·rw[T0 b h] at z
     cases z
end HZ
namespace HX
open PySem PySem.Spec PyProof.Rows L2 Pw
abbrev BdA(n q:Str)(st:Stmt)(ps:List Str):Prop:=∀(kV doc pm:Value) (an:Option Addr) (cdv ct:Value) (us:List Value),us.length=ps.length->bindArgs (PySem.W.fnOf n q (defArgs st) (defBody st) (defScope st) .none kV doc pm an cdv ct) ⟨us,[]⟩=pure (ps.zip us)
theorem ZaK{K:PySem.W.Frag}{at_:PySem.W.Frag->Addr}{n q:Str}{st:Stmt}{ps:List Str}(e:fnx K ((dA at_ n q st).at_ K)=(dA at_ n q st).val)(c:(dA at_ n q st).ok K=true)(k:PySem.W.keepIn K (.ref (at_ K))=true)(hb:BdA n q st ps) :
  ∃d,L2.Fun K n q st (at_ K) d∧Binds K d ps []:=by
 obtain⟨_,_,_,_,_,_,_,_,_,l,c⟩:=df_0 e c rfl rfl
 have F:=fun_mk (st:=st) l c k
 exact⟨_,F,F.binds hb⟩
noncomputable def uG{K:PySem.W.Frag}{h:Heap}{mg:Str->Option Value}(X:K.In h)(G:h.Ns mainGlobals mg){n:Str}{st:Stmt}{ps:List Str}(e:fnx K ((dG n st).at_ K)=(dG n st).val)(c:(dG n st).ok K=true)(a:PySem.W.nsIn K mainGlobals n=some (some (.ref (He.ga K n))))
  (k:PySem.W.keepIn K (.ref (He.ga K n))=true)(hb:BdA n n st ps):Pu.UFn K mg n n st ps :=
 ⟨He.ga K n,Classical.choose (ZaK e c k hb),(Vk (ZaK e c k hb)).1,(Vk (ZaK e c k hb)).2,Xz X G a⟩
noncomputable def uM{K:PySem.W.Frag}(C:Str){n q:Str}{st:Stmt}{ps:List Str}(e:fnx K ((dM C n q st).at_ K)=(dM C n q st).val)(c:(dM C n q st).ok K=true)
  (k:PySem.W.keepIn K (.ref (He.ma K (He.ga K C) n))=true)(hb:BdA n q st ps):Pu.UMe K n q st ps :=
 ⟨He.ma K (He.ga K C) n,Classical.choose (ZaK (at_:=fun K=>He.ma K (He.ga K C) n) e c k hb),(Vk (ZaK (at_:=fun K=>He.ma K (He.ga K C) n) e c k hb)).1,(Vk (ZaK (at_:=fun K=>He.ma K (He.ga K C) n) e c k hb)).2⟩
noncomputable def uW{K:PySem.W.Frag}(C:Str){n q:Str}{st:Stmt}{ps:List Str}(e:fnx K ((dW C n q st).at_ K)=(dW C n q st).val)(c:(dW C n q st).ok K=true)
  (k:PySem.W.keepIn K (.ref (He5.wf K (He.ga K C) "classmethod" n))=true)(hb:BdA n q st ps):Pu.UMe K n q st ps :=
 ⟨He5.wf K (He.ga K C) "classmethod" n,Classical.choose (ZaK (at_:=fun K=>He5.wf K (He.ga K C) "classmethod" n) e c k hb),(Vk (ZaK (at_:=fun K=>He5.wf K (He.ga K C) "classmethod" n) e c k hb)).1,(Vk (ZaK (at_:=fun K=>He5.wf K (He.ga K C) "classmethod" n) e c k hb)).2⟩
theorem bF{K:PySem.W.Frag}{d:FuncData}{ps:List Str}(h:∃ds,Vals [] ds∧Binds K d ps ds):Binds K d ps []:=by
 obtain⟨ds,hv,hb⟩:=h
 cases hv
 exact hb
end HX
namespace Pu
open PySem L2 PySem.Spec PyProof.Rows Pw HX
theorem all_H{w:World}{K:PySem.W.Frag}{h:Heap}{mg:Str->Option Value}{fa:Addr}(hlaw:∀(x:D) (ns:List Int),x= .lst (ns.map .int)∨x= .klt ns->ns.length<=63->∃ds,ZkZ [x]= .ok (.bl true) ds)(X:K.In h)(G:h.Ns mainGlobals mg)(hfa:mg "law" =some (.ref fa))(c:HX.SaysX flH fnH K)(tb:∀m∈ZlX,h.get? (HY.tpA K (m K))=some HY.tabY) :
  LawG PySem.Challenge.rw_plateways_k56_washings_and_fences_by_nam w K (L2.CX (PySem.Challenge.rw_plateways_k56_washings_and_fences_by_nam).prog w) 10 63 "_law_script" mg fa h:=by
 obtain⟨_,yk⟩:=HX.intB_ok (c.fact 0 15)
 obtain⟨_,y1h⟩:=HX.intB_ok (c.fact 0 16)
 obtain⟨_,y1i⟩:=HX.strB_ok (c.fact 0 17)
 obtain⟨_,y30⟩:=HX.strB_ok (c.fact 0 18)
 obtain⟨_,y1r⟩:=HX.intB_ok (c.fact 0 19)
 obtain⟨_,_,_,y2s,y2w,y2q⟩:=HX.tupV_ok (c.fact 0 21)
 obtain⟨_,y1t⟩:=HX.intB_ok (c.fact 0 22)
 obtain⟨_,_,_,ys,_,_,_,_,_,_,y19,y12,_,_,_,_,y14⟩:=HX.df_d (c.def1 9) (c.def2 9) rfl rfl
 obtain⟨_,_,yt⟩:=HX.tupE_ok (c.fact 2 5)
 obtain⟨_,_,_,yw,_,_,_,_,_,_,yx,y16,_,_,_,_,y1e⟩:=HX.df_d (c.def1 15) (c.def2 15) rfl rfl
 obtain⟨_,_,yp⟩:=HX.tupE_ok (c.fact 2 21)
 obtain⟨_,_,_,yb,_,_,_,_,_,_,yh,ye,_,_,_,_,yi⟩:=HX.df_d (c.def1 25) (c.def2 25) rfl rfl
 obtain⟨_,_,ya⟩:=HX.tupE_ok (c.fact 3 23)
 obtain⟨_,_,y7⟩:=HX.tupE_ok (c.fact 4 0)
 obtain⟨y29,_,y22⟩:=He5.wrapB_ok (c.fact 4 15)
 obtain⟨_,_,_,_,_,_,_,_,_,y28,y2m⟩:=HX.df_0 (c.def1 32) (c.def2 32) rfl rfl
 obtain⟨y2n,_,y23⟩:=He5.wrapB_ok (c.fact 4 22)
 obtain⟨_,_,_,_,_,_,_,_,_,y2o,y2h⟩:=HX.df_0 (c.def1 35) (c.def2 35) rfl rfl
 obtain⟨y1j,_,y1b⟩:=He5.wrapB_ok (c.fact 5 9)
 obtain⟨_,_,_,_,_,_,_,_,_,y2c,y25⟩:=HX.df_0 (c.def1 41) (c.def2 41) rfl rfl
 obtain⟨_,_,_,_,_,_,_,_,_,y1p,y1q⟩:=HX.df_0 (c.def1 52) (c.def2 52) rfl rfl
 obtain⟨_,_,_,_,_,_,_,_,_,y1v,y1u⟩:=HX.df_0 (c.def1 53) (c.def2 53) rfl rfl
 obtain⟨_,_,_,_,_,_,_,_,_,y2a,y2k⟩:=HX.df_0 (c.def1 54) (c.def2 54) rfl rfl
 obtain⟨_,_,_,_,_,_,_,_,_,y1m,y1k⟩:=HX.df_0 (c.def1 55) (c.def2 55) rfl rfl
 obtain⟨_,_,_,_,_,_,_,_,_,y1x,y1z⟩:=HX.df_0 (c.def1 56) (c.def2 56) rfl rfl
 obtain⟨_,_,_,_,_,_,_,_,_,y1g,yy⟩:=HX.df_0 (c.def1 57) (c.def2 57) rfl rfl
 obtain⟨_,_,_,_,_,_,_,y21,_,y5,y2y⟩:=HX.df_0 (c.def1 61) (c.def2 61) rfl rfl
 obtain rfl:y21= .ref (HY.tcA K (He.ga K "least_of")):=HY.code_tc y5 (c.fact 7 9)
 obtain⟨⟨_,_,_,_,y2f,y2l⟩,kn_least_of,kh_least_of⟩:=HY.tabB_ok (c.fact 7 9)
 obtain⟨_,_,_,_,_,_,_,_,_,y20,y1w⟩:=HX.df_0 (c.def1 62) (c.def2 62) rfl rfl
 obtain⟨_,_,_,_,_,_,_,_,_,y1s,y1y⟩:=HX.df_0 (c.def1 63) (c.def2 63) rfl rfl
 obtain⟨_,_,_,_,_,_,_,_,_,yo,yv⟩:=HX.df_0 (c.def1 64) (c.def2 64) rfl rfl
 obtain⟨_,_,_,_,_,_,_,_,_,y2p,y2t⟩:=HX.df_0 (c.def1 65) (c.def2 65) rfl rfl
 obtain⟨_,_,_,_,_,_,_,_,_,y2b,y2d⟩:=HX.df_0 (c.def1 66) (c.def2 66) rfl rfl
 have yj:((PySem.Challenge.rw_plateways_k56_washings_and_fences_by_nam).prog.main.scope.names.lookup ("super" :Str)).isSome=false:=by decide +kernel
 obtain⟨_,_,_,_,_,_,_,_,_,_,y1n,y11,⟨_,_,_,_,_,y13,y10⟩,_,_,_,xce_InvalidStep⟩:=HX.df_k (c.def1 68) (c.def2 68) rfl rfl (c.fact 8 6)
 obtain⟨_,yn⟩:=Xy.mp (c.fact 8 7)
 obtain⟨_,_,_,_,_,_,_,_,_,_,y1o,y1c,⟨_,_,_,_,_,y17,y1f⟩,_,_,_,xce_InvalidWork⟩:=HX.df_k (c.def1 69) (c.def2 69) rfl rfl (c.fact 8 21)
 obtain⟨_,yq⟩:=Xy.mp (c.fact 8 22)
 obtain⟨_,_,_,_,_,_,_,_,_,_,yl,yg,⟨_,_,_,_,_,yc,yf⟩,_,_,_,xce_InvalidKitchen⟩:=HX.df_k (c.def1 70) (c.def2 70) rfl rfl (c.fact 9 12)
 obtain⟨_,y9⟩:=Xy.mp (c.fact 9 13)
 obtain⟨_,_,_,_,_,_,_,_,_,_,y1l,y1a,⟨_,_,_,_,_,y18,y1d⟩,_,_,_,xce_InvalidText⟩:=HX.df_k (c.def1 71) (c.def2 71) rfl rfl (c.fact 10 3)
 obtain⟨_,yu⟩:=Xy.mp (c.fact 10 4)
 obtain⟨_,_,_,_,_,_,_,_,_,_,y2z,y2u,⟨_,_,_,_,_,y2v,y2x⟩,_,_,_,xce_NoStep⟩:=HX.df_k (c.def1 72) (c.def2 72) rfl rfl (c.fact 10 18)
 obtain⟨_,y2i⟩:=Xy.mp (c.fact 10 19)
 obtain⟨_,_,_,_,_,_,_,_,_,_,y2r,y2j,⟨_,_,_,_,_,y27,y26⟩,_,_,_,xce_NoPlace⟩:=HX.df_k (c.def1 73) (c.def2 73) rfl rfl (c.fact 11 9)
 obtain⟨_,y24⟩:=Xy.mp (c.fact 11 10)
 obtain⟨_,_,_,_,_,_,_,_,_,y31,y32⟩:=HX.df_0 (c.def1 67) (c.def2 67) rfl rfl
 have y2e:LamX.OwnTab K (He.ga K "least_of") h:=HV.own_one (tb (fun K=>(He.ga K "least_of")) (.head _))
 cases hfa.symm.trans (Xz X G (od (c.fact 8 0)))
 have y1:FunD K "__init__" "Step.__init__" (defArgs ZU) (defBody ZU) (defScope ZU) [.ref (HX.dfA (fun K=>(He.ma K (He.ga K "Step") "__init__")) 0 K)] [] (He.ma K (He.ga K "Step") "__init__") _:=⟨⟨_,_,_,_,_,_,_,_,_,_,rfl,y19,y12,.inr ⟨by simp,ys,_,[.ref (HX.dfA (fun K=>(He.ma K (He.ga K "Step") "__init__")) 0 K)],_,rfl,y14,rfl,(.cons rfl .nil)⟩,.inl rfl⟩,(od (c.fact 2 4))⟩
 have y15:=bF (VS (ps:= ["self","name","places","arrows"]) y1 4 1 (by simp) rfl fun _ _ _ _ _ _ _ us its h1 h2=>match us,its,h1,h2 with|[_,_,_,_],[_],_,_=>⟨_,rfl,rfl⟩)
 have ym:=VS (ps:= ["self","name","places","arrows"]) y1 3 0 (by simp) rfl fun _ _ _ _ _ _ _ us its h1 h2=>match us,its,h1,h2 with|[_,_,_],[_],_,_=>⟨_,rfl,rfl⟩
 have y2:FunD K "__init__" "Work.__init__" (defArgs ZV) (defBody ZV) (defScope ZV) [.ref (HX.dfA (fun K=>(He.ma K (He.ga K "Work") "__init__")) 0 K)] [] (He.ma K (He.ga K "Work") "__init__") _:=⟨⟨_,_,_,_,_,_,_,_,_,_,rfl,yx,y16,.inr ⟨by simp,yw,_,[.ref (HX.dfA (fun K=>(He.ma K (He.ga K "Work") "__init__")) 0 K)],_,rfl,y1e,rfl,(.cons rfl .nil)⟩,.inl rfl⟩,(od (c.fact 2 20))⟩
 have yz:=bF (VS (ps:= ["self","steps","ahead"]) y2 3 1 (by simp) rfl fun _ _ _ _ _ _ _ us its h1 h2=>match us,its,h1,h2 with|[_,_,_],[_],_,_=>⟨_,rfl,rfl⟩)
 have yr:=VS (ps:= ["self","steps","ahead"]) y2 2 0 (by simp) rfl fun _ _ _ _ _ _ _ us its h1 h2=>match us,its,h1,h2 with|[_,_],[_],_,_=>⟨_,rfl,rfl⟩
 have y0:FunD K "__init__" "Kitchen.__init__" (defArgs ZK) (defBody ZK) (defScope ZK) [.ref (HX.dfA (fun K=>(He.ma K (He.ga K "Kitchen") "__init__")) 0 K),.ref (HX.dfA (fun K=>(He.ma K (He.ga K "Kitchen") "__init__")) 1 K)] [] (He.ma K (He.ga K "Kitchen") "__init__") _:=⟨⟨_,_,_,_,_,_,_,_,_,_,rfl,yh,ye,.inr ⟨by simp,yb,_,[.ref (HX.dfA (fun K=>(He.ma K (He.ga K "Kitchen") "__init__")) 0 K),.ref (HX.dfA (fun K=>(He.ma K (He.ga K "Kitchen") "__init__")) 1 K)],_,rfl,yi,rfl,(.cons rfl (.cons rfl .nil))⟩,.inl rfl⟩,(od (c.fact 3 22))⟩
 have yd:=bF (VS (ps:= ["self","work","traces","limits"]) y0 4 2 (by simp) rfl fun _ _ _ _ _ _ _ us its h1 h2=>match us,its,h1,h2 with|[_,_,_,_],[_,_],_,_=>⟨_,rfl,rfl⟩)
 have y8:=VS (ps:= ["self","work","traces","limits"]) y0 3 1 (by simp) rfl fun _ _ _ _ _ _ _ us its h1 h2=>match us,its,h1,h2 with|[_,_,_],[_,_],_,_=>⟨_,rfl,rfl⟩
 have y6:=VS (ps:= ["self","work","traces","limits"]) y0 2 0 (by simp) rfl fun _ _ _ _ _ _ _ us its h1 h2=>match us,its,h1,h2 with|[_,_],[_,_],_,_=>⟨_,rfl,rfl⟩
 obtain⟨_,y3⟩:=FunD.kbindsD (ps:= ["self","name","places","arrows"]) y1 1 ["arrows","places","name"] (fun us _ ws=>us++YB [2,1,0] ws) (by simp) (fun h1 _ h3=>h1.append (Zar h3 _)) (fun _ _ _ _ _ _ _ us its ws h1 h2 h3=>match us,its,ws,h1,h2,h3 with|[_],[_],[_,_,_],_,_,_=>⟨_,rfl,rfl⟩)
 obtain⟨_,y4⟩:=FunD.kbindsD (ps:= ["self","steps","ahead"]) y2 1 ["ahead","steps"] (fun us _ ws=>us++YB [1,0] ws) (by simp) (fun h1 _ h3=>h1.append (Zar h3 _)) (fun _ _ _ _ _ _ _ us its ws h1 h2 h3=>match us,its,ws,h1,h2,h3 with|[_],[_],[_,_],_,_,_=>⟨_,rfl,rfl⟩)
 let T:Txt (PySem.Challenge.rw_plateways_k56_washings_and_fences_by_nam).prog w K mg:= {
  bl:=(fm (XF X G (od (c.fact 0 0))) (fm (XF X G (od (c.fact 0 1))) (fm (XF X G (od (c.fact 0 2))) (fm (XF X G (od (c.fact 0 3))) (fm (XF X G (od (c.fact 0 4))) (fm (XF X G (od (c.fact 0 5))) (fm (XF X G (od (c.fact 0 6))) (fm (XF X G (od (c.fact 0 7))) (fm (XF X G (od (c.fact 0 8))) (fm (XF X G (od (c.fact 0 9))) (fm (XF X G (od (c.fact 0 10))) (fm (XF X G (od (c.fact 0 11))) (fm (XF X G (od (c.fact 0 12))) (fm (XF X G (od (c.fact 0 13))) (fm (XF X G (od (c.fact 0 14))) fz)))))))))))))))
  qa:=_
  qb:=Xz X G yk
  qc:=_
  qd:=Xz X G y1h
  qe:=_
  qf:=Xz X G y1i
  qg:=_
  qh:=Xz X G y30
  qi:=_
  qj:=Xz X G y1r
  qk:=(He.ga K "RESERVED")
  ql:=Xz X G (od (c.fact 0 20))
  qm:=⟨_,_,_,y2s,rfl,rfl,y2q,y2w,rfl⟩
  qp:=_
  qr:=Xz X G y1t
  qs:=uG X G (c.def1 0) (c.def2 0) (od (c.fact 1 8)) (od (c.fact 1 9)) fun|_,_,_,_,_,_,[_,_],_=>rfl
  qt:=uG X G (c.def1 1) (c.def2 1) (od (c.fact 1 10)) (od (c.fact 1 11)) fun|_,_,_,_,_,_,[_],_=>rfl
  qu:=uG X G (c.def1 2) (c.def2 2) (od (c.fact 1 12)) (od (c.fact 1 13)) fun|_,_,_,_,_,_,[_],_=>rfl
  qv:=uG X G (c.def1 3) (c.def2 3) (od (c.fact 1 14)) (od (c.fact 1 15)) fun|_,_,_,_,_,_,[_],_=>rfl
  qw:=uG X G (c.def1 4) (c.def2 4) (od (c.fact 1 16)) (od (c.fact 1 17)) fun|_,_,_,_,_,_,[_],_=>rfl
  qx:=uG X G (c.def1 5) (c.def2 5) (od (c.fact 1 18)) (od (c.fact 1 19)) fun|_,_,_,_,_,_,[_],_=>rfl
  qy:=uG X G (c.def1 6) (c.def2 6) (od (c.fact 1 20)) (od (c.fact 1 21)) fun|_,_,_,_,_,_,[_,_],_=>rfl
  q1a:=uG X G (c.def1 7) (c.def2 7) (od (c.fact 1 22)) (od (c.fact 1 23)) fun|_,_,_,_,_,_,[_,_],_=>rfl
  q1b:=uG X G (c.def1 8) (c.def2 8) (od (c.fact 2 0)) (od (c.fact 2 1)) fun|_,_,_,_,_,_,[_],_=>rfl
  q1c:=(He.ma K (He.ga K "Step") "__init__")
  q1d:=_
  q1g:=y1
  n_Step___init__:=y15
  q1h:=ym
  q1e:=(HX.dfA (fun K=>(He.ma K (He.ga K "Step") "__init__")) 0 K)
  q1f:=⟨_,_,_,yt,rfl,rfl,Vu _,.nil,rfl⟩
  q1i:=uM "Step" (c.def1 10) (c.def2 10) (od (c.fact 2 8)) fun|_,_,_,_,_,_,[_],_=>rfl
  q1j:=uM "Step" (c.def1 11) (c.def2 11) (od (c.fact 2 11)) fun|_,_,_,_,_,_,[_,_],_=>rfl
  q1k:=uG X G (c.def1 12) (c.def2 12) (od (c.fact 2 12)) (od (c.fact 2 13)) fun|_,_,_,_,_,_,[_],_=>rfl
  q1l:=uG X G (c.def1 13) (c.def2 13) (od (c.fact 2 14)) (od (c.fact 2 15)) fun|_,_,_,_,_,_,[_],_=>rfl
  q1m:=uG X G (c.def1 14) (c.def2 14) (od (c.fact 2 16)) (od (c.fact 2 17)) fun|_,_,_,_,_,_,[_,_],_=>rfl
  q1n:=(He.ma K (He.ga K "Work") "__init__")
  q1o:=_
  q1r:=y2
  n_Work___init__:=yz
  q1s:=yr
  q1p:=(HX.dfA (fun K=>(He.ma K (He.ga K "Work") "__init__")) 0 K)
  q1q:=⟨_,_,_,yp,rfl,rfl,Vu _,.nil,rfl⟩
  q1t:=uM "Work" (c.def1 16) (c.def2 16) (od (c.fact 3 0)) fun|_,_,_,_,_,_,[_],_=>rfl
  q1u:=uM "Work" (c.def1 17) (c.def2 17) (od (c.fact 3 3)) fun|_,_,_,_,_,_,[_],_=>rfl
  q1v:=uM "Work" (c.def1 18) (c.def2 18) (od (c.fact 3 6)) fun|_,_,_,_,_,_,[_,_],_=>rfl
  q1w:=uG X G (c.def1 19) (c.def2 19) (od (c.fact 3 7)) (od (c.fact 3 8)) fun|_,_,_,_,_,_,[_],_=>rfl
  q1x:=uG X G (c.def1 20) (c.def2 20) (od (c.fact 3 9)) (od (c.fact 3 10)) fun|_,_,_,_,_,_,[_],_=>rfl
  q1y:=uG X G (c.def1 21) (c.def2 21) (od (c.fact 3 11)) (od (c.fact 3 12)) fun|_,_,_,_,_,_,[_],_=>rfl
  q1z:=uM "Step" (c.def1 22) (c.def2 22) (od (c.fact 3 15)) fun|_,_,_,_,_,_,[_,_],_=>rfl
  q2a:=uG X G (c.def1 23) (c.def2 23) (od (c.fact 3 16)) (od (c.fact 3 17)) fun|_,_,_,_,_,_,[_,_],_=>rfl
  q2b:=uG X G (c.def1 24) (c.def2 24) (od (c.fact 3 18)) (od (c.fact 3 19)) fun|_,_,_,_,_,_,[_,_],_=>rfl
  q2c:=(He.ma K (He.ga K "Kitchen") "__init__")
  q2d:=_
  q2i:=y0
  n_Kitchen___init__:=yd
  q2j:=y8
  q2k:=y6
  q2e:=(HX.dfA (fun K=>(He.ma K (He.ga K "Kitchen") "__init__")) 0 K)
  q2f:=⟨_,_,_,ya,rfl,rfl,Vu _,.nil,rfl⟩
  q2g:=(HX.dfA (fun K=>(He.ma K (He.ga K "Kitchen") "__init__")) 1 K)
  q2h:=⟨_,_,_,y7,rfl,rfl,Vu _,.nil,rfl⟩
  q2l:=uG X G (c.def1 26) (c.def2 26) (od (c.fact 4 1)) (od (c.fact 4 2)) fun|_,_,_,_,_,_,[_,_],_=>rfl
  q2m:=uM "Kitchen" (c.def1 27) (c.def2 27) (od (c.fact 4 5)) fun|_,_,_,_,_,_,[_],_=>rfl
  q2n:=uM "Kitchen" (c.def1 28) (c.def2 28) (od (c.fact 4 8)) fun|_,_,_,_,_,_,[_,_],_=>rfl
  q2o:=uG X G (c.def1 29) (c.def2 29) (od (c.fact 4 9)) (od (c.fact 4 10)) fun|_,_,_,_,_,_,[_,_],_=>rfl
  q2p:=uG X G (c.def1 30) (c.def2 30) (od (c.fact 4 11)) (od (c.fact 4 12)) fun|_,_,_,_,_,_,[_],_=>rfl
  q2q:=uG X G (c.def1 31) (c.def2 31) (od (c.fact 4 13)) (od (c.fact 4 14)) fun|_,_,_,_,_,_,[_],_=>rfl
  q2r:=(let F:=fun_mk (st:=QC) y28 y2m (od (c.fact 4 17)); ⟨(He5.wf K (He.ga K "Step") "classmethod" "read"),_,F,F.binds (ps:= ["cls","text"]) fun _ _ _ _ _ _ us hl=>match us,hl with|[_,_],_=>rfl⟩)
  q2s:=uG X G (c.def1 33) (c.def2 33) (od (c.fact 4 18)) (od (c.fact 4 19)) fun|_,_,_,_,_,_,[_],_=>rfl
  q2t:=uG X G (c.def1 34) (c.def2 34) (od (c.fact 4 20)) (od (c.fact 4 21)) fun|_,_,_,_,_,_,[_,_],_=>rfl
  q2u:=(let F:=fun_mk (st:=QD) y2o y2h (od (c.fact 5 0)); ⟨(He5.wf K (He.ga K "Work") "classmethod" "read"),_,F,F.binds (ps:= ["cls","text"]) fun _ _ _ _ _ _ us hl=>match us,hl with|[_,_],_=>rfl⟩)
  q2v:=uG X G (c.def1 36) (c.def2 36) (od (c.fact 5 1)) (od (c.fact 5 2)) fun|_,_,_,_,_,_,[_],_=>rfl
  q2w:=uG X G (c.def1 37) (c.def2 37) (od (c.fact 5 3)) (od (c.fact 5 4)) fun|_,_,_,_,_,_,[_],_=>rfl
  q2x:=uG X G (c.def1 38) (c.def2 38) (od (c.fact 5 5)) (od (c.fact 5 6)) fun|_,_,_,_,_,_,[_],_=>rfl
  q2y:=uG X G (c.def1 39) (c.def2 39) (od (c.fact 5 7)) (od (c.fact 5 8)) fun|_,_,_,_,_,_,[_,_],_=>rfl
  q2z:=uW "Kitchen" (c.def1 40) (c.def2 40) (od (c.fact 5 11)) fun|_,_,_,_,_,_,[_,_],_=>rfl
  q37:=(let F:=fun_mk (st:=QE) y2c y25 (od (c.fact 5 14)); ⟨(He.ma K (He.ga K "Work") "step"),_,F,F.binds (ps:= ["self","name"]) fun _ _ _ _ _ _ us hl=>match us,hl with|[_,_],_=>rfl⟩)
  q38:=uG X G (c.def1 42) (c.def2 42) (od (c.fact 5 15)) (od (c.fact 5 16)) fun|_,_,_,_,_,_,[_,_],_=>rfl
  q39:=uG X G (c.def1 43) (c.def2 43) (od (c.fact 5 17)) (od (c.fact 5 18)) fun|_,_,_,_,_,_,[_,_],_=>rfl
  q3a:=uG X G (c.def1 44) (c.def2 44) (od (c.fact 5 19)) (od (c.fact 5 20)) fun|_,_,_,_,_,_,[_,_,_],_=>rfl
  q3b:=uG X G (c.def1 45) (c.def2 45) (od (c.fact 5 21)) (od (c.fact 5 22)) fun|_,_,_,_,_,_,[_,_],_=>rfl
  u_led:=uG X G (c.def1 46) (c.def2 46) (od (c.fact 5 23)) (od (c.fact 6 0)) fun|_,_,_,_,_,_,[_,_],_=>rfl
  q3c:=uG X G (c.def1 47) (c.def2 47) (od (c.fact 6 1)) (od (c.fact 6 2)) fun|_,_,_,_,_,_,[_,_],_=>rfl
  q3d:=uG X G (c.def1 48) (c.def2 48) (od (c.fact 6 3)) (od (c.fact 6 4)) fun|_,_,_,_,_,_,[_,_,_,_],_=>rfl
  q3e:=uG X G (c.def1 49) (c.def2 49) (od (c.fact 6 5)) (od (c.fact 6 6)) fun|_,_,_,_,_,_,[_,_],_=>rfl
  q3f:=uG X G (c.def1 50) (c.def2 50) (od (c.fact 6 7)) (od (c.fact 6 8)) fun|_,_,_,_,_,_,[_],_=>rfl
  q3g:=uM "Kitchen" (c.def1 51) (c.def2 51) (od (c.fact 6 11)) fun|_,_,_,_,_,_,[_,_],_=>rfl
  q3h:=(let F:=fun_mk (st:=Y7) y1p y1q (od (c.fact 6 13)); ⟨(He.ga K "is_beginning"),_,F,F.binds (ps:= ["work","value"]) fun _ _ _ _ _ _ us hl=>match us,hl with|[_,_],_=>rfl,Xz X G (od (c.fact 6 12))⟩)
  q3i:=(let F:=fun_mk (st:=Qd) y1v y1u (od (c.fact 6 16)); ⟨(He.ma K (He.ga K "Work") "fenced"),_,F,F.binds (ps:= ["self","pairs"]) fun _ _ _ _ _ _ us hl=>match us,hl with|[_,_],_=>rfl⟩)
  q3j:=(let F:=fun_mk (st:=QF) y2a y2k (od (c.fact 6 18)); ⟨(He.ga K "is_fenced"),_,F,F.binds (ps:= ["kitchen","pairs"]) fun _ _ _ _ _ _ us hl=>match us,hl with|[_,_],_=>rfl,Xz X G (od (c.fact 6 17))⟩)
  q3k:=(let F:=fun_mk (st:=Yv) y1m y1k (od (c.fact 6 20)); ⟨(He.ga K "least_fences"),_,F,F.binds (ps:= ["kitchen"]) fun _ _ _ _ _ _ us hl=>match us,hl with|[_],_=>rfl,Xz X G (od (c.fact 6 19))⟩)
  q3l:=(let F:=fun_mk (st:=YW) y1x y1z (od (c.fact 6 22)); ⟨(He.ga K "many_orders"),_,F,F.binds (ps:= ["work"]) fun _ _ _ _ _ _ us hl=>match us,hl with|[_],_=>rfl,Xz X G (od (c.fact 6 21))⟩)
  q3m:=(let F:=fun_mk (st:=YT) y1g yy (od (c.fact 7 1)); ⟨(He.ma K (He.ga K "Work") "is_ahead"),_,F,F.binds (ps:= ["self","one","other"]) fun _ _ _ _ _ _ us hl=>match us,hl with|[_,_,_],_=>rfl⟩)
  q3n:=uG X G (c.def1 58) (c.def2 58) (od (c.fact 7 2)) (od (c.fact 7 3)) fun|_,_,_,_,_,_,[_],_=>rfl
  q3o:=uG X G (c.def1 59) (c.def2 59) (od (c.fact 7 4)) (od (c.fact 7 5)) fun|_,_,_,_,_,_,[_,_,_],_=>rfl
  q3p:=uG X G (c.def1 60) (c.def2 60) (od (c.fact 7 6)) (od (c.fact 7 7)) fun|_,_,_,_,_,_,[_,_],_=>rfl
  q55:=(HY.tcA K (He.ga K "least_of"))
  q56:=(HY.tpA K (He.ga K "least_of"))
  q57:=rfl
  q3q:=(let F:=fun_mk (st:=Q7) y5 y2y (od (c.fact 7 10)); ⟨(He.ga K "least_of"),_,F,F.binds (ps:= ["lots"]) fun _ _ _ _ _ _ us hl=>match us,hl with|[_],_=>rfl,Xz X G (od (c.fact 7 8))⟩)
  q3r:=(let F:=fun_mk (st:=Qe) y20 y1w (od (c.fact 7 13)); ⟨(He.ma K (He.ga K "Step") "washed"),_,F,F.binds (ps:= ["self","place"]) fun _ _ _ _ _ _ us hl=>match us,hl with|[_,_],_=>rfl⟩)
  q3s:=(let F:=fun_mk (st:=YX) y1s y1y (od (c.fact 7 16)); ⟨(He.ma K (He.ga K "Work") "washed"),_,F,F.binds (ps:= ["self","pairs"]) fun _ _ _ _ _ _ us hl=>match us,hl with|[_,_],_=>rfl⟩)
  q3t:=(let F:=fun_mk (st:=YN) yo yv (od (c.fact 7 18)); ⟨(He.ga K "least_washings"),_,F,F.binds (ps:= ["kitchen","places"]) fun _ _ _ _ _ _ us hl=>match us,hl with|[_,_],_=>rfl,Xz X G (od (c.fact 7 17))⟩)
  q3u:=(let F:=fun_mk (st:=Q8) y2p y2t (od (c.fact 7 20)); ⟨(He.ga K "is_order"),_,F,F.binds (ps:= ["work","value"]) fun _ _ _ _ _ _ us hl=>match us,hl with|[_,_],_=>rfl,Xz X G (od (c.fact 7 19))⟩)
  q3v:=(let F:=fun_mk (st:=QG) y2b y2d (od (c.fact 7 23)); ⟨(He.ma K (He.ga K "Step") "loss"),_,F,F.binds (ps:= ["self","start","end"]) fun _ _ _ _ _ _ us hl=>match us,hl with|[_,_,_],_=>rfl⟩)
  u_law:=(let F:=fun_mk (st:=Zgz) y31 y32 (od (c.fact 8 1)); ⟨_,_,F,F.binds (ps:= ["_law_script"]) fun _ _ _ _ _ _ us hl=>match us,hl with|[_],_=>rfl,Xz X G (od (c.fact 8 0))⟩)
  q3w:=⟨fun s us ws hx h1 h2=>y3.to s us ws hx h1 h2⟩
  q3x:=⟨fun s us ws hx h1 h2=>match us,ws,h1,h2 with|[],[_,_],_,_=> .of_eq rfl⟩
  q3y:=⟨fun s us ws hx h1 h2=>match us,ws,h1,h2 with|[],[_,_],_,_=> .of_eq rfl⟩
  q3z:=⟨fun s us ws hx h1 h2=>match us,ws,h1,h2 with|[],[_,_],_,_=> .of_eq rfl⟩
  q40:=⟨fun s us ws hx h1 h2=>match us,ws,h1,h2 with|[],[_],_,_=> .of_eq rfl⟩
  q41:=⟨fun s us ws hx h1 h2=>match us,ws,h1,h2 with|[_],[_],_,_=> .of_eq rfl⟩
  q42:=⟨fun s us ws hx h1 h2=>match us,ws,h1,h2 with|[],[_,_],_,_=> .of_eq rfl⟩
  q43:=⟨fun s us ws hx h1 h2=>match us,ws,h1,h2 with|[_],[_,_],_,_=> .of_eq rfl⟩
  q44:=⟨fun s us ws hx h1 h2=>match us,ws,h1,h2 with|[_],[_],_,_=> .of_eq rfl⟩
  q45:=⟨fun s us ws hx h1 h2=>y4.to s us ws hx h1 h2⟩
  q46:=⟨fun s us ws hx h1 h2=>match us,ws,h1,h2 with|[],[_],_,_=> .of_eq rfl⟩
  q47:=⟨fun s us ws hx h1 h2=>match us,ws,h1,h2 with|[],[_,_],_,_=> .of_eq rfl⟩
  q48:=⟨fun s us ws hx h1 h2=>match us,ws,h1,h2 with|[_],[_],_,_=> .of_eq rfl⟩
  q49:=⟨fun s us ws hx h1 h2=>match us,ws,h1,h2 with|[_],[_,_],_,_=> .of_eq rfl⟩
  q4a:=⟨fun s us ws hx h1 h2=>match us,ws,h1,h2 with|[_],[_],_,_=> .of_eq rfl⟩
  q4b:=⟨fun s us ws hx h1 h2=>match us,ws,h1,h2 with|[_],[_],_,_=> .of_eq rfl⟩
  q4c:=⟨fun s us ws hx h1 h2=>match us,ws,h1,h2 with|[_],[_],_,_=> .of_eq rfl⟩
  q4m:=(He.ma K (He.ga K "InvalidStep") "__init__")
  q4n:=ZaP ZfK y1n y11 y13 y10 (X7 _) xce_InvalidStep (od (c.fact 8 2)) (od (c.fact 8 3)) yj yn (od (c.fact 8 8)) (od (c.fact 8 9)) (od (c.fact 8 10)) (od (c.fact 8 11)) (od (c.fact 8 12)) (od (c.fact 8 4)) (od (c.fact 8 5)) (od (c.fact 8 13)) (od (c.fact 8 14)) (od (c.fact 8 15)) (od (c.fact 8 16)) (od (c.fact 8 17)) (od (c.fact 8 18))
  q4o:=(He.ma K (He.ga K "InvalidWork") "__init__")
  q4p:=ZaP ZfL y1o y1c y17 y1f (X7 _) xce_InvalidWork (od (c.fact 8 2)) (od (c.fact 8 3)) yj yq (od (c.fact 8 23)) (od (c.fact 9 0)) (od (c.fact 9 1)) (od (c.fact 9 2)) (od (c.fact 9 3)) (od (c.fact 8 19)) (od (c.fact 8 20)) (od (c.fact 9 4)) (od (c.fact 9 5)) (od (c.fact 9 6)) (od (c.fact 9 7)) (od (c.fact 9 8)) (od (c.fact 9 9))
  q4q:=(He.ma K (He.ga K "InvalidKitchen") "__init__")
  q4r:=ZaP ZdP yl yg yc yf (X7 _) xce_InvalidKitchen (od (c.fact 8 2)) (od (c.fact 8 3)) yj y9 (od (c.fact 9 14)) (od (c.fact 9 15)) (od (c.fact 9 16)) (od (c.fact 9 17)) (od (c.fact 9 18)) (od (c.fact 9 10)) (od (c.fact 9 11)) (od (c.fact 9 19)) (od (c.fact 9 20)) (od (c.fact 9 21)) (od (c.fact 9 22)) (od (c.fact 9 23)) (od (c.fact 10 0))
  q4s:=(He.ma K (He.ga K "InvalidText") "__init__")
  q4t:=ZaP ZfM y1l y1a y18 y1d (X7 _) xce_InvalidText (od (c.fact 8 2)) (od (c.fact 8 3)) yj yu (od (c.fact 10 5)) (od (c.fact 10 6)) (od (c.fact 10 7)) (od (c.fact 10 8)) (od (c.fact 10 9)) (od (c.fact 10 1)) (od (c.fact 10 2)) (od (c.fact 10 10)) (od (c.fact 10 11)) (od (c.fact 10 12)) (od (c.fact 10 13)) (od (c.fact 10 14)) (od (c.fact 10 15))
  q4u:=(He.ma K (He.ga K "NoStep") "__init__")
  q4v:=ZaP ZlM y2z y2u y2v y2x (X7 _) xce_NoStep (od (c.fact 8 2)) (od (c.fact 8 3)) yj y2i (od (c.fact 10 20)) (od (c.fact 10 21)) (od (c.fact 10 22)) (od (c.fact 10 23)) (od (c.fact 11 0)) (od (c.fact 10 16)) (od (c.fact 10 17)) (od (c.fact 11 1)) (od (c.fact 11 2)) (od (c.fact 11 3)) (od (c.fact 11 4)) (od (c.fact 11 5)) (od (c.fact 11 6))
  q4w:=(He.ma K (He.ga K "NoPlace") "__init__")
  q4x:=ZaP ZkJ y2r y2j y27 y26 (X7 _) xce_NoPlace (od (c.fact 8 2)) (od (c.fact 8 3)) yj y24 (od (c.fact 11 11)) (od (c.fact 11 12)) (od (c.fact 11 13)) (od (c.fact 11 14)) (od (c.fact 11 15)) (od (c.fact 11 7)) (od (c.fact 11 8)) (od (c.fact 11 16)) (od (c.fact 11 17)) (od (c.fact 11 18)) (od (c.fact 11 19)) (od (c.fact 11 20)) (od (c.fact 11 21))
  q4y:=⟨(od (c.fact 11 22)),(od (c.fact 11 23)),(od (c.fact 12 0))⟩
  q4z:=(od (c.fact 12 1))
  q50:=(od (c.fact 12 2))
  q51:=(od (c.fact 12 3))
  q52:=(od (c.fact 12 4))
  q53:=(od (c.fact 12 5))
  q54:=(od (c.fact 12 6))
  tnd:=(od (c.fact 12 7))
  q4d:=⟨(He.ga K "InvalidKitchen"),Xz X G (od (c.fact 0 23))⟩
  q4e:=⟨(He.ga K "InvalidStep"),Xz X G (od (c.fact 1 0))⟩
  q4f:=⟨(He.ga K "InvalidText"),Xz X G (od (c.fact 1 1))⟩
  q4g:=⟨(He.ga K "InvalidWork"),Xz X G (od (c.fact 1 2))⟩
  q4h:=⟨(He.ga K "Kitchen"),Xz X G (od (c.fact 1 3)),⟨(od (c.fact 12 8)),(od (c.fact 12 9)),(od (c.fact 12 10)),(od (c.fact 12 11))⟩,Zg5 ⟨(od (c.fact 12 8)),(od (c.fact 12 9)),(od (c.fact 12 10)),(od (c.fact 12 11))⟩ (od (c.fact 12 14)) (od (c.fact 12 15)) (od (c.fact 12 16)) (od (c.fact 12 17)) (od (c.fact 12 18)) (od (c.fact 12 19)) (od (c.fact 12 20)) (od (c.fact 12 21)) (od (c.fact 12 22)) (od (c.fact 12 23)) (od (c.fact 13 0)),(od (c.fact 13 1))⟩
  q58:=⟨(od (c.fact 12 12)),(od (c.fact 3 20)),(od (c.fact 3 21)),(od (c.fact 12 13))⟩
  q59:=⟨(od (c.fact 4 3)),(od (c.fact 4 4)),(od (c.fact 4 5))⟩
  q5a:=⟨(od (c.fact 4 6)),(od (c.fact 4 7)),(od (c.fact 4 8))⟩
  q5b:=⟨(od (c.fact 6 9)),(od (c.fact 6 10)),(od (c.fact 6 11))⟩
  q5c:= .type "type"
  q5d:=⟨(od (c.fact 13 2)),(od (c.fact 13 3))⟩
  q5e:=(He.ma K (He.ga K "Kitchen") "read")
  q5f:=⟨y1j,⟨_,y1b⟩,(od (c.fact 5 10))⟩
  q5g:=(fm ((od (c.fact 13 4))) (fm ((od (c.fact 13 5))) (fm ((od (c.fact 13 6))) (fm ((od (c.fact 13 7))) fz))))
  q5h:=(fm ((od (c.fact 13 8))) (fm ((od (c.fact 13 9))) fz))
  q4i:=⟨(He.ga K "NoPlace"),Xz X G (od (c.fact 1 4))⟩
  q4j:=⟨(He.ga K "NoStep"),Xz X G (od (c.fact 1 5))⟩
  q4k:=⟨(He.ga K "Step"),Xz X G (od (c.fact 1 6)),⟨(od (c.fact 13 10)),(od (c.fact 13 11)),(od (c.fact 13 12)),(od (c.fact 13 13))⟩,Zg5 ⟨(od (c.fact 13 10)),(od (c.fact 13 11)),(od (c.fact 13 12)),(od (c.fact 13 13))⟩ (od (c.fact 13 16)) (od (c.fact 13 17)) (od (c.fact 13 18)) (od (c.fact 13 19)) (od (c.fact 13 20)) (od (c.fact 13 21)) (od (c.fact 13 22)) (od (c.fact 13 23)) (od (c.fact 14 0)) (od (c.fact 14 1)) (od (c.fact 14 2)),(od (c.fact 14 3))⟩
  q5i:=⟨(od (c.fact 13 14)),(od (c.fact 2 2)),(od (c.fact 2 3)),(od (c.fact 13 15))⟩
  q5j:=⟨(od (c.fact 2 6)),(od (c.fact 2 7)),(od (c.fact 2 8))⟩
  q5k:=⟨(od (c.fact 2 9)),(od (c.fact 2 10)),(od (c.fact 2 11))⟩
  q5l:=⟨(od (c.fact 3 13)),(od (c.fact 3 14)),(od (c.fact 3 15))⟩
  q5m:=⟨(od (c.fact 7 11)),(od (c.fact 7 12)),(od (c.fact 7 13))⟩
  q5n:=⟨(od (c.fact 7 21)),(od (c.fact 7 22)),(od (c.fact 7 23))⟩
  q5o:= .type "type"
  q5p:=⟨(od (c.fact 14 4)),(od (c.fact 14 5))⟩
  q5q:=(He.ma K (He.ga K "Step") "read")
  q5r:=⟨y29,⟨_,y22⟩,(od (c.fact 4 16))⟩
  q5s:=(fm ((od (c.fact 14 6))) (fm ((od (c.fact 14 7))) (fm ((od (c.fact 14 8))) (fm ((od (c.fact 14 9))) (fm ((od (c.fact 14 10))) fz)))))
  q5t:=(fm ((od (c.fact 14 11))) (fm ((od (c.fact 14 12))) fz))
  q4l:=⟨(He.ga K "Work"),Xz X G (od (c.fact 1 7)),⟨(od (c.fact 14 13)),(od (c.fact 14 14)),(od (c.fact 14 15)),(od (c.fact 14 16))⟩,Zg5 ⟨(od (c.fact 14 13)),(od (c.fact 14 14)),(od (c.fact 14 15)),(od (c.fact 14 16))⟩ (od (c.fact 14 19)) (od (c.fact 14 20)) (od (c.fact 14 21)) (od (c.fact 14 22)) (od (c.fact 14 23)) (od (c.fact 15 0)) (od (c.fact 15 1)) (od (c.fact 15 2)) (od (c.fact 15 3)) (od (c.fact 15 4)) (od (c.fact 15 5)),(od (c.fact 15 6))⟩
  q5u:=⟨(od (c.fact 14 17)),(od (c.fact 2 18)),(od (c.fact 2 19)),(od (c.fact 14 18))⟩
  q5v:=⟨(od (c.fact 2 22)),(od (c.fact 2 23)),(od (c.fact 3 0))⟩
  q5w:=⟨(od (c.fact 3 1)),(od (c.fact 3 2)),(od (c.fact 3 3))⟩
  q5x:=⟨(od (c.fact 3 4)),(od (c.fact 3 5)),(od (c.fact 3 6))⟩
  q5y:=⟨(od (c.fact 5 12)),(od (c.fact 5 13)),(od (c.fact 5 14))⟩
  q5z:=⟨(od (c.fact 6 14)),(od (c.fact 6 15)),(od (c.fact 6 16))⟩
  q60:=⟨(od (c.fact 6 23)),(od (c.fact 7 0)),(od (c.fact 7 1))⟩
  q61:=⟨(od (c.fact 7 14)),(od (c.fact 7 15)),(od (c.fact 7 16))⟩
  q62:= .type "type"
  q63:=⟨(od (c.fact 15 7)),(od (c.fact 15 8))⟩
  q64:=(He.ma K (He.ga K "Work") "read")
  q65:=⟨y2n,⟨_,y23⟩,(od (c.fact 4 23))⟩
  q66:=(fm ((od (c.fact 15 9))) (fm ((od (c.fact 15 10))) (fm ((od (c.fact 15 11))) (fm ((od (c.fact 15 12))) (fm ((od (c.fact 15 13))) (fm ((od (c.fact 15 14))) fz))))))
  q67:=(fm ((od (c.fact 15 15))) (fm ((od (c.fact 15 16))) fz)) }
 have y2g:h.get? (HY.tpA K (He.ga K "least_of"))=some Znc:=y2e _ _ _ _ _ _ _ _ y5 rfl rfl y2f y2l
 refine⟨_,([((HY.tcA K (He.ga K "least_of")),(HY.tpA K (He.ga K "least_of")))]:List (Addr × Addr)),Pu.spLawT K (gxF T).tb,(fm (y2g) fz),(fm (kn_least_of) fz),(fm ((PySem.W.codeHd_of_K X kh_least_of)) fz),fun s v=> .of_eq rfl,fun H a ns hn hT hS=>⟨a,ns,rfl,hS,hn, ?_,fun _=>rfl⟩,fun base _ _ hB=>(Zpr T hB).imp fun _ _ _ _ q=>Zof (show ((gxF T).tb.map (·.1)).Nodup from (od (c.fact 12 7))) hlaw q⟩
 exact(fm ((hT ((HY.tcA K (He.ga K "least_of")),(HY.tpA K (He.ga K "least_of"))) (.head _))) fz)
end Pu
open PySem PySem.W PyProof.Rows
set_option maxRecDepth 100000 in
set_option maxHeartbeats 0 in
theorem PySem.Challenge.cw_plateways_k56_washings_and_fences_by_nam_holds : PySem.Challenge.rw_plateways_k56_washings_and_fences_by_nam.Holds := by
 w_on; o_law
 refine HandSHeadRun.head_any (r:=OpenLaw.row PySem.Challenge.rw_plateways_k56_washings_and_fences_by_nam) (q:=view (PySem.W.OpenLaw.row PySem.Challenge.rw_plateways_k56_washings_and_fences_by_nam).prog [73]) (H:=Pu.hkH) (ob:=Pu.obH) (M:=12000) (loose:=Pu.nmH) (d:=HandSHeadRun.topDef (PySem.W.OpenLaw.row PySem.Challenge.rw_plateways_k56_washings_and_fences_by_nam).prog 73) (kwd:= []) Pu.obH_eq (by kernel_rfl) (fun s=>by kernel_rfl) Pu.runH (by kernel_rfl) (by kernel_rfl) (by kernel_rfl) (by rfl) (by first | assumption | decide +kernel) (by decide +kernel) ⟨rfl,rfl,rfl,rfl,rfl,by decide +kernel⟩ ?hw ?hc
 case hw=>w_witness2
 case hc =>
  refine HZ.walk_ofXT (l:=PySem.Challenge.rw_plateways_k56_washings_and_fences_by_nam) (n:=63) (k:=10) (x:="_law_script") (CX:=fun w=>L2.CX PySem.Challenge.rw_plateways_k56_washings_and_fences_by_nam.prog w) rfl (by decide) (by kernel_rfl) ⟨⟨rfl,by decide,by decide⟩,rfl⟩ ?F Pu.noCX
  intro w mg fa h Y G hmg0
  obtain ⟨K,KX,c,tb⟩:=Y
  have hmg:mg ("law" :PySem.Str)=some (.ref fa):=by
   have e:(HandSHeadRun.topDef (PySem.W.OpenLaw.row PySem.Challenge.rw_plateways_k56_washings_and_fences_by_nam).prog 73).name=("law" :PySem.Str):=by kernel_rfl
   rw [← e]
   exact hmg0
  exact ⟨K,KX,Pu.all_H (w:=w) Pu.law_true KX G hmg c tb⟩
