import PyProof.Rows.All
import Wide.All
import OpenK.AllK
import Wide.FinOn
import HandS.ForMost
import HandS.ForExc
import HandS.Walk
import HandS.TupAny
import HandS.Wide
import HandS.SetKeys
import KE.KDictKeyed
import HandS.Deep
import HandS.TupLe
import HandS.Style
import HandS.IsInst
import HandS.ReCall
import HandS.More
import HandS.Zip
import HandS.ExcInit
import HandS.ExcField
import HandS.TryMany
import HandS.Defaults
import HandS.WordsExc
import HandS.Comp
import HandS.DictComp
import KE.GoesEnumKw
import HandS.Head0
import HandS.Head1
import HandS.Head2
import HandS.HeadEnd
import HandS.HeadHook1
import HandS.HeadHook2
import KE.KSuper
import HandS.ReplaceDef
import HandS.List
import HandS.Strs
import HandS.Conv
import HandS.Iter
import HandS.TryOnly
import HandS.HeadHook3
import HandS.OwnEq
import PyProof.InstNe
import HandS.WideBits
import HandS.NoneIn
import PyProof.SeqRoads2
import HandS.SetFor
import HandS.MakeKwOnly
import HandS.CallSlots
import HandS.NamedTupGet
import HandS.Property
import HandS.HeadNt
import KE.KOpsOwn
import HandS.Small
import HandS.ExcIs
import PyProof.ExcBaseAll.ValueError
import KE.KListMore
import PyProof.Rows.SeqRoads
import HandS.Replace
import PyProof.Rows.SortStr
import PySem.Challenge.RW_toldonward_k09_deeds
import KE.KStateDown
import Lean
set_option Elab.async false
set_option linter.all false
set_option maxRecDepth 100000
set_option maxHeartbeats 4000000
namespace DL
open PySem L2
inductive D where
 | non | bl (b:Bool) | int (i:Int) | str (x:Str) | tp (f:Bool) (xs:List D) | rol (xs:List D) | ref (a:Addr) | ty (n:String) | rod (ks:List (List Key)) (xs:List D)
inductive O where
 | lst (xs:List D) | dic (kvs:List (Key×D)) | dit (kvs:List (List Key×D)) | set (S:Key->Bool) (n:Nat) | ins (C:Addr) (fs:List (Str×D)) | din (ks:List D) (kvs:List (NestedKey×D))
abbrev Sto:=Addr->Option O
abbrev Slo:=List (Option D)
abbrev DQ:=D->Sto->Prop
structure Fin where
 nx:Slo->Sto->Prop
 rt:DQ
 bk:Slo->Sto->Prop:=fun _ _=>False
 ct:Slo->Sto->Prop:=fun _ _=>False
section
variable {κ:Type} [DecidableEq κ]
def valD (kvs:List (κ×D)) (k:κ):Option D:=(kvs.find? fun kv=>decide (kv.1=k)).map (·.2)
variable {K:PySem.W.Frag} {H:Hp} {ds:List (κ×D)} {vs:List (κ×V)}
end
open PySem PySem.Spec PyProof.Rows L2
abbrev SuW:Type:=Option (Str×Str×Arguments×FuncBody×Scope×Addr×Addr)
def suW (K:PySem.W.Frag) (f:Addr):SuW:=match K.lookup f with
 | some ⟨_,_,.func fd,_⟩=>some (fd.name,fd.qualname,fd.params,fd.body,fd.scope,fd.globals,fd.builtins)
 | _=>none
structure SuD where
 C:Str
 B:Str
 qual:Str
 params:Arguments
 body:List Stmt
 scope:Scope
def SuD.f (d:SuD) (K:PySem.W.Frag):Addr:=He.ma K (He.ga K d.C) "__init__"
def SuD.g (d:SuD) (K:PySem.W.Frag):Addr:=He.ma K (He.ga K d.B) "__init__"
def SuD.val (d:SuD):SuW:=some ("__init__", d.qual,d.params,.stmts d.body,d.scope,mainGlobals,builtinsNs)
def zoA (K:PySem.W.Frag) (cc C:Addr):Bool:=match K.lookup cc with
 | some ⟨_,_,.cell (some (.ref a)),_⟩=>decide (a=C)
 | _=>false
def zoo (file:Str) (K:PySem.W.Frag) (cda:Addr):Bool:=match K.lookup cda with
 | some ⟨_,_,.fields vs,_⟩=>(match (vs[2]?:Option Value) with
  | some (.str z _)=>decide (z=file)
  | _=>false)
 | _=>false
def zrV (file:Str) (K:PySem.W.Frag) (C:Addr) (q:Str) (f:Addr):Bool:=match K.lookup f with
 | some ⟨_,_,.func fd,_⟩=>(match fd.closure,fd.code,fd.defaults with
  | [(x,cc)],.ref cda,.none=>decide (x = "__class__") && (zoA K cc C && (PySem.W.codeIn K (.ref cda) q && zoo file K cda))
  | _,_,_=>false)
 | _=>false
def SuD.ok (file:Str) (K:PySem.W.Frag) (d:SuD):Bool:=PySem.W.keepIn K (.ref (d.f K)) && (zrV file K (He.ga K d.C) d.qual (d.f K) && ((PySem.W.clsIn K (He.ga K d.C)).isSome && (decide (PySem.W.mroIn K (He.ga K d.C) (.ref (He.ga K d.C))=some true) &&
 (He.eqO (PySem.W.nsIn K cStatics "thirdparty.any") (some none) && (He.eqO (PySem.W.ks_superIn K (He.ga K d.C) (He.ga K d.C) "__init__") (some (some (.ref (d.g K)))) && (PySem.W.isFn K (.ref (d.g K)) && PySem.W.fnIn K (d.g K)))))))
abbrev AlS:Type:=He.AlD×Bool×List SuW
def zqV (fa:List He.Fa) (fn:List He.DefD) (su:List SuD) (file:Str) (K:PySem.W.Frag):AlS:=(He.obsD fa fn K,su.all fun d=>d.ok file K,su.map fun d=>suW K (d.f K))
def zoY (fn:List He.DefD) (su:List SuD):AlS:=(He.valD fn,true,su.map SuD.val)
def zt3 (K:PySem.W.Frag) (C:Addr):Bool:=(match K.lookup C with
 | some ⟨.type t,_,.cls cd,sl⟩=>(match cd.mro,sl.toList with
  | .ref C' :: bm,[_,_,_,_,some (.builtin n),_]=>decide (t = "type") && (decide (C'=C) && (decide (n = "ValueError.__new__") && (!cd.hasDel && (cd.hasDict && PySem.HandSPX.refsVE bm))))
  | _,_=>false)
 | _=>false) && (He.eqO (PySem.W.findIn K (.ref C) "__setattr__") (some (some (.builtin "object.__setattr__"))) && (decide (PySem.W.subIn K (.ref C) (.type "BaseException")=some true) && (decide (PySem.W.typeIn K (.ref C)=some (.type "type")) && PySem.W.keepIn K (.ref C))))
def zwQ (K:PySem.W.Frag) (x:Str):Bool:=zt3 K (He.ga K x) && xfB K (He.ga K x)
abbrev AlX:Type:=AlS×Bool
def obsX (fa:List He.Fa) (fn:List He.DefD) (su:List SuD) (file:Str) (ex:List Str) (K:PySem.W.Frag):AlX:=(zqV fa fn su file K,ex.all fun x=>zwQ K x)
def valX (fn:List He.DefD) (su:List SuD):AlX:=(zoY fn su,true)
class St (g:Prop) (n:outParam Prop):Prop where
 go:n->g
theorem zk3 {g n:Prop} [h:St g n] (q:n):g:=h.go q
def frD (g:Addr->Option Obj):Nat->List Addr->List Addr
 | 0,l=>l
 | n+1,l=>l++frD g n (l.flatMap fun a=>match g a with
  | some o=>He.refsD o
  | none=>[])
def kFr (n:Nat) (g:Addr->Option Obj):PySem.W.Frag:=He.frG g (frD g n [mainGlobals]++[cStatics])
abbrev zeV:Type:=Str×List (Str×Int)
def zvl (K:PySem.W.Frag) (t:zeV):Bool:=t.2.all fun q=>match PySem.W.nsIn K (He.ga K t.1) q.1 with
 | some (some (.int j _))=>decide (j=q.2)
 | _=>false
abbrev AlG:Type:=AlX×Bool×List (Option (List (Option (Str×Int))))
def obsG (fa:List He.Fa) (fn:List He.DefD) (su:List SuD) (file:Str) (ex:List Str) (tb:List zeV) (K:PySem.W.Frag):AlG:=(obsX fa fn su file ex K,tb.all (zvl K),tb.map fun t=>He.dicW K (He.ga K t.1))
def zr3 (fn:List He.DefD) (su:List SuD) (tb:List zeV) (w:World):AlG:=(valX fn su,true,tb.map fun t=>some (He.keysIn w.params (t.2.map (·.1))))
def neB (K:PySem.W.Frag) (C:Addr):Bool:=(match K.lookup C with
 | some ⟨.type t,_,.cls cd,sl⟩=>(match cd.mro,sl.toList with
  | [.ref C',.type o],[_,_,_,_,some (.builtin n),_]=>decide (t = "type") && (decide (C'=C) && (decide (o = "object") && (decide (n = "object.__new__") && (!cd.hasDel && (PySem.W.nsOkIn K cd.ns && (He.eqO (PySem.W.nsIn K cd.ns "__eq__") (some (some (.ref (He.ma K C "__eq__")))) && He.eqO (PySem.W.nsIn K cd.ns "__ne__") (some none)))))))
  | _,_=>false)
 | _=>false) && (match K.lookup (He.ma K C "__eq__") with
 | some ⟨.type t,_,_,_⟩=>decide (t = "function")
 | _=>false)
def isB (K:PySem.W.Frag) (C:Addr):Bool:=He.eqO (PySem.W.findIn K (.ref C) "__class__") (some (some (.builtin "object.__class__"))) && (He.eqO (PySem.W.specialIn K (.builtin "object.__class__") "__get__") (some (some (.builtin "getset_descriptor.__get__"))) &&
 (decide (PySem.W.takesIn K (.builtin "object.__class__")=some true) && decide (PySem.W.mroIn K C (.type "object")=some true)))
abbrev AlE:Type:=AlG×Bool
def obsE (fa:List He.Fa) (fn:List He.DefD) (su:List SuD) (file:Str) (ex:List Str) (tb:List zeV) (eq:List Str) (K:PySem.W.Frag):AlE:=(obsG fa fn su file ex tb K,eq.all fun x=>neB K (He.ga K x) && isB K (He.ga K x))
def valE (fn:List He.DefD) (su:List SuD) (tb:List zeV) (w:World):AlE:=(zr3 fn su tb w,true)
def zvm:Value->Option Str
 | .str z _=>some z
 | _=>none
def zlJ (K:PySem.W.Frag) (t:Str×List Str):Bool:=(match K.lookup (He.ga K t.1) with
 | some ⟨.type c,_,.seq its _,_⟩=>decide (c = "tuple") && (decide (its.toList.map zvm=t.2.map some) && (decide (its.size≤100) && SeqAt.shaped (.tuple (t.2.map PyData.str))))
 | _=>false)
abbrev ziu:Type:=Str×List Str
abbrev AlT:Type:=AlE×Bool
def obsT (fa:List He.Fa) (fn:List He.DefD) (su:List SuD) (file:Str) (ex:List Str) (tb:List zeV) (eq:List Str) (gt:List ziu) (K:PySem.W.Frag):AlT:=(obsE fa fn su file ex tb eq K,gt.all (zlJ K))
def valT (fn:List He.DefD) (su:List SuD) (tb:List zeV) (w:World):AlT:=(valE fn su tb w,true)
structure PrD where
 C:Str
 f:Str
 qual:Str
 params:Arguments
 body:List Stmt
 scope:Scope
def PrD.p (d:PrD) (K:PySem.W.Frag):Addr:=He.ma K (He.ga K d.C) d.f
def PrD.g (d:PrD) (K:PySem.W.Frag):Addr:=He5.wf K (He.ga K d.C) "property" d.f
def PrD.da (d:PrD):He5.DefA:=⟨d.g,d.f,d.qual,d.params,d.body,d.scope,[],[]⟩
def zqP (K:PySem.W.Frag) (p:Addr):Bool:=match PySem.W.recIn K p "property" with
 | some (.ref _ :: _)=>true
 | _=>false
def PrD.ok (K:PySem.W.Frag) (d:PrD):Bool:=He.eqO (PySem.W.findIn K (.ref (He.ga K d.C)) d.f) (some (some (.ref (d.p K)))) && (He.eqO (PySem.W.specialIn K (.ref (d.p K)) "__get__") (some (some (.builtin "property.__get__"))) && (decide (PySem.W.takesIn K (.ref (d.p K))=some true) && (zqP K (d.p K) && d.da.ok K)))
abbrev AlV:Type:=AlT×Bool×List He5.FnW
def zoK (fa:List He.Fa) (fn:List He.DefD) (su:List SuD) (file:Str) (ex:List Str) (tb:List zeV) (eq:List Str) (gt:List ziu) (pr:List PrD) (sq:List Str) (K:PySem.W.Frag):AlV:=(obsT fa fn su file ex tb eq gt K,(pr.all fun d=>d.ok K) && sq.all fun C=>PySem.W.noSeq K (He.ga K C),pr.map fun d=>He5.fnA K (d.g K))
def zjo (fn:List He.DefD) (su:List SuD) (tb:List zeV) (pr:List PrD) (w:World):AlV:=(valT fn su tb w,true,pr.map fun d=>d.da.val)
def zwS:List Value:=[.type "ValueError", .type "Exception", .type "BaseException", .type "object"]
abbrev AlU:Type:=AlV×Bool
abbrev zmN:Type:=Str×Str×Bool
def zsB (K:PySem.W.Frag) (z:zmN):Bool:=xfB K (He.ga K z.1) && (isB K (He.ga K z.1) && decide (PySem.W.kitOne K (.ref (He.ga K z.1)) (.ref (He.ga K z.2.1))=some z.2.2))
def zt8 (K:PySem.W.Frag) (x:Str):Bool:=zt3 K (He.ga K x) && PySem.W.excIn K (He.ga K x) zwS "ValueError.__new__"
def zmj (fa:List He.Fa) (fn:List He.DefD) (su:List SuD) (file:Str) (ex:List Str) (tb:List zeV) (eq:List Str) (gt:List ziu) (pr:List PrD) (sq:List Str) (no:List Str) (is:List zmN) (K:PySem.W.Frag):AlU:=(zoK fa fn su file ex tb eq gt pr sq K,(no.all fun x=>zt8 K x) && is.all fun z=>zsB K z)
def zoJ (fn:List He.DefD) (su:List SuD) (tb:List zeV) (pr:List PrD) (w:World):AlU:=(zjo fn su tb pr w,true)
def zrO (n:Nat) (fa:List He.Fa) (fn:List He.DefD) (su:List SuD) (file:Str) (ex:List Str) (tb:List zeV) (eq:List Str) (gt:List ziu) (pr:List PrD) (sq:List Str) (no:List Str) (is:List zmN):PySem.W.Hook where
 α:=AlU
 obs:=fun s=>zmj fa fn su file ex tb eq gt pr sq no is (kFr n s.heap.get?)
 val:=fun w=>zoJ fn su tb pr w
 says:=fun w h=>∃ K:PySem.W.Frag,K.In h∧zmj fa fn su file ex tb eq gt pr sq no is K=zoJ fn su tb pr w
 of:=fun _ _ e=>⟨_,He.frG_in,e⟩
 keeps:=fun _ _ _ ⟨K,hK,c⟩ k=>⟨K,hK.keeps k,c⟩
theorem zlH {n:Nat} {fa:List He.Fa} {fn:List He.DefD} {su:List SuD} {file:Str} {ex:List Str} {tb:List zeV} {eq:List Str} {gt:List ziu} {pr:List PrD} {sq no:List Str} {is:List zmN} {g:Addr->Option Obj} {s:Shared} (h:∀ a,g a=s.heap.get? a):zmj fa fn su file ex tb eq gt pr sq no is (kFr n g)=(zrO n fa fn su file ex tb eq gt pr sq no is).obs s:=by
 have e:g=s.heap.get?:=funext h
 rw [e]
 rfl
abbrev NoE:Value->Shared->Prop:=fun _ _=>False
def zgF (t:Expr) (fs:List Expr) (p:Pos) (it:Value) (env:Env) (body:Sem PySem.Fin->Sem PySem.Fin) (lp:Code):Sem PySem.Fin:=do
 standAt p
 match ← pyNext it with
 | none=>pure (.done .next)
 | some v=>
  letOwnedTupleGo t it v
  assign t env v
  let mut ok:=true
  for c in fs do
   if ok then ok ← isTrue c env (eval c env)
  if ok then body (again lp) else again lp
def zfc (c:Expr) (d:Nat) (i:Expr) (acc:Value) (env:Env) (k:Sem PySem.Fin):Sem PySem.Fin:=do
 let x ← eval i env
 standAt i.pos
 let x ← foldedSetIterable i env x
 let _ ← runOwn (.compStart c d (← holding [x] (pyIter x)) acc env) env
 k
section
variable {prog:Program} {w:World} {A:Around} {R:Result->Shared->Prop} {s:Shared} {e0 t i:Expr} {gs:List Comprehension} {sc:Scope} {ps:Pos} {fs:List Expr} {d:Nat} {it acc:Value} {env:Env} {body:Sem PySem.Fin->Sem PySem.Fin}
def BodyOk (prog:Program) (w:World) (A:Around) (body:Sem PySem.Fin->Sem PySem.Fin) (Nx:Shared->Prop) (s:Shared):Prop:=
 ∀ (k:Sem PySem.Fin) (Q:PySem.Fin->Shared->Prop),(∀ s',Nx s'->wpAny (model prog w) A k Q NoE s')->wpAny (model prog w) A (body k) Q NoE s
theorem zoa (hk:compTurn (.ListComp e0 gs sc ps) d it acc env=zgF t fs i.pos it env body (.compLoop (.ListComp e0 gs sc ps) d it acc env)) (I:Nat->Shared->Prop)
  (turn:∀ n s,I n s->wpAny (model prog w) A (pyNext it) (fun r z1=>match r with
   | none=>R (.ok .next) z1
   | some v=>wpAny (model prog w) A (letOwnedTupleGo t it v) (fun _ z2=>wpAny (model prog w) A (assign t env v) (fun _ z3=>
     wpAny (model prog w) A (forIn fs true fun c r=>if r=true then do let ok ← isTrue c env (eval c env);pure (ForInStep.yield ok) else pure (ForInStep.yield r)) (fun ok z4=>
      match ok with
      | true=>BodyOk prog w A body (fun z=>∃ m,m < n∧I m z) z4
      | false=>∃ m,m < n∧I m z4) NoE z3) NoE z2) NoE z1) NoE s)
  (n:Nat) (h:I n s):codeAny (model prog w) A (.compLoop (.ListComp e0 gs sc ps) d it acc env) R s:=by
 refine codeAny_loop rfl I (fun n s hI=>?_) n h
 show wpAny _ A ((compTurn (.ListComp e0 gs sc ps) d it acc env).onRaise (fun x=>do noteFrame x env;theTreesLotGoes x)) _ _ s
 refine wpAny_noted ?_
 rw [hk]
 unfold zgF
 refine wpAny_bind (wpAny_standAt (wpAny_bind (thnF (turn n s hI) fun r z1 g1=>?_)))
 cases r with
 | none=>exact wpAny_pure g1
 | some v=>
  refine wpAny_bind (thnF g1 fun _ z2 g2=>wpAny_bind (thnF g2 fun _ z3 g3=>wpAny_bind (thnF g3 fun ok z4 g4=>?_)))
  cases ok with
  | false=>exact wpAny_pure ⟨rfl,g4⟩
  | true=>exact thnF (g4 _ _ fun z5 g5=>wpAny_pure ⟨rfl,g5⟩) fun _ _ z=>z
theorem zk2 (hq:(clausesOf (.ListComp e0 gs sc ps))[d]? = some ⟨t,i,fs,0⟩) (h0:codeAny (model prog w) A (.compLoop (.ListComp e0 gs sc ps) d it acc env) R s)
  (h:wpAny (model prog w) A (pyIter it) (fun it' s'=>codeAny (model prog w) A (.compLoop (.ListComp e0 gs sc ps) d it' acc env) R s') NoE s) :
  codeAny (model prog w) A (.compStart (.ListComp e0 gs sc ps) d it acc env) R s:=by
 refine codeAny_of_tree ?_
 show wpAny _ _ ((compStart (.ListComp e0 gs sc ps) d it acc env).onRaise (fun x=>do noteFrame x env;standAt theWindowsPlace)) _ _ s
 refine wpAny_notedAt ?_
 unfold compStart
 rw [hq]
 show wpAny _ _ (ask >>= _) _ _ s
 refine wpAny_bind (wpAny_askSetting (wpAny_ite ?_))
 split
 ·first
   | exact wpAny_bind (wpAny_pure (wpAny_pure ⟨rfl,h0⟩))
   | exact wpAny_pure ⟨rfl,h0⟩
 ·first
   | exact wpAny_bind (wpAny_rule (wpAny_bind (wpAny_standAt (wpAny_bind (thnF h fun it' s' h'=>wpAny_pure ⟨rfl,h'⟩)))))
   | (refine wpAny_bind (wpAny_rule ?_);show wpAny _ _ (standAt i.pos >>= _) _ _ s;exact wpAny_bind (wpAny_standAt (wpAny_bind (thnF h fun it' s' h'=>wpAny_pure ⟨rfl,h'⟩))))
theorem zjH {Nx:Shared->Prop} (hs:∀ x,foldedSetIterable i env x=pure x) (h:wpAny (model prog w) A (eval i env) (fun x z1=>wpAny (model prog w) A (pyIter x) (fun it1 z2=>
   codeAny (model prog w) A (.compStart (.ListComp e0 gs sc ps) d it1 acc env) (fun r z=>match r with | .ok _=>Nx z | .error _=>False) z2) NoE z1) NoE s):BodyOk prog w A (zfc (.ListComp e0 gs sc ps) d i acc env) Nx s:=by
 intro k Q hk
 unfold zfc
 refine wpAny_bind (thnF h fun x z1 g1=>wpAny_bind (wpAny_standAt (wpAny_bind (wpAny_of_eq (hs x) (wpAny_bind (wpAny_holding (thnF g1 fun it1 z2 g2=>?_)))))))
 refine wpAny_bind (wpAny_runOwn ?_)
 rw [Around.mark_none]
 refine codeAny_mono g2 fun r z hr=>?_
 cases r with
 | ok f=>exact hk z hr
 | error e=>exact hr.elim
end
def zit (vs:List Nat) (σ σ':L2.St):Prop:=σ.length=σ'.length∧∀ j v,σ[j]? = some (some v)->j∉vs->σ'[j]? = some (some v)
theorem zit.wipe {vs:List Nat} {σ:L2.St}:zit vs σ (L2.wipe σ vs):=⟨(wipe_length _ _).symm,fun j v e hj=>(wipe_out hj).trans e⟩
theorem zit.of_wipe {vs us:List Nat} {σ σ3 σ':L2.St} (hw:L2.wipe σ3 vs=L2.wipe σ vs) (hu:∀ j∈us,j∈vs) (k:zit us σ3 σ'):(L2.wipe σ vs).length=σ'.length∧∀ (j:Nat) v,(L2.wipe σ vs)[j]? = some (some v)->σ'[j]? = some (some v):=by
 refine ⟨by rw [← hw,wipe_length];exact k.1,fun j v e=>?_⟩
 rw [← hw] at e
 obtain ⟨e1,e2⟩:=wipe_some e
 exact k.2 j v e1 fun z=>e2 (hu j z)
abbrev zr0 (J:It) (H4:Hp) (N:Hp->Prop) (g:TG) (tt:TT) (vs:List Nat) (σ:L2.St) (Bq:L2.St->Hp->(Hp->Prop)->Prop):Prop:=
 ∃ W:Nat->Nat->Hp->Prop,(∃ m,W 0 m H4)∧∀ j k H,W j k H->(J.stop j H∧N H) ∨ (J.go j H∧∃ Nx:Hp->Prop,(∀ H',Nx H'->∃ k',k' < k∧W (j+1) k' H')∧
  ∀ x H',J.yld j H x H'->g x (L2.wipe σ vs) H' fun σ3 H5=>L2.wipe σ3 vs=L2.wipe σ vs∧tt σ3 H5 fun b H6=>if b=true then Bq σ3 H6 Nx else Nx H6)
def zoH (Y:Cx) (pins:List (Addr×Obj)) (vs:List Nat) (σ:L2.St) (N:Hp->Prop) (s:Shared):Prop:=∃ σ' H',Inv Y pins σ' H' s∧zit vs σ σ'∧N H'
section
variable {Y:Cx} {e0 t i:Expr} {gs:List Comprehension} {sc:Scope} {ps:Pos} {fs:List Expr} {d:Nat} {acc:Value} {body:Sem PySem.Fin->Sem PySem.Fin} {pins:List (Addr×Obj)} {σ:L2.St} {H:Hp} {s:Shared} {wi:TI} {g:TG} {tt:TT} {vs us:List Nat} {N:Hp->Prop} {Bq:L2.St->Hp->(Hp->Prop)->Prop}
theorem zhh (hc:Y.calm=true) (hx:Y.xe=NoE) {it:Addr} {fp:List Addr} {tn:Nat->Heap->Prop} {J:It} (hk:compTurn (.ListComp e0 gs sc ps) d (.ref it) acc Y.env=zgF t fs i.pos (.ref it) Y.env body (.compLoop (.ListComp e0 gs sc ps) d (.ref it) acc Y.env)) (pg:PG Y t g) (pt:PTs Y fs tt) (hu:∀ j∈us,j∈vs)
  (hb:∀ pins' σ3 H6 s6 Nx,Inv Y pins' σ3 H6 s6->Bq σ3 H6 Nx->BodyOk Y.prog Y.w Y.A body (zoH Y pins' us σ3 Nx) s6)
  (I:Inv Y pins (L2.wipe σ vs) H s) (T:Turn Y.prog Y.w Y.K t J fp it tn) (st:tn 0 s.heap) (fpo:∀ b∈fp,FpOk Y pins H b) (q:zr0 J H N g tt vs σ Bq) {R:Result->Shared->Prop}
  (hR:∀ H' s',Inv Y pins (L2.wipe σ vs) H' s'->(∀ b∈fp,H' b=none)->N H'->R (.ok .next) s') :
  codeAny (model Y.prog Y.w) Y.A (.compLoop (.ListComp e0 gs sc ps) d (.ref it) acc Y.env) R s:=by
 obtain ⟨W,⟨m0,w0⟩,turn⟩:=q
 refine zoa hk (fun k z=>∃ j Hz,Inv Y pins (L2.wipe σ vs) Hz z∧tn j z.heap∧(∀ b∈fp,Hz b=none)∧W j k Hz) ?_ m0 ⟨0,H,I,st,fun b hb=>(fpo b hb).1,w0⟩
 rintro k z ⟨j,Hz,Iz,stz,nz,wz⟩
 have fz:∀ {H':Hp},(∀ b∈fp,H' b=none)->∀ b∈fp,FpOk Y pins H' b:=fun hn b hb=>⟨hn b hb,(fpo b hb).2⟩
 rcases turn j k Hz wz with ⟨stop,qn⟩ | ⟨go,Nx,hNx,step⟩
 ·refine thnF (T.done Y rfl rfl rfl hc j pins z (L2.wipe σ vs) Hz NoE Iz (fz nz) stz stop) fun r z1 g1=>?_
  obtain ⟨rfl,I1⟩:=g1
  exact hR Hz z1 I1 nz qn
 ·refine thnF (T.item Y rfl rfl rfl hc j pins z (L2.wipe σ vs) Hz NoE Iz (fz nz) stz go) fun r z1 g1=>?_
  obtain ⟨u,rfl,g1⟩:=g1
  refine thnF g1 fun _ z2 ⟨x,H2,I2,r2,y2,st2,n2⟩=>?_
  have I2':=I2.pinned (fz n2) (T.obj _ _ st2)
  have hg:=pg.run _ z2 (L2.wipe σ vs) H2 x u _ I2' r2 (step x H2 y2)
  rw [hx] at hg
  refine thnF hg fun _ z3 ⟨σ3,H3,I3,hw,q3⟩=>?_
  have ht:=pt.run _ z3 σ3 H3 _ I3 q3
  rw [hx] at ht
  refine thnF ht fun b z4 ⟨H4,I4,q4⟩=>?_
  have fin:∀ {σ5:L2.St} {H5:Hp} {z5:Shared},Inv Y (pins++pinsAt fp z2.heap) σ5 H5 z5->zit us σ3 σ5->Nx H5->∃ m,m < k∧∃ j H5,Inv Y pins (L2.wipe σ vs) H5 z5∧tn j z5.heap∧(∀ b∈fp,H5 b=none)∧W j m H5:=fun {σ5 H5 z5} I5 hk nx=>by
   obtain ⟨m,hm,w5⟩:=hNx H5 nx
   have pin:∀ b∈fp,∀ o,z2.heap.get? b=some o->z5.heap.get? b=some o∧H5 b=none:=fun b hb o e=>
    have y:=I5.pin (b,o) (List.mem_append_right _ (List.mem_append_right _ (mem_pinsAt hb e)))
    ⟨y.1,y.2.1⟩
   obtain ⟨k1,k2⟩:=zit.of_wipe hw hu hk
   refine ⟨m,hm,j+1,H5,I5.unpinned.weak k1 k2,T.keep _ _ _ st2 fun b hb o e=>(pin b hb o e).1,fun b hb=>?_,w5⟩
   obtain ⟨o,e,_⟩:=T.obj _ _ st2 b hb
   exact (pin b hb o e).2
  cases b with
  | false=>
   simp only [Bool.false_eq_true,if_false] at q4 ⊢
   exact fin I4 ⟨rfl,fun _ _ e _=>e⟩ q4
  | true=>
   simp only [if_true] at q4 ⊢
   have hq:=hb _ _ _ _ _ I4 q4
   intro kk Q hkk
   exact hq kk Q fun z5 ⟨σ5,H5,I5,k5,n5⟩=>hkk z5 (fin I5 k5 n5)
theorem zrk (hc:Y.calm=true) (hx:Y.xe=NoE) (hk:∀ it,compTurn (.ListComp e0 gs sc ps) d it acc Y.env=zgF t fs i.pos it Y.env body (.compLoop (.ListComp e0 gs sc ps) d it acc Y.env)) (hq:(clausesOf (.ListComp e0 gs sc ps))[d]? = some ⟨t,i,fs,0⟩) (pi:PI Y t i wi) (pg:PG Y t g) (pt:PTs Y fs tt) (hu:∀ j∈us,j∈vs)
  (hs:∀ x,foldedSetIterable i Y.env x=pure x)
  (hb:∀ pins' σ3 H6 s6 Nx,Inv Y pins' σ3 H6 s6->Bq σ3 H6 Nx->BodyOk Y.prog Y.w Y.A body (zoH Y pins' us σ3 Nx) s6)
  (I:Inv Y pins σ H s) (q:wi σ H fun J H4=>zr0 J H4 N g tt vs σ Bq):BodyOk Y.prog Y.w Y.A (zfc (.ListComp e0 gs sc ps) d i acc Y.env) (zoH Y pins vs σ N) s:=by
 refine zjH hs ?_
 have h:=pi.run pins s σ H _ I q
 rw [hx] at h
 refine thnF h fun xv z1 g1=>thnF g1 fun itv z2 g2=>?_
 obtain ⟨it,fp,tn,J,H2,e,I2,T,st,f2,q2⟩:=g2
 subst e
 have lp:=zhh (R:=fun r z=>match r with | .ok _=>zoH Y pins vs σ N z | .error _=>False) hc hx (hk _) pg pt hu hb (I2.weak (wipe_length _ _) fun j v e=>(wipe_some e).1) T st f2 q2 fun H' s' I' _ n=>⟨_,H',I',zit.wipe,n⟩
 exact zk2 hq lp (T.self Y.A 0 _ _ _ st lp)
end
end DL
namespace K09
open PySem PySem.Spec PyProof.Rows L2 DL
local macro_rules | `(tactic| walk_at "dp") => `(tactic| (first | with_reducible assumption | with_reducible exact zai | (with_reducible refine (zaz (by first | with_reducible assumption | exact Ne.symm (by with_reducible assumption))).trans ?_; first | with_reducible assumption | with_reducible exact zai | (with_reducible refine (zaz (by first | with_reducible assumption | exact Ne.symm (by with_reducible assumption))).trans ?_; first | with_reducible assumption | with_reducible exact zai | (with_reducible refine (zaz (by first | with_reducible assumption | exact Ne.symm (by with_reducible assumption))).trans ?_; first | with_reducible assumption | with_reducible exact zai | (with_reducible refine (zaz (by first | with_reducible assumption | exact Ne.symm (by with_reducible assumption))).trans ?_; first | with_reducible assumption | with_reducible exact zai))))))
local macro_rules | `(tactic| walk_at "q") => `(tactic| (first | exact .inl rfl | exact .inr rfl))
local macro_rules | `(tactic| nofun) => `(tactic| walk_at "q")
abbrev PG_:Program:=PySem.Challenge.pw_toldonward_k09_deeds
def top (i:Nat):Stmt:=PG_.main.body.getD i (.Pass ⟨0,0,0,0⟩)
abbrev zcP:Stmt:=top 27
def zfE:He.DefD:=⟨("_law_state", none), "_law_state", "_law_state", defArgs zcP,defBody zcP,defScope zcP,[],[]⟩
abbrev zdl:Stmt:=top 28
def zgm:He.DefD:=⟨("_law_draw", none), "_law_draw", "_law_draw", defArgs zdl,defBody zdl,defScope zdl,[],[]⟩
abbrev zcR:Stmt:=top 29
def zfG:He.DefD:=⟨("_law_names", none), "_law_names", "_law_names", defArgs zcR,defBody zcR,defScope zcR,[],[]⟩
abbrev zdi:Stmt:=top 30
def zgj:He.DefD:=⟨("_law_many", none), "_law_many", "_law_many", defArgs zdi,defBody zdi,defScope zdi,[],[]⟩
abbrev zdP:Stmt:=top 31
def zgT:He.DefD:=⟨("_law_row", none), "_law_row", "_law_row", defArgs zdP,defBody zdP,defScope zdP,[],[]⟩
abbrev zdg:Stmt:=top 32
def zgh:He.DefD:=⟨("_law_rows", none), "_law_rows", "_law_rows", defArgs zdg,defBody zdg,defScope zdg,[],[]⟩
abbrev zcQ:Stmt:=top 33
def zfF:He.DefD:=⟨("_law_parts", none), "_law_parts", "_law_parts", defArgs zcQ,defBody zcQ,defScope zcQ,[],[]⟩
abbrev zeN:Stmt:=top 10
def zhp:He.DefD:=⟨("is_name", none), "is_name", "is_name", defArgs zeN,defBody zeN,defScope zeN,[],[]⟩
abbrev zdd:Stmt:=top 11
def zge:He.DefD:=⟨("are_names", none), "are_names", "are_names", defArgs zdd,defBody zdd,defScope zdd,[],[]⟩
abbrev zdb:Stmt:=top 12
def zgc:He.DefD:=⟨("are_pairs", none), "are_pairs", "are_pairs", defArgs zdb,defBody zdb,defScope zdb,[],[]⟩
abbrev zbi:Stmt:=inClass (top 14) 1
def zcM:He.DefD:=⟨("BodyCheck", some "is_word"), "is_word", "BodyCheck.is_word", defArgs zbi,defBody zbi,defScope zbi,[],[]⟩
abbrev zbc:Stmt:=inClass (top 14) 3
def zcj:He.DefD:=⟨("BodyCheck", some "is_choice"), "is_choice", "BodyCheck.is_choice", defArgs zbc,defBody zbc,defScope zbc,[],[]⟩
abbrev zbq:Stmt:=inClass (top 14) 2
def zc7:He.DefD:=⟨("BodyCheck", some "is_row"), "is_row", "BodyCheck.is_row", defArgs zbq,defBody zbq,defScope zbq,[],[]⟩
abbrev za2:Stmt:=inClass (top 14) 4
def zb3:He.DefD:=⟨("BodyCheck", some "first_wrong"), "first_wrong", "BodyCheck.first_wrong", defArgs za2,defBody za2,defScope za2,[],[]⟩
abbrev zcO:Stmt:=top 13
def zfD:He.DefD:=⟨("count_rows", none), "count_rows", "count_rows", defArgs zcO,defBody zcO,defScope zcO,[],[]⟩
abbrev zbC:Stmt:=inClass (top 14) 5
def zdA:He.DefD:=⟨("BodyCheck", some "check"), "check", "BodyCheck.check", defArgs zbC,defBody zbC,defScope zbC,[],[]⟩
abbrev zbr:Stmt:=inClass (top 14) 0
def zc8:He.DefD:=⟨("BodyCheck", some "__init__"), "__init__", "BodyCheck.__init__", defArgs zbr,defBody zbr,defScope zbr,[],[]⟩
abbrev zbI:Stmt:=inClass (top 15) 0
def zdO:He.DefD:=⟨("Program", some "__init__"), "__init__", "Program.__init__", defArgs zbI,defBody zbI,defScope zbI,[],[]⟩
abbrev zcp:Stmt:=top 35
def zeY:He.DefD:=⟨("_law_listed", none), "_law_listed", "_law_listed", defArgs zcp,defBody zcp,defScope zcp,[],[]⟩
abbrev za0:Stmt:=inClass (top 15) 3
def zb1:He.DefD:=⟨("Program", some "derived_names"), "derived_names", "Program.derived_names", defArgs za0,defBody za0,defScope za0,[],[]⟩
abbrev zgu:Stmt:=top 20
def zd1:He.DefD:=⟨("deeds", none), "deeds", "deeds", defArgs zgu,defBody zgu,defScope zgu,[],[("batches", .bl true)]⟩
abbrev zdm:Stmt:=top 34
def zgn:He.DefD:=⟨("_law_deed", none), "_law_deed", "_law_deed", defArgs zdm,defBody zdm,defScope zdm,[],[]⟩
abbrev zdQ:Stmt:=top 36
def zgU:He.DefD:=⟨("_law_bad", none), "_law_bad", "_law_bad", defArgs zdQ,defBody zdQ,defScope zdQ,[],[]⟩
abbrev zb8:Stmt:=top 17
def zeH:He.DefD:=⟨("is_word_pair", none), "is_word_pair", "is_word_pair", defArgs zb8,defBody zb8,defScope zb8,[],[]⟩
abbrev zdc:Stmt:=top 18
def zgd:He.DefD:=⟨("are_notes", none), "are_notes", "are_notes", defArgs zdc,defBody zdc,defScope zdc,[],[]⟩
abbrev zbS:Stmt:=inClass (top 15) 2
def zed:He.DefD:=⟨("Program", some "cells"), "cells", "Program.cells", defArgs zbS,defBody zbS,defScope zbS,[],[]⟩
abbrev zeO:Stmt:=top 19
def zhq:He.DefD:=⟨("is_deed", none), "is_deed", "is_deed", defArgs zeO,defBody zeO,defScope zeO,[],[]⟩
abbrev zdh:Stmt:=top 37
def zgi:He.DefD:=⟨("_law_pair", none), "_law_pair", "_law_pair", defArgs zdh,defBody zdh,defScope zdh,[],[]⟩
abbrev zdk:Stmt:=top 38
def zgl:He.DefD:=⟨("_law_good", none), "_law_good", "_law_good", defArgs zdk,defBody zdk,defScope zdk,[],[]⟩
abbrev zbB:Stmt:=top 42
def zdz:He.DefD:=⟨("_law_first_part", none), "_law_first_part", "_law_first_part", defArgs zbB,defBody zbB,defScope zbB,[],[]⟩
abbrev zdf:Stmt:=top 39
def zgg:He.DefD:=⟨("_law_rule", none), "_law_rule", "_law_rule", defArgs zdf,defBody zdf,defScope zdf,[],[]⟩
abbrev zcS:Stmt:=top 41
def zfH:He.DefD:=⟨("_law_fault", none), "_law_fault", "_law_fault", defArgs zcS,defBody zcS,defScope zcS,[],[]⟩
abbrev zcq:Stmt:=inClass (top 24) 0
def zeZ:He.DefD:=⟨("Rule", some "__init__"), "__init__", "Rule.__init__", defArgs zcq,defBody zcq,defScope zcq,[],[]⟩
abbrev zdn:Stmt:=inClass (top 24) 1
def zgo:He.DefD:=⟨("Rule", some "__eq__"), "__eq__", "Rule.__eq__", defArgs zdn,defBody zdn,defScope zdn,[],[]⟩
abbrev zde:Stmt:=top 25
def zgf:He.DefD:=⟨("all_rules", none), "all_rules", "all_rules", defArgs zde,defBody zde,defScope zde,[],[]⟩
abbrev zdj:Stmt:=top 40
def zgk:He.DefD:=⟨("_law_made", none), "_law_made", "_law_made", defArgs zdj,defBody zdj,defScope zdj,[],[]⟩
abbrev zbp:Stmt:=top 43
def zc6:He.DefD:=⟨("_law_second_part", none), "_law_second_part", "_law_second_part", defArgs zbp,defBody zbp,defScope zbp,[],[]⟩
abbrev ziN:Stmt:=top 44
def zeX:He.DefD:=⟨("law", none), "law", "law", defArgs ziN,defBody ziN,defScope ziN,[],[]⟩
def zcW:List SuD:=[]
def tabs:List zeV:=[]
def eqs:List Str:=["Rule"]
def gts:List ziu:=[("MODES", ["push", "pull", "level"]),("INNERS", ["once", "later"])]
def prs:List PrD:=[]
def sqs:List Str:=[]
def nos:List Str:=[]
def isl:List zmN:=[("InvalidRule", "InvalidStart", false),("InvalidRule", "ToldError", true)]
def zc4:List Str:=["InvalidProgram", "InvalidRule"]
abbrev za1:Stmt:=inClass (top 3) 0
def zb2:He.DefD:=⟨("InvalidProgram", some "__init__"), "__init__", "InvalidProgram.__init__", defArgs za1,defBody za1,defScope za1,[],[]⟩
abbrev zbe:Stmt:=inClass (top 4) 0
def zcy:He.DefD:=⟨("InvalidRule", some "__init__"), "__init__", "InvalidRule.__init__", defArgs zbe,defBody zbe,defScope zbe,[],[]⟩
def fns:List He.DefD:=[zfE,zgm,zfG,zgj,zgT,zgh,zfF,zhp,zge,zgc,zcM,zcj,zc7,zb3,zfD,zdA,zc8,zdO,zeY,zb1,zd1,zgn,zgU,zeH,zgd,zed,zhq,zgi,zgl,zdz,zgg,zfH,zeZ,zgo,zgf,zgk,zc6,zeX,zb2,zcy]
def fac:List He.Fa:=[.free "list", .free "len", .free "abs", .free "int", .glo "_law_draw", .free "range", .glo "_law_many", .glo "_law_rows", .glo "_law_row", .free "tuple", .free "max", .glo "_law_names", .free "str", .free "isinstance", .free "set", .glo "is_name", .free "dict", .int "MOST_DEPTH" 4,.cls "BodyCheck", .meth "BodyCheck" "is_word", .meth "BodyCheck" "is_choice", .free "enumerate", .meth "BodyCheck" "is_row", .meth "BodyCheck" "first_wrong", .glo "count_rows", .int "MOST_ROWS" 16,.glo "are_names", .glo "are_pairs", .mkr "BodyCheck", .glo "BodyCheck", .meth "BodyCheck" "check", .cls "Program", .meth "Program" "derived_names", .glo "is_word_pair", .meth "Program" "cells", .glo "are_notes", .glo "_law_pair", .glo "_law_state", .glo "_law_parts", .mkr "Program", .glo "Program", .glo "deeds", .glo "_law_listed", .glo "is_deed", .glo "_law_deed", .glo "_law_bad", .glo "_law_good", .free "bool", .glo "MODES", .glo "INNERS", .glo "Rule", .cls "Rule", .mkr "Rule", .glo "InvalidStart", .glo "ToldError", .glo "InvalidRule", .glo "_law_rule", .glo "_law_fault", .glo "_law_made", .meth "Rule" "__eq__", .glo "all_rules", .glo "_law_second_part", .glo "_law_first_part", .glo "InvalidProgram", .meth "InvalidProgram" "__init__", .noat "InvalidProgram" "part", .noat "InvalidProgram" "path", .meth "InvalidRule" "__init__", .noat "InvalidRule" "part", .cls "BodyCheck", .noat "BodyCheck" "kind", .noat "BodyCheck" "words", .noat "BodyCheck" "sources", .noat "BodyCheck" "readable", .cls "Program", .noat "Program" "words", .noat "Program" "sources", .noat "Program" "derived", .noat "Program" "effects", .cls "Rule", .noat "Rule" "mode", .noat "Rule" "cut", .noat "Rule" "inner", .exm "InvalidRule" "InvalidRule" true,.glo "law"]
set_option maxHeartbeats 0
abbrev R:PySem.W.OpenRow:=PySem.W.OpenLaw.row PySem.Challenge.rw_toldonward_k09_deeds
abbrev hk:PySem.W.Hook:=zrO 5 fac fns zcW PG_.main.file zc4 tabs eqs gts prs sqs nos isl
def ob (s:PySem.W.SharedT):AlU:=zmj fac fns zcW PG_.main.file zc4 tabs eqs gts prs sqs nos isl (kFr 5 (HandSHeadRun.getT s))
theorem ob_eq (s:PySem.W.SharedT):ob s=hk.obs s.abs:=zlH (HandSHeadRun.getT_eq s)
def loose:List Str:=("_wall" : Str) :: ("ToldError" : Str) :: ("InvalidProgram" : Str) :: ("InvalidRule" : Str) :: ("InvalidStart" : Str) :: ("UnknownCell" : Str) :: ("MOST_ROWS" : Str) :: ("MOST_DEPTH" : Str) :: ("is_name" : Str) :: ("are_names" : Str) :: ("are_pairs" : Str) :: ("count_rows" : Str) :: ("BodyCheck" : Str) :: ("Program" : Str) :: ("is_word_pair" : Str) :: ("are_notes" : Str) :: ("is_deed" : Str) :: ("deeds" : Str) :: ("MODES" : Str) :: ("INNERS" : Str) :: ("Rule" : Str) :: ("all_rules" : Str) :: ("_law_state" : Str) :: ("_law_draw" : Str) :: ("_law_names" : Str) :: ("_law_many" : Str) :: ("_law_row" : Str) :: ("_law_rows" : Str) :: ("_law_parts" : Str) :: ("_law_deed" : Str) :: ("_law_listed" : Str) :: ("_law_bad" : Str) :: ("_law_pair" : Str) :: ("_law_good" : Str) :: ("_law_rule" : Str) :: ("_law_made" : Str) :: ("_law_fault" : Str) :: ("_law_first_part" : Str) :: ("_law_second_part" : Str) :: []
theorem run (w:World):HandSHeadRun.RunEq R (PySem.W.view R.prog [44]) hk ob 12000 loose w:=by
 intro os
 kernel_rfl
end K09
set_option maxHeartbeats 0
open PySem PySem.W PySem.Calls PyProof.Rows
theorem K09.ends (call:WalkO (view (OpenLaw.row PySem.Challenge.rw_toldonward_k09_deeds).prog [44]) K09.loose (XL (view (OpenLaw.row PySem.Challenge.rw_toldonward_k09_deeds).prog [44]) []) K09.hk.says (OpenLaw.row PySem.Challenge.rw_toldonward_k09_deeds).toRowW (HandSHeadRun.topDef (OpenLaw.row PySem.Challenge.rw_toldonward_k09_deeds).prog 44) [] fun f vs=>PySem.call f vs):PySem.Challenge.rw_toldonward_k09_deeds.Holds:=by
 w_on;o_law
 refine HandSHeadRun.head_any (r:=OpenLaw.row PySem.Challenge.rw_toldonward_k09_deeds) (q:=view (OpenLaw.row PySem.Challenge.rw_toldonward_k09_deeds).prog [44]) (H:=K09.hk) (ob:=K09.ob) (M:=12000) (loose:=K09.loose) (d:=HandSHeadRun.topDef (OpenLaw.row PySem.Challenge.rw_toldonward_k09_deeds).prog 44) (kwd:=[]) K09.ob_eq
  (by kernel_rfl) (fun s=>by kernel_rfl) K09.run (by kernel_rfl) (by kernel_rfl) (by kernel_rfl) (by rfl) (by first | assumption | decide +kernel) (by decide +kernel) ⟨rfl,rfl,rfl,rfl,rfl,by decide +kernel⟩ ?hw call
 case hw=>w_witness2
set_option maxHeartbeats 4000000
namespace DL
open PySem L2
abbrev D.tup (xs:List D):D:=.tp false xs
def put (S:Sto) (a:Addr) (o:O):Sto:=fun b=>if b=a then some o else S b
theorem zai {S:Sto} {a:Addr} {o:O}:put S a o a=some o:=by unfold put;rw [if_pos rfl]
theorem zaz {S:Sto} {a b:Addr} {o:O} (h:b≠a):put S a o b=S b:=by unfold put;rw [if_neg h]
structure Le (H H':Hp):Prop where
 tup:∀ a xs,H a=some (.tup xs)->H' a=some (.tup xs)
 frz:∀ a o u,H a=some (.frz o u)->H' a=some (.frz o u)
 xd:∀ a fs,H a=some (.xd fs)->H' a=some (.xd fs)
theorem Le.refl (H:Hp):Le H H:=⟨fun _ _ h=>h,fun _ _ _ h=>h,fun _ _ h=>h⟩
theorem Le.trans {H H1 H2:Hp} (a:Le H H1) (b:Le H1 H2):Le H H2:=⟨fun x xs h=>b.tup x xs (a.tup x xs h),fun x o u h=>b.frz x o u (a.frz x o u h),fun x fs h=>b.xd x fs (a.xd x fs h)⟩
theorem Le.new {H:Hp} {p:Addr} {o:HO} (h:H p=none):Le H (upd H p o):=⟨fun a xs e=>by rw [upd_ne (ne_of_none e h)];exact e,fun a ob u e=>by rw [upd_ne (ne_of_none e h)];exact e,fun a fs e=>by rw [upd_ne (ne_of_none e h)];exact e⟩
theorem Le.mut {H:Hp} {p:Addr} {o:HO} (h:Mut (H p)):Le H (upd H p o):=⟨fun a xs e=>by
  rw [upd_ne (fun q=>by subst q;rw [e] at h;exact h)];exact e,fun a ob u e=>by
  rw [upd_ne (fun q=>by subst q;rw [e] at h;exact h)];exact e,fun a fs e=>by
  rw [upd_ne (fun q=>by subst q;rw [e] at h;exact h)];exact e⟩
theorem zg0 {K:PySem.W.Frag} {H H':Hp} {a:Addr} {xs:List V} (l:Le H H') (h:SqT K H a xs):SqT K H' a xs:=by
 rcases h with (h | ⟨o,h⟩) | h
 ·exact .inl (.inl (l.tup a xs h))
 ·exact .inl (.inr ⟨o,l.frz a o _ h⟩)
 ·exact .inr h
def RoL (K:PySem.W.Frag) (H:Hp) (a:Addr) (xs:List V):Prop:=(∃ o,H a=some (.frz o (.lst xs))) ∨
 ∃ (o:Obj) (its:Array Value) (n:Nat),K.lookup a=some o∧o.cls = .type "list" ∧ o.dict=none∧o.data = .seq its n∧its.size≤sizeLine∧Vals xs its.toList
theorem RoL.sq {K:PySem.W.Frag} {H:Hp} {a:Addr} {xs:List V} (h:RoL K H a xs):SqL K H a xs:=by
 rcases h with ⟨o,h⟩ | h
 ·exact .inl (.inr ⟨o,h⟩)
 ·exact .inr h
theorem RoL.le {K:PySem.W.Frag} {H H':Hp} {a:Addr} {xs:List V} (l:Le H H') (h:RoL K H a xs):RoL K H' a xs:=by
 rcases h with ⟨o,h⟩ | h
 ·exact .inl ⟨o,l.frz a o _ h⟩
 ·exact .inr h
theorem RoL.of {K:PySem.W.Frag} {H:Hp} {a:Addr} {xs:List V} (hO:Only H) (h:SqL K H a xs):RoL K H a xs:=by
 rcases h with (h | ⟨o,h⟩) | h
 ·rcases hO a with e | ⟨o,ys,e⟩ <;> rw [e] at h <;> cases h
 ·exact .inl ⟨o,h⟩
 ·exact .inr h
def OkS (x:Str):Prop:=PyData.strOk x=true∧x.length≤sizeLine
def kD:Key->D
 | .inl i=>.int i
 | .inr x=>.str x
def okK:Key->Prop
 | .inl _=>True
 | .inr x=>OkS x
def TF (H:Hp) (a:Addr) (vs:List V):Bool->Prop
 | false=>H a=some (.tup vs)
 | true=>∃ o,H a=some (.frz o (.tup vs))∧o.dict=none
theorem TF.le {H H':Hp} {a:Addr} {vs:List V} {f:Bool} (l:Le H H') (h:TF H a vs f):TF H' a vs f:=by
 cases f with
 | false=>exact l.tup _ _ h
 | true=>
  obtain ⟨o,e,z⟩:=h
  exact ⟨o,l.frz _ _ _ e,z⟩
mutual
inductive DV (K:PySem.W.Frag) (H:Hp):D->V->Prop
 | non:DV K H .non .non
 | bl (b:Bool):DV K H (.bl b) (.bl b)
 | int (i:Int):DV K H (.int i) (.int i)
 | str (x:Str):OkS x->DV K H (.str x) (.str x)
 | ty (n:String):DV K H (.ty n) (.ty n)
 | tup {a:Addr} {vs:List V} {ds:List D} {f:Bool}:SqT K H a vs->DVs K H ds vs->TF H a vs f->DV K H (.tp f ds) (.ref a)
 | rol {a:Addr} {vs:List V} {ds:List D}:RoL K H a vs->DVs K H ds vs->DV K H (.rol ds) (.ref a)
 | ref (a:Addr):DV K H (.ref a) (.ref a)
 | rod {a:Addr} {vs:List V} {ks:List (List Key)} {ds:List D}:(∃ o,H a=some (.frz o (.dT (ks.zip vs))))->ks.length=vs.length->(∀ k∈ks,∀ x∈k,okK x)->DVs K H ds vs->DV K H (.rod ks ds) (.ref a)
inductive DVs (K:PySem.W.Frag) (H:Hp):List D->List V->Prop
 | nil:DVs K H [] []
 | cons {d:D} {ds:List D} {v:V} {vs:List V}:DV K H d v->DVs K H ds vs->DVs K H (d :: ds) (v :: vs)
end
section
variable {K:PySem.W.Frag} {H H':Hp}
mutual
theorem DV.le (l:Le H H'):∀ (d:D) (v:V),DV K H d v->DV K H' d v
 | .non,_,h=>by cases h;exact .non
 | .bl b,_,h=>by cases h;exact .bl b
 | .int b,_,h=>by cases h;exact .int b
 | .str b,_,h=>by
  cases h with
  | str _ ok=>exact .str b ok
 | .ty b,_,h=>by cases h;exact .ty b
 | .ref b,_,h=>by cases h;exact .ref b
 | .tp f ds,_,h=>by
  cases h with
  | tup hs hd ht=>exact .tup (zg0 l hs) (DVs.le l ds _ hd) (ht.le l)
 | .rol ds,_,h=>by
  cases h with
  | rol hs hd=>exact .rol (RoL.le l hs) (DVs.le l ds _ hd)
 | .rod ks ds,_,h=>by
  cases h with
  | rod hs hl hk hd=>
   obtain ⟨o,hs⟩:=hs
   exact .rod ⟨o,l.frz _ _ _ hs⟩ hl hk (DVs.le l ds _ hd)
theorem DVs.le (l:Le H H'):∀ (ds:List D) (vs:List V),DVs K H ds vs->DVs K H' ds vs
 | [],_,h=>by cases h;exact .nil
 | d :: ds,_,h=>by
  cases h with
  | cons h1 h2=>exact .cons (DV.le l d _ h1) (DVs.le l ds _ h2)
end
theorem DVs.length {ds:List D} {vs:List V} (h:DVs K H ds vs):ds.length=vs.length:=by
 induction ds generalizing vs with
 | nil=>cases h;rfl
 | cons d ds ih=>cases h with
  | cons h1 h2=>simp [ih h2]
theorem DVs.get {ds:List D} {vs:List V} (h:DVs K H ds vs) {i:Nat} {d:D} (e:ds[i]? = some d):∃ v,vs[i]? = some v∧DV K H d v:=by
 induction ds generalizing vs i with
 | nil=>simp at e
 | cons x ds ih=>cases h with
  | cons h1 h2=>
   cases i with
   | zero=>simp at e;subst e;exact ⟨_,rfl,h1⟩
   | succ i=>
    obtain ⟨v,e1,e2⟩:=ih h2 (i:=i) (by simpa using e)
    exact ⟨v,by simpa using e1,e2⟩
theorem DVs.append {ds es:List D} {vs us:List V} (h:DVs K H ds vs) (h':DVs K H es us):DVs K H (ds++es) (vs++us):=by
 induction ds generalizing vs with
 | nil=>cases h;exact h'
 | cons d ds ih=>cases h with
  | cons h1 h2=>exact .cons h1 (ih h2)
theorem DVs.take {ds:List D} {vs:List V} (h:DVs K H ds vs) (n:Nat):DVs K H (ds.take n) (vs.take n):=by
 induction ds generalizing vs n with
 | nil=>cases h;simp;exact .nil
 | cons d ds ih=>cases h with
  | cons h1 h2=>cases n with
   | zero=>exact .nil
   | succ n=>exact .cons h1 (ih h2 n)
theorem DVs.drop {ds:List D} {vs:List V} (h:DVs K H ds vs) (n:Nat):DVs K H (ds.drop n) (vs.drop n):=by
 induction ds generalizing vs n with
 | nil=>cases h;simp;exact .nil
 | cons d ds ih=>cases h with
  | cons h1 h2=>cases n with
   | zero=>exact .cons h1 h2
   | succ n=>exact ih h2 n
theorem DVs.set {ds:List D} {vs:List V} {d:D} {v:V} (h:DVs K H ds vs) (h1:DV K H d v) (n:Nat):DVs K H (ds.set n d) (vs.set n v):=by
 induction ds generalizing vs n with
 | nil=>cases h;exact .nil
 | cons x ds ih=>cases h with
  | cons h2 h3=>cases n with
   | zero=>exact .cons h1 h3
   | succ n=>exact .cons h2 (ih h3 n)
theorem DVs.reverse {ds:List D} {vs:List V} (h:DVs K H ds vs):DVs K H ds.reverse vs.reverse:=by
 induction ds generalizing vs with
 | nil=>cases h;exact .nil
 | cons d ds ih=>cases h with
  | cons h1 h2=>
   rw [List.reverse_cons,List.reverse_cons]
   exact (ih h2).append (.cons h1 .nil)
theorem DVs.eraseIdx {ds:List D} {vs:List V} (h:DVs K H ds vs) (n:Nat):DVs K H (ds.eraseIdx n) (vs.eraseIdx n):=by
 induction ds generalizing vs n with
 | nil=>cases h;exact .nil
 | cons x ds ih=>cases h with
  | cons h2 h3=>cases n with
   | zero=>exact h3
   | succ n=>exact .cons h2 (ih h3 n)
end
inductive KVs (K:PySem.W.Frag) (H:Hp) {κ:Type}:List (κ×D)->List (κ×V)->Prop
 | nil:KVs K H [] []
 | cons {k:κ} {d:D} {v:V} {ds:List (κ×D)} {vs:List (κ×V)}:DV K H d v->KVs K H ds vs->KVs K H ((k,d) :: ds) ((k,v) :: vs)
theorem KVs.le {K:PySem.W.Frag} {H H':Hp} {κ:Type} {ds:List (κ×D)} {vs:List (κ×V)} (l:Le H H') (h:KVs K H ds vs):KVs K H' ds vs:=by
 induction h with
 | nil=>exact .nil
 | cons h1 _ ih=>exact .cons (h1.le l) ih
theorem KVs.length {K:PySem.W.Frag} {H:Hp} {κ:Type} {ds:List (κ×D)} {vs:List (κ×V)} (h:KVs K H ds vs):ds.length=vs.length:=by
 induction h with
 | nil=>rfl
 | cons _ _ ih=>simp [ih]
mutual
def nkD:D->Option NestedKey
 | .non=>some .none
 | .bl b=>some (.num (if b=true then 1 else 0))
 | .int i=>some (.num i)
 | .str x=>some (.text x)
 | .tp _ xs=>(zqX xs).map .tup
 | .rol _=>none
 | .ref _=>none
 | .ty _=>none
 | .rod _ _=>none
def zqX:List D->Option (List NestedKey)
 | []=>some []
 | d :: ds=>(nkD d).bind fun k=>(zqX ds).map fun ks=>k :: ks
end
inductive KN (K:PySem.W.Frag) (H:Hp):List D->List (NestedKey×D)->List (NestedKey×Addr×V)->Prop
 | nil:KN K H [] [] []
 | cons {d e:D} {k:NestedKey} {b:Addr} {v:V} {ds:List D} {kvs:List (NestedKey×D)} {zs:List (NestedKey×Addr×V)}:nkD d=some k->k.depth≤8->DV K H d (.ref b)->DV K H e v->KN K H ds kvs zs->KN K H (d :: ds) ((k,e) :: kvs) ((k,b,v) :: zs)
theorem KN.le {K:PySem.W.Frag} {H H':Hp} {ds:List D} {kvs:List (NestedKey×D)} {zs:List (NestedKey×Addr×V)} (l:Le H H') (h:KN K H ds kvs zs):KN K H' ds kvs zs:=by
 induction h with
 | nil=>exact .nil
 | cons h1 h2 h3 h4 _ ih=>exact .cons h1 h2 (h3.le l) (h4.le l) ih
abbrev KZ:List (NestedKey×Addr×V)->List (NestedKey×Addr×Value)->Prop:=Paired fun p q=>p.1=q.1∧p.2.1=q.2.1∧RelV p.2.2 q.2.2
def dN (P:Program) (w:World) (a:Addr) (zs:List (NestedKey×Addr×V)):HO:=.ext fun h=>zs.length≤sizeLine∧(a == sysModules)=false∧∃ xs,KZ zs xs∧
 ∃ o es ep,h.get? a=some o∧o.ExactDict∧o.data = .dict es ep∧es.toList=xs.map (entryOfKey (nestedKind P w))∧(xs.map (·.1)).Nodup
def OOk (K:PySem.W.Frag) (P:Program) (w:World) (H:Hp) (a:Addr):O->Prop
 | .lst ds=>∃ vs,H a=some (.lst vs)∧DVs K H ds vs
 | .dic kvs=>∃ vs,H a=some (.dK vs)∧KVs K H kvs vs
 | .dit kvs=>∃ vs,H a=some (.dT vs)∧KVs K H kvs vs
 | .set f n=>H a=some (SetK P w a f n)
 | .ins C fs=>∃ dx vs,H a=some (.ins C dx vs)∧KVs K H fs vs
 | .din ks kvs=>∃ zs,H a=some (dN P w a zs)∧KN K H ks kvs zs
def Rp (K:PySem.W.Frag) (P:Program) (w:World) (S:Sto) (H:Hp):Prop:=∀ a o,S a=some o->OOk K P w H a o
structure zcz (K:PySem.W.Frag) (H:Hp) (env:Slo) (σ:L2.St):Prop where
 len:env.length=σ.length
 at_:∀ (i:Nat) (d:D),env[i]? = some (some d)->∃ v:V,σ[i]? = some (some v)∧DV K H d v
section
variable {K:PySem.W.Frag} {P:Program} {w:World} {S:Sto} {H H':Hp} {env:Slo} {σ:L2.St} {a:Addr} {o:O}
theorem OOk.some (h:OOk K P w H a o):∃ u,H a=some u∧Mut (some u):=by
 cases o with
 | lst=>obtain ⟨vs,e,_⟩:=h;exact ⟨_,e,trivial⟩
 | dic=>obtain ⟨vs,e,_⟩:=h;exact ⟨_,e,trivial⟩
 | dit=>obtain ⟨vs,e,_⟩:=h;exact ⟨_,e,trivial⟩
 | set=>exact ⟨_,h,trivial⟩
 | ins=>obtain ⟨dx,vs,e,_⟩:=h;exact ⟨_,e,trivial⟩
 | din=>obtain ⟨zs,e,_⟩:=h;exact ⟨_,e,trivial⟩
theorem OOk.at (h:OOk K P w H a o) (l:Le H H') (e:H' a=H a):OOk K P w H' a o:=by
 cases o with
 | lst=>obtain ⟨vs,q,z⟩:=h;exact ⟨vs,e.trans q,z.le l⟩
 | dic=>obtain ⟨vs,q,z⟩:=h;exact ⟨vs,e.trans q,z.le l⟩
 | dit=>obtain ⟨vs,q,z⟩:=h;exact ⟨vs,e.trans q,z.le l⟩
 | set=>exact e.trans h
 | ins=>obtain ⟨dx,vs,q,z⟩:=h;exact ⟨dx,vs,e.trans q,z.le l⟩
 | din=>obtain ⟨zs,q,z⟩:=h;exact ⟨zs,e.trans q,z.le l⟩
theorem Rp.free (r:Rp K P w S H) (h:H a=none):S a=none:=by
 cases e:S a with
 | none=>rfl
 | some o=>
  obtain ⟨u,q,_⟩:=(r a o e).some
  rw [h] at q;cases q
theorem Rp.new {u:HO} (r:Rp K P w S H) (h:H a=none) (n:OOk K P w (upd H a u) a o):Rp K P w (put S a o) (upd H a u):=fun b ob e=>by
 by_cases hb:b=a
 ·subst hb;rw [zai] at e;cases e;exact n
 ·rw [zaz hb] at e
  exact (r b ob e).at (Le.new h) (upd_ne hb)
theorem Rp.more {u:HO} (r:Rp K P w S H) (h:H a=none):Rp K P w S (upd H a u):=fun b ob e=>by
 obtain ⟨z,q,_⟩:=(r b ob e).some
 exact (r b ob e).at (Le.new h) (upd_ne (ne_of_none q h))
theorem Rp.wr {u:HO} (r:Rp K P w S H) (h:Mut (H a)) (n:OOk K P w (upd H a u) a o):Rp K P w (put S a o) (upd H a u):=fun b ob e=>by
 by_cases hb:b=a
 ·subst hb;rw [zai] at e;cases e;exact n
 ·rw [zaz hb] at e
  exact (r b ob e).at (Le.mut h) (upd_ne hb)
theorem zcz.le (r:zcz K H env σ) (l:Le H H'):zcz K H' env σ:=⟨r.len,fun i d e=>by
 obtain ⟨v,q,z⟩:=r.at_ i d e
 exact ⟨v,q,z.le l⟩⟩
theorem zcz.set {d:D} {v:V} (r:zcz K H env σ) (h:DV K H d v) (i:Nat):zcz K H (env.set i (some d)) (σ.set i (some v)):=⟨by simp [r.len],fun j e q=>by
 by_cases hj:j=i
 ·subst hj
  have hl:j < env.length:=by
   have:=(List.getElem?_eq_some_iff.mp q).1
   simpa using this
  rw [List.getElem?_set_self hl] at q
  cases q
  exact ⟨v,List.getElem?_set_self (by rw [← r.len];exact hl),h⟩
 ·rw [List.getElem?_set_ne (Ne.symm hj)] at q ⊢
  exact r.at_ j e q⟩
theorem zcz.unset (r:zcz K H env σ) (i:Nat):zcz K H (env.set i none) (σ.set i none):=⟨by simp [r.len],fun j e q=>by
 by_cases hj:j=i
 ·subst hj
  have hl:j < env.length:=by
   have:=(List.getElem?_eq_some_iff.mp q).1
   simpa using this
  rw [List.getElem?_set_self hl] at q
  cases q
 ·rw [List.getElem?_set_ne (Ne.symm hj)] at q ⊢
  exact r.at_ j e q⟩
end
abbrev EM:=Slo->Sto->DQ->Prop
abbrev TM:=Slo->Sto->(Bool->Sto->Prop)->Prop
abbrev AM:=Slo->Sto->(List D->Sto->Prop)->Prop
abbrev XW:=Value->List (Str×D)->Slo->Sto->Prop
abbrev SM:=Fin->Slo->Sto->Prop
section
variable (K:PySem.W.Frag) (P:Program) (w:World) (B:Hp)
def dnE (H:Hp) (Q:VK):DQ:=fun d S'=>∀ v H',Le H H'->Rp K P w S' H'->DV K H' d v->Q v H'
def up (m:EM):TE:=fun σ H Q=>Le B H∧∃ env S,zcz K H env σ∧Rp K P w S H∧m env S (dnE K P w H Q)
def upT (m:TM):TT:=fun σ H Q=>Le B H∧∃ env S,zcz K H env σ∧Rp K P w S H∧m env S fun b S'=>∀ H',Le H H'->Rp K P w S' H'->Q b H'
def upA (m:AM):TA:=fun σ H Q=>Le B H∧∃ env S,zcz K H env σ∧Rp K P w S H∧m env S fun ds S'=>∀ vs H',Le H H'->Rp K P w S' H'->DVs K H' ds vs->Q vs H'
def dnF (H:Hp) (D:Ends):Fin where
 nx:=fun env S'=>∀ σ H',Le H H'->zcz K H' env σ->Rp K P w S' H'->D.nx σ H'
 rt:=dnE K P w H D.rt
 bk:=fun env S'=>∀ σ H',Le H H'->zcz K H' env σ->Rp K P w S' H'->D.bk σ H'
 ct:=fun env S'=>∀ σ H',Le H H'->zcz K H' env σ->Rp K P w S' H'->D.ct σ H'
def upS (m:SM):TS:=fun D σ H=>Le B H∧∃ env S,zcz K H env σ∧Rp K P w S H∧m (dnF K P w H D) env S
def XdR (H:Hp) (d:Option Addr) (fs:List (Str×D)):Prop:=match d with
 | some a=>∃ vs,H a=some (.xd vs)∧KVs K H fs vs
 | none=>fs=[]
def upW (W:XW):WX:=fun cls d σ H=>Le B H∧∃ env S fs,zcz K H env σ∧Rp K P w S H∧XdR K H d fs∧W cls fs env S
end
def zci (m:EM):Prop:=∀ env S (Q Q':DQ),(∀ d S,Q d S->Q' d S)->m env S Q->m env S Q'
def zeU (m:TM):Prop:=∀ env S (Q Q':Bool->Sto->Prop),(∀ d S,Q d S->Q' d S)->m env S Q->m env S Q'
def zkS (m:AM):Prop:=∀ env S (Q Q':List D->Sto->Prop),(∀ d S,Q d S->Q' d S)->m env S Q->m env S Q'
structure zd5 (A B:Fin):Prop where
 nx:∀ e S,A.nx e S->B.nx e S
 rt:∀ d S,A.rt d S->B.rt d S
 bk:∀ e S,A.bk e S->B.bk e S
 ct:∀ e S,A.ct e S->B.ct e S
def zlW (m:SM):Prop:=∀ A B env S,zd5 A B->m A env S->m B env S
structure ME (X:Cx) (B:Hp) (e:Expr) (m:EM):Prop where
 pe:PE X e (up X.K X.prog X.w B m)
 mono:zci m
structure MT (X:Cx) (B:Hp) (e:Expr) (m:TM):Prop where
 pt:PT X e (upT X.K X.prog X.w B m)
 mono:zeU m
structure MA (X:Cx) (B:Hp) (es:List Expr) (m:AM):Prop where
 pa:PA X es (upA X.K X.prog X.w B m)
 mono:zkS m
structure MS (X:Cx) (B:Hp) (st:Stmt) (m:SM):Prop where
 ps:PS X st (upS X.K X.prog X.w B m)
 mono:zlW m
structure MSs (X:Cx) (B:Hp) (st:List Stmt) (m:SM):Prop where
 ps:PSs X st (upS X.K X.prog X.w B m)
 mono:zlW m
theorem zbl {X:Cx} {e:Expr} {t t':TE} (h:PE X e t) (i:∀ σ H Q,t' σ H Q->t σ H Q):PE X e t':=⟨fun pins s σ H Q I q=>h.run pins s σ H Q I (i σ H Q q)⟩
theorem zh6 {X:Cx} {e:Expr} {t t':TT} (h:PT X e t) (i:∀ σ H Q,t' σ H Q->t σ H Q):PT X e t':=⟨fun pins s σ H Q I q=>h.run pins s σ H Q I (i σ H Q q)⟩
theorem zmb {X:Cx} {e:Expr} {t t':TT} (h:PW X e t) (i:∀ σ H Q,t' σ H Q->t σ H Q):PW X e t':=⟨fun wh pins s σ H Q I q=>h.run wh pins s σ H Q I (i σ H Q q)⟩
theorem zme {X:Cx} {e:List Expr} {t t':TA} (h:PA X e t) (i:∀ σ H Q,t' σ H Q->t σ H Q):PA X e t':=⟨fun pos pins s σ H Q I q=>h.run pos pins s σ H Q I (i σ H Q q)⟩
theorem zcZ {X:Cx} {e:Stmt} {t t':TS} (h:PS X e t) (i:∀ D σ H,t' D σ H->t D σ H):PS X e t':=⟨fun pins s σ H D I q=>h.run pins s σ H D I (i D σ H q)⟩
theorem zj1 {X:Cx} {e:List Stmt} {t t':TS} (h:PSs X e t) (i:∀ D σ H,t' D σ H->t D σ H):PSs X e t':=⟨fun pins s σ H D I q=>h.run pins s σ H D I (i D σ H q)⟩
section
variable {K:PySem.W.Frag} {P:Program} {w:World} {H H':Hp}
theorem zdN {Q:VK} (l:Le H H'):∀ d S,dnE K P w H Q d S->dnE K P w H' Q d S:=fun _ _ h v H2 l2 r z=>h v H2 (l.trans l2) r z
theorem zkH {D:Ends} (l:Le H H'):zd5 (dnF K P w H D) (dnF K P w H' D):=
 ⟨fun _ _ h σ H2 l2 e r=>h σ H2 (l.trans l2) e r,zdN l,fun _ _ h σ H2 l2 e r=>h σ H2 (l.trans l2) e r,fun _ _ h σ H2 l2 e r=>h σ H2 (l.trans l2) e r⟩
theorem zd5.refl (A:Fin):zd5 A A:=⟨fun _ _ h=>h,fun _ _ h=>h,fun _ _ h=>h,fun _ _ h=>h⟩
end
section
variable {X:Cx} {B:Hp}
def zah (i:Nat):EM:=fun env S Q=>match env[i]? with
 | some (some d)=>Q d S
 | _=>False
theorem zab (i:Nat) {x:Str} {pos:Pos} (h:PE X (.Name x pos) (tVar i)):ME X B (.Name x pos) (zah i):=by
 refine ⟨zbl h fun σ H Q q=>?_,fun env S Q Q' i h=>?_⟩
 ·obtain ⟨_,env,S,r,z,q⟩:=q
  unfold zah at q
  split at q
  ·rename_i d e
   obtain ⟨v,e1,e2⟩:=r.at_ i d e
   exact ⟨v,e1,q v H (Le.refl H) z e2⟩
  ·exact q.elim
 ·unfold zah at h ⊢
  split at h
  ·exact i _ _ h
  ·exact h.elim
def mC (d:D):EM:=fun _ S Q=>Q d S
theorem zua (d:D):zci (mC d):=fun _ S Q Q' i h=>i _ _ h
theorem zn7 {e:Expr} {d:D} {v:V} (h:PE X e (tC v)) (hd:∀ H,DV X.K H d v):ME X B e (mC d):=by
 refine ⟨zbl h fun σ H Q q=>?_,zua d⟩
 obtain ⟨_,env,S,r,z,q⟩:=q
 exact q v H (Le.refl H) z (hd H)
theorem zaf {i j pos}:ME X B (.Constant (.int i) j pos) (mC (.int i)):=zn7 pe_int fun _=>.int i
theorem zaO {b j pos}:ME X B (.Constant (.bool b) j pos) (mC (.bl b)):=zn7 pe_bl fun _=>.bl b
theorem zec {j pos}:ME X B (.Constant .none j pos) (mC .non):=zn7 pe_non fun _=>.non
theorem zak {x j pos} (ok:OkS x:=by exact ⟨by decide +kernel,by decide +kernel⟩):ME X B (.Constant (.str x) j pos) (mC (.str x)):=zn7 pe_str fun _=>.str x ok
abbrev BM:=D->D->Sto->DQ->Prop
structure OpD (X:Cx) (f:Value->Value->Sem Value) (r:BM):Prop where
 op:OpR X f fun x y H Q=>∃ d e S,DV X.K H d x∧DV X.K H e y∧Rp X.K X.prog X.w S H∧r d e S (dnE X.K X.prog X.w H Q)
 mono:∀ d e S (Q Q':DQ),(∀ d S,Q d S->Q' d S)->r d e S Q->r d e S Q'
def mOp (r:BM) (ma mb:EM):EM:=fun env S Q=>ma env S fun x S1=>mb env S1 fun y S2=>r x y S2 Q
theorem zih {r:BM} {ma mb:EM} (hr:∀ d e S (Q Q':DQ),(∀ d S,Q d S->Q' d S)->r d e S Q->r d e S Q') (ha:zci ma) (hb:zci mb):zci (mOp r ma mb):=fun env S Q Q' i h=>
 ha env S _ _ (fun x S1 h1=>hb env S1 _ _ (fun y S2 h2=>hr x y S2 _ _ i h2) h1) h
variable {a b:Expr} {ma mb:EM} {pos:Pos}
theorem ziL {K:PySem.W.Frag} {P:Program} {w:World} {r:BM} {R:R2} (ha:zci ma) (hb:zci mb) (hR:∀ x y H Q d e S,DV K H d x->DV K H e y->Rp K P w S H->r d e S (dnE K P w H Q)->R x y H Q)
  (hr:∀ d e S (Q Q':DQ),(∀ d S,Q d S->Q' d S)->r d e S Q->r d e S Q') {σ:L2.St} {H:Hp} {Q:VK} (h:up K P w B (mOp r ma mb) σ H Q):tOp R (up K P w B ma) (up K P w B mb) σ H Q:=by
 obtain ⟨lB,env,S,r0,z0,h⟩:=h
 refine ⟨lB,env,S,r0,z0,ha env S _ _ (fun x S1 h1 v H1 l1 z1 d1=>?_) h⟩
 refine ⟨lB.trans l1,env,S1,r0.le l1,z1,hb env S1 _ _ (fun y S2 h2 u H2 l2 z2 d2=>?_) h1⟩
 exact hR v u H2 Q x y S2 (d1.le l2) d2 z2 (hr _ _ _ _ _ (zdN (l1.trans l2)) h2)
theorem zaF {op:Operator} {r:BM} (ho:OpD X (binaryOp op) r) (ha:ME X B a ma) (hb:ME X B b mb):ME X B (.BinOp a op b pos) (mOp r ma mb):=
 ⟨zbl (pe_op ho.op ha.pe hb.pe) fun _ _ _ h=>ziL ha.mono hb.mono (fun _ _ _ _ d e S h1 h2 h3 h4=>⟨d,e,S,h1,h2,h3,h4⟩) ho.mono h,zih ho.mono ha.mono hb.mono⟩
theorem zb0 {op:CmpOp} {r:BM} (ho:OpD X (compareOp op) r) (ha:ME X B a ma) (hb:ME X B b mb) (hm:behindInMarks op b=false:=by first | exact nomark _ | rfl):ME X B (.Compare a [op] [b] pos) (mOp r ma mb):=
 ⟨zbl (pe_cmpR ho.op ha.pe hb.pe hm) fun _ _ _ h=>ziL ha.mono hb.mono (fun _ _ _ _ d e S h1 h2 h3 h4=>⟨d,e,S,h1,h2,h3,h4⟩) ho.mono h,zih ho.mono ha.mono hb.mono⟩
def mB (m:EM):TM:=fun env S Q=>m env S fun d S1=>match d with
 | .bl b=>Q b S1
 | _=>False
theorem znZ {m:EM} (h:zci m):zeU (mB m):=fun env S Q Q' i q=>h env S _ _ (fun d S1 z=>by
 cases d <;> first | exact i _ _ z | exact z.elim) q
theorem zat {op:CmpOp} {r:BM} (ho:OpD X (compareOp op) r) (ha:ME X B a ma) (hb:ME X B b mb) (hm:behindInMarks op b=false:=by first | exact nomark _ | rfl):MT X B (.Compare a [op] [b] pos) (mB (mOp r ma mb)):=by
 refine ⟨zh6 (pt_cmpR ho.op ha.pe hb.pe hm) fun σ H Q h=>?_,znZ (zih ho.mono ha.mono hb.mono)⟩
 obtain ⟨lB,env,S,r0,z0,h⟩:=h
 refine ziL (r:=r) ha.mono hb.mono (fun _ _ _ _ d e S h1 h2 h3 h4=>⟨d,e,S,h1,h2,h3,h4⟩) ho.mono ⟨lB,env,S,r0,z0,?_⟩
 refine zih ho.mono ha.mono hb.mono env S _ _ (fun d S1 q v H' l r d1=>?_) h
 cases d1 <;> first | exact ⟨_,rfl,q H' l r⟩ | exact q.elim
end
section
variable {X:Cx}
theorem opd {f:Value->Value->Sem Value} {r:BM} (R:R2) (h:OpR X f R) (hR:∀ x y H Q d e S,DV X.K H d x->DV X.K H e y->Rp X.K X.prog X.w S H->r d e S (dnE X.K X.prog X.w H Q)->R x y H Q)
  (mono:∀ d e S (Q Q':DQ),(∀ d S,Q d S->Q' d S)->r d e S Q->r d e S Q'):OpD X f r:=⟨fun pins s σ H x y v u Q I rx ry q=>by
 obtain ⟨d,e,S,h1,h2,h3,h4⟩:=q
 exact h pins s σ H x y v u Q I rx ry (hR x y H Q d e S h1 h2 h3 h4),mono⟩
theorem zaC {K:PySem.W.Frag} {P:Program} {w:World} {H:Hp} {Q:VK} {S:Sto} {d:D} {v:V} (h:dnE K P w H Q d S) (r:Rp K P w S H) (z:DV K H d v):Q v H:=h v H (Le.refl H) r z
theorem zfS {K:PySem.W.Frag} {P:Program} {w:World} {H:Hp} {Q:VK} {S:Sto} {ds:List D} {vs:List V} (h:∀ p,S p=none->dnE K P w H Q (.ref p) (put S p (.lst ds))) (r:Rp K P w S H) (z:DVs K H ds vs):∀ p,H p=none->Q (.ref p) (upd H p (.lst vs)):=fun p hp=>
 h p (r.free hp) _ _ (Le.new hp) (r.new hp ⟨vs,upd_same,z.le (Le.new hp)⟩) (.ref p)
theorem zgS {K:PySem.W.Frag} {P:Program} {w:World} {H:Hp} {Q:VK} {S:Sto} {ds:List D} {vs:List V} (h:dnE K P w H Q (.tup ds) S) (r:Rp K P w S H) (z:DVs K H ds vs):∀ p,H p=none->Q (.ref p) (upd H p (.tup vs)):=fun p hp=>
 h _ _ (Le.new hp) (r.more hp) (.tup (.inl (.inl upd_same)) (z.le (Le.new hp)) upd_same)
theorem OkS.append {a b:Str} (h:OkS a) (h':OkS b) (hl:a.length+b.length≤sizeLine):OkS (a++b):=by
 refine ⟨?_,?_⟩
 ·have h1:=h.1
  have h2:=h'.1
  unfold PyData.strOk at *
  show ((a.cps++b.cps).all _)=true
  rw [Array.all_append]
  rw [h1,h2]
  rfl
 ·show (a.cps++b.cps).size≤sizeLine
  rw [Array.size_append]
  exact hl
def zb6:BM:=fun d e S Q=>match d,e with
 | .int i,.int j=>Q (.int (i+j)) S
 | .str i,.str j=>i.length+j.length≤sizeLine∧Q (.str (i++j)) S
 | .tp f xs,.tp f' ys=>(f || f')=false∧xs.length+ys.length≤sizeLine∧Q (.tup (xs++ys)) S
 | .ref a,.ref b=>match S a,S b with
  | some (.lst xs),some (.lst ys)=>xs.length+ys.length≤sizeLine∧∀ p,S p=none->Q (.ref p) (put S p (.lst (xs++ys)))
  | _,_=>False
 | _,_=>False
theorem znY:∀ d e S (Q Q':DQ),(∀ d S,Q d S->Q' d S)->zb6 d e S Q->zb6 d e S Q':=by
 intro d e S Q Q' i h
 cases d <;> cases e <;> first | exact h.elim | exact i _ _ h | exact ⟨h.1,i _ _ h.2⟩ | exact ⟨h.1,h.2.1,i _ _ h.2.2⟩ | skip
 rename_i a b
 unfold zb6 at h ⊢
 dsimp only at h ⊢
 split at h
 ·exact ⟨h.1,fun p hp=>i _ _ (h.2 p hp)⟩
 ·exact h.elim
theorem zaK:OpD X (binaryOp .Add) zb6:=by
 refine opd _ ((op_add.or op_add_str).or (op_catA.or op_cat)) (fun x y H Q d e S h1 h2 r h=>?_) znY
 cases h1 <;> cases h2 <;> first | exact h.elim | skip
 ·exact .inl (.inl ⟨_,_,rfl,rfl,zaC h r (.int _)⟩)
 ·rename_i i o1 j o2
  exact .inl (.inr ⟨_,_,rfl,rfl,h.1,zaC h.2 r (.str _ (o1.append o2 h.1))⟩)
 ·rename_i a vs ds f1 s1 z1 t1 b us es f2 s2 z2 t2
  obtain ⟨hf,h⟩:=h
  obtain ⟨rfl,rfl⟩:=Bool.or_eq_false_iff.mp hf
  have hl:vs.length+us.length≤sizeLine:=by rw [← z1.length,← z2.length];exact h.1
  refine .inr (.inl ⟨_,_,vs,us,rfl,rfl,s1,s2,hl,fun e=>?_,fun _ e=>?_,fun _ _=>zgS h.2 r (z1.append z2)⟩)
  ·subst e
   cases z1
   exact zaC h.2 r (.tup s2 z2 t2)
  ·subst e
   cases z2
   exact zaC h.2 r (by rw [List.append_nil];exact .tup s1 z1 t1)
 ·rename_i a b
  unfold zb6 at h
  dsimp only at h
  split at h
  ·rename_i xs ys e1 e2
   obtain ⟨vs,q1,z1⟩:=r _ _ e1
   obtain ⟨us,q2,z2⟩:=r _ _ e2
   refine .inr (.inr ⟨_,_,vs,us,rfl,rfl,q1,q2,by rw [← z1.length,← z2.length];exact h.1,zfS h.2 r (z1.append z2)⟩)
  ·exact h.elim
def vI (C:Int->Int->Prop) (g:Int->Int->D):BM:=fun d e S Q=>match d,e with
 | .int i,.int j=>C i j∧Q (g i j) S
 | _,_=>False
theorem zt9 {C:Int->Int->Prop} {g:Int->Int->D}:∀ d e S (Q Q':DQ),(∀ d S,Q d S->Q' d S)->vI C g d e S Q->vI C g d e S Q':=by
 intro d e S Q Q' i h
 cases d <;> cases e <;> first | exact h.elim | exact ⟨h.1,i _ _ h.2⟩
def vI0 (g:Int->Int->D):BM:=fun d e S Q=>match d,e with
 | .int i,.int j=>Q (g i j) S
 | _,_=>False
theorem zq4 {g:Int->Int->D}:∀ d e S (Q Q':DQ),(∀ d S,Q d S->Q' d S)->vI0 g d e S Q->vI0 g d e S Q':=by
 intro d e S Q Q' i h
 cases d <;> cases e <;> first | exact h.elim | exact i _ _ h
theorem zt5 {f:Value->Value->Sem Value} {C:Int->Int->Prop} {g:Int->Int->Int} (h:OpR X f (rI C fun i j=>.int (g i j))):OpD X f (vI C fun i j=>.int (g i j)):=by
 refine opd _ h (fun x y H Q d e S h1 h2 r h=>?_) zt9
 cases h1 <;> cases h2 <;> first | exact h.elim | exact ⟨_,_,rfl,rfl,h.1,zaC h.2 r (.int _)⟩
theorem zf6:OpD X (binaryOp .Sub) (vI0 fun i j=>.int (i - j)):=by
 refine opd _ op_sub (fun x y H Q d e S h1 h2 r h=>?_) zq4
 cases h1 <;> cases h2 <;> first | exact h.elim | exact ⟨_,_,rfl,rfl,zaC h r (.int _)⟩
theorem zf7:OpD X (binaryOp .Mod) (vI (fun _ j=>0 < j) fun i j=>.int (i % j)):=zt5 op_mod
theorem ze8:OpD X (binaryOp .FloorDiv) (vI CDivW fun i j=>.int (i / j)):=zt5 op_fdivW
theorem zke:OpD X (binaryOp .Pow) (vI CPow fun i j=>.int (i ^ j.toNat)):=zt5 op_pow
def zjq:BM:=fun d e S Q=>match d,e with
 | .int i,.int j=>CMul i j∧Q (.int (i * j)) S
 | .ref a,.int k=>match S a with
  | some (.lst xs)=>-(2 ^ 63)≤k∧k < 2 ^ 63∧xs.length * k.toNat≤sizeLine∧∀ p,S p=none->Q (.ref p) (put S p (.lst (List.replicate k.toNat xs).flatten))
  | _=>False
 | _,_=>False
theorem znS:∀ d e S (Q Q':DQ),(∀ d S,Q d S->Q' d S)->zjq d e S Q->zjq d e S Q':=by
 intro d e S Q Q' i h
 cases d <;> cases e <;> first | exact h.elim | exact ⟨h.1,i _ _ h.2⟩ | skip
 unfold zjq at h ⊢
 dsimp only at h ⊢
 split at h
 ·exact ⟨h.1,h.2.1,h.2.2.1,fun p hp=>i _ _ (h.2.2.2 p hp)⟩
 ·exact h.elim
theorem DVs.rep {K:PySem.W.Frag} {H:Hp} {ds:List D} {vs:List V} (h:DVs K H ds vs):∀ n:Nat,DVs K H (List.replicate n ds).flatten (List.replicate n vs).flatten
 | 0=>.nil
 | n+1=>by
  rw [List.replicate_succ,List.replicate_succ,List.flatten_cons,List.flatten_cons]
  exact h.append (DVs.rep h n)
theorem zhe:OpD X (binaryOp .Mult) zjq:=by
 refine opd _ (op_mul.or op_rep) (fun x y H Q d e S h1 h2 r h=>?_) znS
 cases h1 <;> cases h2 <;> first | exact h.elim | skip
 ·exact .inl ⟨_,_,rfl,rfl,h.1,zaC h.2 r (.int _)⟩
 ·unfold zjq at h
  dsimp only at h
  split at h
  ·rename_i xs e1
   obtain ⟨vs,q1,z1⟩:=r _ _ e1
   exact .inr ⟨_,_,vs,rfl,rfl,q1,h.1,h.2.1,by rw [← z1.length];exact h.2.2.1,zfS h.2.2.2 r (z1.rep _)⟩
  ·exact h.elim
def zmP (pi:Int->Int->Bool) (ps:List Nat->List Nat->Bool):BM:=fun d e S Q=>match d,e with
 | .int i,.int j=>Q (.bl (pi i j)) S
 | .str i,.str j=>Q (.bl (ps i.cps.toList j.cps.toList)) S
 | _,_=>False
theorem znR {pi:Int->Int->Bool} {ps:List Nat->List Nat->Bool}:∀ d e S (Q Q':DQ),(∀ d S,Q d S->Q' d S)->zmP pi ps d e S Q->zmP pi ps d e S Q':=by
 intro d e S Q Q' i h
 cases d <;> cases e <;> first | exact h.elim | exact i _ _ h
theorem ziY {f:Value->Value->Sem Value} {pi:Int->Int->Bool} {ps:List Nat->List Nat->Bool} (h1:OpR X f (rI0 fun i j=>.bl (pi i j))) (h2:OpR X f (fun x y H Q=>∃ i j,x = .str i∧y = .str j∧Q (.bl (ps i.cps.toList j.cps.toList)) H)):OpD X f (zmP pi ps):=by
 refine opd _ (h1.or h2) (fun x y H Q d e S h1 h2 r h=>?_) znR
 cases h1 <;> cases h2 <;> first | exact h.elim | exact .inl ⟨_,_,rfl,rfl,zaC h r (.bl _)⟩ | exact .inr ⟨_,_,rfl,rfl,zaC h r (.bl _)⟩
abbrev vLt:BM:=zmP (fun i j=>decide (i < j)) fun a b=>decide (a < b)
abbrev vLe:BM:=zmP (fun i j=>decide (i≤j)) fun a b=>!decide (b < a)
abbrev vGt:BM:=zmP (fun i j=>decide (j < i)) fun a b=>decide (b < a)
abbrev vGe:BM:=zmP (fun i j=>decide (j≤i)) fun a b=>!decide (a < b)
theorem zhI:OpD X (compareOp .Lt) vLt:=ziY op_lt op_lt_str
theorem zjB:OpD X (compareOp .LtE) vLe:=ziY op_le op_le_str
theorem ziC:OpD X (compareOp .Gt) vGt:=ziY op_gt op_gt_str
theorem zli:OpD X (compareOp .GtE) vGe:=ziY op_ge op_ge_str
def rs (S:Sto):Nat->D->Option PyData
 | _,.non=>some .none
 | _,.bl b=>some (.bool b)
 | _,.int i=>some (.int i)
 | _,.str x=>some (.str x)
 | n+1,.tp _ ds=>(ds.mapM (rs S n)).map .tuple
 | n+1,.rol ds=>(ds.mapM (rs S n)).map .list
 | n+1,.ref a=>match S a with
  | some (.lst ds)=>(ds.mapM (rs S n)).map .list
  | _=>none
 | _,_=>none
theorem zg6 {α β:Type} {f:α->Option β} {x:α} {xs:List α} {ys:List β} (h:(x :: xs).mapM f=some ys):∃ y r,f x=some y∧xs.mapM f=some r∧ys=y :: r:=by
 rw [List.mapM_cons] at h
 cases e:f x with
 | none=>rw [e] at h;cases h
 | some y=>
  rw [e] at h
  cases e2:xs.mapM f with
  | none=>rw [e2] at h;cases h
  | some r=>
   rw [e2] at h
   exact ⟨y,r,rfl,rfl,(Option.some.inj h).symm⟩
section
variable {K:PySem.W.Frag} {P:Program} {w:World} {S:Sto} {H:Hp}
def zwU (K:PySem.W.Frag) (H:Hp) (S:Sto) (n:Nat):Prop:=∀ d v p,DV K H d v->rs S n d=some p->Dp K H v p∧p.canLay0=true∧p.depth≤n
theorem ziU {n:Nat} (ih:zwU K H S n):∀ (ds:List D) (vs:List V) (ps:List PyData),DVs K H ds vs->ds.mapM (rs S n)=some ps->DpAll K H vs ps∧PyData.canLayAll0 ps=true∧PyData.depthAll ps≤n
 | [],vs,ps,h,e=>by
  cases h
  rw [List.mapM_nil] at e
  cases e
  exact ⟨.nil,rfl,Nat.zero_le _⟩
 | d :: ds,_,ps,h,e=>by
  cases h with
  | cons h1 h2=>
   obtain ⟨y,r,e1,e2,rfl⟩:=zg6 e
   obtain ⟨a1,a2,a3⟩:=ih d _ y h1 e1
   obtain ⟨b1,b2,b3⟩:=ziU ih ds _ r h2 e2
   refine ⟨.cons a1 b1,?_,?_⟩
   ·show (y.canLay0 && PyData.canLayAll0 r)=true
    rw [a2,b2]
    rfl
   ·show max y.depth (PyData.depthAll r)≤n
    exact Nat.max_le.mpr ⟨a3,b3⟩
theorem zgK {α β:Type} {f:α->β} {o:Option α} {y:β} (h:o.map f=some y):∃ x,o=some x∧y=f x:=by
 cases o with
 | none=>cases h
 | some x=>exact ⟨x,rfl,(Option.some.inj h).symm⟩
theorem ztX (r:Rp K P w S H):∀ n,zwU K H S n:=by
 intro n
 induction n with
 | zero=>
  intro d v p h e
  cases h <;> first | (cases e;done) | skip
  ·cases e;exact ⟨.non,rfl,Nat.zero_le _⟩
  ·cases e;exact ⟨.bl _,rfl,Nat.zero_le _⟩
  ·cases e;exact ⟨.int _,rfl,Nat.zero_le _⟩
  ·rename_i x ok
   cases e;exact ⟨.str _,ok.1,Nat.zero_le _⟩
 | succ n ih=>
  intro d v p h e
  cases h with
  | non=>cases e;exact ⟨.non,rfl,Nat.zero_le _⟩
  | bl b=>cases e;exact ⟨.bl _,rfl,Nat.zero_le _⟩
  | int i=>cases e;exact ⟨.int _,rfl,Nat.zero_le _⟩
  | str x ok=>cases e;exact ⟨.str _,ok.1,Nat.zero_le _⟩
  | ty=>cases e
  | rod=>cases e
  | tup s z=>
   obtain ⟨ps,e1,rfl⟩:=zgK (show (List.mapM (rs S n) _).map PyData.tuple=some p from e)
   obtain ⟨a1,a2,a3⟩:=ziU ih _ _ ps z e1
   exact ⟨.tup s a1,a2,Nat.succ_le_succ a3⟩
  | rol s z=>
   obtain ⟨ps,e1,rfl⟩:=zgK (show (List.mapM (rs S n) _).map PyData.list=some p from e)
   obtain ⟨a1,a2,a3⟩:=ziU ih _ _ ps z e1
   exact ⟨.lst s.sq a1,a2,Nat.succ_le_succ a3⟩
  | ref a=>
   unfold rs at e
   split at e
   ·rename_i ds e0
    obtain ⟨vs,q,z⟩:=r _ _ e0
    obtain ⟨ps,e1,rfl⟩:=zgK e
    obtain ⟨a1,a2,a3⟩:=ziU ih _ _ ps z e1
    exact ⟨.lst (SqL.of q) a1,a2,Nat.succ_le_succ a3⟩
   ·cases e
theorem zcc (r:Rp K P w S H) {d:D} {v:V} {p:PyData} (h:DV K H d v) (e:rs S 40 d=some p):Dp K H v p∧SeqAt.shaped p=true:=by
 obtain ⟨a,b,c⟩:=ztX r 40 d v p h e
 refine ⟨a,?_⟩
 show (p.canLay0 && decide (p.depth≤64))=true
 rw [b,decide_eq_true (Nat.le_trans c (by decide))]
 rfl
end
def zg8 (g:Bool->Bool):BM:=fun d e S Q=>match d,e with
 | .str x,.str y=>Q (.bl (g (decide (x=y)))) S
 | .int x,.int y=>Q (.bl (g (decide (x=y)))) S
 | .bl x,.bl y=>Q (.bl (g (decide (x=y)))) S
 | d,e=>match rs S 40 d,rs S 40 e with
  | some p,some q=>Q (.bl (g (PyData.eqv p q))) S
  | _,_=>False
theorem znX {g:Bool->Bool}:∀ d e S (Q Q':DQ),(∀ d S,Q d S->Q' d S)->zg8 g d e S Q->zg8 g d e S Q':=by
 intro d e S Q Q' i h
 unfold zg8 at h ⊢
 split at h
 ·exact i _ _ h
 ·exact i _ _ h
 ·exact i _ _ h
 ·split at h
  ·exact i _ _ h
  ·exact h.elim
abbrev vEq:BM:=zg8 fun b=>b
abbrev vNe:BM:=zg8 fun b=>!b
theorem zfb (x y:Str):decide (x=y)=PyData.eqv (.str x) (.str y):=by
 show decide (x=y)=(x == y)
 rfl
theorem zmi {f:Value->Value->Sem Value} {g:Bool->Bool} (h1:OpR X f (fun x y H Q=>scal x y=true∧Q (.bl (g (decide (x=y)))) H))
  (h2:OpR X f (fun x y H Q=>∃ d e,Dp X.K H x d∧Dp X.K H y e∧SeqAt.shaped d=true∧SeqAt.shaped e=true∧Q (.bl (g (PyData.eqv d e))) H)):OpD X f (zg8 g):=by
 refine opd _ (h1.or h2) (fun x y H Q d e S h1 h2 r h=>?_) znX
 unfold zg8 at h
 split at h
 ·rename_i a b
  cases h1;cases h2
  refine .inl ⟨rfl,?_⟩
  have:decide (V.str a=V.str b)=decide (a=b):=by
   by_cases q:a=b
   ·subst q;simp
   ·rw [decide_eq_false q,decide_eq_false (fun z=>q (V.str.inj z))]
  rw [this]
  exact zaC h r (.bl _)
 ·rename_i a b
  cases h1;cases h2
  refine .inl ⟨rfl,?_⟩
  have:decide (V.int a=V.int b)=decide (a=b):=by
   by_cases q:a=b
   ·subst q;simp
   ·rw [decide_eq_false q,decide_eq_false (fun z=>q (V.int.inj z))]
  rw [this]
  exact zaC h r (.bl _)
 ·rename_i a b
  cases h1;cases h2
  refine .inl ⟨rfl,?_⟩
  have:decide (V.bl a=V.bl b)=decide (a=b):=by
   by_cases q:a=b
   ·subst q;simp
   ·rw [decide_eq_false q,decide_eq_false (fun z=>q (V.bl.inj z))]
  rw [this]
  exact zaC h r (.bl _)
 ·split at h
  ·rename_i p q e1 e2
   obtain ⟨a1,a2⟩:=zcc r h1 e1
   obtain ⟨b1,b2⟩:=zcc r h2 e2
   exact .inr ⟨p,q,a1,b1,a2,b2,zaC h r (.bl _)⟩
  ·exact h.elim
theorem zbh (hu:X.A.units+64 < cLine):OpD X (compareOp .Eq) vEq:=zmi op_eq (op_eqD hu)
theorem zei (hu:X.A.units+64 < cLine):OpD X (compareOp .NotEq) vNe:=zmi op_ne (op_neD hu)
def zl0 (g:Bool->Bool):BM:=fun d e S Q=>match d,e with
 | .non,.non=>Q (.bl (g true)) S
 | .bl x,.bl y=>Q (.bl (g (decide (x=y)))) S
 | _,.non=>Q (.bl (g false)) S
 | _,_=>False
theorem znV {g:Bool->Bool}:∀ d e S (Q Q':DQ),(∀ d S,Q d S->Q' d S)->zl0 g d e S Q->zl0 g d e S Q':=by
 intro d e S Q Q' i h
 cases d <;> cases e <;> first | exact h.elim | exact i _ _ h
abbrev vIs:BM:=zl0 fun b=>b
abbrev zg7:BM:=zl0 fun b=>!b
theorem zmg {f:Value->Value->Sem Value} {g:Bool->Bool} (h1:OpR X f (fun x y H Q=>y = .non∧Q (.bl (g (decide (x = .non)))) H))
  (h2:OpR X f (fun x y H Q=>∃ a b:Bool,x = .bl a∧y = .bl b∧Q (.bl (g (decide (a=b)))) H)):OpD X f (zl0 g):=by
 refine opd _ (h1.or h2) (fun x y H Q d e S h1 h2 r h=>?_) znV
 cases h2 <;> cases h1 <;> first | exact h.elim | exact .inl ⟨rfl,zaC h r (.bl _)⟩ | exact .inr ⟨_,_,rfl,rfl,zaC h r (.bl _)⟩
theorem zt4:OpD X (compareOp .Is) vIs:=zmg op_isN op_isBl
theorem zfy:OpD X (compareOp .IsNot) zg7:=zmg op_notN op_notBl
end
section
variable {X:Cx} {B:Hp}
def zo9 (S:Sto):D->Option Bool
 | .non=>some false
 | .bl b=>some b
 | .int i=>some (i != 0)
 | .str x=>some ((x.length:Int) != 0)
 | .tp _ xs=>some (!xs.isEmpty)
 | .rol xs=>some (!xs.isEmpty)
 | .ref a=>match S a with
  | some (.lst xs)=>some (!xs.isEmpty)
  | some (.dic xs)=>some (!xs.isEmpty)
  | _=>none
 | .ty _=>none
 | .rod _ _=>none
theorem zo8 {K:PySem.W.Frag} {P:Program} {w:World} {H:Hp} {S:Sto} {d:D} {v:V} {b:Bool} (h:DV K H d v) (r:Rp K P w S H) (e:zo9 S d=some b):TruV K v H b:=by
 cases h with
 | non=>cases e;rfl
 | bl=>cases e;rfl
 | int=>cases e;rfl
 | str x ok=>cases e;exact ⟨ok.2,rfl⟩
 | ty=>cases e
 | rod=>cases e
 | tup s z=>
  cases e
  refine .inr (.inl ⟨_,s,?_⟩)
  cases z <;> rfl
 | rol s z=>
  cases e
  refine .inl ⟨_,s.sq,?_⟩
  cases z <;> rfl
 | ref a=>
  simp only [zo9] at e
  split at e
  ·rename_i xs e0
   obtain ⟨vs,q,z⟩:=r _ _ e0
   cases e
   refine .inl ⟨_,SqL.of q,?_⟩
   cases z <;> rfl
  ·rename_i xs e0
   obtain ⟨vs,q,z⟩:=r _ _ e0
   cases e
   refine .inr (.inr ⟨_,q,?_⟩)
   cases z <;> rfl
  ·cases e
def zct (m:EM):TM:=fun env S Q=>m env S fun d S1=>match zo9 S1 d with
 | some b=>Q b S1
 | none=>False
theorem znO {m:EM} (h:zci m):zeU (zct m):=fun env S Q Q' i q=>h env S _ _ (fun d S1 z=>by
 split at z
 ·exact i _ _ z
 ·exact z.elim) q
theorem zaJ {a:Expr} {m:EM} (h:ME X B a m) (he:∀ whole,isTrue a X.env whole=(do let v ← whole;standAt a.pos;holding [v] (truthy v)):=by intro _;rfl):MT X B a (zct m):=by
 refine ⟨zh6 (pt_truth h.pe he) fun σ H Q q=>?_,znO h.mono⟩
 obtain ⟨lB,env,S,r0,z0,q⟩:=q
 refine ⟨lB,env,S,r0,z0,h.mono env S _ _ (fun d S1 q v H1 l1 z1 d1=>?_) q⟩
 dsimp only at q
 split at q
 ·rename_i b e
  exact ⟨b,zo8 d1 z1 e,q H1 l1 z1⟩
 ·exact q.elim
def zhX (t u:TM):TM:=fun env S Q=>t env S fun c S1=>match c with
 | true=>u env S1 Q
 | false=>Q false S1
def mOr (t u:TM):TM:=fun env S Q=>t env S fun c S1=>match c with
 | true=>Q true S1
 | false=>u env S1 Q
def zcL (t:TM):TM:=fun env S Q=>t env S fun c S1=>Q (!c) S1
structure MW (X:Cx) (B:Hp) (e:Expr) (m:TM):Prop where
 pw:PW X e (upT X.K X.prog X.w B m)
 mono:zeU m
theorem MW.mt {e:Expr} {m:TM} (h:MW X B e m):MT X B e m:=⟨h.pw.pt,h.mono⟩
variable {a b:Expr} {rest:List Expr} {t u:TM} {pos:Pos}
theorem zc2 (h:MT X B a t):MW X B (.BoolOp .And [a] pos) t:=⟨pw_and1 h.pt,h.mono⟩
theorem zbn (h:MT X B a t):MW X B (.BoolOp .Or [a] pos) t:=⟨pw_or1 h.pt,h.mono⟩
theorem zd9 (h:MT X B a t) (h2:MW X B (.BoolOp .And (b :: rest) pos) u):MW X B (.BoolOp .And (a :: b :: rest) pos) (zhX t u):=by
 refine ⟨zmb (pw_and h.pt h2.pw) fun σ H Q q=>?_,fun env S Q Q' i q=>h.mono env S _ _ (fun c S1 z=>?_) q⟩
 ·obtain ⟨lB,env,S,r0,z0,q⟩:=q
  refine ⟨lB,env,S,r0,z0,h.mono env S _ _ (fun c S1 q H1 l1 z1=>?_) q⟩
  cases c with
  | true=>
   show upT X.K X.prog X.w B u σ H1 Q
   exact ⟨lB.trans l1,env,S1,r0.le l1,z1,h2.mono env S1 _ _ (fun b S2 q H2 l2 z2=>q H2 (l1.trans l2) z2) q⟩
  | false=>exact q H1 l1 z1
 ·cases c with
  | true=>exact h2.mono env S1 _ _ i z
  | false=>exact i _ _ z
theorem zbN (h:MT X B a t) (h2:MW X B (.BoolOp .Or (b :: rest) pos) u):MW X B (.BoolOp .Or (a :: b :: rest) pos) (mOr t u):=by
 refine ⟨zmb (pw_or h.pt h2.pw) fun σ H Q q=>?_,fun env S Q Q' i q=>h.mono env S _ _ (fun c S1 z=>?_) q⟩
 ·obtain ⟨lB,env,S,r0,z0,q⟩:=q
  refine ⟨lB,env,S,r0,z0,h.mono env S _ _ (fun c S1 q H1 l1 z1=>?_) q⟩
  cases c with
  | false=>
   show upT X.K X.prog X.w B u σ H1 Q
   exact ⟨lB.trans l1,env,S1,r0.le l1,z1,h2.mono env S1 _ _ (fun b S2 q H2 l2 z2=>q H2 (l1.trans l2) z2) q⟩
  | true=>exact q H1 l1 z1
 ·cases c with
  | false=>exact h2.mono env S1 _ _ i z
  | true=>exact i _ _ z
theorem zaL (h:MT X B a t):MT X B (.UnaryOp .Not a pos) (zcL t):=by
 refine ⟨zh6 (pt_not h.pt) fun σ H Q q=>?_,fun env S Q Q' i q=>h.mono env S _ _ (fun c S1 z=>i _ _ z) q⟩
 exact q
variable {ma mb:EM}
def kB (k:Bool->Sto->Prop):D->Sto->Prop:=fun d S=>match d with
 | .bl b=>k b S
 | _=>False
def zeG (ma mb:EM):EM:=fun env S Q=>ma env S (kB fun c S1=>match c with
 | true=>mb env S1 Q
 | false=>Q (.bl false) S1)
def zvr (ma mb:EM):EM:=fun env S Q=>ma env S (kB fun c S1=>match c with
 | true=>Q (.bl true) S1
 | false=>mb env S1 Q)
def zrb (ma:EM):EM:=fun env S Q=>ma env S (kB fun c S1=>Q (.bl (!c)) S1)
theorem zky {k k':Bool->Sto->Prop} (h:∀ b S,k b S->k' b S):∀ d S,kB k d S->kB k' d S:=fun d S q=>by
 cases d <;> first | exact h _ _ q | exact (show False from q).elim
theorem zrF {k:Bool->Sto->Prop} {K:PySem.W.Frag} {H:Hp} {d:D} {v:V} {S:Sto} (q:kB k d S) (z:DV K H d v):∃ c,v = .bl c∧k c S:=by
 cases z <;> first | exact ⟨_,rfl,q⟩ | exact (show False from q).elim
theorem zeE {op} {m:EM} (h:ME X B a m):ME X B (.BoolOp op [a] pos) m:=⟨pe_one h.pe,h.mono⟩
theorem zdy (h:ME X B a ma) (h2:ME X B (.BoolOp .And (b :: rest) pos) mb):ME X B (.BoolOp .And (a :: b :: rest) pos) (zeG ma mb):=by
 refine ⟨zbl (pe_and h.pe h2.pe) fun σ H Q q=>?_,fun env S Q Q' i q=>h.mono env S _ _ (zky fun c S1 z=>?_) q⟩
 ·obtain ⟨lB,env,S,r0,z0,q⟩:=q
  refine ⟨lB,env,S,r0,z0,h.mono env S _ _ (fun d S1 q v H1 l1 z1 d1=>?_) q⟩
  obtain ⟨c,rfl,q⟩:=zrF q d1
  refine ⟨c,rfl,?_⟩
  cases c with
  | true=>
   show up X.K X.prog X.w B mb σ H1 Q
   exact ⟨lB.trans l1,env,S1,r0.le l1,z1,h2.mono env S1 _ _ (zdN l1) q⟩
  | false=>exact q _ H1 l1 z1 (.bl _)
 ·cases c with
  | true=>exact h2.mono env S1 _ _ i z
  | false=>exact i _ _ z
def zr8 (t:TM) (ma mb:EM):EM:=fun env S Q=>t env S fun c S1=>match c with
 | true=>ma env S1 Q
 | false=>mb env S1 Q
theorem zud {c:Expr} (hc:MT X B c t) (ha:ME X B a ma) (hb:ME X B b mb):ME X B (.IfExp c a b pos) (zr8 t ma mb):=by
 refine ⟨zbl (pe_ifExp hc.pt ha.pe hb.pe) fun σ H Q q=>?_,fun env S Q Q' i q=>hc.mono env S _ _ (fun c S1 z=>?_) q⟩
 ·obtain ⟨lB,env,S,r0,z0,q⟩:=q
  refine ⟨lB,env,S,r0,z0,hc.mono env S _ _ (fun c S1 q H1 l1 z1=>?_) q⟩
  cases c with
  | true=>
   show up X.K X.prog X.w B ma σ H1 Q
   exact ⟨lB.trans l1,env,S1,r0.le l1,z1,ha.mono env S1 _ _ (zdN l1) q⟩
  | false=>
   show up X.K X.prog X.w B mb σ H1 Q
   exact ⟨lB.trans l1,env,S1,r0.le l1,z1,hb.mono env S1 _ _ (zdN l1) q⟩
 ·cases c with
  | true=>exact ha.mono env S1 _ _ i z
  | false=>exact hb.mono env S1 _ _ i z
def zf8 (r r':BM) (ma mb mc:EM):EM:=fun env S Q=>ma env S fun x S1=>mb env S1 fun y S2=>r x y S2 (kB fun k S3=>match k with
 | true=>mc env S3 fun z S4=>r' y z S4 Q
 | false=>Q (.bl false) S3)
theorem zkj {r r':BM} {ma mb mc:EM} (hr:∀ d e S (Q Q':DQ),(∀ d S,Q d S->Q' d S)->r d e S Q->r d e S Q') (hr':∀ d e S (Q Q':DQ),(∀ d S,Q d S->Q' d S)->r' d e S Q->r' d e S Q')
  (ha:zci ma) (hb:zci mb) (hc:zci mc):zci (zf8 r r' ma mb mc):=fun env S Q Q' i q=>
 ha env S _ _ (fun x S1 q=>hb env S1 _ _ (fun y S2 q=>hr x y S2 _ _ (zky fun k S3 q=>by
  cases k with
  | true=>exact hc env S3 _ _ (fun z S4 q=>hr' y z S4 _ _ i q) q
  | false=>exact i _ _ q) q) q) q
theorem zk0 {r r':BM} {mc:EM} {op op':CmpOp} (ho:OpD X (compareOp op) r) (ho':OpD X (compareOp op') r') (ha:zci ma) (hb:zci mb) (hc:zci mc) {σ:L2.St} {H:Hp} {Q:VK} (q:up X.K X.prog X.w B (zf8 r r' ma mb mc) σ H Q) :
  tChain (fun x y H Q=>∃ d e S,DV X.K H d x∧DV X.K H e y∧Rp X.K X.prog X.w S H∧r d e S (dnE X.K X.prog X.w H Q)) (fun x y H Q=>∃ d e S,DV X.K H d x∧DV X.K H e y∧Rp X.K X.prog X.w S H∧r' d e S (dnE X.K X.prog X.w H Q))
   (up X.K X.prog X.w B ma) (up X.K X.prog X.w B mb) (up X.K X.prog X.w B mc) σ H Q:=by
 obtain ⟨lB,env,S,r0,z0,h⟩:=q
 refine ⟨lB,env,S,r0,z0,ha env S _ _ (fun x S1 h1 v H1 l1 z1 d1=>?_) h⟩
 refine ⟨lB.trans l1,env,S1,r0.le l1,z1,hb env S1 _ _ (fun y S2 h2 u H2 l2 z2 d2=>?_) h1⟩
 refine ⟨x,y,S2,d1.le l2,d2,z2,ho.mono _ _ _ _ _ (fun c S3 q v3 H3 l3 z3 d3=>?_) h2⟩
 obtain ⟨k,rfl,q⟩:=zrF q d3
 refine ⟨k,rfl,?_⟩
 have l03:Le H H3:=(l1.trans l2).trans l3
 cases k with
 | true=>
  show up X.K X.prog X.w B mc σ H3 _
  refine ⟨lB.trans l03,env,S3,r0.le l03,z3,hc env S3 _ _ (fun z S4 q v4 H4 l4 z4 d4=>?_) q⟩
  exact ⟨y,z,S4,d2.le (l3.trans l4),d4,z4,ho'.mono _ _ _ _ _ (zdN (l03.trans l4)) q⟩
 | false=>exact q _ H3 l03 z3 (.bl _)
theorem zhK {c:Expr} {r r':BM} {mc:EM} {op op':CmpOp} (ho:OpD X (compareOp op) r) (ho':OpD X (compareOp op') r') (ha:ME X B a ma) (hb:ME X B b mb) (hc:ME X B c mc)
  (h:∀ {R R':R2} {ta tb tc:TE},OpR X (compareOp op) R->OpR X (compareOp op') R'->PE X a ta->PE X b tb->PE X c tc->PT X (.Compare a [op,op'] [b,c] pos) (tTest (tChain R R' ta tb tc)):=by intro R R' ta tb tc h1 h2 h3 h4 h5;exact pt_chain h1 h2 h3 h4 h5) :
  MT X B (.Compare a [op,op'] [b,c] pos) (mB (zf8 r r' ma mb mc)):=by
 have mm:=zkj ho.mono ho'.mono ha.mono hb.mono hc.mono
 refine ⟨zh6 (h ho.op ho'.op ha.pe hb.pe hc.pe) fun σ H Q q=>?_,znZ mm⟩
 obtain ⟨lB,env,S,r0,z0,q⟩:=q
 refine zk0 ho ho' ha.mono hb.mono hc.mono ⟨lB,env,S,r0,z0,mm env S _ _ (fun d S1 q v H' l r d1=>?_) q⟩
 cases d1 <;> first | exact ⟨_,rfl,q H' l r⟩ | exact q.elim
def zan:AM:=fun _ S Q=>Q [] S
def zac (m:EM) (r:AM):AM:=fun env S Q=>m env S fun d S1=>r env S1 fun ds S2=>Q (d :: ds) S2
theorem zae:MA X B [] zan:=⟨zme pa_nil fun σ H Q q=>by
 obtain ⟨lB,env,S,r0,z0,q⟩:=q
 exact q [] H (Le.refl H) z0 .nil,fun env S Q Q' i q=>i _ _ q⟩
theorem zi6 {m:EM} {r:AM} (h:zci m) (h2:zkS r):zkS (zac m r):=fun env S Q Q' i q=>h env S _ _ (fun d S1 z=>h2 env S1 _ _ (fun ds S2 z=>i _ _ z) z) q
theorem zaa {e:Expr} {es:List Expr} {m:EM} {r:AM} (h:ME X B e m) (h2:MA X B es r) (hs:starEach (e :: es) X.env=(false,eval e X.env) :: starEach es X.env:=by rfl):MA X B (e :: es) (zac m r):=by
 refine ⟨zme (pa_cons h.pe h2.pa hs) fun σ H Q q=>?_,zi6 h.mono h2.mono⟩
 obtain ⟨lB,env,S,r0,z0,q⟩:=q
 refine ⟨lB,env,S,r0,z0,h.mono env S _ _ (fun d S1 q v H1 l1 z1 d1=>?_) q⟩
 refine ⟨lB.trans l1,env,S1,r0.le l1,z1,h2.mono env S1 _ _ (fun ds S2 q vs H2 l2 z2 d2=>?_) q⟩
 exact q (v :: vs) H2 (l1.trans l2) z2 (.cons (d1.le l2) d2)
def zbu (m:AM):EM:=fun env S Q=>m env S fun ds S1=>ds.length≤sizeLine∧Q (.tup ds) S1
def zfs (m:AM):EM:=fun env S Q=>m env S fun ds S1=>ds.length≤sizeLine∧∀ p,S1 p=none->Q (.ref p) (put S1 p (.lst ds))
theorem zau {es:List Expr} {m:AM} {x1} (h:MA X B es m):ME X B (.Tuple es x1 pos) (zbu m):=by
 refine ⟨zbl (pe_tup h.pa) fun σ H Q q=>?_,fun env S Q Q' i q=>h.mono env S _ _ (fun ds S1 z=>⟨z.1,i _ _ z.2⟩) q⟩
 obtain ⟨lB,env,S,r0,z0,q⟩:=q
 refine ⟨lB,env,S,r0,z0,h.mono env S _ _ (fun ds S1 q vs H1 l1 z1 d1=>?_) q⟩
 exact ⟨by rw [← d1.length];exact q.1,zgS (zdN l1 _ _ q.2) z1 d1⟩
theorem zbo {es:List Expr} {m:AM} (h:MA X B es m):ME X B (.List es pos) (zfs m):=by
 refine ⟨zbl (pe_lst h.pa) fun σ H Q q=>?_,fun env S Q Q' i q=>h.mono env S _ _ (fun ds S1 z=>⟨z.1,fun p hp=>i _ _ (z.2 p hp)⟩) q⟩
 obtain ⟨lB,env,S,r0,z0,q⟩:=q
 refine ⟨lB,env,S,r0,z0,h.mono env S _ _ (fun ds S1 q vs H1 l1 z1 d1=>?_) q⟩
 exact ⟨by rw [← d1.length];exact q.1,zfS (fun p hp=>zdN l1 _ _ (q.2 p hp)) z1 d1⟩
abbrev CM:=List D->Sto->DQ->Prop
structure zfq (X:Cx) (f:Value) (r:CM):Prop where
 cr:CallR X f fun xs H Q=>∃ ds S,DVs X.K H ds xs∧Rp X.K X.prog X.w S H∧r ds S (dnE X.K X.prog X.w H Q)
 mono:∀ ds S (Q Q':DQ),(∀ d S,Q d S->Q' d S)->r ds S Q->r ds S Q'
theorem zgW {f:Value} {r:CM} (R:List V->Hp->VK->Prop) (h:CallR X f R) (hR:∀ xs H Q ds S,DVs X.K H ds xs->Rp X.K X.prog X.w S H->r ds S (dnE X.K X.prog X.w H Q)->R xs H Q)
  (mono:∀ ds S (Q Q':DQ),(∀ d S,Q d S->Q' d S)->r ds S Q->r ds S Q'):zfq X f r:=⟨fun pins s σ H xs us Q I rx q=>by
 obtain ⟨ds,S,h1,h3,h4⟩:=q
 exact h pins s σ H xs us Q I rx (hR xs H Q ds S h1 h3 h4),mono⟩
def mCB (r:CM) (m:AM):EM:=fun env S Q=>m env S fun ds S1=>r ds S1 Q
theorem zkk {r:CM} {m:AM} (hr:∀ ds S (Q Q':DQ),(∀ d S,Q d S->Q' d S)->r ds S Q->r ds S Q') (hm:zkS m):zci (mCB r m):=fun env S Q Q' i q=>hm env S _ _ (fun ds S1 z=>hr _ _ _ _ i z) q
theorem zo5 {r:CM} {m:AM} {K:PySem.W.Frag} {P:Program} {w:World} (hr:∀ ds S (Q Q':DQ),(∀ d S,Q d S->Q' d S)->r ds S Q->r ds S Q') (hm:zkS m) {σ:L2.St} {H:Hp} {Q:VK} (q:up K P w B (mCB r m) σ H Q) :
  tCB (fun xs H Q=>∃ ds S,DVs K H ds xs∧Rp K P w S H∧r ds S (dnE K P w H Q)) (upA K P w B m) σ H Q:=by
 obtain ⟨lB,env,S,r0,z0,q⟩:=q
 refine ⟨lB,env,S,r0,z0,hm env S _ _ (fun ds S1 q vs H1 l1 z1 d1=>?_) q⟩
 exact ⟨ds,S1,d1,z1,hr _ _ _ _ (zdN l1) q⟩
variable {e:Expr} {es:List Expr} {m:AM} {r:CM} {x:Str} {p:Pos}
theorem zao {id:String} (hc:zfq X (.builtin id) r) (ha:MA X B (e :: es) m)
  (h:∀ {R:List V->Hp->VK->Prop} {t:TA},CallR X (.builtin id) R->PA X (e :: es) t->PE X (.Call (.Name x p) (e :: es) [] pos) (tCB R t)):ME X B (.Call (.Name x p) (e :: es) [] pos) (mCB r m):=
 ⟨zbl (h hc.cr ha.pa) fun _ _ _ q=>zo5 hc.mono ha.mono q,zkk hc.mono ha.mono⟩
theorem zaN {T:String} (hc:zfq X (.type T) r) (ha:MA X B (e :: es) m)
  (h:∀ {R:List V->Hp->VK->Prop} {t:TA},CallR X (.type T) R->PA X (e :: es) t->PE X (.Call (.Name x p) (e :: es) [] pos) (tCB R t)):ME X B (.Call (.Name x p) (e :: es) [] pos) (mCB r m):=
 ⟨zbl (h hc.cr ha.pa) fun _ _ _ q=>zo5 hc.mono ha.mono q,zkk hc.mono ha.mono⟩
theorem zik {T:String} (hc:zfq X (.type T) r)
  (h:∀ {R:List V->Hp->VK->Prop},CallR X (.type T) R->PE X (.Call (.Name x p) [] [] pos) (tCB R tNil)):ME X B (.Call (.Name x p) [] [] pos) (mCB r zan):=
 ⟨zbl (h hc.cr) fun σ H Q q=>by
  obtain ⟨lB,env,S,r0,z0,q⟩:=q
  exact ⟨[],S,.nil,z0,q⟩,zkk hc.mono fun env S Q Q' i q=>i _ _ q⟩
theorem zjh {K:PySem.W.Frag} {H:Hp} {d:D} {vs:List V} (h:DVs K H [d] vs):∃ v,vs=[v]∧DV K H d v:=by
 cases h with
 | cons h1 h2=>cases h2;exact ⟨_,rfl,h1⟩
theorem zu7 {K:PySem.W.Frag} {H:Hp} {d e:D} {vs:List V} (h:DVs K H [d,e] vs):∃ v u,vs=[v,u]∧DV K H d v∧DV K H e u:=by
 cases h with
 | cons h1 h2=>cases h2 with
  | cons h2 h3=>cases h3;exact ⟨_,_,rfl,h1,h2⟩
def zk5 (S:Sto):D->Option (List D)
 | .tp _ xs=>some xs
 | .rol xs=>some xs
 | .ref a=>match S a with
  | some (.lst xs)=>some xs
  | _=>none
 | _=>none
def zlM:D->Bool
 | .tp f _=>f
 | _=>false
theorem zjR {K:PySem.W.Frag} {P:Program} {w:World} {H:Hp} {S:Sto} {d:D} {v:V} {ds:List D} (h:DV K H d v) (r:Rp K P w S H) (e:zk5 S d=some ds):∃ p vs,v = .ref p∧(SqL K H p vs∧zlM d=false ∨ SqT K H p vs∧TF H p vs (zlM d))∧DVs K H ds vs:=by
 cases h <;> first | (cases e;done) | skip
 ·rename_i s z t
  cases e
  exact ⟨_,_,rfl,.inr ⟨s,t⟩,z⟩
 ·rename_i s z
  cases e
  exact ⟨_,_,rfl,.inl ⟨s.sq,rfl⟩,z⟩
 ·simp only [zk5] at e
  split at e
  ·rename_i xs e0
   cases e
   obtain ⟨vs,q,z⟩:=r _ _ e0
   exact ⟨_,vs,rfl,.inl ⟨SqL.of q,rfl⟩,z⟩
  ·cases e
theorem zpe {K:PySem.W.Frag} {P:Program} {w:World} {H:Hp} {S:Sto} {d:D} {v:V} {ds:List D} (h:DV K H d v) (r:Rp K P w S H) (e:zk5 S d=some ds):∃ p vs,v = .ref p∧(SqL K H p vs ∨ SqT K H p vs)∧DVs K H ds vs:=by
 obtain ⟨p,vs,e,s,z⟩:=zjR h r e
 exact ⟨p,vs,e,s.imp (fun s=>s.1) fun s=>s.1,z⟩
def zrm (S:Sto):D->Option Nat
 | .str x=>some x.length
 | .tp _ xs=>some xs.length
 | .rol xs=>some xs.length
 | .ref a=>match S a with
  | some (.lst xs)=>some xs.length
  | some (.dic xs)=>some xs.length
  | _=>none
 | _=>none
def zcJ:CM:=fun ds S Q=>match ds with
 | [d]=>match zrm S d with
  | some n=>Q (.int n) S
  | none=>False
 | _=>False
theorem za8:zfq X (.builtin "len") zcJ:=by
 refine zgW _ (call_len.or call_lenD) (fun xs H Q ds S h r q=>?_) (fun ds S Q Q' i q=>?_)
 ·unfold zcJ at q
  split at q
  ·rename_i d
   obtain ⟨v,rfl,z⟩:=zjh h
   split at q
   ·rename_i n e
    cases z with
    | non=>cases e
    | bl=>cases e
    | int=>cases e
    | ty=>cases e
    | rod=>cases e
    | str x ok=>cases e;exact .inl ⟨_,_,rfl,⟨ok.2,rfl⟩,zaC q r (.int _)⟩
    | tup s z=>cases e;exact .inl ⟨_,_,rfl,.inr ⟨_,s,z.length⟩,zaC q r (.int _)⟩
    | rol s z=>cases e;exact .inl ⟨_,_,rfl,.inl ⟨_,s.sq,z.length⟩,zaC q r (.int _)⟩
    | ref a=>
     simp only [zrm] at e
     split at e
     ·rename_i xs e0
      cases e
      obtain ⟨vs,e1,z⟩:=r _ _ e0
      exact .inl ⟨_,_,rfl,.inl ⟨_,SqL.of e1,z.length⟩,zaC q r (.int _)⟩
     ·rename_i xs e0
      cases e
      obtain ⟨vs,e1,z⟩:=r _ _ e0
      exact .inr ⟨_,vs,rfl,e1,by rw [← z.length];exact zaC q r (.int _)⟩
     ·cases e
   ·exact q.elim
  ·exact q.elim
 ·unfold zcJ at q ⊢
  split at q
  ·split at q
   ·exact i _ _ q
   ·exact q.elim
  ·exact q.elim
def vI1 (g:Int->D):CM:=fun ds S Q=>match ds with
 | [.int i]=>Q (g i) S
 | _=>False
theorem zmo {g:Int->D}:∀ ds S (Q Q':DQ),(∀ d S,Q d S->Q' d S)->vI1 g ds S Q->vI1 g ds S Q':=fun ds S Q Q' i q=>by
 unfold vI1 at q ⊢
 split at q
 ·exact i _ _ q
 ·exact q.elim
theorem zmL:zfq X (.builtin "abs") (vI1 fun i=>.int (if i < 0 then -i else i)):=by
 refine zgW _ call_abs (fun xs H Q ds S h r q=>?_) zmo
 unfold vI1 at q
 split at q
 ·obtain ⟨v,rfl,z⟩:=zjh h
  cases z
  exact ⟨_,rfl,zaC q r (.int _)⟩
 ·exact q.elim
theorem zgp:zfq X (.type "int") (vI1 fun i=>.int i):=by
 refine zgW _ call_int1 (fun xs H Q ds S h r q=>?_) zmo
 unfold vI1 at q
 split at q
 ·obtain ⟨v,rfl,z⟩:=zjh h
  cases z
  exact .inl ⟨_,rfl,zaC q r (.int _)⟩
 ·exact q.elim
def vI2 (g:Int->Int->D):CM:=fun ds S Q=>match ds with
 | [.int i,.int j]=>Q (g i j) S
 | _=>False
theorem zq3 {g:Int->Int->D}:∀ ds S (Q Q':DQ),(∀ d S,Q d S->Q' d S)->vI2 g ds S Q->vI2 g ds S Q':=fun ds S Q Q' i q=>by
 unfold vI2 at q ⊢
 split at q
 ·exact i _ _ q
 ·exact q.elim
theorem zmK (hc:X.calm=true):zfq X (.builtin "max") (vI2 fun i j=>.int (if j > i then j else i)):=by
 refine zgW _ (call_max2 hc) (fun xs H Q ds S h r q=>?_) zq3
 unfold vI2 at q
 split at q
 ·obtain ⟨v,u,rfl,z,z'⟩:=zu7 h
  cases z;cases z'
  exact ⟨_,_,rfl,zaC q r (.int _)⟩
 ·exact q.elim
def zem:CM:=fun ds S Q=>match ds with
 | [d]=>match zk5 S d with
  | some xs=>∀ p,S p=none->Q (.ref p) (put S p (.lst xs))
  | none=>False
 | _=>False
theorem zdF:zfq X (.type "list") zem:=by
 refine zgW _ call_list_of (fun xs H Q ds S h r q=>?_) (fun ds S Q Q' i q=>?_)
 ·unfold zem at q
  split at q
  ·obtain ⟨v,rfl,z⟩:=zjh h
   split at q
   ·rename_i xs e
    obtain ⟨p,vs,rfl,s,z⟩:=zpe z r e
    exact ⟨p,vs,rfl,s,zfS q r z⟩
   ·exact q.elim
  ·exact q.elim
 ·unfold zem at q ⊢
  split at q
  ·split at q
   ·exact fun p hp=>i _ _ (q p hp)
   ·exact q.elim
  ·exact q.elim
def zcI:CM:=fun ds S Q=>match ds with
 | [d]=>match zk5 S d with
  | some xs=>Q (.tp (zlM d) xs) S
  | none=>False
 | _=>False
theorem zeR:zfq X (.type "tuple") zcI:=by
 refine zgW _ call_tuple_of (fun xs H Q ds S h r q=>?_) (fun ds S Q Q' i q=>?_)
 ·unfold zcI at q
  split at q
  ·obtain ⟨v,rfl,z⟩:=zjh h
   split at q
   ·rename_i xs e
    obtain ⟨p,vs,rfl,s,z⟩:=zjR z r e
    rcases s with ⟨s,ef⟩ | ⟨s,t⟩
    ·rw [ef] at q
     exact ⟨p,vs,rfl,.inl ⟨s,zgS q r z⟩⟩
    ·exact ⟨p,vs,rfl,.inr ⟨s,zaC q r (.tup s z t)⟩⟩
   ·exact q.elim
  ·exact q.elim
 ·unfold zcI at q ⊢
  split at q
  ·split at q
   ·exact i _ _ q
   ·exact q.elim
  ·exact q.elim
end
def keyD:D->Option Key
 | .int i=>some (.inl i)
 | .str x=>some (.inr x)
 | _=>none
theorem zga {K:PySem.W.Frag} {H:Hp} {d:D} {v:V} {k:Key} (h:DV K H d v) (e:keyD d=some k):v=kV k:=by
 cases h <;> first | (cases e;rfl) | cases e
section
variable {κ:Type} [DecidableEq κ]
def putD (kvs:List (κ×D)) (k:κ) (v:D):List (κ×D):=
 if (kvs.any fun kv=>decide (kv.1=k))=true then kvs.map (fun kv=>if kv.1=k then (kv.1,v) else kv) else kvs++[(k,v)]
def zyw (kvs:List (κ×D)) (k:κ):List (κ×D):=kvs.filter fun kv=>decide (kv.1≠k)
variable {K:PySem.W.Frag} {H:Hp} {ds:List (κ×D)} {vs:List (κ×V)}
theorem KVs.val (h:KVs K H ds vs) (k:κ):(∀ d,valD ds k=some d->∃ v,valV vs k=some v∧DV K H d v)∧(valD ds k=none->valV vs k=none):=by
 induction h with
 | nil=>exact ⟨(fun d e=>nomatch e),fun _=>rfl⟩
 | @cons k' d v ds vs h1 h2 ih=>
  by_cases hk:k'=k
  ·subst hk
   have e1:valD ((k',d) :: ds) k'=some d:=by simp [valD]
   rw [e1,valV_pos rfl]
   exact ⟨fun d' e=>by cases e;exact ⟨v,rfl,h1⟩,(fun e=>nomatch e)⟩
  ·have e1:valD ((k',d) :: ds) k=valD ds k:=by simp [valD,hk]
   rw [e1,valV_neg hk]
   exact ih
theorem KVs.any (h:KVs K H ds vs) (k:κ):(ds.any fun kv=>decide (kv.1=k))=(vs.any fun kv=>decide (kv.1=k)):=by
 induction h with
 | nil=>rfl
 | cons h1 h2 ih=>simp only [List.any_cons,ih]
theorem KVs.map (h:KVs K H ds vs) (k:κ) {d:D} {v:V} (z:DV K H d v):KVs K H (ds.map fun kv=>if kv.1=k then (kv.1,d) else kv) (vs.map fun kv=>if kv.1=k then (kv.1,v) else kv):=by
 induction h with
 | nil=>exact .nil
 | @cons k' d' v' ds vs h1 h2 ih=>
  rw [List.map_cons,List.map_cons]
  by_cases hk:k'=k
  ·rw [if_pos (show (k',d').1=k from hk),if_pos (show (k',v').1=k from hk)]
   exact .cons z ih
  ·rw [if_neg (show ¬ (k',d').1=k from hk),if_neg (show ¬ (k',v').1=k from hk)]
   exact .cons h1 ih
theorem KVs.append {ds':List (κ×D)} {vs':List (κ×V)} (h:KVs K H ds vs) (h':KVs K H ds' vs'):KVs K H (ds++ds') (vs++vs'):=by
 induction h with
 | nil=>exact h'
 | cons h1 h2 ih=>exact .cons h1 ih
theorem KVs.put (h:KVs K H ds vs) (k:κ) {d:D} {v:V} (z:DV K H d v):KVs K H (putD ds k d) (putK vs k v):=by
 unfold putD putK
 rw [h.any k]
 split
 ·exact h.map k z
 ·exact h.append (.cons z .nil)
end
theorem DVs.atI {K:PySem.W.Frag} {H:Hp} {ds:List D} {vs:List V} {i:Int} {d:D} (h:DVs K H ds vs) (e:L2.atI ds i=some d):∃ v,L2.atI vs i=some v∧DV K H d v:=by
 unfold L2.atI at e ⊢
 rw [← h.length]
 cases q:ixN ds.length i with
 | none=>rw [q] at e;cases e
 | some j=>
  rw [q] at e
  exact h.get (show ds[j]? = some d from e)
theorem OkS.one {x:Str} {i:Int} {c:Nat} (h:OkS x) (e:L2.atI x.cps.toList i=some c):OkS ⟨#[c]⟩:=by
 refine ⟨?_,(show 1≤sizeLine by decide)⟩
 have hm:c∈x.cps:=by
  unfold L2.atI at e
  cases q:ixN x.cps.toList.length i with
  | none=>rw [q] at e;cases e
  | some j=>
   rw [q] at e
   have e':x.cps.toList[j]? = some c:=e
   simpa using List.mem_of_getElem? e'
 have h1:x.cps.all (· < 0x110000)=true:=h.1
 rw [Array.all_eq_true_iff_forall_mem] at h1
 have h2:=h1 c hm
 show (#[c]:Array Nat).all (· < 0x110000)=true
 simpa using h2
section
variable {X:Cx} {B:Hp}
def vIx:BM:=fun d e S Q=>match d,e with
 | .tp _ xs,.int i=>match atI xs i with
  | some x=>Q x S
  | none=>False
 | .rol xs,.int i=>match atI xs i with
  | some x=>Q x S
  | none=>False
 | .str x,.int i=>match atI x.cps.toList i with
  | some c=>Q (.str ⟨#[c]⟩) S
  | none=>False
 | .ref a,e=>match S a,e with
  | some (.lst xs),.int i=>match atI xs i with
   | some x=>Q x S
   | none=>False
  | some (.dic kvs),e=>match keyD e with
   | some k=>match valD kvs k with
    | some x=>Q x S
    | none=>False
   | none=>False
  | _,_=>False
 | _,_=>False
theorem zi4:∀ d e S (Q Q':DQ),(∀ d S,Q d S->Q' d S)->vIx d e S Q->vIx d e S Q':=by
 intro d e S Q Q' i h
 unfold vIx at h ⊢
 split at h
 ·split at h
  ·exact i _ _ h
  ·exact h.elim
 ·split at h
  ·exact i _ _ h
  ·exact h.elim
 ·split at h
  ·exact i _ _ h
  ·exact h.elim
 ·split at h
  ·split at h
   ·exact i _ _ h
   ·exact h.elim
  ·split at h
   ·split at h
    ·exact i _ _ h
    ·exact h.elim
   ·exact h.elim
  ·exact h.elim
 ·exact h.elim
theorem zog (hu:X.A.units+1 < cLine):IxR X (fun x y H Q=>∃ a v,x = .ref a∧DGet H a y (some v)∧Q v H):=by
 intro value slice pins s σ H x y v u Q I rx ry h hs
 obtain ⟨a,z,rfl,g,q⟩:=h
 obtain rfl:v=Value.ref a:=rx
 refine PyProof.Rows.tail_any (ops:=[.ref a,u]) (dict_typeIs I g) PySem.F.slot_dict_getitem.lookup (d_getItem hu I g ry fun w' s3 I3 rw'=>?_) hs
 exact ⟨z,H,I3,rw',q⟩
theorem zal {a b:Expr} {ma mb:EM} {pos:Pos} (hu:X.A.units+1 < cLine) (ha:ME X B a ma) (hb:ME X B b mb) (hs:PlainIx b:=by exact fun _ _=>rfl):ME X B (.Subscript a b pos) (mOp vIx ma mb):=by
 refine ⟨zbl (pe_ix (ix_seq.or (zog hu)) ha.pe hb.pe hs) fun σ H Q h=>ziL ha.mono hb.mono (fun x y H Q d e S h1 h2 r h=>?_) zi4 h,zih zi4 ha.mono hb.mono⟩
 unfold vIx at h
 split at h
 ·split at h
  ·rename_i e0
   cases h2
   cases h1 with
   | tup s z=>
    obtain ⟨v,e1,z1⟩:=z.atI e0
    exact .inl (.inr (.inl ⟨_,_,_,v,rfl,rfl,s,e1,zaC h r z1⟩))
  ·exact h.elim
 ·split at h
  ·rename_i e0
   cases h2
   cases h1 with
   | rol s z=>
    obtain ⟨v,e1,z1⟩:=z.atI e0
    exact .inl (.inl ⟨_,_,_,v,rfl,rfl,s.sq,e1,zaC h r z1⟩)
  ·exact h.elim
 ·split at h
  ·rename_i e0
   cases h2
   cases h1 with
   | str x ok=>
    exact .inl (.inr (.inr ⟨_,_,_,rfl,rfl,ok.2,e0,zaC h r (.str _ (ok.one e0))⟩))
  ·exact h.elim
 ·split at h
  ·rename_i xs i e1
   split at h
   ·rename_i e0
    cases h1
    cases h2
    obtain ⟨vs,q1,z1⟩:=r _ _ e1
    obtain ⟨v,e2,z2⟩:=z1.atI e0
    exact .inl (.inl ⟨_,vs,_,v,rfl,rfl,SqL.of q1,e2,zaC h r z2⟩)
   ·exact h.elim
  ·rename_i kvs e e1
   split at h
   ·rename_i k ek
    split at h
    ·rename_i x0 e0
     cases h1
     obtain ⟨vs,q1,z1⟩:=r _ _ e1
     obtain ⟨v,e2,z2⟩:=(z1.val k).1 _ e0
     rw [zga h2 ek]
     exact .inr ⟨_,v,rfl,by rw [← e2];exact DGet.k q1,zaC h r z2⟩
    ·exact h.elim
   ·exact h.elim
  ·exact h.elim
 ·exact h.elim
def zk4 (S:Sto) (o i v:D):Option Sto:=match o with
 | .ref a=>match S a with
  | some (.lst xs)=>match i with
   | .int k=>match ixN xs.length k with
    | some j=>some (put S a (.lst (xs.set j v)))
    | none=>none
   | _=>none
  | some (.dic kvs)=>match keyD i with
   | some k=>if kvs.length < sizeLine then some (put S a (.dic (putD kvs k v))) else none
   | none=>none
  | _=>none
 | _=>none
def zxm (H0:V->V->V->Hp->(Hp->Prop)->Prop):TSet:=H0
theorem set_dict (hu:X.A.units+1 < cLine):PSet X (fun o i v H Q=>∃ a H',o = .ref a∧DPut H a i v H'∧Q H'):=by
 intro pins s σ H o i v ov iv u Q I ro ri rv h
 obtain ⟨a,H',rfl,g,q⟩:=h
 obtain rfl:ov=Value.ref a:=ro
 exact d_setItem hu I g ri rv fun s4 I4=>⟨H',I4,q⟩
def ztY (X:Cx):TSet:=fun o i v H Q=>∃ do_ di dv S S',DV X.K H do_ o∧DV X.K H di i∧DV X.K H dv v∧Rp X.K X.prog X.w S H∧zk4 S do_ di dv=some S'∧∀ H',Le H H'->Rp X.K X.prog X.w S' H'->Q H'
theorem zjQ (hu:X.A.units+1 < cLine):PSet X (ztY X):=by
 intro pins s σ H o i v ov iv u Q I ro ri rv h
 obtain ⟨do_,di,dv,S,S',h1,h2,h3,r,e,q⟩:=h
 unfold zk4 at e
 split at e
 ·rename_i a
  cases h1
  split at e
  ·rename_i xs e0
   split at e
   ·rename_i k
    cases h2
    split at e
    ·rename_i j ej
     cases e
     obtain ⟨vs,q1,z1⟩:=r _ _ e0
     have mu:Mut (H a):=by rw [q1];trivial
     refine set_list pins s σ H _ _ v ov iv u Q I ro ri rv ⟨a,vs,k,j,rfl,rfl,q1,by rw [← z1.length];exact ej,q _ (Le.mut mu) (r.wr mu ⟨_,upd_same,(z1.set h3 j).le (Le.mut mu)⟩)⟩
    ·cases e
   ·cases e
  ·rename_i kvs e0
   split at e
   ·rename_i k ek
    split at e
    ·rename_i hl
     cases e
     obtain ⟨vs,q1,z1⟩:=r _ _ e0
     have mu:Mut (H a):=by rw [q1];trivial
     have ev:=zga h2 ek
     subst ev
     exact set_dict hu pins s σ H _ _ v ov iv u Q I ro ri rv ⟨a,_,rfl,DPut.k q1 (by rw [← z1.length];exact hl),q _ (Le.mut mu) (r.wr mu ⟨_,upd_same,(z1.put k h3).le (Le.mut mu)⟩)⟩
    ·cases e
   ·cases e
  ·cases e
 ·cases e
abbrev OM:=Slo->Sto->(Option Int->Sto->Prop)->Prop
structure MO (X:Cx) (B:Hp) (e:Option Expr) (m:OM):Prop where
 po:PO X e (fun σ H Q=>Le B H∧∃ env S,zcz X.K H env σ∧Rp X.K X.prog X.w S H∧m env S fun o S'=>∀ H',Le H H'->Rp X.K X.prog X.w S' H'->Q o H')
 mono:∀ env S (Q Q':Option Int->Sto->Prop),(∀ d S,Q d S->Q' d S)->m env S Q->m env S Q'
def zks:OM:=fun _ S Q=>Q none S
def mP (m:EM):OM:=fun env S Q=>m env S fun d S1=>match d with
 | .int i=>Q (some i) S1
 | _=>False
theorem zmc {e:Option Expr} {t t':TO} (h:PO X e t) (i:∀ σ H Q,t' σ H Q->t σ H Q):PO X e t':=⟨fun pins s σ H Q I q=>h.run pins s σ H Q I (i σ H Q q)⟩
theorem zeD:MO X B none zks:=⟨zmc po_none fun σ H Q q=>by
 obtain ⟨lB,env,S,r0,z0,q⟩:=q
 exact q H (Le.refl H) z0,fun env S Q Q' i q=>i _ _ q⟩
theorem zeC {e:Expr} {m:EM} (h:ME X B e m):MO X B (some e) (mP m):=by
 refine ⟨zmc (po_some h.pe) fun σ H Q q=>?_,fun env S Q Q' i q=>h.mono env S _ _ (fun d S1 z=>?_) q⟩
 ·obtain ⟨lB,env,S,r0,z0,q⟩:=q
  refine ⟨lB,env,S,r0,z0,h.mono env S _ _ (fun d S1 q v H1 l1 z1 d1=>?_) q⟩
  cases d1 <;> first | exact ⟨_,rfl,q H1 l1 z1⟩ | exact q.elim
 ·cases d <;> first | exact i _ _ z | exact z.elim
def cutD (xs:List D) (lo hi:Option Int):List D:=(xs.drop (HT.sIx xs.length 0 lo)).take (HT.sIx xs.length xs.length hi - HT.sIx xs.length 0 lo)
theorem DVs.cut {K:PySem.W.Frag} {H:Hp} {ds:List D} {vs:List V} (h:DVs K H ds vs) (lo hi:Option Int):DVs K H (cutD ds lo hi) (cutV vs lo hi):=by
 unfold cutD cutV
 rw [← h.length]
 exact (h.drop _).take _
theorem OkS.cut {x:Str} (h:OkS x) (lo hi:Option Int):OkS (cutS x lo hi):=by
 refine ⟨?_,?_⟩
 ·have h1:x.cps.all (· < 0x110000)=true:=h.1
  rw [Array.all_eq_true_iff_forall_mem] at h1
  show ((List.take _ (List.drop _ x.cps.toList)).toArray).all (· < 0x110000)=true
  rw [Array.all_eq_true_iff_forall_mem]
  intro c hc
  refine h1 c ?_
  have hc':=List.mem_of_mem_drop (List.mem_of_mem_take (by simpa using hc))
  simpa using hc'
 ·refine Nat.le_trans ?_ h.2
  show ((List.take _ (List.drop _ x.cps.toList)).toArray).size≤x.cps.size
  rw [List.size_toArray,List.length_take,List.length_drop,Array.length_toList]
  omega
def vSl (d:D) (lo hi:Option Int) (S:Sto) (Q:DQ):Prop:=match d with
 | .tp f xs=>f=false∧Q (.tup (cutD xs lo hi)) S
 | .rol xs=>∀ p,S p=none->Q (.ref p) (put S p (.lst (cutD xs lo hi)))
 | .str x=>Q (.str (cutS x lo hi)) S
 | .ref a=>match S a with
  | some (.lst xs)=>∀ p,S p=none->Q (.ref p) (put S p (.lst (cutD xs lo hi)))
  | _=>False
 | _=>False
theorem zmm (d:D) (lo hi:Option Int) (S:Sto) (Q Q':DQ) (i:∀ d S,Q d S->Q' d S) (h:vSl d lo hi S Q):vSl d lo hi S Q':=by
 unfold vSl at h ⊢
 split at h
 ·exact ⟨h.1,i _ _ h.2⟩
 ·exact fun p hp=>i _ _ (h p hp)
 ·exact i _ _ h
 ·split at h
  ·exact fun p hp=>i _ _ (h p hp)
  ·exact h.elim
 ·exact h.elim
theorem zjK (xs:List D) (lo hi:Option Int) (h:HT.sIx xs.length 0 lo=0∧HT.sIx xs.length xs.length hi=xs.length):cutD xs lo hi=xs:=by
 unfold cutD
 rw [h.1,h.2]
 simp
def mSl (m:EM) (lo hi:OM):EM:=fun env S Q=>m env S fun d S1=>lo env S1 fun l S2=>hi env S2 fun h S3=>vSl d l h S3 Q
theorem zii {e:Expr} {lo hi:Option Expr} {m:EM} {ml mh:OM} {p2 pos:Pos} (h:ME X B e m) (hl:MO X B lo ml) (hh:MO X B hi mh):ME X B (.Subscript e (.Slice lo hi none p2) pos) (mSl m ml mh):=by
 refine ⟨zbl (pe_slice (sl_list.or (sl_tupA.or sl_str)) h.pe hl.po hh.po) fun σ H Q q=>?_,
  fun env S Q Q' i q=>h.mono env S _ _ (fun d S1 q=>hl.mono env S1 _ _ (fun l S2 q=>hh.mono env S2 _ _ (fun u S3 q=>zmm _ _ _ _ _ _ i q) q) q) q⟩
 obtain ⟨lB,env,S,r0,z0,q⟩:=q
 refine ⟨lB,env,S,r0,z0,h.mono env S _ _ (fun d S1 q v H1 l1 z1 d1=>?_) q⟩
 refine ⟨lB.trans l1,env,S1,r0.le l1,z1,hl.mono env S1 _ _ (fun l S2 q H2 l2 z2=>?_) q⟩
 refine ⟨lB.trans (l1.trans l2),env,S2,r0.le (l1.trans l2),z2,hh.mono env S2 _ _ (fun u S3 q H3 l3 z3=>?_) q⟩
 have l03:=(l1.trans l2).trans l3
 have dv:=d1.le (l2.trans l3)
 have q:=zmm _ _ _ _ _ _ (zdN l03) q
 unfold vSl at q
 split at q
 ·cases dv with
  | @tup a vs ds f s z t=>
   obtain ⟨ef,qq⟩:=q
   subst ef
   refine .inr (.inl ⟨_,vs,rfl,s,fun hw=>?_,fun _=>zgS qq z3 (z.cut l u)⟩)
   refine zaC qq z3 ?_
   rw [← z.length] at hw
   rw [zjK _ _ _ hw]
   exact .tup s z t
 ·cases dv with
  | rol s z=>exact .inl ⟨_,_,rfl,s.sq,zfS q z3 (z.cut l u)⟩
 ·cases dv with
  | str x ok=>exact .inr (.inr ⟨_,rfl,ok.2,zaC q z3 (.str _ (ok.cut l u))⟩)
 ·cases dv
  split at q
  ·rename_i xs e0
   obtain ⟨vs,q1,z⟩:=z3 _ _ e0
   exact .inl ⟨_,vs,rfl,SqL.of q1,zfS q z3 (z.cut l u)⟩
  ·exact q.elim
 ·exact q.elim
def zh0 (g:Bool->Bool):BM:=fun d e S Q=>match e with
 | .tp f xs=>match rs S 40 d,rs S 40 (.tp f xs) with
  | some p,some (.tuple ps)=>Q (.bl (g (ps.any fun z=>PyData.eqv z p))) S
  | _,_=>False
 | .rol xs=>match rs S 40 d,rs S 40 (.rol xs) with
  | some p,some (.list ps)=>Q (.bl (g (ps.any fun z=>PyData.eqv z p))) S
  | _,_=>False
 | .str z=>match d with
  | .str y=>match y.cps.toList with
   | [c]=>Q (.bl (g (decide (c∈z.cps.toList)))) S
   | _=>False
  | _=>False
 | .ref a=>match S a with
  | some (.lst _)=>match rs S 40 d,rs S 40 (.ref a) with
   | some p,some (.list ps)=>Q (.bl (g (ps.any fun z=>PyData.eqv z p))) S
   | _,_=>False
  | some (.dic kvs)=>match keyD d with
   | some k=>Q (.bl (g (valD kvs k).isSome)) S
   | none=>False
  | some (.set f _)=>match keyD d with
   | some k=>Q (.bl (g (f k))) S
   | none=>False
  | _=>False
 | _=>False
theorem znW {g:Bool->Bool}:∀ d e S (Q Q':DQ),(∀ d S,Q d S->Q' d S)->zh0 g d e S Q->zh0 g d e S Q':=by
 intro d e S Q Q' i h
 unfold zh0 at h ⊢
 split at h
 ·split at h
  ·exact i _ _ h
  ·exact h.elim
 ·split at h
  ·exact i _ _ h
  ·exact h.elim
 ·split at h
  ·split at h
   ·exact i _ _ h
   ·exact h.elim
  ·exact h.elim
 ·split at h
  ·split at h
   ·exact i _ _ h
   ·exact h.elim
  ·split at h
   ·exact i _ _ h
   ·exact h.elim
  ·split at h
   ·exact i _ _ h
   ·exact h.elim
  ·exact h.elim
 ·exact h.elim
theorem zqS (hu:X.A.units+65 < cLine):OpR X (compareOp .In) (fun x y H Q=>∃ d ds,Dp X.K H x d∧Dp X.K H y (.tuple ds)∧SeqAt.shaped d=true∧SeqAt.shaped (.tuple ds)=true∧Q (.bl (ds.any fun z=>PyData.eqv z d)) H):=by
 intro pins s σ H x y v u Q I rx ry h
 obtain ⟨d,ds,hd,he,sd,se,q⟩:=h
 obtain ⟨as,r1⟩:=Dp.reads I d x v hd rx
 obtain ⟨bs,r2⟩:=Dp.reads I (.tuple ds) y u he ry
 exact SeqAt.in_tuple_reads r2 r1 (SeqAt.canLay_of_shaped se) (SeqAt.canLay_of_shaped sd) (PyProof.Rows.room_in_shaped sd hu) ⟨.bl _,H,I,rfl,q⟩
theorem zia (hu:X.A.units+65 < cLine):OpR X (compareOp .NotIn) (fun x y H Q=>∃ d ds,Dp X.K H x d∧Dp X.K H y (.tuple ds)∧SeqAt.shaped d=true∧SeqAt.shaped (.tuple ds)=true∧Q (.bl (!ds.any fun z=>PyData.eqv z d)) H):=by
 intro pins s σ H x y v u Q I rx ry h
 obtain ⟨d,ds,hd,he,sd,se,q⟩:=h
 obtain ⟨as,r1⟩:=Dp.reads I d x v hd rx
 obtain ⟨bs,r2⟩:=Dp.reads I (.tuple ds) y u he ry
 exact SeqAt.notIn_tuple_reads r2 r1 (SeqAt.canLay_of_shaped se) (SeqAt.canLay_of_shaped sd) (PyProof.Rows.room_in_shaped sd hu) ⟨.bl _,H,I,rfl,q⟩
theorem znG (hu:X.A.units+1 < cLine):OpR X (compareOp .In) (fun x y H Q=>∃ a o,y = .ref a∧DGet H a x o∧Q (.bl o.isSome) H):=by
 intro pins s σ H x y v u Q I rx ry h
 obtain ⟨a,o,rfl,g,q⟩:=h
 obtain rfl:u=Value.ref a:=ry
 exact d_in hu I g rx fun s3 I3=>⟨.bl o.isSome,H,I3,rfl,q⟩
theorem zjy (hu:X.A.units+1 < cLine):OpR X (compareOp .NotIn) (fun x y H Q=>∃ a o,y = .ref a∧DGet H a x o∧Q (.bl (!o.isSome)) H):=by
 intro pins s σ H x y v u Q I rx ry h
 obtain ⟨a,o,rfl,g,q⟩:=h
 obtain rfl:u=Value.ref a:=ry
 exact d_notIn hu I g rx fun s3 I3=>⟨.bl (!o.isSome),H,I3,rfl,q⟩
theorem zhl {κ:Type} [DecidableEq κ] {K:PySem.W.Frag} {H:Hp} {ds:List (κ×D)} {vs:List (κ×V)} (h:KVs K H ds vs) (k:κ):(valV vs k).isSome=(valD ds k).isSome:=by
 obtain ⟨h1,h2⟩:=h.val k
 cases e:valD ds k with
 | none=>rw [h2 e];rfl
 | some d=>
  obtain ⟨v,e1,_⟩:=h1 d e
  rw [e1]
  rfl
theorem zmh {f:Value->Value->Sem Value} {g:Bool->Bool}
  (hT:OpR X f (fun x y H Q=>∃ d ds,Dp X.K H x d∧Dp X.K H y (.tuple ds)∧SeqAt.shaped d=true∧SeqAt.shaped (.tuple ds)=true∧Q (.bl (g (ds.any fun z=>PyData.eqv z d))) H))
  (hL:OpR X f (fun x y H Q=>∃ d ds,Dp X.K H x d∧Dp X.K H y (.list ds)∧SeqAt.shaped d=true∧SeqAt.shaped (.list ds)=true∧Q (.bl (g (ds.any fun z=>PyData.eqv z d))) H))
  (hS:OpR X f (fun x y H Q=>∃ (c:Nat) (z:Str),x = .str ⟨#[c]⟩∧y = .str z∧Q (.bl (g (decide (c∈z.cps.toList)))) H))
  (hD:OpR X f (fun x y H Q=>∃ a o,y = .ref a∧DGet H a x o∧Q (.bl (g o.isSome)) H))
  (hK:OpR X f (fun x y H Q=>∃ (k:Key) (a:Addr) (S:Key->Bool) (n:Nat),x=kV k∧y=V.ref a∧H a=some (SetK X.prog X.w a S n)∧Q (.bl (g (S k))) H)):OpD X f (zh0 g):=by
 refine opd _ ((hT.or hL).or (hS.or (hD.or hK))) (fun x y H Q d e S h1 h2 r h=>?_) znW
 unfold zh0 at h
 split at h
 ·split at h
  ·rename_i p ps e1 e2
   obtain ⟨a1,a2⟩:=zcc r h1 e1
   obtain ⟨b1,b2⟩:=zcc r h2 e2
   exact .inl (.inl ⟨p,ps,a1,b1,a2,b2,zaC h r (.bl _)⟩)
  ·exact h.elim
 ·split at h
  ·rename_i p ps e1 e2
   obtain ⟨a1,a2⟩:=zcc r h1 e1
   obtain ⟨b1,b2⟩:=zcc r h2 e2
   exact .inl (.inr ⟨p,ps,a1,b1,a2,b2,zaC h r (.bl _)⟩)
  ·exact h.elim
 ·split at h
  ·rename_i y0
   cases h1
   cases h2
   split at h
   ·rename_i c ec
    have ey:y0=⟨#[c]⟩:=by
     obtain ⟨⟨l⟩⟩:=y0
     have:l=[c]:=ec
     subst this
     rfl
    subst ey
    exact .inr (.inl ⟨c,_,rfl,rfl,zaC h r (.bl _)⟩)
   ·exact h.elim
  ·exact h.elim
 ·split at h
  ·split at h
   ·rename_i p ps e1 e2
    obtain ⟨a1,a2⟩:=zcc r h1 e1
    obtain ⟨b1,b2⟩:=zcc r h2 e2
    exact .inl (.inr ⟨p,ps,a1,b1,a2,b2,zaC h r (.bl _)⟩)
   ·exact h.elim
  ·rename_i kvs e0
   split at h
   ·rename_i k ek
    cases h2
    obtain ⟨vs,q1,z1⟩:=r _ _ e0
    rw [zga h1 ek]
    exact .inr (.inr (.inl ⟨_,_,rfl,DGet.k q1,by rw [zhl z1];exact zaC h r (.bl _)⟩))
   ·exact h.elim
  ·rename_i f0 n0 e0
   split at h
   ·rename_i k ek
    cases h2
    have q1:=r _ _ e0
    rw [zga h1 ek]
    exact .inr (.inr (.inr ⟨k,_,f0,n0,rfl,rfl,q1,zaC h r (.bl _)⟩))
   ·exact h.elim
  ·exact h.elim
 ·exact h.elim
abbrev vIn:BM:=zh0 fun b=>b
abbrev zhZ:BM:=zh0 fun b=>!b
theorem zfz (hu:X.A.units+65 < cLine):OpD X (compareOp .In) vIn:=zmh (zqS hu) (op_inD hu) op_in_sign (znG (by omega)) or_sinK
theorem zgw (hu:X.A.units+65 < cLine):OpD X (compareOp .NotIn) zhZ:=zmh (zia hu) (op_notInD hu) op_notIn_sign (zjy (by omega)) or_snotinK
def tyD (S:Sto):D->Option String
 | .non=>some "NoneType"
 | .bl _=>some "bool"
 | .int _=>some "int"
 | .str _=>some "str"
 | .tp _ _=>some "tuple"
 | .rol _=>some "list"
 | .ref a=>match S a with
  | some (.lst _)=>some "list"
  | some (.dic _)=>some "dict"
  | some (.dit _)=>some "dict"
  | _=>none
 | .ty _=>none
 | .rod _ _=>none
def zmJ (a b:String):Option Bool:=match b with
 | "str" => some (a == "str")
 | "tuple" => some (a == "tuple")
 | "list" => some (a == "list")
 | "dict" => some (a == "dict")
 | "bool" => some (a == "bool")
 | "int" => some (a == "int" || a == "bool")
 | _=>none
def zda:CM:=fun ds S Q=>match ds with
 | [d,.ty b]=>match tyD S d with
  | some a=>match zmJ a b with
   | some c=>Q (.bl c) S
   | none=>False
  | none=>False
 | _=>False
def ziO:List String:=["NoneType", "bool", "int", "str", "tuple", "list", "dict"]
theorem zoh:∀ a∈ziO,∀ b∈["str", "tuple", "list", "dict", "bool", "int"],kitB a b=zmJ a b:=by decide +kernel
theorem zsP {K:PySem.W.Frag} {P:Program} {w:World} {H:Hp} {S:Sto} {d:D} {v:V} {a:String} (h:DV K H d v) (r:Rp K P w S H) (e:tyD S d=some a):TyX K H v (.type a)∧a∈ziO:=by
 cases h with
 | non=>cases e;exact ⟨.base .non,by decide⟩
 | bl=>cases e;exact ⟨.base (.bl _),by decide⟩
 | int=>cases e;exact ⟨.base (.int _),by decide⟩
 | str=>cases e;exact ⟨.base (.str _),by decide⟩
 | ty=>cases e
 | rod=>cases e
 | tup s z=>
  cases e
  refine ⟨?_,by decide⟩
  rcases s with (s | ⟨o,s⟩) | ⟨o,its,n,h1,h2,_⟩
  ·exact .base (.tup s)
  ·exact .fTuple s
  ·exact .kTuple h1 h2
 | rol s z=>
  cases e
  refine ⟨?_,by decide⟩
  rcases s with ⟨o,s⟩ | ⟨o,its,n,h1,h2,_⟩
  ·exact .base (.frz s)
  ·exact .kList h1 h2
 | ref a=>
  simp only [tyD] at e
  split at e
  ·rename_i xs e0
   obtain ⟨vs,q,z⟩:=r _ _ e0
   cases e
   exact ⟨.base (.lst q),by decide⟩
  ·rename_i xs e0
   obtain ⟨vs,q,z⟩:=r _ _ e0
   cases e
   exact ⟨.base (.dK q),by decide⟩
  ·rename_i xs e0
   obtain ⟨vs,q,z⟩:=r _ _ e0
   cases e
   exact ⟨.base (.dT q),by decide⟩
  ·cases e
theorem zlG {a b:String} {c:Bool} (e:zmJ a b=some c):b∈["str", "tuple", "list", "dict", "bool", "int"]:=by
 unfold zmJ at e
 split at e <;> first | decide | cases e
theorem za6:zfq X (.builtin "isinstance") zda:=by
 refine zgW _ call_isi (fun xs H Q ds S h r q=>?_) (fun ds S Q Q' i q=>?_)
 ·unfold zda at q
  split at q
  ·obtain ⟨v,u,rfl,z,z'⟩:=zu7 h
   cases z'
   split at q
   ·rename_i a e1
    split at q
    ·rename_i c e2
     obtain ⟨t1,t2⟩:=zsP z r e1
     exact ⟨_,_,_,_,c,rfl,.ty _,t1,kit_ty ((zoh _ t2 _ (zlG e2)).trans e2),zaC q r (.bl _)⟩
    ·exact q.elim
   ·exact q.elim
  ·exact q.elim
 ·unfold zda at q ⊢
  split at q
  ·split at q
   ·split at q
    ·exact i _ _ q
    ·exact q.elim
   ·exact q.elim
  ·exact q.elim
end
section
variable {X:Cx} {B:Hp} {st:Stmt} {rest:List Stmt} {m n:SM} {e:Expr} {me:EM} {pos:Pos}
def mNx:SM:=fun A env S=>A.nx env S
def zav (m n:SM):SM:=fun A env S=>m { A with nx:=n A } env S
theorem zq1:zlW mNx:=fun A B env S l h=>l.nx _ _ h
theorem zlW.go (h:zlW m) {A A':Fin} {env:Slo} {S:Sto} (q:m A env S) (l:zd5 A A'):m A' env S:=h A A' env S l q
theorem znP (h1:zlW m) (h2:zlW n):zlW (zav m n):=fun A B env S l h=>
 h1.go (A:={ A with nx:=n A }) (A':={ B with nx:=n B }) h ⟨fun e s q=>h2 A B e s l q,l.rt,l.bk,l.ct⟩
theorem zap:MSs X B [] mNx:=⟨zj1 pss_nil fun D σ H q=>by
 obtain ⟨lB,env,S,r0,z0,q⟩:=q
 exact q σ H (Le.refl H) r0 z0,zq1⟩
theorem zad (h1:MS X B st m) (h2:MSs X B rest n):MSs X B (st :: rest) (zav m n):=by
 refine ⟨zj1 (pss_cons h1.ps h2.ps) fun D σ H q=>?_,znP h1.mono h2.mono⟩
 obtain ⟨lB,env,S,r0,z0,q⟩:=q
 refine ⟨lB,env,S,r0,z0,h1.mono.go (A:={ dnF X.K X.prog X.w H D with nx:=n (dnF X.K X.prog X.w H D) }) q ⟨fun e s q σ' H' l r z=>?_,fun _ _ q=>q,fun _ _ q=>q,fun _ _ q=>q⟩⟩
 exact ⟨lB.trans l,e,s,r,z,h2.mono.go q (zkH l)⟩
theorem zag (h1:MS X B st m):MSs X B [st] m:=⟨pss_one h1.ps,h1.mono⟩
def zvu:SM:=fun A env S=>A.bk env S
def zvt:SM:=fun A env S=>A.ct env S
def zcF (m:EM):SM:=fun A env S=>m env S fun _ S1=>A.nx env S1
theorem zba (h:ME X B e me) (hs:swapsWith e none pos.line X.env=pure false:=by rfl):MS X B (.Expr e pos) (zcF me):=by
 refine ⟨zcZ (ps_expr h.pe hs) fun D σ H q=>?_,fun A B env S l q=>h.mono env S _ _ (fun d S1 q=>l.nx _ _ q) q⟩
 obtain ⟨lB,env,S,r0,z0,q⟩:=q
 exact ⟨lB,env,S,r0,z0,h.mono env S _ _ (fun d S1 q v H1 l z dv=>q σ H1 l (r0.le l) z) q⟩
def zaZ (m:EM):SM:=fun A env S=>m env S A.rt
theorem zar (h:ME X B e me):MS X B (.Return (some e) pos) (zaZ me):=by
 refine ⟨zcZ (ps_ret h.pe) fun D σ H q=>?_,fun A B env S l q=>h.mono env S _ _ (fun d S1 q=>l.rt _ _ q) q⟩
 obtain ⟨lB,env,S,r0,z0,q⟩:=q
 exact ⟨lB,env,S,r0,z0,q⟩
def zq9:SM:=fun A _ S=>A.rt .non S
def mIf (t:TM) (m n:SM):SM:=fun A env S=>t env S fun b S1=>match b with
 | true=>m A env S1
 | false=>n A env S1
theorem zaB {c:Expr} {a b:List Stmt} {t:TM} (hc:MT X B c t) (ha:MSs X B a m) (hb:MSs X B b n):MS X B (.If c a b pos) (mIf t m n):=by
 refine ⟨zcZ (ps_if hc.pt ha.ps hb.ps) fun D σ H q=>?_,fun A B env S l q=>hc.mono env S _ _ (fun c S1 z=>?_) q⟩
 ·obtain ⟨lB,env,S,r0,z0,q⟩:=q
  refine ⟨lB,env,S,r0,z0,hc.mono env S _ _ (fun c S1 q H1 l z=>?_) q⟩
  cases c with
  | true=>
   show upS X.K X.prog X.w B m D σ H1
   exact ⟨lB.trans l,env,S1,r0.le l,z,ha.mono _ _ env S1 (zkH l) q⟩
  | false=>
   show upS X.K X.prog X.w B n D σ H1
   exact ⟨lB.trans l,env,S1,r0.le l,z,hb.mono _ _ env S1 (zkH l) q⟩
 ·cases c with
  | true=>exact ha.mono _ _ env S1 l z
  | false=>exact hb.mono _ _ env S1 l z
abbrev GM:=D->Slo->Sto->(Slo->Sto->Prop)->Prop
abbrev GsM:=List D->Slo->Sto->(Slo->Sto->Prop)->Prop
def dnN (K:PySem.W.Frag) (P:Program) (w:World) (H:Hp) (Q:L2.St->Hp->Prop):Slo->Sto->Prop:=fun env' S'=>∀ σ' H',Le H H'->zcz K H' env' σ'->Rp K P w S' H'->Q σ' H'
structure MG (X:Cx) (B:Hp) (tg:Expr) (g:GM):Prop where
 pg:PG X tg fun v σ H Q=>Le B H∧∃ d env S,DV X.K H d v∧zcz X.K H env σ∧Rp X.K X.prog X.w S H∧g d env S (dnN X.K X.prog X.w H Q)
 mono:∀ d env S (Q Q':Slo->Sto->Prop),(∀ e S,Q e S->Q' e S)->g d env S Q->g d env S Q'
structure MGs (X:Cx) (B:Hp) (tg:List Expr) (g:GsM):Prop where
 pg:PGs X tg fun v σ H Q=>Le B H∧∃ d env S,DVs X.K H d v∧zcz X.K H env σ∧Rp X.K X.prog X.w S H∧g d env S (dnN X.K X.prog X.w H Q)
 mono:∀ d env S (Q Q':Slo->Sto->Prop),(∀ e S,Q e S->Q' e S)->g d env S Q->g d env S Q'
theorem zj4 {tg:Expr} {t t':TG} (h:PG X tg t) (i:∀ v σ H Q,t' v σ H Q->t v σ H Q):PG X tg t':=⟨fun pins s σ H v u Q I r q=>h.run pins s σ H v u Q I r (i v σ H Q q)⟩
theorem zj3 {tg:List Expr} {t t':TGs} (h:PGs X tg t) (i:∀ v σ H Q,t' v σ H Q->t v σ H Q):PGs X tg t':=⟨fun pins s σ H v u Q I r q=>h.run pins s σ H v u Q I r (i v σ H Q q)⟩
def gNm (i:Nat):GM:=fun d env S Q=>Q (env.set i (some d)) S
theorem zaG {i:Nat} {x:Str} (h:PG X (.Name x pos) (gName i)):MG X B (.Name x pos) (gNm i):=by
 refine ⟨zj4 h fun v σ H Q q=>?_,fun d env S Q Q' i q=>i _ _ q⟩
 obtain ⟨lB,d,env,S,dv,r0,z0,q⟩:=q
 exact q _ H (Le.refl H) (r0.set dv i) z0
def gN:GsM:=fun ds env S Q=>match ds with
 | []=>Q env S
 | _=>False
def gC (g:GM) (gs:GsM):GsM:=fun ds env S Q=>match ds with
 | d :: r=>g d env S fun env' S'=>gs r env' S' Q
 | _=>False
theorem ziF:MGs X B [] gN:=by
 refine ⟨zj3 pgs_nil fun v σ H Q q=>?_,fun d env S Q Q' i q=>?_⟩
 ·obtain ⟨lB,d,env,S,dv,r0,z0,q⟩:=q
  cases dv with
  | nil=>exact ⟨rfl,q _ H (Le.refl H) r0 z0⟩
  | cons=>exact q.elim
 ·cases d with
  | nil=>exact i _ _ q
  | cons=>exact q.elim
theorem zeP {e:Expr} {es:List Expr} {g:GM} {gs:GsM} (h1:MG X B e g) (h2:MGs X B es gs) (hs:(assignEach (e :: es) X.env).map (·.2)=assign e X.env :: (assignEach es X.env).map (·.2):=by rfl):MGs X B (e :: es) (gC g gs):=by
 refine ⟨zj3 (pgs_cons h1.pg h2.pg hs) fun v σ H Q q=>?_,fun d env S Q Q' i q=>?_⟩
 ·obtain ⟨lB,d,env,S,dv,r0,z0,q⟩:=q
  cases dv with
  | nil=>exact q.elim
  | @cons d ds v vs dv dvs=>
   refine ⟨v,vs,rfl,lB,d,env,S,dv,r0,z0,h1.mono _ _ _ _ _ (fun env' S' q σ' H' l r z=>?_) q⟩
   exact ⟨lB.trans l,ds,env',S',dvs.le l,r,z,h2.mono _ _ _ _ _ (fun e s q σ2 H2 l2 r2 z2=>q σ2 H2 (l.trans l2) r2 z2) q⟩
 ·cases d with
  | nil=>exact q.elim
  | cons d ds=>exact h1.mono _ _ _ _ _ (fun e s q=>h2.mono _ _ _ _ _ i q) q
def gT (n:Nat) (gs:GsM):GM:=fun d env S Q=>match d with
 | .tp _ ds=>ds.length=n∧gs ds env S Q
 | _=>False
theorem zkm {es:List Expr} {k n:Nat} {gs:GsM} (hc:X.calm=true) (h:MGs X B es gs) (hn:(assignEach es X.env).length=n:=by rfl) (hst:(assignEach es X.env).findIdx? (·.1)=none:=by rfl):MG X B (.Tuple es k pos) (gT n gs):=by
 refine ⟨zj4 (pg_tup hc h.pg hn hst) fun v σ H Q q=>?_,fun d env S Q Q' i q=>?_⟩
 ·obtain ⟨lB,d,env,S,dv,r0,z0,q⟩:=q
  cases dv with
  | tup s z=>exact ⟨_,_,rfl,s,by rw [← z.length];exact q.1,lB,_,env,S,z,r0,z0,q.2⟩
  | _=>exact (show False from q).elim
 ·cases d with
  | tp _ ds=>exact ⟨q.1,h.mono _ _ _ _ _ i q.2⟩
  | _=>exact (show False from q).elim
def gIx (mo mi:EM):GM:=fun d env S Q=>mo env S fun o S1=>mi env S1 fun i S2=>match zk4 S2 o i d with
 | some S3=>Q env S3
 | none=>False
theorem zeb {o i:Expr} {mo mi:EM} (hu:X.A.units+1 < cLine) (ho:ME X B o mo) (hi:ME X B i mi)
  (ha:∀ v,assign (.Subscript o i pos) X.env v=(do
   let ov ← holding [v] (eval o X.env)
   let iv ← holding [v,ov] (eval i X.env)
   standAt pos
   holding [v,ov,iv] (setItem ov iv v)
   release [v,ov,iv] []):=by intro _;rfl):MG X B (.Subscript o i pos) (gIx mo mi):=by
 refine ⟨zj4 (pg_sub ho.pe hi.pe (zjQ hu) ha) fun v σ H Q q=>?_,fun d env S Q Q' i q=>ho.mono env S _ _ (fun o S1 q=>hi.mono env S1 _ _ (fun j S2 q=>?_) q) q⟩
 ·obtain ⟨lB,d,env,S,dv,r0,z0,q⟩:=q
  refine ⟨lB,env,S,r0,z0,ho.mono env S _ _ (fun o S1 q v1 H1 l1 z1 d1=>?_) q⟩
  refine ⟨lB.trans l1,env,S1,r0.le l1,z1,hi.mono env S1 _ _ (fun j S2 q v2 H2 l2 z2 d2=>?_) q⟩
  split at q
  ·rename_i S3 e
   exact ⟨o,j,d,S2,S3,d1.le l2,d2,dv.le (l1.trans l2),z2,e,fun H3 l3 z3=>q _ H3 ((l1.trans l2).trans l3) (r0.le ((l1.trans l2).trans l3)) z3⟩
  ·exact q.elim
 ·split at q
  ·exact i _ _ q
  ·exact q.elim
def zaP (m:EM) (g:GM):SM:=fun A env S=>m env S fun d S1=>g d env S1 A.nx
theorem zea {tg:Expr} {g:GM} (he:ME X B e me) (hg:MG X B tg g) (hs:swapsWithSole [tg] e pos.line X.env=pure false:=by rfl) (hw:swappedStores [tg] e X.env=pure none:=by rfl)
  (h1:(assignEach [tg] X.env).map (·.2)=[assign tg X.env]:=by rfl):MS X B (.Assign [tg] e pos) (zaP me g):=by
 refine ⟨zcZ (ps_asg he.pe hg.pg hs hw h1) fun D σ H q=>?_,fun A B env S l q=>he.mono env S _ _ (fun d S1 q=>hg.mono _ _ _ _ _ l.nx q) q⟩
 obtain ⟨lB,env,S,r0,z0,q⟩:=q
 refine ⟨lB,env,S,r0,z0,he.mono env S _ _ (fun d S1 q v H1 l z dv=>?_) q⟩
 exact ⟨lB.trans l,d,env,S1,dv,r0.le l,z,hg.mono _ _ _ _ _ (fun e s q σ2 H2 l2 r2 z2=>q σ2 H2 (l.trans l2) r2 z2) q⟩
theorem zas {i:Nat} {x:Str} {pos':Pos} (he:ME X B e me) (h:∀ {te:TE},PE X e te->PS X (.Assign [.Name x pos'] e pos) (tAsg te (gName i))):MS X B (.Assign [.Name x pos'] e pos) (zaP me (gNm i)):=by
 refine ⟨zcZ (h he.pe) fun D σ H q=>?_,fun A B env S l q=>he.mono env S _ _ (fun d S1 q=>l.nx _ _ q) q⟩
 obtain ⟨lB,env,S,r0,z0,q⟩:=q
 refine ⟨lB,env,S,r0,z0,he.mono env S _ _ (fun d S1 q v H1 l z dv=>?_) q⟩
 exact q _ H1 l ((r0.le l).set dv i) z
theorem znI:OpD X (inplaceOp .Add) (fun d e S Q=>match d,e with
  | .int i,.int j=>Q (.int (i+j)) S
  | .str i,.str j=>i.length+j.length≤sizeLine∧Q (.str (i++j)) S
  | _,_=>False):=by
 refine opd _ (iop_add.or iop_add_str) (fun x y H Q d e S h1 h2 r h=>?_) (fun d e S Q Q' i h=>?_)
 ·cases h1 <;> cases h2 <;> first | exact h.elim | skip
  ·exact .inl ⟨_,_,rfl,rfl,zaC h r (.int _)⟩
  ·rename_i i o1 j o2
   exact .inr ⟨_,_,rfl,rfl,h.1,zaC h.2 r (.str _ (o1.append o2 h.1))⟩
 ·cases d <;> cases e <;> first | exact h.elim | exact i _ _ h | exact ⟨h.1,i _ _ h.2⟩
def zix:BM:=fun d e S Q=>match d,e with
  | .int i,.int j=>Q (.int (i+j)) S
  | .str i,.str j=>i.length+j.length≤sizeLine∧Q (.str (i++j)) S
  | _,_=>False
theorem ziZ:OpD X (inplaceOp .Add) zix:=znI
def zmC (i:Nat) (m:EM) (r:BM):SM:=fun A env S=>match env[i]? with
 | some (some d)=>m env S fun y S1=>r d y S1 fun z S2=>A.nx (env.set i (some z)) S2
 | _=>False
theorem zml {i:Nat} {x:Str} {op:Operator} {r:BM} {pos':Pos} (he:ME X B e me) (ho:OpD X (inplaceOp op) r) (h:∀ {te:TE} {ti:TIp},PE X e te->PIp X op ti->PS X (.AugAssign (.Name x pos') op e pos) (tAug i te ti)) :
  MS X B (.AugAssign (.Name x pos') op e pos) (zmC i me r):=by
 refine ⟨zcZ (h he.pe ho.op) fun D σ H q=>?_,fun A B env S l q=>?_⟩
 ·obtain ⟨lB,env,S,r0,z0,q⟩:=q
  unfold zmC at q
  split at q
  ·rename_i d ed
   obtain ⟨v,ev,dv⟩:=r0.at_ _ _ ed
   refine ⟨v,ev,lB,env,S,r0,z0,he.mono env S _ _ (fun y S1 q u H1 l1 z1 d1=>?_) q⟩
   refine ⟨d,y,S1,dv.le l1,d1,z1,ho.mono _ _ _ _ _ (fun z S2 q v2 H2 l2 z2 d2=>?_) q⟩
   exact q _ H2 (l1.trans l2) ((r0.le (l1.trans l2)).set d2 i) z2
  ·exact q.elim
 ·unfold zmC at q ⊢
  split at q
  ·exact he.mono env S _ _ (fun y S1 q=>ho.mono _ _ _ _ _ (fun z S2 q=>l.nx _ _ q) q) q
  ·exact q.elim
theorem zom (hu:X.A.units+1 < cLine):PGet X (fun o i H Q=>∃ d e S,DV X.K H d o∧DV X.K H e i∧Rp X.K X.prog X.w S H∧(∃ a,d = .ref a)∧(∀ k,e = .int k->0≤k)∧vIx d e S (dnE X.K X.prog X.w H Q)):=by
 intro pins s σ H o i ov iv Q I ro ri h
 obtain ⟨d,e,S,h1,h2,r,⟨a,rfl⟩,h0,q⟩:=h
 cases h1
 obtain rfl:ov=Value.ref a:=ro
 unfold vIx at q
 dsimp only at q
 split at q
 ·rename_i xs k e1
  split at q
  ·rename_i x0 e0
   cases h2
   obtain ⟨t,rfl⟩:=ri
   obtain ⟨vs,q1,z1⟩:=r _ _ e1
   obtain ⟨v,e2,z2⟩:=z1.atI e0
   obtain ⟨its,rv,pl,hz⟩:=I.list (SqL.of q1)
   obtain ⟨j,g1,g2,g3,g4,g5⟩:=atI_get e2
   obtain ⟨u,ew,rw'⟩:=rv.get g2
   have hk:=h0 _ rfl
   have hj:k.toNat=j:=by
    rw [seqIndex_of hk g5] at g1
    exact Option.some.inj g1
   have hl:=rv.length
   have hn:=line63
   refine wpAny_getItem_list pl.isList hk (by omega) (by rw [hj];simpa using ew) ?_
   exact ⟨v,H,I,rw',zaC q r z2⟩
  ·exact q.elim
 ·rename_i kvs e e1
  split at q
  ·rename_i k ek
   split at q
   ·rename_i x0 e0
    obtain ⟨vs,q1,z1⟩:=r _ _ e1
    obtain ⟨v,e2,z2⟩:=(z1.val k).1 _ e0
    have ev:=zga h2 ek
    subst ev
    refine d_getItem hu I (by rw [← e2];exact DGet.k q1) ri fun w' s3 I3 rw'=>⟨v,H,I3,rw',zaC q r z2⟩
   ·exact q.elim
  ·exact q.elim
 ·exact q.elim
def zjD (mo mi m:EM) (r:BM):SM:=fun A env S=>mo env S fun o S1=>mi env S1 fun i S2=>(match o with
 | .ref _=>True
 | _=>False)∧(match i with
 | .int k=>0≤k
 | _=>True)∧vIx o i S2 fun x S3=>m env S3 fun y S4=>r x y S4 fun z S5=>match zk4 S5 o i z with
  | some S6=>A.nx env S6
  | none=>False
theorem zkg {o i:Expr} {mo mi:EM} {op:Operator} {r:BM} {tpos:Pos} (hu:X.A.units+1 < cLine) (ho:ME X B o mo) (hi:ME X B i mi) (he:ME X B e me) (hop:OpD X (inplaceOp op) r)
  (ha:∀ ov iv new,augStore i ov iv new=(do holding [new,ov,iv] (setItem ov iv new);release [new,ov,iv] [];pure .next):=by intros;rfl):MS X B (.AugAssign (.Subscript o i tpos) op e pos) (zjD mo mi me r):=by
 refine ⟨zcZ (ps_augS ho.pe hi.pe (zom hu) he.pe hop.op (zjQ hu) ha) fun D σ H q=>?_,fun A B env S l q=>ho.mono env S _ _ (fun o S1 q=>hi.mono env S1 _ _ (fun j S2 q=>⟨q.1,q.2.1,zi4 _ _ _ _ _ (fun x S3 q=>he.mono env S3 _ _ (fun y S4 q=>hop.mono _ _ _ _ _ (fun z S5 q=>?_) q) q) q.2.2⟩) q) q⟩
 ·obtain ⟨lB,env,S,r0,z0,q⟩:=q
  refine ⟨lB,env,S,r0,z0,ho.mono env S _ _ (fun o S1 q v1 H1 l1 z1 d1=>?_) q⟩
  refine ⟨lB.trans l1,env,S1,r0.le l1,z1,hi.mono env S1 _ _ (fun j S2 q v2 H2 l2 z2 d2=>?_) q⟩
  obtain ⟨q1,q2,q⟩:=q
  have eo:∃ a,o = .ref a:=by
   cases o <;> first | exact ⟨_,rfl⟩ | exact q1.elim
  refine ⟨o,j,S2,d1.le l2,d2,z2,eo,fun k ek=>by subst ek;exact q2,zi4 _ _ _ _ _ (fun x S3 q v3 H3 l3 z3 d3=>?_) q⟩
  have l03:=(l1.trans l2).trans l3
  refine ⟨lB.trans l03,env,S3,r0.le l03,z3,he.mono env S3 _ _ (fun y S4 q v4 H4 l4 z4 d4=>?_) q⟩
  refine ⟨x,y,S4,d3.le l4,d4,z4,hop.mono _ _ _ _ _ (fun z S5 q v5 H5 l5 z5 d5=>?_) q⟩
  split at q
  ·rename_i S6 e6
   have l25:=l3.trans (l4.trans l5)
   exact ⟨o,j,z,S5,S6,d1.le (l2.trans l25),d2.le l25,d5,z5,e6,fun H6 l6 z6=>q _ H6 ((l1.trans l2).trans (l25.trans l6)) (r0.le ((l1.trans l2).trans (l25.trans l6))) z6⟩
  ·exact q.elim
 ·split at q
  ·exact l.nx _ _ q
  ·exact q.elim
def zvp (t:TM) (m:SM):SM:=fun A env S=>∃ W:Nat->Slo->Sto->Prop,(∃ k,W k env S)∧∀ k env S,W k env S->t env S fun b S1=>match b with
 | true=>m { A with nx:=fun e s=>∃ k',k' < k∧W k' e s,ct:=fun e s=>∃ k',k' < k∧W k' e s,bk:=A.nx } env S1
 | false=>A.nx env S1
abbrev IM:=Slo->Sto->(List D->(Sto->Prop)->Sto->Prop)->Prop
structure WkD (K:PySem.W.Frag) (P:Program) (w:World) (H1:Hp) (J:It) (xs:List D) (G:Sto->Prop):Prop where
 go:∀ i S H,i < xs.length->Le H1 H->Rp K P w S H->G S->J.go i H
 stop:∀ S H,Le H1 H->Rp K P w S H->G S->J.stop xs.length H
 yld:∀ i S H x H',i < xs.length->Le H1 H->Rp K P w S H->G S->J.yld i H x H'->Le H H'∧Rp K P w S H'∧∃ d,xs[i]? = some d∧DV K H' d x
structure MI (X:Cx) (B:Hp) (tg iter:Expr) (m:IM):Prop where
 pi:PI X tg iter fun σ H R=>Le B H∧∃ env S,zcz X.K H env σ∧Rp X.K X.prog X.w S H∧m env S fun xs G S1=>∀ J H1,Le H H1->Rp X.K X.prog X.w S1 H1->WkD X.K X.prog X.w H1 J xs G->R J H1
 mono:∀ env S (Q Q':List D->(Sto->Prop)->Sto->Prop),(∀ xs G S,Q xs G S->Q' xs G S)->m env S Q->m env S Q'
theorem ziV {tg iter:Expr} {t t':TI} (h:PI X tg iter t) (i:∀ σ H R,t' σ H R->t σ H R):PI X tg iter t':=⟨fun pins s σ H R I q=>h.run pins s σ H R I (i σ H R q)⟩
def forL (g:GM) (m:SM) (G:Sto->Prop) (A:Fin):List D->Slo->Sto->Prop
 | [],env,S=>G S∧A.nx env S
 | x :: xs,env,S=>G S∧g x env S fun env2 S2=>m { A with nx:=forL g m G A xs,ct:=forL g m G A xs,bk:=A.nx } env2 S2
theorem zgQ {g:GM} {m:SM} {G:Sto->Prop} (hg:∀ d env S (Q Q':Slo->Sto->Prop),(∀ e S,Q e S->Q' e S)->g d env S Q->g d env S Q') (hm:zlW m) {A A':Fin} (l:zd5 A A'):∀ xs env S,forL g m G A xs env S->forL g m G A' xs env S
 | [],env,S,h=>⟨h.1,l.nx _ _ h.2⟩
 | x :: xs,env,S,h=>⟨h.1,hg _ _ _ _ _ (fun e s q=>hm.go (A:={ A with nx:=forL g m G A xs,ct:=forL g m G A xs,bk:=A.nx }) (A':={ A' with nx:=forL g m G A' xs,ct:=forL g m G A' xs,bk:=A'.nx }) q ⟨zgQ hg hm l xs,l.rt,l.nx,zgQ hg hm l xs⟩) h.2⟩
def zej (mi:IM) (g:GM) (m:SM):SM:=fun A env S=>mi env S fun xs G S1=>forL g m G A xs env S1
theorem zaW {tg iter:Expr} {body:List Stmt} {mi:IM} {g:GM} (hp:PassesOwn (model X.prog X.w) X.A X.env X.xe) (hc:X.calm=true) (hi:MI X B tg iter mi) (hg:MG X B tg g) (hb:MSs X B body m)
  (h:∀ {wi:TI} {g:TG} {tb:TS},PI X tg iter wi->PG X tg g->PSs X body tb->PS X (.For tg iter body [] pos) (tFor wi g tb):=by intro wi g tb h1 h2 h3;exact ps_for (by assumption) (by assumption) h1 h2 h3):MS X B (.For tg iter body [] pos) (zej mi g m):=by
 refine ⟨zcZ (h hi.pi hg.pg hb.ps) fun D σ H q=>?_,fun A B env S l q=>hi.mono env S _ _ (fun xs G S1 q=>zgQ hg.mono hb.mono l _ _ _ q) q⟩
 obtain ⟨lB,env,S,r0,z0,q⟩:=q
 refine ⟨lB,env,S,r0,z0,hi.mono env S _ _ (fun xs G S1 q J H1 l1 z1 wk=>?_) q⟩
 refine ⟨fun i k σ' H'=>i≤xs.length∧k=xs.length - i∧Le H1 H'∧∃ env S,zcz X.K H' env σ'∧Rp X.K X.prog X.w S H'∧forL g m G (dnF X.K X.prog X.w H D) (xs.drop i) env S,
  ⟨xs.length,Nat.zero_le _,rfl,Le.refl H1,env,S1,r0.le l1,z1,q⟩,fun i k σ' H' h=>?_⟩
 obtain ⟨hi,rfl,l2,env,S,r2,z2,q⟩:=h
 by_cases hlt:i < xs.length
 ·have ed:xs.drop i=xs[i] :: xs.drop (i+1):=(List.drop_eq_getElem_cons hlt)
  rw [ed] at q
  refine .inr ⟨wk.go i S H' hlt l2 z2 q.1,fun σ3 H3=>Le H1 H3∧∃ env S,zcz X.K H3 env σ3∧Rp X.K X.prog X.w S H3∧forL g m G (dnF X.K X.prog X.w H D) (xs.drop (i+1)) env S,
   fun σ3 H3 h=>⟨xs.length - (i+1),by omega,hlt,rfl,h⟩,fun x H3 hy=>?_⟩
  obtain ⟨l3,z3,d,ex,dv⟩:=wk.yld i S H' x H3 hlt l2 z2 q.1 hy
  have e':d=xs[i]:=by
   rw [List.getElem?_eq_getElem hlt] at ex
   exact (Option.some.inj ex).symm
  subst e'
  have l13:=l2.trans l3
  refine ⟨lB.trans (l1.trans l13),_,env,S,dv,r2.le l3,z3,hg.mono _ _ _ _ _ (fun e s q σ4 H4 l4 r4 z4=>?_) q.2⟩
  have l14:=l13.trans l4
  refine ⟨lB.trans (l1.trans l14),e,s,r4,z4,hb.mono.go (A:={ dnF X.K X.prog X.w H D with nx:=forL g m G (dnF X.K X.prog X.w H D) (xs.drop (i+1)),ct:=forL g m G (dnF X.K X.prog X.w H D) (xs.drop (i+1)),bk:=(dnF X.K X.prog X.w H D).nx }) q ⟨fun e s q σ5 H5 l5 r5 z5=>⟨l14.trans l5,e,s,r5,z5,q⟩,zdN (l1.trans l14),fun e s q σ5 H5 l5 r5 z5=>q σ5 H5 ((l1.trans l14).trans l5) r5 z5,fun e s q σ5 H5 l5 r5 z5=>⟨l14.trans l5,e,s,r5,z5,q⟩⟩⟩
 ·have ei:i=xs.length:=by omega
  subst ei
  rw [List.drop_length] at q
  exact .inl ⟨wk.stop S H' l2 z2 q.1,q.2 σ' H' (l1.trans l2) r2 z2⟩
variable {tg:Expr}
def zjJ (x:Str):List D:=x.cps.toList.map fun c=>.str ⟨#[c]⟩
def zek (m:EM):IM:=fun env S R=>m env S fun d S1=>match d with
 | .tp _ xs=>R xs (fun _=>True) S1
 | .rol xs=>R xs (fun _=>True) S1
 | .str x=>R (zjJ x) (fun _=>True) S1
 | .ref a=>match S1 a with
  | some (.lst xs)=>R xs (fun S=>S a=some (.lst xs)) S1
  | _=>False
 | _=>False
theorem zln {m:EM} (h:zci m):∀ env S (Q Q':List D->(Sto->Prop)->Sto->Prop),(∀ xs G S,Q xs G S->Q' xs G S)->zek m env S Q->zek m env S Q':=fun env S Q Q' i q=>
 h env S _ _ (fun d S1 q=>by
  split at q
  ·exact i _ _ _ q
  ·exact i _ _ _ q
  ·exact i _ _ _ q
  ·split at q
   ·exact i _ _ _ q
   ·exact q.elim
  ·exact q.elim) q
theorem zlY {K:PySem.W.Frag} {P:Program} {w:World} {H1:Hp} {a:Addr} {vs:List V} {ds:List D} (s:SqT K H1 a vs) (z:DVs K H1 ds vs):WkD K P w H1 (Itt K a) ds fun _=>True where
 go:=fun i S H hi l _ _=>by
  rw [z.length] at hi
  exact (walk_tup (xs:=vs)).goes i H hi (zg0 l s)
 stop:=fun S H l _ _=>by
  rw [z.length]
  exact (walk_tup (xs:=vs)).stops H (zg0 l s)
 yld:=fun i S H x H' hi l r _ y=>by
  rw [z.length] at hi
  obtain ⟨e1,e2⟩:=(walk_tup (xs:=vs)).yields i H x H' hi (zg0 l s) y
  subst e1
  refine ⟨Le.refl _,r,?_⟩
  rw [← z.length] at hi
  obtain ⟨v,e3,dv⟩:=(z.le l).get (List.getElem?_eq_getElem hi)
  rw [e2] at e3
  cases e3
  exact ⟨_,List.getElem?_eq_getElem hi,dv⟩
theorem zoT {K:PySem.W.Frag} {P:Program} {w:World} {H1:Hp} {a:Addr} {vs:List V} {ds:List D} (s:RoL K H1 a vs) (z:DVs K H1 ds vs):WkD K P w H1 (Itl K a) ds fun _=>True where
 go:=fun i S H hi l _ _=>by
  rw [z.length] at hi
  exact (walk_list (xs:=vs)).goes i H hi (s.le l).sq
 stop:=fun S H l _ _=>by
  rw [z.length]
  exact (walk_list (xs:=vs)).stops H (s.le l).sq
 yld:=fun i S H x H' hi l r _ y=>by
  rw [z.length] at hi
  obtain ⟨e1,e2⟩:=(walk_list (xs:=vs)).yields i H x H' hi (s.le l).sq y
  subst e1
  refine ⟨Le.refl _,r,?_⟩
  rw [← z.length] at hi
  obtain ⟨v,e3,dv⟩:=(z.le l).get (List.getElem?_eq_getElem hi)
  rw [e2] at e3
  cases e3
  exact ⟨_,List.getElem?_eq_getElem hi,dv⟩
theorem zoV {K:PySem.W.Frag} {P:Program} {w:World} {H1:Hp} {a:Addr} {ds:List D}:WkD K P w H1 (Itl K a) ds fun S=>S a=some (.lst ds) where
 go:=fun i S H hi l r g=>by
  obtain ⟨vs,q,z⟩:=r _ _ g
  rw [z.length] at hi
  exact (walk_list (xs:=vs)).goes i H hi (SqL.of q)
 stop:=fun S H l r g=>by
  obtain ⟨vs,q,z⟩:=r _ _ g
  rw [z.length]
  exact (walk_list (xs:=vs)).stops H (SqL.of q)
 yld:=fun i S H x H' hi l r g y=>by
  obtain ⟨vs,q,z⟩:=r _ _ g
  rw [z.length] at hi
  obtain ⟨e1,e2⟩:=(walk_list (xs:=vs)).yields i H x H' hi (SqL.of q) y
  subst e1
  refine ⟨Le.refl _,r,?_⟩
  rw [← z.length] at hi
  obtain ⟨v,e3,dv⟩:=z.get (List.getElem?_eq_getElem hi)
  rw [e2] at e3
  cases e3
  exact ⟨_,List.getElem?_eq_getElem hi,dv⟩
theorem OkS.sign {x:Str} {c:Nat} (h:OkS x) (hm:c∈x.cps):OkS ⟨#[c]⟩:=by
 refine ⟨?_,(show 1≤sizeLine by decide)⟩
 have h1:x.cps.all (· < 0x110000)=true:=h.1
 rw [Array.all_eq_true_iff_forall_mem] at h1
 have h2:=h1 c hm
 show (#[c]:Array Nat).all (· < 0x110000)=true
 simpa using h2
theorem zoS {K:PySem.W.Frag} {P:Program} {w:World} {H1:Hp} {x:Str} (ok:OkS x):WkD K P w H1 (Its x) (zjJ x) fun _=>True where
 go:=fun i S H hi _ _ _=>by
  refine (walk_str (z:=x)).goes i H ?_ trivial
  simpa [zjJ] using hi
 stop:=fun S H _ _ _=>by
  have e:(zjJ x).length=x.cps.size:=by simp [zjJ]
  rw [e]
  exact (walk_str (z:=x)).stops H trivial
 yld:=fun i S H v H' hi l r _ y=>by
  have hi':i < x.cps.size:=by simpa [zjJ] using hi
  obtain ⟨e1,c,e2,e3⟩:=(walk_str (z:=x)).yields i H v H' hi' trivial y
  subst e1 e3
  refine ⟨Le.refl _,r,.str ⟨#[c]⟩,?_,.str _ (ok.sign (Array.mem_of_getElem? e2))⟩
  simp [zjJ,e2]
def zoi (K:PySem.W.Frag) (tl:TE):TI:=fun σ H R=>tl σ H fun x H1=>(∃ a,x = .ref a∧(((∃ xs,SqL K H1 a xs)∧R (Itl K a) H1) ∨ ((∃ xs,SqT K H1 a xs)∧R (Itt K a) H1))) ∨ ∃ z,x = .str z∧R (Its z) H1
theorem zh8 {l:Expr} {tl:TE} (hl:PE X l tl):PI X tg l (zoi X.K tl):=by
 refine ⟨fun pins s σ H R I h=>?_⟩
 have h1:=hl.run pins s σ H _ I h
 refine thn h1 fun v s1 ⟨x,H1,I1,r1,q0⟩=>?_
 rcases q0 with ⟨a,ex,q⟩ | ⟨z,ex,q⟩
 rotate_left
 ·subst ex
  obtain ⟨t,rfl⟩:=r1
  cases ha:z.cps.all (· < 128)
  ·exact wpAny_pyIter_wide ha (pi_one (tk:=s1.toks) I1 _ (turn_str _ z t "str_iterator" (.inr rfl)) ⟨_,Heap.get?_push_size _ rfl,rfl,rfl⟩ q)
  ·exact wpAny_pyIter_ascii ha (pi_one (tk:=s1.toks) I1 _ (turn_str _ z t "str_ascii_iterator" (.inl rfl)) ⟨_,Heap.get?_push_size _ rfl,rfl,rfl⟩ q)
 subst ex
 rcases q with ⟨⟨xs,hq⟩,q⟩ | ⟨⟨xs,hq⟩,q⟩
 ·cases r1
  obtain ⟨its,rv,p,hz⟩:=I1.list hq
  refine wpAny_pyIter_list p.isList ?_
  refine ⟨s1.heap.objs.size,[s1.heap.objs.size],_,_,H1,rfl,I1.kept (t':=s1.toks) fun b o e=>Heap.get?_push_of_some _ e,turn_list a _,⟨_,Heap.get?_push_size _ rfl,rfl,rfl⟩,fun b hb=>?_,q⟩
  have e:b=s1.heap.objs.size:=by simpa using hb
  subst e
  exact I1.fpOk (Nat.le_refl _) (I1.hok.fresh (Nat.le_refl _))
 ·cases r1
  obtain ⟨its,rv,p,hz⟩:=I1.tuple hq
  refine wpAny_pyIter_tuple (show s1.heap.IsTuple a its.toArray from p) ?_
  refine ⟨s1.heap.objs.size,[s1.heap.objs.size],_,_,H1,rfl,I1.kept (t':=s1.toks) fun b o e=>Heap.get?_push_of_some _ e,turn_tuple a _,⟨_,Heap.get?_push_size _ rfl,rfl,rfl⟩,fun b hb=>?_,q⟩
  have e:b=s1.heap.objs.size:=by simpa using hb
  subst e
  exact I1.fpOk (Nat.le_refl _) (I1.hok.fresh (Nat.le_refl _))
theorem zaX {l:Expr} {m:EM} (h:ME X B l m):MI X B tg l (zek m):=by
 refine ⟨ziV (zh8 h.pe) fun σ H R q=>?_,zln h.mono⟩
 obtain ⟨lB,env,S,r0,z0,q⟩:=q
 refine ⟨lB,env,S,r0,z0,h.mono env S _ _ (fun d S1 q v H1 l1 z1 d1=>?_) q⟩
 dsimp only at q
 split at q
 ·cases d1 with
  | tup s z=>exact .inl ⟨_,rfl,.inr ⟨⟨_,s⟩,q _ H1 l1 z1 (zlY s z)⟩⟩
 ·cases d1 with
  | rol s z=>exact .inl ⟨_,rfl,.inl ⟨⟨_,s.sq⟩,q _ H1 l1 z1 (zoT s z)⟩⟩
 ·cases d1 with
  | str x ok=>exact .inr ⟨_,rfl,q _ H1 l1 z1 (zoS ok)⟩
 ·cases d1
  split at q
  ·rename_i xs e0
   obtain ⟨vs,q1,z⟩:=z1 _ _ e0
   exact .inl ⟨_,rfl,.inl ⟨⟨_,SqL.of q1⟩,q _ H1 l1 z1 zoV⟩⟩
  ·exact q.elim
 ·exact q.elim
def ziz (lo:Int) (n:Nat):List D:=(List.range n).map fun (i:Nat)=>.int (lo+(i:Int))
theorem zoU {K:PySem.W.Frag} {P:Program} {w:World} {H1:Hp} {lo:Int} {n:Nat}:WkD K P w H1 (Itr lo n) (ziz lo n) fun _=>True where
 go:=fun i S H hi _ _ _=>by
  show i < n
  simpa [ziz] using hi
 stop:=fun S H _ _ _=>by
  simp [ziz,Itr]
 yld:=fun i S H x H' hi l r _ y=>by
  obtain ⟨e1,e2⟩:=y
  subst e1 e2
  have hi':i < n:=by simpa [ziz] using hi
  exact ⟨Le.refl _,r,.int (lo+i),by simp [ziz,hi'],.int _⟩
def zce (m:AM):IM:=fun env S R=>m env S fun ds S1=>match ds with
 | [.int j]=>-(2 ^ 62)≤j∧j < 2 ^ 62∧R (ziz 0 j.toNat) (fun _=>True) S1
 | _=>False
def zu3 (m:AM):IM:=fun env S R=>m env S fun ds S1=>match ds with
 | [.int i,.int j]=>(-(2 ^ 62)≤i∧i < 2 ^ 62∧-(2 ^ 62)≤j∧j < 2 ^ 62)∧R (ziz i (j - i).toNat) (fun _=>True) S1
 | _=>False
theorem zbF {a:Expr} {m:AM} {p:Pos} (ha:MA X B [a] m) (h:∀ {ta:TA},PA X [a] ta->PI X tg (.Call (.Name "range" p) [a] [] pos) (iRng1 ta)):MI X B tg (.Call (.Name "range" p) [a] [] pos) (zce m):=by
 refine ⟨ziV (h ha.pa) fun σ H R q=>?_,fun env S Q Q' i q=>ha.mono env S _ _ (fun d S1 q=>?_) q⟩
 ·obtain ⟨lB,env,S,r0,z0,q⟩:=q
  refine ⟨lB,env,S,r0,z0,ha.mono env S _ _ (fun ds S1 q vs H1 l1 z1 d1=>?_) q⟩
  split at q
  ·obtain ⟨v,rfl,dv⟩:=zjh d1
   cases dv
   exact ⟨_,rfl,q.1,q.2.1,q.2.2 _ H1 l1 z1 zoU⟩
  ·exact q.elim
 ·split at q
  ·exact ⟨q.1,q.2.1,i _ _ _ q.2.2⟩
  ·exact q.elim
end
abbrev XQ:=Value->List (Str×D)->Sto->Prop
abbrev SpD:=List D->Sto->DQ->XQ->Prop
def zd4 (sp:SpD):Prop:=∀ ds S (Q Q':DQ) (E E':XQ),(∀ d S,Q d S->Q' d S)->(∀ c f S,E c f S->E' c f S)->sp ds S Q E->sp ds S Q' E'
def zhv (K:PySem.W.Frag) (P:Program) (w:World) (sp:SpD):Sp:=fun vs H Q E=>∃ ds S,DVs K H ds vs∧Rp K P w S H∧sp ds S (dnE K P w H Q) fun c fs S'=>∀ dd H',Le H H'->Rp K P w S' H'->XdR K H' dd fs->E c dd H'
section
variable {X:Cx} {B:Hp} {W:XW}
abbrev Tk (X:Cx) (B:Hp) (W:XW):Prop:=Takes X (upW X.K X.prog X.w B W)
def WN:XW:=fun _ _ _ _=>False
theorem zjO:Tk X B WN:=fun u s' x=>by
 obtain ⟨_,_,_,_,_,_,_,_,_,_,_,_,_,_,_,_,z⟩:=x
 obtain ⟨_,_,_,_,_,_,_,z⟩:=z
 exact z.elim
def zaw (sp:SpD) (W:XW) (m:AM):EM:=fun env S Q=>m env S fun ds S1=>sp ds S1 Q fun c fs S'=>W c fs env S'
theorem zi7 {sp:SpD} {m:AM} (hs:zd4 sp) (hm:zkS m):zci (zaw sp W m):=fun env S Q Q' i q=>hm env S _ _ (fun ds S1 q=>hs _ _ _ _ _ _ i (fun _ _ _ h=>h) q) q
theorem zjP {K:PySem.W.Frag} {P:Program} {w:World} {sp:SpD} (hs:zd4 sp) {env:Slo} {σ:L2.St} {H H1:Hp} {S1:Sto} {ds:List D} {vs:List V} {Q:VK} (lB:Le B H) (r0:zcz K H env σ) (l1:Le H H1) (z1:Rp K P w S1 H1) (d1:DVs K H1 ds vs)
  (q:sp ds S1 (dnE K P w H Q) fun c fs S'=>W c fs env S'):zhv K P w sp vs H1 Q (WE (upW K P w B W) σ):=
 ⟨ds,S1,d1,z1,hs _ _ _ _ _ _ (zdN l1) (fun c fs S' hW dd H' l2 z2 x=>⟨lB.trans (l1.trans l2),env,S',fs,r0.le (l1.trans l2),z2,x,hW⟩) q⟩
variable {k:Nat} {f C:Addr} {fd:FuncData} {ps:List Str} {sp:SpD} {x m:Str} {p pos apos:Pos} {e o:Expr} {es:List Expr} {ma:AM} {mo:EM}
theorem zmT {m:AM} (hs:zd4 sp) (hm:zkS m) {σ:L2.St} {H:Hp} {Q:VK} {K:PySem.W.Frag} {P:Program} {w:World} (q:up K P w B (zaw sp W m) σ H Q):tCallS (zhv K P w sp) (WE (upW K P w B W)) (upA K P w B m) σ H Q:=by
 obtain ⟨lB,env,S,r0,z0,q⟩:=q
 refine ⟨lB,env,S,r0,z0,hm env S _ _ (fun ds S1 q vs H1 l1 z1 d1=>?_) q⟩
 exact zjP hs lB r0 l1 z1 d1 q
theorem zn6 (F:FnOk X.prog X.w X.K X.mg X.base (L2.CX X.prog X.w) k f fd ps (zhv X.K X.prog X.w sp)) (hs:zd4 sp) (hr:Room k X.A) (tk:Tk X B W) (hg:Gl X x) (hm:X.mg x=some (.ref f)) (hk:PySem.W.keepIn X.K (.ref f)=true) (hb:Binds X.K fd ps [])
  (ha:MA X B (e :: es) ma) (hdb:(x == ("__debug__" : Str))=false:=by decide) (he:starEach (e :: es) X.env=(false,eval e X.env) :: starEach es X.env:=by rfl) (hpl:(backTo pos (starEach es X.env)).any (·.1)=false:=by rfl) :
  ME X B (.Call (.Name x p) (e :: es) [] pos) (zaw sp W ma):=
 ⟨zbl (pe_callS F hr hg hm hk hb (fun σ=>passAt tk σ) ha.pa hdb he hpl) fun _ _ _ q=>zmT hs ha.mono q,zi7 hs ha.mono⟩
theorem zlr (F:FnOk X.prog X.w X.K X.mg X.base (L2.CX X.prog X.w) k f fd ps (zhv X.K X.prog X.w sp)) (hs:zd4 sp) (hr:Room k X.A) (tk:Tk X B W) (hg:Gl X x) (hm:X.mg x=some (.ref f)) (hk:PySem.W.keepIn X.K (.ref f)=true) (hb:Binds X.K fd ps [])
  (hdb:(x == ("__debug__" : Str))=false:=by decide):ME X B (.Call (.Name x p) [] [] pos) (zaw sp W zan):=by
 refine ⟨⟨fun pins s σ H Q I h=>?_⟩,zi7 hs fun env S Q Q' i q=>i _ _ q⟩
 obtain ⟨lB,env,S,r0,z0,q⟩:=h
 refine wpAny_Call_Name_kw (ld_glob I hg hm ?_ hdb)
 refine PySem.W.callWith_K0 I.kIn hk ?_
 exact run_fnS (us:=[]) F hr hb (passAt tk σ) I .nil (zjP hs lB r0 (Le.refl H) z0 .nil q)
def tMethS (C:Addr) (m:Str) (sp:Sp) (E:L2.St->XK) (ta:TE) (t:TA):TE:=fun σ H Q=>ta σ H fun x H1=>∃ a dx fs,x = .ref a∧H1 a=some (.ins C dx fs)∧fs.lookup m=none∧t σ H1 fun vs H2=>sp (x :: vs) H2 Q (E σ)
theorem pe_methS {CX:CXT} {sp:Sp} {E:L2.St->XK} {ta:TE} {t:TA} {pl:Sem Bool} (he:PE X o ta) (c:Cls X.K C) (hm:Meth X.K C m f) (F:FnOk X.prog X.w X.K X.mg X.base CX k f fd ps sp) (hr:Room k X.A) (hb:Binds X.K fd ps []) (hx:∀ σ,PassesAt CX X σ (E σ)) (ha:PA X (e :: es) t)
  (hst:starEach (e :: es) X.env=(false,eval e X.env) :: starEach es X.env:=by rfl) (hpl:(backTo pos (starEach es X.env)).any (·.1)=false:=by rfl)
  (ht:eval (.Call (.Attribute o m apos) (e :: es) [] pos) X.env=(do
   let ov ← eval o X.env
   standAt apos.atName
   let (f,first) ← holding [ov] (getMethod ov m pl)
   callWith pos f first (backTo pos (starEach (e :: es) X.env)) (backToKw pos (keywordEach [] X.env))):=by rfl) :
  PE X (.Call (.Attribute o m apos) (e :: es) [] pos) (tMethS C m sp E ta t):=by
 refine ⟨fun pins s σ H Q I h=>?_⟩
 refine PySem.W.methodCall_KW (pl:=pl) (thn (he.run pins s σ H _ I h) fun u s1 ⟨x,H1,I1,rx,a,dx,fs,ex,ea,l,q⟩=>?_) ht
 subst ex
 obtain rfl:u=Value.ref a:=rx
 refine getmeth_ok I1 ea c hm l ?_
 refine PySem.W.callWith_K (first:=[.ref a]) (h₀:=X.base) I.ok.mod.kin hm.kp (thn (ha.run pos pins s1 σ H1 _ I1 q) fun us s2 ⟨vs,H2,I2,r,q2⟩=>⟨I2.kIn,?_⟩) hst hpl
 exact run_fnS (us:=.ref a :: us) (vs:=.ref a :: vs) F hr hb (hx σ) I2 (.cons rfl r) q2
theorem zj5 {CX:CXT} {sp:Sp} {E:L2.St->XK} {ta:TE} {pl:Sem Bool} (he:PE X o ta) (c:Cls X.K C) (hm:Meth X.K C m f) (F:FnOk X.prog X.w X.K X.mg X.base CX k f fd ps sp) (hr:Room k X.A) (hb:Binds X.K fd ps []) (hx:∀ σ,PassesAt CX X σ (E σ))
  (ht:eval (.Call (.Attribute o m apos) [] [] pos) X.env=(do
   let ov ← eval o X.env
   standAt apos.atName
   let (f,first) ← holding [ov] (getMethod ov m pl)
   callWith pos f first (backTo pos (starEach [] X.env)) (backToKw pos (keywordEach [] X.env))):=by rfl) :
  PE X (.Call (.Attribute o m apos) [] [] pos) (tMethS C m sp E ta tNil):=by
 refine ⟨fun pins s σ H Q I h=>?_⟩
 refine PySem.W.methodCall_KW (pl:=pl) (thn (he.run pins s σ H _ I h) fun u s1 ⟨x,H1,I1,rx,a,dx,fs,ex,ea,l,q⟩=>?_) ht
 subst ex
 obtain rfl:u=Value.ref a:=rx
 refine getmeth_ok I1 ea c hm l ?_
 refine PySem.W.callWith_K0 (first:=[.ref a]) I1.kIn hm.kp ?_
 exact run_fnS (us:=[.ref a]) (vs:=[.ref a]) F hr hb (hx σ) I1 (.cons rfl .nil) q
def zdZ (C:Addr) (m:Str) (sp:SpD) (W:XW) (mo:EM) (ma:AM):EM:=fun env S Q=>mo env S fun d S1=>match d with
 | .ref a=>match S1 a with
  | some (.ins C' fs)=>C'=C∧fs.lookup m=none∧ma env S1 fun ds S2=>sp (.ref a :: ds) S2 Q fun c fs S'=>W c fs env S'
  | _=>False
 | _=>False
theorem zi3 (hs:zd4 sp) (ho:zci mo) (hm:zkS ma):zci (zdZ C m sp W mo ma):=fun env S Q Q' i q=>ho env S _ _ (fun d S1 q=>by
 split at q
 ·split at q
  ·exact ⟨q.1,q.2.1,hm env S1 _ _ (fun ds S2 q=>hs _ _ _ _ _ _ i (fun _ _ _ h=>h) q) q.2.2⟩
  ·exact q.elim
 ·exact q.elim) q
theorem KVs.lookup {K:PySem.W.Frag} {H:Hp} {ds:List (Str×D)} {vs:List (Str×V)} (h:KVs K H ds vs) (f:Str):(∀ d,ds.lookup f=some d->∃ v,vs.lookup f=some v∧DV K H d v)∧(ds.lookup f=none->vs.lookup f=none):=by
 induction h with
 | nil=>exact ⟨(fun d e=>nomatch e),fun _=>rfl⟩
 | @cons k' d v ds vs h1 h2 ih=>
  rw [List.lookup_cons,List.lookup_cons]
  cases hk:f == k' with
  | true=>exact ⟨fun d' e=>by cases e;exact ⟨v,rfl,h1⟩,(fun e=>nomatch e)⟩
  | false=>exact ih
theorem zmQ (hs:zd4 sp) (ho:zci mo) (hm:zkS ma) {σ:L2.St} {H:Hp} {Q:VK} {K:PySem.W.Frag} {P:Program} {w:World} (q:up K P w B (zdZ C m sp W mo ma) σ H Q):tMethS C m (zhv K P w sp) (WE (upW K P w B W)) (up K P w B mo) (upA K P w B ma) σ H Q:=by
 obtain ⟨lB,env,S,r0,z0,q⟩:=q
 refine ⟨lB,env,S,r0,z0,ho env S _ _ (fun d S1 q v H1 l1 z1 d1=>?_) q⟩
 split at q
 ·cases d1
  split at q
  ·rename_i _ C' fs e0
   obtain ⟨rfl,q1,q⟩:=q
   obtain ⟨dx,vs,e1,kv⟩:=z1 _ _ e0
   refine ⟨_,dx,vs,rfl,e1,(kv.lookup m).2 q1,lB.trans l1,env,S1,r0.le l1,z1,hm env S1 _ _ (fun ds S2 q us H2 l2 z2 d2=>?_) q⟩
   exact zjP hs lB r0 (l1.trans l2) z2 (.cons (.ref _) d2) q
  ·exact q.elim
 ·exact q.elim
theorem zn2 {pl:Sem Bool} (ho:ME X B o mo) (c:Cls X.K C) (hm:Meth X.K C m f) (F:FnOk X.prog X.w X.K X.mg X.base (L2.CX X.prog X.w) k f fd ps (zhv X.K X.prog X.w sp)) (hs:zd4 sp) (hr:Room k X.A) (tk:Tk X B W) (hb:Binds X.K fd ps []) (ha:MA X B (e :: es) ma)
  (hst:starEach (e :: es) X.env=(false,eval e X.env) :: starEach es X.env:=by rfl) (hpl:(backTo pos (starEach es X.env)).any (·.1)=false:=by rfl)
  (ht:eval (.Call (.Attribute o m apos) (e :: es) [] pos) X.env=(do
   let ov ← eval o X.env
   standAt apos.atName
   let (f,first) ← holding [ov] (getMethod ov m pl)
   callWith pos f first (backTo pos (starEach (e :: es) X.env)) (backToKw pos (keywordEach [] X.env))):=by rfl):ME X B (.Call (.Attribute o m apos) (e :: es) [] pos) (zdZ C m sp W mo ma):=
 ⟨zbl (pe_methS ho.pe c hm F hr hb (fun σ=>passAt tk σ) ha.pa hst hpl ht) fun _ _ _ q=>zmQ hs ho.mono ha.mono q,zi3 hs ho.mono ha.mono⟩
theorem zlq {pl:Sem Bool} (ho:ME X B o mo) (c:Cls X.K C) (hm:Meth X.K C m f) (F:FnOk X.prog X.w X.K X.mg X.base (L2.CX X.prog X.w) k f fd ps (zhv X.K X.prog X.w sp)) (hs:zd4 sp) (hr:Room k X.A) (tk:Tk X B W) (hb:Binds X.K fd ps [])
  (ht:eval (.Call (.Attribute o m apos) [] [] pos) X.env=(do
   let ov ← eval o X.env
   standAt apos.atName
   let (f,first) ← holding [ov] (getMethod ov m pl)
   callWith pos f first (backTo pos (starEach [] X.env)) (backToKw pos (keywordEach [] X.env))):=by rfl):ME X B (.Call (.Attribute o m apos) [] [] pos) (zdZ C m sp W mo zan):=by
 refine ⟨zbl (zj5 ho.pe c hm F hr hb (fun σ=>passAt tk σ) ht) fun σ H Q q=>?_,zi3 hs ho.mono fun env S Q Q' i q=>i _ _ q⟩
 obtain ⟨lB,env,S,r0,z0,q⟩:=q
 refine ⟨lB,env,S,r0,z0,ho.mono env S _ _ (fun d S1 q v H1 l1 z1 d1=>?_) q⟩
 split at q
 ·cases d1
  split at q
  ·rename_i _ C' fs e0
   obtain ⟨rfl,q1,q⟩:=q
   obtain ⟨dx,vs,e1,kv⟩:=z1 _ _ e0
   exact ⟨_,dx,vs,rfl,e1,(kv.lookup m).2 q1,zjP hs lB r0 l1 z1 (.cons (.ref _) .nil) q⟩
  ·exact q.elim
 ·exact q.elim
def FOk (K:PySem.W.Frag) (C:Addr) (f:Str):Prop:=Cls K C∧NoAttr K C f
def zfa (K:PySem.W.Frag) (m:EM) (f:Str):EM:=fun env S Q=>m env S fun d S1=>match d with
 | .ref a=>match S1 a with
  | some (.ins C fs)=>match fs.lookup f with
   | some v=>FOk K C f∧Q v S1
   | none=>False
  | _=>False
 | _=>False
theorem zbb {f:Str} (h:ME X B e mo) (hb:attributeBase e f X.env (eval e X.env)=eval e X.env:=by rfl):ME X B (.Attribute e f pos) (zfa X.K mo f):=by
 refine ⟨zbl (pe_fld h.pe hb) fun σ H Q q=>?_,fun env S Q Q' i q=>h.mono env S _ _ (fun d S1 q=>?_) q⟩
 ·obtain ⟨lB,env,S,r0,z0,q⟩:=q
  refine ⟨lB,env,S,r0,z0,h.mono env S _ _ (fun d S1 q v H1 l1 z1 d1=>?_) q⟩
  split at q
  ·cases d1
   split at q
   ·rename_i _ C fs e0
    split at q
    ·rename_i x0 ex
     obtain ⟨dx,vs,e1,kv⟩:=z1 _ _ e0
     obtain ⟨u,eu,du⟩:=(kv.lookup f).1 _ ex
     exact ⟨_,C,dx,vs,u,rfl,e1,q.1.1,q.1.2,eu,q.2 u H1 l1 z1 du⟩
    ·exact q.elim
   ·exact q.elim
  ·exact q.elim
 ·split at q
  ·split at q
   ·split at q
    ·exact ⟨q.1,i _ _ q.2⟩
    ·exact q.elim
   ·exact q.elim
  ·exact q.elim
def zgJ (f:Str) (v:D):List (Str×D)->List (Str×D)
 | []=>[(f,v)]
 | (g,u) :: r=>if g=f then (g,v) :: r else (g,u) :: zgJ f v r
end
open PySem PySem.Spec PyProof.Rows L2
def spB (n m:Nat) (b:XW->SM):SpD:=fun ds S Q E=>∃ (Q0:DQ) (E0:XQ),(∀ d S,Q0 d S->Q d S)∧(∀ c f S,E0 c f S->E c f S)∧ds.length=n∧
 b (fun c fs _ S'=>E0 c fs S') { nx:=fun _ S'=>Q0 .non S',rt:=Q0 } (ds.map some++List.replicate m none) S
theorem zki {n m:Nat} {b:XW->SM}:zd4 (spB n m b):=fun ds S Q Q' E E' i j h=>by
 obtain ⟨Q0,E0,h1,h2,h3,h4⟩:=h
 exact ⟨Q0,E0,fun d S q=>i _ _ (h1 d S q),fun c f S q=>j _ _ _ (h2 c f S q),h3,h4⟩
theorem zaT {n m:Nat} {b:XW->SM} {ds:List D} {S:Sto} {Q:DQ} {E:XQ} (hl:ds.length=n) (h:b (fun c fs _ S'=>E c fs S') { nx:=fun _ S'=>Q .non S',rt:=Q } (ds.map some++List.replicate m none) S):spB n m b ds S Q E:=
 ⟨Q,E,fun _ _ q=>q,fun _ _ _ q=>q,hl,h⟩
structure Fd (P:Program) (w:World) (K:PySem.W.Frag) (mg:Str->Option Value) (base:Heap) (k:Nat) (f:Addr) (sp:SpD):Prop where
 ex:∃ fd ps,FnOk P w K mg base (L2.CX P w) k f fd ps (zhv K P w sp)∧Binds K fd ps []
 kp:PySem.W.keepIn K (.ref f)=true
 mono:zd4 sp
section
variable {P:Program} {w:World} {K:PySem.W.Frag} {mg:Str->Option Value} {base:Heap}
theorem Fd.more {j k:Nat} {f:Addr} {sp:SpD} (F:Fd P w K mg base j f sp) (h:j≤k):Fd P w K mg base k f sp:=by
 obtain ⟨fd,ps,F1,b⟩:=F.ex
 exact ⟨⟨fd,ps,F1.mono h,b⟩,F.kp,F.mono⟩
theorem zgR {H:Hp} {ds:List D} {vs:List V} {N:List Str} {m:Nat} (h:DVs K H ds vs) (hN:N.length=ds.length+m):zcz K H (ds.map some++List.replicate m none) (L2.start N vs):=by
 have hl:=h.length
 refine ⟨by simp [L2.start,hl];omega,fun i d e=>?_⟩
 have hi:i < ds.length:=by
  by_cases hi:i < ds.length
  ·exact hi
  ·rw [List.getElem?_append_right (by simpa using hi),List.getElem?_replicate] at e
   split at e <;> cases e
 rw [List.getElem?_append_left (by simpa using hi),List.getElem?_map] at e
 cases q:ds[i]? with
 | none=>rw [q] at e;cases e
 | some x=>
  rw [q] at e
  cases e
  obtain ⟨v,e1,e2⟩:=h.get q
  refine ⟨v,?_,e2⟩
  unfold L2.start
  rw [List.getElem?_append_left (by rw [hl] at hi;simpa using hi),List.getElem?_map,e1]
  rfl
theorem zaV {x qual:Str} {params:Arguments} {body:List Stmt} {scope:Scope} {dvs:List V} {kws:List (Str×V)} {f:Addr} {fd:FuncData} {N ps:List Str} {k n m:Nat} {b:XW->SM} (F:FunD K x qual params body scope dvs kws f fd) (S:FnScope N ps scope) (bi:Binds K fd ps [])
  (hn:ps.length=n) (hN:N.length=n+m)
  (hb:∀ (cdv:Value) (A:Around) (outer:List Env) (s:Shared) (H:Hp) (E:XK),Room k (A.deeper (envOfC qual scope s.heap.objs.size f cdv))->∀ (X:Cx) (eX:X=cxOf (L2.CX P w) P w K mg base N qual scope f cdv A outer s H E) (W:XW),Tk X H W->PassesOwn (model X.prog X.w) X.A X.env X.xe->MSs X H body (b W)):Fd P w K mg base (k+1) f (spB n m b):=by
 refine ⟨⟨fd,ps,F.ok S (fun vs H Q E h=>?_) (fun cdv A outer s H vs Q E hr h=>?_),bi⟩,F.kp,zki⟩
 ·obtain ⟨ds,S0,h1,h2,Q0,E0,_,_,h3,_⟩:=h
  rw [← h1.length,h3,hn]
 ·obtain ⟨ds,S0,h1,h2,Q0,E0,i1,i2,h3,h4⟩:=h
  have tk0:Takes (cxOf (L2.CX P w) P w K mg base N qual scope f cdv A outer s H E) (fun cls d _ H=>E cls d H):=takes_of rfl rfl rfl rfl
  have tk:Tk (cxOf (L2.CX P w) P w K mg base N qual scope f cdv A outer s H E) H (fun c fs _ S'=>E0 c fs S'):=tk0.imp fun c d σ H' z=>by
   obtain ⟨l,env,S',fs,_,z1,z2,z3⟩:=z
   exact i2 _ _ _ z3 d H' l z1 z2
  have Z:=hb cdv A outer s H E hr _ rfl _ tk (passes_of rfl)
  refine ⟨_,Z.ps,Le.refl H,_,S0,zgR h1 (by rw [h3];exact hN),h2,Z.mono.go h4 ⟨fun e S' q σ H' l r z=>?_,fun d S' q v H' l z dv=>i1 _ _ q v H' l z dv,fun _ _ q=>q.elim,fun _ _ q=>q.elim⟩⟩
  exact i1 _ _ q _ H' l z .non
end
section
variable {X:Cx} {B:Hp} {W:XW} {k:Nat} {f C:Addr} {sp:SpD} {x m:Str} {p pos apos:Pos} {e o:Expr} {es:List Expr} {ma:AM} {mo me:EM}
theorem zaA (F:Fd X.prog X.w X.K X.mg X.base k f sp) (hr:Room k X.A) (tk:Tk X B W) (hm:X.mg x=some (.ref f)) (ha:MA X B (e :: es) ma) (hg:Gl X x:=by rfl)
  (hdb:(x == ("__debug__" : Str))=false:=by decide) (he:starEach (e :: es) X.env=(false,eval e X.env) :: starEach es X.env:=by rfl) (hpl:(backTo pos (starEach es X.env)).any (·.1)=false:=by rfl) :
  ME X B (.Call (.Name x p) (e :: es) [] pos) (zaw sp W ma):=by
 obtain ⟨fd,ps,F1,b⟩:=F.ex
 exact zn6 F1 F.mono hr tk hg hm F.kp b ha hdb he hpl
theorem zq6 (F:Fd X.prog X.w X.K X.mg X.base k f sp) (hr:Room k X.A) (tk:Tk X B W) (hm:X.mg x=some (.ref f)) (hg:Gl X x:=by rfl)
  (hdb:(x == ("__debug__" : Str))=false:=by decide):ME X B (.Call (.Name x p) [] [] pos) (zaw sp W zan):=by
 obtain ⟨fd,ps,F1,b⟩:=F.ex
 exact zlr F1 F.mono hr tk hg hm F.kp b hdb
theorem zij {pl:Sem Bool} (ho:ME X B o mo) (c:Cls X.K C) (hm:Meth X.K C m f) (F:Fd X.prog X.w X.K X.mg X.base k f sp) (hr:Room k X.A) (tk:Tk X B W) (ha:MA X B (e :: es) ma)
  (hst:starEach (e :: es) X.env=(false,eval e X.env) :: starEach es X.env:=by rfl) (hpl:(backTo pos (starEach es X.env)).any (·.1)=false:=by rfl)
  (ht:eval (.Call (.Attribute o m apos) (e :: es) [] pos) X.env=(do
   let ov ← eval o X.env
   standAt apos.atName
   let (f,first) ← holding [ov] (getMethod ov m pl)
   callWith pos f first (backTo pos (starEach (e :: es) X.env)) (backToKw pos (keywordEach [] X.env))):=by rfl):ME X B (.Call (.Attribute o m apos) (e :: es) [] pos) (zdZ C m sp W mo ma):=by
 obtain ⟨fd,ps,F1,b⟩:=F.ex
 exact zn2 ho c hm F1 F.mono hr tk b ha hst hpl ht
theorem zi9 {pl:Sem Bool} (ho:ME X B o mo) (c:Cls X.K C) (hm:Meth X.K C m f) (F:Fd X.prog X.w X.K X.mg X.base k f sp) (hr:Room k X.A) (tk:Tk X B W)
  (ht:eval (.Call (.Attribute o m apos) [] [] pos) X.env=(do
   let ov ← eval o X.env
   standAt apos.atName
   let (f,first) ← holding [ov] (getMethod ov m pl)
   callWith pos f first (backTo pos (starEach [] X.env)) (backToKw pos (keywordEach [] X.env))):=by rfl):ME X B (.Call (.Attribute o m apos) [] [] pos) (zdZ C m sp W mo zan):=by
 obtain ⟨fd,ps,F1,b⟩:=F.ex
 exact zlq ho c hm F1 F.mono hr tk b ht
def mNo:SM:=fun _ _ _=>False
def eNo:EM:=fun _ _ _=>False
theorem KVs.putF {K:PySem.W.Frag} {H:Hp} {ds:List (Str×D)} {vs:List (Str×V)} {f:Str} {d:D} {v:V} (h:KVs K H ds vs) (hd:DV K H d v):KVs K H (zgJ f d ds) (L2.putF f v vs):=by
 induction h with
 | nil=>exact .cons hd .nil
 | @cons k' d' v' ds vs h1 h2 ih=>
  unfold zgJ L2.putF
  by_cases q:k'=f
  ·simp only [q,if_true]
   exact .cons hd h2
  ·simp only [q,if_false]
   exact .cons h1 ih
def zfC (K:PySem.W.Frag) (mo me:EM) (f:Str):SM:=fun A env S=>me env S fun y S1=>mo env S1 fun d S2=>match d with
 | .ref a=>match S2 a with
  | some (.ins C fs)=>FOk K C f∧fs.length < 1000∧A.nx env (put S2 a (.ins C (zgJ f y fs)))
  | _=>False
 | _=>False
theorem zeB {f:Str} {pos':Pos} (ho:ME X B o mo) (he:ME X B e me) (hs:swapsWith e (some (.Attribute o f pos')) pos.line X.env=pure false:=by rfl):MS X B (.Assign [.Attribute o f pos'] e pos) (zfC X.K mo me f):=by
 refine ⟨zcZ (ps_fld ho.pe he.pe hs) fun D σ H q=>?_,fun A B env S l q=>he.mono env S _ _ (fun y S1 q=>ho.mono env S1 _ _ (fun d S2 q=>?_) q) q⟩
 ·obtain ⟨lB,env,S,r0,z0,q⟩:=q
  refine ⟨lB,env,S,r0,z0,he.mono env S _ _ (fun y S1 q v H1 l1 z1 d1=>?_) q⟩
  refine ⟨lB.trans l1,env,S1,r0.le l1,z1,ho.mono env S1 _ _ (fun d S2 q u H2 l2 z2 d2=>?_) q⟩
  split at q
  ·cases d2
   split at q
   ·rename_i a _ C fs e0
    obtain ⟨dx,vs,e1,kv⟩:=z2 _ _ e0
    have hmut:Mut (H2 a):=by rw [e1];exact trivial
    refine ⟨_,C,dx,vs,rfl,e1,q.1.1,q.1.2,by rw [← kv.length];exact q.2.1,?_⟩
    have l3:=Le.mut (o:=.ins C dx (L2.putF f v vs)) hmut
    have l123:=(l1.trans l2).trans l3
    exact q.2.2 σ _ l123 (r0.le l123) (z2.wr hmut ⟨dx,_,upd_same,(kv.putF (d1.le l2)).le l3⟩)
   ·exact q.elim
  ·exact q.elim
 ·split at q
  ·split at q
   ·exact ⟨q.1,q.2.1,l.nx _ _ q.2.2⟩
   ·exact q.elim
  ·exact q.elim
end
def zbM (env:Slo):List Nat->Slo
 | []=>env
 | v :: vs=>(zbM env vs).set v none
theorem zcz.wipe {K:PySem.W.Frag} {H:Hp} {env:Slo} {σ:L2.St} (r:zcz K H env σ):∀ vs:List Nat,zcz K H (zbM env vs) (L2.wipe σ vs)
 | []=>r
 | v :: vs=>(zcz.wipe r vs).unset v
theorem zgD {σ:L2.St} {i:Nat} {a:Option V}:∀ vs:List Nat,(L2.wipe (σ.set i a) vs).set i none=(L2.wipe σ vs).set i none
 | []=>by simp [L2.wipe]
 | v :: r=>by
  unfold L2.wipe
  by_cases h:v=i
  ·subst h
   rw [List.set_set,List.set_set]
   exact zgD r
  ·rw [List.set_comm _ _ h,List.set_comm _ _ h,zgD r]
theorem zht {σ:L2.St} {i:Nat} {a:Option V}:∀ {vs:List Nat},i∈vs->L2.wipe (σ.set i a) vs=L2.wipe σ vs
 | v :: r,h=>by
  rcases List.mem_cons.mp h with e | h
  ·subst e
   exact zgD r
  ·show (L2.wipe (σ.set i a) r).set v none=_
   rw [zht h]
   rfl
theorem ziw {σ:L2.St} {j:Nat} (hj:j < σ.length):∀ {vs:List Nat},j∈vs->(L2.wipe σ vs)[j]? = some none
 | v :: r,h=>by
  unfold L2.wipe
  by_cases e:v=j
  ·subst e
   exact List.getElem?_set_self (by rw [L2.wipe_length];exact hj)
  ·rw [List.getElem?_set_ne e]
   rcases List.mem_cons.mp h with q | h
   ·exact absurd q.symm e
   ·exact ziw hj h
theorem zel {σ:L2.St} {vs:List Nat}:L2.wipe (L2.wipe σ vs) vs=L2.wipe σ vs:=by
 apply List.ext_getElem?
 intro j
 by_cases hj:j < σ.length
 ·by_cases h:j∈vs
  ·rw [ziw (by rw [L2.wipe_length];exact hj) h,ziw hj h]
  ·rw [L2.wipe_out h]
 ·rw [List.getElem?_eq_none (by rw [L2.wipe_length,L2.wipe_length];omega),List.getElem?_eq_none (by rw [L2.wipe_length];omega)]
def TgD (K:PySem.W.Frag) (vs:List Nat) (t:TG) (g:GM):Prop:=∀ d x env σ S H (Q:Slo->Sto->Prop),DV K H d x->zcz K H env σ->g d env S Q->t x σ H fun σ2 H2=>L2.wipe σ2 vs=L2.wipe σ vs∧H2=H∧∃ env2,zcz K H env2 σ2∧Q env2 S
def zrY (K:PySem.W.Frag) (vs:List Nat) (t:TGs) (g:GsM):Prop:=∀ ds xs env σ S H (Q:Slo->Sto->Prop),DVs K H ds xs->zcz K H env σ->g ds env S Q->t xs σ H fun σ2 H2=>L2.wipe σ2 vs=L2.wipe σ vs∧H2=H∧∃ env2,zcz K H env2 σ2∧Q env2 S
section
variable {K:PySem.W.Frag} {vs:List Nat}
theorem zsQ {i:Nat} (hi:i∈vs:=by decide):TgD K vs (gName i) (gNm i):=fun d x env σ S H Q hd r q=>⟨zht hi,rfl,_,r.set hd i,q⟩
theorem zmX:zrY K vs gNil gN:=fun ds xs env σ S H Q hd r q=>by
 cases hd with
 | nil=>exact ⟨rfl,rfl,rfl,_,r,q⟩
 | cons=>exact q.elim
theorem zk1 {i:Nat} {ts:TGs} {gs:GsM} (h2:zrY K vs ts gs) (hps:∀ xs σ H (Q Q':L2.St->Hp->Prop),(∀ s h,Q s h->Q' s h)->ts xs σ H Q->ts xs σ H Q') (hi:i∈vs:=by decide):zrY K vs (gCons (gName i) ts) (gC (gNm i) gs):=fun ds xs env σ S H Q hd r q=>by
 cases hd with
 | nil=>exact q.elim
 | @cons d ds x xs hd hds=>
  refine ⟨x,xs,rfl,?_⟩
  refine hps _ _ _ _ _ (fun σ2 H2 z=>?_) (h2 ds xs _ _ S H Q hds (r.set hd i) q)
  obtain ⟨e2,rfl,env2,r2,q2⟩:=z
  exact ⟨e2.trans (zht hi),rfl,env2,r2,q2⟩
theorem zkE:∀ xs σ H (Q Q':L2.St->Hp->Prop),(∀ s h,Q s h->Q' s h)->gNil xs σ H Q->gNil xs σ H Q':=fun _ _ _ _ _ i q=>⟨q.1,i _ _ q.2⟩
theorem zjG {i:Nat} {ts:TGs} (hps:∀ xs σ H (Q Q':L2.St->Hp->Prop),(∀ s h,Q s h->Q' s h)->ts xs σ H Q->ts xs σ H Q'):∀ xs σ H (Q Q':L2.St->Hp->Prop),(∀ s h,Q s h->Q' s h)->gCons (gName i) ts xs σ H Q->gCons (gName i) ts xs σ H Q':=fun xs σ H Q Q' i q=>by
 obtain ⟨v,r,e,q⟩:=q
 exact ⟨v,r,e,hps _ _ _ _ _ i q⟩
theorem zpa {n:Nat} {ts:TGs} {gs:GsM} (h:zrY K vs ts gs):TgD K vs (gTup K n ts) (gT n gs):=fun d x env σ S H Q hd r q=>by
 cases hd with
 | tup s z=>exact ⟨_,_,rfl,s,by rw [← z.length];exact q.1,h _ _ _ _ _ _ _ z r q.2⟩
 | _=>exact (show False from q).elim
end
structure MTs (X:Cx) (B:Hp) (ifs:List Expr) (t:TM):Prop where
 pts:PTs X ifs (upT X.K X.prog X.w B t)
 mono:zeU t
def zgL:TM:=fun _ S Q=>Q true S
theorem zbO {X:Cx} {B:Hp}:MTs X B [] zgL:=by
 refine ⟨⟨fun pins s σ H Q I h=>pts_nil.run pins s σ H Q I ?_⟩,fun _ _ _ _ i h=>i _ _ h⟩
 obtain ⟨_,env,S,_,z,q⟩:=h
 exact q H (Le.refl H) z
def lcL (g:GM) (t:TM) (m:EM) (G:Sto->Prop) (p:Addr) (Q:DQ) (env:Slo):List D->Sto->Prop
 | [],S=>G S∧Q (.ref p) S
 | x :: xs,S=>G S∧g x env S fun env2 S2=>t env2 S2 fun b S3=>match b with
  | true=>m env2 S3 fun d S4=>match S4 p with
   | some (.lst ys)=>ys.length < sizeLine∧lcL g t m G p Q env xs (put S4 p (.lst (ys++[d])))
   | _=>False
  | false=>lcL g t m G p Q env xs S3
def mLc (mi:IM) (g:GM) (t:TM) (m:EM) (vs:List Nat):EM:=fun env S Q=>mi env S fun xs G S1=>∀ p,S1 p=none->lcL g t m G p Q (zbM env vs) xs (put S1 p (.lst []))
section
variable {X:Cx} {B:Hp} {elt tg iter:Expr} {ifs:List Expr} {scope:Scope} {own:List (Str×Nat)} {pos:Pos} {mi:IM} {g:GM} {t:TM} {m:EM}
theorem zhP {G:Sto->Prop} {p:Addr} {env:Slo} {Q Q':DQ} (hg:∀ d env S (Q Q':Slo->Sto->Prop),(∀ e S,Q e S->Q' e S)->g d env S Q->g d env S Q') (ht:zeU t) (hm:zci m) (i:∀ d S,Q d S->Q' d S):∀ xs S,lcL g t m G p Q env xs S->lcL g t m G p Q' env xs S
 | [],S,h=>⟨h.1,i _ _ h.2⟩
 | x :: xs,S,h=>⟨h.1,hg _ _ _ _ _ (fun e s q=>ht _ _ _ _ (fun b S3 q=>by
   cases b with
   | true=>
    refine hm _ _ _ _ (fun d S4 q=>?_) q
    split at q
    ·exact ⟨q.1,zhP hg ht hm i xs _ q.2⟩
    ·exact q.elim
   | false=>exact zhP hg ht hm i xs _ q) q) h.2⟩
theorem zo4 {K:PySem.W.Frag} {P:Program} {w:World} {wi:TI} {tt:TG} {vs:List Nat} (hwi:∀ σ H R,(Le B H∧∃ env S,zcz K H env σ∧Rp K P w S H∧mi env S fun xs G S1=>∀ J H1,Le H H1->Rp K P w S1 H1->WkD K P w H1 J xs G->R J H1)->wi σ H R)
  (hmi:∀ env S (Q Q':List D->(Sto->Prop)->Sto->Prop),(∀ xs G S,Q xs G S->Q' xs G S)->mi env S Q->mi env S Q') (htm:∀ x σ H (Q Q':L2.St->Hp->Prop),(∀ s h,Q s h->Q' s h)->tt x σ H Q->tt x σ H Q') (hg:TgD K vs tt g) (hgm:∀ d env S (Q Q':Slo->Sto->Prop),(∀ e S,Q e S->Q' e S)->g d env S Q->g d env S Q') (ht:zeU t) (hm:zci m) {σ:L2.St} {H:Hp} {Q:VK}
  (q:up K P w B (mLc mi g t m vs) σ H Q):tLc wi tt (upT K P w B t) (up K P w B m) vs σ H Q:=by
 obtain ⟨lB,env,S,r0,z0,q⟩:=q
 refine hwi _ _ _ ⟨lB,env,S,r0,z0,hmi _ _ _ _ (fun xs G S1 q J H1 l1 z1 wk=>?_) q⟩
 intro p hp
 have l2:Le H1 (upd H1 p (.lst [])):=Le.new hp
 have z2:Rp K P w (put S1 p (.lst [])) (upd H1 p (.lst [])):=z1.new hp ⟨[],upd_same,.nil⟩
 have q:=q p (z1.free hp)
 refine ⟨fun i k H'=>i≤xs.length∧k=xs.length - i∧Le (upd H1 p (.lst [])) H'∧∃ S,Rp K P w S H'∧lcL g t m G p (dnE K P w H Q) (zbM env vs) (xs.drop i) S,⟨xs.length,Nat.zero_le _,rfl,Le.refl _,_,z2,q⟩,fun i k H' h=>?_⟩
 obtain ⟨hi,rfl,l3,S,z3,q⟩:=h
 have l23:=l2.trans l3
 by_cases hlt:i < xs.length
 ·have ed:xs.drop i=xs[i] :: xs.drop (i+1):=List.drop_eq_getElem_cons hlt
  rw [ed] at q
  refine .inr ⟨wk.go i S H' hlt l23 z3 q.1,fun H'=>Le (upd H1 p (.lst [])) H'∧∃ S,Rp K P w S H'∧lcL g t m G p (dnE K P w H Q) (zbM env vs) (xs.drop (i+1)) S,fun H3 h=>⟨xs.length - (i+1),by omega,hlt,rfl,h⟩,fun x H3 hy=>?_⟩
  obtain ⟨l4,z4,d,ex,dv⟩:=wk.yld i S H' x H3 hlt l23 z3 q.1 hy
  have e':d=xs[i]:=by
   rw [List.getElem?_eq_getElem hlt] at ex
   exact (Option.some.inj ex).symm
  subst e'
  have l04:=l1.trans (l23.trans l4)
  refine htm _ _ _ _ _ (fun σ2 H2 z=>?_) (hg _ x _ _ S H3 _ dv ((r0.le l04).wipe vs) q.2)
  obtain ⟨e2,rfl,env2,r2,q2⟩:=z
  refine ⟨e2.trans zel,lB.trans l04,env2,S,r2,z4,ht _ _ _ _ (fun b S3 q H5 l5 z5=>?_) q2⟩
  cases b with
  | false=>exact ⟨l3.trans (l4.trans l5),S3,z5,q⟩
  | true=>
   refine ⟨lB.trans (l04.trans l5),env2,S3,r2.le l5,z5,hm _ _ _ _ (fun d S4 q v H6 l6 z6 d6=>?_) q⟩
   split at q
   ·rename_i ys ey
    obtain ⟨us,e1,e2⟩:=z6 _ _ ey
    have hmut:Mut (H6 p):=by rw [e1];exact trivial
    have l7:=Le.mut (o:=.lst (us++[v])) hmut
    exact ⟨us,e1,by rw [← e2.length];exact q.1,l3.trans (l4.trans (l5.trans (l6.trans l7))),_,z6.wr (o:=.lst (ys++[d])) hmut ⟨_,upd_same,(e2.append (.cons d6 .nil)).le l7⟩,q.2⟩
   ·exact q.elim
 ·have ei:i=xs.length:=by omega
  subst ei
  rw [List.drop_length] at q
  exact .inl ⟨wk.stop S H' l23 z3 q.1,q.2 _ H' (l1.trans l23) z3 (.ref p)⟩
abbrev zoF (tt:TG):Prop:=∀ x σ H (Q Q':L2.St->Hp->Prop),(∀ s h,Q s h->Q' s h)->tt x σ H Q->tt x σ H Q'
theorem zlL {i:Nat}:zoF (gName i):=fun x σ H Q Q' i q=>i _ _ q
theorem zkD {K:PySem.W.Frag} {n:Nat} {ts:TGs} (hps:∀ xs σ H (Q Q':L2.St->Hp->Prop),(∀ s h,Q s h->Q' s h)->ts xs σ H Q->ts xs σ H Q'):zoF (gTup K n ts):=fun x σ H Q Q' i q=>by
 obtain ⟨a,xs,e,s,l,q⟩:=q
 exact ⟨a,xs,e,s,l,hps _ _ _ _ _ i q⟩
theorem zu4 {i:Nat}:∀ d env S (Q Q':Slo->Sto->Prop),(∀ e S,Q e S->Q' e S)->gNm i d env S Q->gNm i d env S Q':=fun _ _ _ _ _ i q=>i _ _ q
theorem zol:∀ d env S (Q Q':Slo->Sto->Prop),(∀ e S,Q e S->Q' e S)->gN d env S Q->gN d env S Q':=fun d env S Q Q' i q=>by
 cases d with
 | nil=>exact i _ _ q
 | cons=>exact q.elim
theorem zlK {i:Nat} {gs:GsM} (h:∀ d env S (Q Q':Slo->Sto->Prop),(∀ e S,Q e S->Q' e S)->gs d env S Q->gs d env S Q'):∀ d env S (Q Q':Slo->Sto->Prop),(∀ e S,Q e S->Q' e S)->gC (gNm i) gs d env S Q->gC (gNm i) gs d env S Q':=fun d env S Q Q' i q=>by
 cases d with
 | nil=>exact q.elim
 | cons d ds=>exact h _ _ _ _ _ i q
theorem zrP {n:Nat} {gs:GsM} (h:∀ d env S (Q Q':Slo->Sto->Prop),(∀ e S,Q e S->Q' e S)->gs d env S Q->gs d env S Q'):∀ d env S (Q Q':Slo->Sto->Prop),(∀ e S,Q e S->Q' e S)->gT n gs d env S Q->gT n gs d env S Q':=fun d env S Q Q' i q=>by
 cases d with
 | tp _ ds=>exact ⟨q.1,h _ _ _ _ _ i q.2⟩
 | _=>exact (show False from q).elim
structure BT (K:PySem.W.Frag) (vs:List Nat) (tt:TG) (g:GM):Prop where
 td:TgD K vs tt g
 mt:zoF tt
 mg:∀ d env S (Q Q':Slo->Sto->Prop),(∀ e S,Q e S->Q' e S)->g d env S Q->g d env S Q'
theorem zfJ {K:PySem.W.Frag} {vs:List Nat} {i:Nat} (hi:i∈vs:=by decide):BT K vs (gName i) (gNm i):=⟨zsQ hi,zlL,zu4⟩
structure BTs (K:PySem.W.Frag) (vs:List Nat) (ts:TGs) (gs:GsM):Prop where
 td:zrY K vs ts gs
 mt:∀ xs σ H (Q Q':L2.St->Hp->Prop),(∀ s h,Q s h->Q' s h)->ts xs σ H Q->ts xs σ H Q'
 mg:∀ d env S (Q Q':Slo->Sto->Prop),(∀ e S,Q e S->Q' e S)->gs d env S Q->gs d env S Q'
theorem zkN {K:PySem.W.Frag} {vs:List Nat}:BTs K vs gNil gN:=⟨zmX,zkE,zol⟩
theorem zgB {K:PySem.W.Frag} {vs:List Nat} {i:Nat} {ts:TGs} {gs:GsM} (h:BTs K vs ts gs) (hi:i∈vs:=by decide):BTs K vs (gCons (gName i) ts) (gC (gNm i) gs):=⟨zk1 h.td h.mt hi,zjG h.mt,zlK h.mg⟩
theorem zmM {K:PySem.W.Frag} {vs:List Nat} {n:Nat} {ts:TGs} {gs:GsM} (h:BTs K vs ts gs):BT K vs (gTup K n ts) (gT n gs):=⟨zpa h.td,zkD h.mt,zrP h.mg⟩
abbrev Blk (X:Cx) (scope:Scope) (R:Cx->Prop):Prop:=∀ (s:Shared) (H:Hp) (C:Addr) (cl:List (Str×Addr)) (fp:List Addr),R (X.blk s H scope (compEnvC scope cl C X.env) fp)
theorem zmn {vs:List Nat} (hmi:∀ env S (Q Q':List D->(Sto->Prop)->Sto->Prop),(∀ xs G S,Q xs G S->Q' xs G S)->mi env S Q->mi env S Q') (hg:∀ d env S (Q Q':Slo->Sto->Prop),(∀ e S,Q e S->Q' e S)->g d env S Q->g d env S Q') (ht:zeU t) (hm:zci m):zci (mLc mi g t m vs):=fun env S Q Q' i q=>
 hmi _ _ _ _ (fun xs G S1 q p hp=>zhP hg ht hm i _ _ (q p hp)) q
theorem zko {tt:TG} (hc:X.calm=true) (hN:X.N.Nodup) (hi:MI X B tg iter mi) (ok:BlkOk X.N X.env.scope scope own) (bt:BT X.K (own.map (·.2)) tt g)
  (hg:Blk X scope fun Y=>PG Y tg tt) (hm:Blk X scope fun Y=>MTs Y B ifs t) (he:Blk X scope fun Y=>ME Y B elt m) (hs:∀ x,foldedSetIterable iter X.env x=pure x:=by intro _;rfl) :
  ME X B (.ListComp elt [⟨tg,iter,ifs,0⟩] scope pos) (mLc mi g t m (own.map (·.2))):=by
 have m1:zeU t:=(hm X.s_0 (fun _=>none) 0 [] []).mono
 have m2:zci m:=(he X.s_0 (fun _=>none) 0 [] []).mono
 exact ⟨zbl (pe_lc (wi:=fun σ H R=>Le B H∧∃ env S,zcz X.K H env σ∧Rp X.K X.prog X.w S H∧mi env S fun xs G S1=>∀ J H1,Le H H1->Rp X.K X.prog X.w S1 H1->WkD X.K X.prog X.w H1 J xs G->R J H1) hc hN hi.pi ok hg (fun s H C cl fp=>(hm s H C cl fp).pts) (fun s H C cl fp=>(he s H C cl fp).pe) hs)
  fun σ H Q q=>zo4 (fun _ _ _ z=>z) hi.mono bt.mt bt.td bt.mg m1 m2 q,zmn hi.mono bt.mg m1 m2⟩
theorem zhL {tt:TG} {i:Nat} {y:Str} {py spos:Pos} (hc:X.calm=true) (hN:X.N.Nodup) (hi:MI X B tg iter mi) (ok:BlkOk X.N X.env.scope scope own) (bt:BT X.K (own.map (·.2)) tt g)
  (hg:Blk X scope fun Y=>PG Y tg tt) (hm:Blk X scope fun Y=>MTs Y B ifs t) (he:Blk X scope fun Y=>ME Y B elt m) (hy:X.N[i]? = some y:=by rfl) (hyl:X.env.scope.names.lookup y=some .local:=by rfl)
  (hsw:swapsWith (.ListComp elt [⟨tg,iter,ifs,0⟩] scope pos) (some (.Name y py)) spos.line X.env=pure true:=by rfl) (hs:∀ x,foldedSetIterable iter X.env x=pure x:=by intro _;rfl) :
  MS X B (.Assign [.Name y py] (.ListComp elt [⟨tg,iter,ifs,0⟩] scope pos) spos) (zaP (mLc mi g t m (own.map (·.2))) (gNm i)):=by
 have m1:zeU t:=(hm X.s_0 (fun _=>none) 0 [] []).mono
 have m2:zci m:=(he X.s_0 (fun _=>none) 0 [] []).mono
 have m3:=zmn (vs:=own.map (·.2)) hi.mono bt.mg m1 m2
 refine ⟨zcZ (ps_setLc (tt:=upT X.K X.prog X.w B t) (te:=up X.K X.prog X.w B m) (wi:=fun σ H R=>Le B H∧∃ env S,zcz X.K H env σ∧Rp X.K X.prog X.w S H∧mi env S fun xs G S1=>∀ J H1,Le H H1->Rp X.K X.prog X.w S1 H1->WkD X.K X.prog X.w H1 J xs G->R J H1) hc hN hy hyl hsw hi.pi ok hg (fun s H C cl fp=>(hm s H C cl fp).pts) (fun s H C cl fp=>(he s H C cl fp).pe) hs)
  fun D σ H q=>?_,fun A B env S l q=>m3 _ _ _ _ (fun d S1 q=>l.nx _ _ q) q⟩
 obtain ⟨lB,env,S,r0,z0,q⟩:=q
 refine zo4 (B:=B) (mi:=mi) (g:=g) (t:=t) (m:=m) (fun _ _ _ z=>z) hi.mono bt.mt bt.td bt.mg m1 m2 ⟨lB,env,S,r0,z0,m3 _ _ _ _ (fun d S1 q v H1 l z dv=>?_) q⟩
 exact q _ H1 l ((r0.le l).set dv i) z
end
def zvd (K:PySem.W.Frag) (k0:Int) (a:Addr):It:=
 ⟨fun i H=>∃ (xs:List V) (x:V),SqT K H a xs∧xs[i]? = some x,fun i H v H'=>∃ T x,v = .ref T∧H T=none∧H'=upd H T (.tup [.int (k0+(i:Nat)),x])∧∀ xs,SqT K H a xs->xs[i]? = some x,fun i H=>∃ xs:List V,SqT K H a xs∧xs.length≤i⟩
theorem zjs {P:Program} {w:World} {K:PySem.W.Frag} {elts:List Expr} {kk:Nat} {tpos:Pos} (k0:Int) (a e it:Addr) :
  Turn P w K (.Tuple elts kk tpos) (zvd K k0 a) [e,it] e (fun i h=>(∃ old,IsEnum h e it (k0+(i:Nat)) old)∧h.IsTupleIter it a i∧e≠it) where
 mem:=by simp
 obj:=fun i h st b hb=>by
  obtain ⟨⟨old,he⟩,⟨o,ho,hc,hd⟩,_⟩:=st
  have e':b=e ∨ b=it:=by simpa using hb
  rcases e' with z | z
  ·rw [z];exact ⟨_,he,fun v q=>nomatch q⟩
  ·rw [z];exact ⟨o,ho,fun v q=>by rw [hd] at q;cases q⟩
 keep:=fun i h h' st k=>let ⟨⟨old,he⟩,hi,hne⟩:=st;⟨⟨old,k e (by simp) _ he⟩,hi.at fun o q=>k it (by simp) o q,hne⟩
 item:=by
  intro X hP hw hK hc i pins s σ H E I hf st hg
  subst hP hw hK
  obtain ⟨⟨old,he⟩,hit,hne⟩:=st
  obtain ⟨xs,x,hq,hx⟩:=hg
  obtain ⟨its,rv,p,hz⟩:=I.tuple hq
  obtain ⟨u,hu,ru⟩:=rv.get hx
  have hp:s.heap.IsTuple a its.toArray:=p
  have hel:e < s.heap.objs.size:=Heap.lt_size he
  have hil:it < s.heap.objs.size:=by obtain ⟨_,q,_⟩:=hit;exact Heap.lt_size q
  have ai:a≠it:=fun q=>by
   obtain ⟨o,ho,hcl,_⟩:=hit
   obtain ⟨o2,ho2,hc2,_⟩:=hp
   rw [q,ho] at ho2
   cases ho2
   rw [hcl] at hc2
   exact absurd hc2 (by decide)
  have ae:e≠a:=fun q=>by
   obtain ⟨o2,ho2,hc2,_⟩:=hp
   have he':=he
   rw [q] at he'
   have z:=Option.some.inj (he'.symm.trans ho2)
   rw [← z] at hc2
   exact absurd (show Value.type "enumerate" = Value.type "tuple" from hc2) (by decide)
  have hh:X.A.in1.handled=none:=I.ok.hd hc
  have hlt:i < its.toArray.size:=by
   have:=(List.getElem?_eq_some_iff.mp hu).1
   simpa using this
  have D:=Draws.tuple (prog:=X.prog) (w:=X.w) (A:=X.A.in1) hh it a ai its.toArray
  refine wpAny_pyNext_enum_itemC (c:=k0+(i:Nat)) D he ⟨hit,hp⟩ hlt hne (by simp [hne,ae]) fun x' h' tk hPx ho hst' hT hsz hk=>?_
  have ex:x'=u:=by
   have h1:its.toArray[i]? = some u:=by simpa using hu
   exact Option.some.inj (hPx.symm.trans h1)
  subst ex
  refine ⟨_,rfl,wpAny_letOwnedTupleGo_enum (s:={ s with heap:=h',toks:=tk+1 }) ho fun h'' he' sb=>?_⟩
  have hT2:h''.get? s.heap.objs.size=some { cls:=.type "tuple", data:=.seq #[.int (k0+(i:Nat)) tk,x'] }:=(sb.2 _ (Nat.ne_of_gt hel)).trans hT
  have new:ObjOk X.prog X.w (upd H s.heap.objs.size (.tup [.int (k0+(i:Nat)),x])) h'' s.heap.objs.size (.tup [.int (k0+(i:Nat)),x]):=
   ⟨by show 2≤sizeLine;decide,[.int (k0+(i:Nat)) tk,x'],.cons ⟨_,rfl⟩ (.cons ru .nil),⟨_,hT2,rfl,_,rfl⟩⟩
  have I1:Inv X pins σ (upd H s.heap.objs.size (.tup [.int (k0+(i:Nat)),x])) { s with heap:=h'',toks:=tk+1 }:=
   I.turnedNew (ch:=[e,it]) (fun b ob hb q=>(sb.2 b (fun z=>hb (by simp [z]))).trans (hk b ob (fun z=>hb (by simp [z])) (fun z=>hb (by simp [z])) q)) hf (Nat.le_refl _) new
  refine ⟨.ref s.heap.objs.size,_,I1,rfl,⟨_,x,rfl,I.hok.fresh (Nat.le_refl _),rfl,fun ys hy=>by rw [I.tuple_inj hy hq];exact hx⟩,⟨⟨x',?_⟩,hst'.1.at fun o q=>(sb.2 it (Ne.symm hne)).trans q,hne⟩,fun b hb=>?_⟩
  ·have e1:k0+((i+1:Nat):Int)=k0+(i:Nat)+1:=by omega
   rw [e1];exact he'
  ·have hb':b < s.heap.objs.size:=by
    have e':b=e ∨ b=it:=by simpa using hb
    rcases e' with z | z
    ·rw [z];exact hel
    ·rw [z];exact hil
   rw [upd_ne (Nat.ne_of_lt hb')]
   exact (hf b hb).1
 done:=by
  intro X hP hw hK hc i pins s σ H E I hf st hg
  subst hP hw hK
  obtain ⟨⟨old,he⟩,hit,hne⟩:=st
  obtain ⟨xs,hq,hx⟩:=hg
  obtain ⟨its,rv,p,hz⟩:=I.tuple hq
  obtain ⟨f0,f1,f2,f3,f4,f5⟩:=hf it (by simp)
  have hp:s.heap.IsTuple a its.toArray:=p
  have hl:=rv.length
  have hh:X.A.in1.handled=none:=I.ok.hd hc
  have hT:s.TypeIs (.ref e) "enumerate" := ⟨_,he,rfl⟩
  unfold pyNext
  refine wpAny_bind (wpAny_attempt (wpAny_callSpecial?_slot (name:=Str.ofString "__next__") hT F.slot_enumerate_next
   (wpAny_call_entry F.slot_enumerate_next hT F.entry_enumerate_next ?_ (F.args_enumerate_next_1 _))))
  show wpAny _ _ (field (.ref e) 2 >>= _) _ _ _
  refine wpAny_bind (wpAny_field he rfl (x:=.ref it) rfl ?_)
  refine wpAny_bind (wpAny_nextOf_tuple_end (A:=X.A.in1) hh hit hp (by simp;omega) fun h' x eb hx'=>?_)
  obtain ⟨o,ho,hc⟩:=hx'
  refine wpAny_bind (wpAny_isInstance (T := "StopIteration") (b:=true) ⟨o,ho,hc⟩ isSubtype_stop ?_)
  exact wpAny_pure ⟨rfl,I.turned (t':=s.toks) (fun b o hb q=>eb b o hb q) f0 f1 f3 f4 f5⟩
 self:=fun A i s Q E st h=>let ⟨⟨_,he⟩,_⟩:=st;wpAny_pyIter_enum he h
def zsK (K:PySem.W.Frag) (k0:Int) (a:Addr):It:=
 ⟨fun i H=>∃ (xs:List V) (x:V),SqL K H a xs∧xs[i]? = some x,fun i H v H'=>∃ T x,v = .ref T∧H T=none∧H'=upd H T (.tup [.int (k0+(i:Nat)),x])∧∀ xs,SqL K H a xs->xs[i]? = some x,fun i H=>∃ xs:List V,SqL K H a xs∧xs.length≤i⟩
theorem zjt {P:Program} {w:World} {K:PySem.W.Frag} {elts:List Expr} {kk:Nat} {tpos:Pos} (k0:Int) (a e it:Addr) :
  Turn P w K (.Tuple elts kk tpos) (zsK K k0 a) [e,it] e (fun i h=>(∃ old,IsEnum h e it (k0+(i:Nat)) old)∧h.IsListIter it a i∧e≠it) where
 mem:=by simp
 obj:=fun i h st b hb=>by
  obtain ⟨⟨old,he⟩,⟨o,ho,hc,hd⟩,_⟩:=st
  have e':b=e ∨ b=it:=by simpa using hb
  rcases e' with z | z
  ·rw [z];exact ⟨_,he,fun v q=>nomatch q⟩
  ·rw [z];exact ⟨o,ho,fun v q=>by rw [hd] at q;cases q⟩
 keep:=fun i h h' st k=>let ⟨⟨old,he⟩,hi,hne⟩:=st;⟨⟨old,k e (by simp) _ he⟩,hi.at fun o q=>k it (by simp) o q,hne⟩
 item:=by
  intro X hP hw hK hc i pins s σ H E I hf st hg
  subst hP hw hK
  obtain ⟨⟨old,he⟩,hit,hne⟩:=st
  obtain ⟨xs,x,hq,hx⟩:=hg
  obtain ⟨its,rv,p,hz⟩:=I.list hq
  obtain ⟨u,hu,ru⟩:=rv.get hx
  have hp:s.heap.IsList a its.toArray:=p.isList
  have hel:e < s.heap.objs.size:=Heap.lt_size he
  have hil:it < s.heap.objs.size:=by obtain ⟨_,q,_⟩:=hit;exact Heap.lt_size q
  have ai:a≠it:=fun q=>by
   obtain ⟨o,ho,hcl,_⟩:=hit
   obtain ⟨o2,ho2,hc2,_⟩:=hp
   rw [q,ho] at ho2
   cases ho2
   rw [hcl] at hc2
   exact absurd hc2 (by decide)
  have ae:e≠a:=fun q=>by
   obtain ⟨o2,ho2,hc2,_⟩:=hp
   have he':=he
   rw [q] at he'
   have z:=Option.some.inj (he'.symm.trans ho2)
   rw [← z] at hc2
   exact absurd (show Value.type "enumerate" = Value.type "list" from hc2) (by decide)
  have hh:X.A.in1.handled=none:=I.ok.hd hc
  have hlt:i < its.toArray.size:=by
   have:=(List.getElem?_eq_some_iff.mp hu).1
   simpa using this
  have D:=Draws.list (prog:=X.prog) (w:=X.w) (A:=X.A.in1) hh it a ai its.toArray
  refine wpAny_pyNext_enum_itemC (c:=k0+(i:Nat)) D he ⟨hit,hp⟩ hlt hne (by simp [hne,ae]) fun x' h' tk hPx ho hst' hT hsz hk=>?_
  have ex:x'=u:=by
   have h1:its.toArray[i]? = some u:=by simpa using hu
   exact Option.some.inj (hPx.symm.trans h1)
  subst ex
  refine ⟨_,rfl,wpAny_letOwnedTupleGo_enum (s:={ s with heap:=h',toks:=tk+1 }) ho fun h'' he' sb=>?_⟩
  have hT2:h''.get? s.heap.objs.size=some { cls:=.type "tuple", data:=.seq #[.int (k0+(i:Nat)) tk,x'] }:=(sb.2 _ (Nat.ne_of_gt hel)).trans hT
  have new:ObjOk X.prog X.w (upd H s.heap.objs.size (.tup [.int (k0+(i:Nat)),x])) h'' s.heap.objs.size (.tup [.int (k0+(i:Nat)),x]):=
   ⟨by show 2≤sizeLine;decide,[.int (k0+(i:Nat)) tk,x'],.cons ⟨_,rfl⟩ (.cons ru .nil),⟨_,hT2,rfl,_,rfl⟩⟩
  have I1:Inv X pins σ (upd H s.heap.objs.size (.tup [.int (k0+(i:Nat)),x])) { s with heap:=h'',toks:=tk+1 }:=
   I.turnedNew (ch:=[e,it]) (fun b ob hb q=>(sb.2 b (fun z=>hb (by simp [z]))).trans (hk b ob (fun z=>hb (by simp [z])) (fun z=>hb (by simp [z])) q)) hf (Nat.le_refl _) new
  refine ⟨.ref s.heap.objs.size,_,I1,rfl,⟨_,x,rfl,I.hok.fresh (Nat.le_refl _),rfl,fun ys hy=>by rw [I.list_inj hy hq];exact hx⟩,⟨⟨x',?_⟩,hst'.1.at fun o q=>(sb.2 it (Ne.symm hne)).trans q,hne⟩,fun b hb=>?_⟩
  ·have e1:k0+((i+1:Nat):Int)=k0+(i:Nat)+1:=by omega
   rw [e1];exact he'
  ·have hb':b < s.heap.objs.size:=by
    have e':b=e ∨ b=it:=by simpa using hb
    rcases e' with z | z
    ·rw [z];exact hel
    ·rw [z];exact hil
   rw [upd_ne (Nat.ne_of_lt hb')]
   exact (hf b hb).1
 done:=by
  intro X hP hw hK hc i pins s σ H E I hf st hg
  subst hP hw hK
  obtain ⟨⟨old,he⟩,hit,hne⟩:=st
  obtain ⟨xs,hq,hx⟩:=hg
  obtain ⟨its,rv,p,hz⟩:=I.list hq
  obtain ⟨f0,f1,f2,f3,f4,f5⟩:=hf it (by simp)
  have hp:s.heap.IsList a its.toArray:=p.isList
  have hl:=rv.length
  have hh:X.A.in1.handled=none:=I.ok.hd hc
  have hT:s.TypeIs (.ref e) "enumerate" := ⟨_,he,rfl⟩
  unfold pyNext
  refine wpAny_bind (wpAny_attempt (wpAny_callSpecial?_slot (name:=Str.ofString "__next__") hT F.slot_enumerate_next
   (wpAny_call_entry F.slot_enumerate_next hT F.entry_enumerate_next ?_ (F.args_enumerate_next_1 _))))
  show wpAny _ _ (field (.ref e) 2 >>= _) _ _ _
  refine wpAny_bind (wpAny_field he rfl (x:=.ref it) rfl ?_)
  refine wpAny_bind (wpAny_nextOf_list_end (A:=X.A.in1) hh hit hp (by simp;omega) fun h' x eb hx'=>?_)
  obtain ⟨o,ho,hc⟩:=hx'
  refine wpAny_bind (wpAny_isInstance (T := "StopIteration") (b:=true) ⟨o,ho,hc⟩ isSubtype_stop ?_)
  exact wpAny_pure ⟨rfl,I.turned (t':=s.toks) (fun b o hb q=>eb b o hb q) f0 f1 f3 f4 f5⟩
 self:=fun A i s Q E st h=>let ⟨⟨_,he⟩,_⟩:=st;wpAny_pyIter_enum he h
theorem ziG {v:Value} {o:Obj} {H:Heap->Prop} (B:Begins v o H) :
  Meets (Builtin.«enumerate.__new__» ⟨[.type "enumerate", v],[]⟩) (fun _ R s=>H s.heap∧
   R (.ok (.ret (.ref (s.heap.push o).objs.size))) { s with heap:=(s.heap.push o).push { cls:=.type "enumerate", data:=.fields #[.none,.bool false,.ref s.heap.objs.size,rawInt 0,.none,.none] } }):=
 .of_wp fun prog w A R s h=>by
  obtain ⟨hp,g,d,tk,os⟩:=s;obtain ⟨h1,h⟩:=h
  have hsub:=sub_enumerate
  have q1:∀ {A':Around} {E:Value->Shared->Prop} {Q:Value->Shared->Prop},Q (.ref hp.objs.size) ⟨hp.push o,g,d,tk,os⟩->wpAny (model prog w) A' (pyIter v) Q E ⟨hp,g,d,tk,os⟩:=
   fun q=>B.iter prog w _ _ ⟨hp,g,d,tk,os⟩ _ h1 q
  wp_walk using q1
  refine wpAny_stack_any fun st=>wpAny_pure ?_
  split
  ·rename_i c _ _ _ _ _
   cases (c == Value.type "enumerate")
   ·wp_walk using q1
    exact ⟨_,rfl,h⟩
   ·wp_walk using q1
    exact ⟨_,rfl,h⟩
  ·wp_walk using q1
   exact ⟨_,rfl,h⟩
theorem zgb {prog:Program} {w:World} {A:Around} {E:Value->Shared->Prop} {s:Shared} {v:Value} {o:Obj} {H:Heap->Prop} {Q:Value->Shared->Prop} (B:Begins v o H) (h1:H s.heap)
  (h:∀ h',IsEnum h' (s.heap.objs.size+1) s.heap.objs.size 0 .none->h'.get? s.heap.objs.size=some o->h'.objs.size=s.heap.objs.size+2 ->
   (∀ b o,s.heap.get? b=some o->h'.get? b=some o)->Q (.ref (s.heap.objs.size+1)) { s with heap:=h' }) :
  wpAny (model prog w) A (call (.type "enumerate") [v]) Q E s:=by
 refine callType_new F.called_enumerate (by decide) (F.typeCall_enumerate_1 _) (F.newCall_enumerate_1 _) (fun obj=>F.args_object_init_2 obj _) F.entry_enumerate_new
  (ziG B) ⟨h1,?_⟩
 have hz:(s.heap.push o).objs.size=s.heap.objs.size+1:=Heap.size_push ..
 show _∧_
 rw [hz]
 have he:IsEnum ((s.heap.push o).push { cls:=.type "enumerate", data:=.fields #[.none,.bool false,.ref s.heap.objs.size,rawInt 0,.none,.none] }) (s.heap.objs.size+1) s.heap.objs.size 0 .none:=by
  have:=Heap.get?_push_size (s.heap.push o) (o:={ cls:=.type "enumerate", data:=.fields #[.none,.bool false,.ref s.heap.objs.size,rawInt 0,.none,.none] }) rfl
  rw [hz] at this;exact this
 refine ⟨⟨_,he,rfl⟩,h _ he (Heap.get?_push_of_some _ (Heap.get?_push_size _ B.free)) (by rw [Heap.size_push,hz]) fun b o x=>Heap.get?_push_of_some _ (Heap.get?_push_of_some _ x)⟩
def zrL (K:PySem.W.Frag) (ta:TA):TI:=fun σ H R=>ta σ H fun vs H1=>∃ a,vs=[.ref a]∧((∃ xs,SqL K H1 a xs∧R (zsK K 0 a) H1) ∨ ∃ xs,SqT K H1 a xs∧R (zvd K 0 a) H1)
theorem zlg {X:Cx} {e:Expr} {ta:TA} {p pos tpos:Pos} {elts:List Expr} {kk:Nat} (hg:Gl X "enumerate") (hm:X.mg "enumerate" = none) (ha:PA X [e] ta) (hs:starEach [e] X.env=[(false,eval e X.env)]:=by rfl) :
  PI X (.Tuple elts kk tpos) (.Call (.Name "enumerate" p) [e] [] pos) (zrL X.K ta):=by
 refine ⟨fun pins s σ H R I h=>?_⟩
 refine Call_ (ld_blt I hg hm boot_enumerate (PyProof.Rows.callWith_type1 (thn (ha.run pos pins s σ H _ I h) fun us s1 ⟨vs,H1,I1,r1,q1⟩=>?_) hs rfl))
 obtain ⟨a,ex,q⟩:=q1
 subst ex
 cases r1 with
 | cons r rr=>
  cases rr
  cases r
  have fpo:∀ b∈[s1.heap.objs.size+1,s1.heap.objs.size],FpOk X pins H1 b:=fun b hb=>by
   have e':b=s1.heap.objs.size+1 ∨ b=s1.heap.objs.size:=by simpa using hb
   have hle:s1.heap.objs.size≤b:=by
    rcases e' with z | z
    ·rw [z];exact Nat.le_add_right _ _
    ·rw [z];exact Nat.le_refl _
   exact I1.fpOk hle (I1.hok.fresh hle)
  rcases q with ⟨xs,hq,q⟩ | ⟨xs,hq,q⟩
  ·obtain ⟨its,rv,p',hz⟩:=I1.list hq
   refine zgb (begins_list a its.toArray) p'.isList fun h' he hit hsz hk=>wpAny_pyIter_enum he ?_
   have I2:Inv X pins σ H1 { s1 with heap:=h' }:=I1.kept (t':=s1.toks) hk
   exact ⟨s1.heap.objs.size+1,[s1.heap.objs.size+1,s1.heap.objs.size],_,_,H1,rfl,I2,zjt 0 a (s1.heap.objs.size+1) s1.heap.objs.size,⟨⟨.none,he⟩,⟨_,hit,rfl,rfl⟩,Nat.succ_ne_self _⟩,fpo,q⟩
  ·obtain ⟨its,rv,p',hz⟩:=I1.tuple hq
   refine zgb (begins_tuple a its.toArray) (show s1.heap.IsTuple a its.toArray from p') fun h' he hit hsz hk=>wpAny_pyIter_enum he ?_
   have I2:Inv X pins σ H1 { s1 with heap:=h' }:=I1.kept (t':=s1.toks) hk
   exact ⟨s1.heap.objs.size+1,[s1.heap.objs.size+1,s1.heap.objs.size],_,_,H1,rfl,I2,zjs 0 a (s1.heap.objs.size+1) s1.heap.objs.size,⟨⟨.none,he⟩,⟨_,hit,rfl,rfl⟩,Nat.succ_ne_self _⟩,fpo,q⟩
def zhf (k0:Int):List D->List D
 | []=>[]
 | x :: xs=>.tup [.int k0,x] :: zhf (k0+1) xs
theorem zcd:∀ (k0:Int) (xs:List D),(zhf k0 xs).length=xs.length
 | _,[]=>rfl
 | k0,x :: xs=>by simp [zhf,zcd]
theorem zfA:∀ (k0:Int) (xs:List D) (i:Nat),(zhf k0 xs)[i]? = (xs[i]?).map fun x=>.tup [.int (k0+i),x]
 | _,[],i=>by simp [zhf]
 | k0,x :: xs,0=>by simp [zhf]
 | k0,x :: xs,i+1=>by
  simp only [zhf,List.getElem?_cons_succ,zfA (k0+1) xs i]
  congr 1
  funext y
  have:k0+1+(i:Int)=k0+((i+1:Nat):Int):=by omega
  rw [this]
section
variable {K:PySem.W.Frag} {P:Program} {w:World} {H1:Hp} {a:Addr} {vs:List V} {ds:List D} {k0:Int}
theorem zhD {S:Sto} {H:Hp} {T:Addr} {x y:V} {d e:D} (r:Rp K P w S H) (hT:H T=none) (h1:DV K H d x) (h2:DV K H e y):Le H (upd H T (.tup [x,y]))∧Rp K P w S (upd H T (.tup [x,y]))∧DV K (upd H T (.tup [x,y])) (.tup [d,e]) (.ref T):=
 ⟨Le.new hT,r.more hT,.tup (.inl (.inl upd_same)) (.cons (h1.le (Le.new hT)) (.cons (h2.le (Le.new hT)) .nil)) upd_same⟩
theorem zkW (s:SqT K H1 a vs) (z:DVs K H1 ds vs):WkD K P w H1 (zvd K k0 a) (zhf k0 ds) fun _=>True where
 go:=fun i S H hi l _ _=>by
  rw [zcd,z.length] at hi
  exact ⟨vs,vs[i],zg0 l s,List.getElem?_eq_getElem hi⟩
 stop:=fun S H l _ _=>by
  rw [zcd,z.length]
  exact ⟨vs,zg0 l s,Nat.le_refl _⟩
 yld:=fun i S H x H' hi l r _ y=>by
  obtain ⟨T,x',rfl,hT,rfl,hx⟩:=y
  rw [zcd] at hi
  obtain ⟨v,e3,dv⟩:=(z.le l).get (List.getElem?_eq_getElem hi)
  have hx':=hx vs (zg0 l s)
  rw [e3] at hx'
  cases hx'
  obtain ⟨p1,p2,p3⟩:=zhD r hT (.int (k0+(i:Nat))) dv
  exact ⟨p1,p2,_,by rw [zfA,List.getElem?_eq_getElem hi];rfl,p3⟩
theorem zkX (s:RoL K H1 a vs) (z:DVs K H1 ds vs):WkD K P w H1 (zsK K k0 a) (zhf k0 ds) fun _=>True where
 go:=fun i S H hi l _ _=>by
  rw [zcd,z.length] at hi
  exact ⟨vs,vs[i],(s.le l).sq,List.getElem?_eq_getElem hi⟩
 stop:=fun S H l _ _=>by
  rw [zcd,z.length]
  exact ⟨vs,(s.le l).sq,Nat.le_refl _⟩
 yld:=fun i S H x H' hi l r _ y=>by
  obtain ⟨T,x',rfl,hT,rfl,hx⟩:=y
  rw [zcd] at hi
  obtain ⟨v,e3,dv⟩:=(z.le l).get (List.getElem?_eq_getElem hi)
  have hx':=hx vs (s.le l).sq
  rw [e3] at hx'
  cases hx'
  obtain ⟨p1,p2,p3⟩:=zhD r hT (.int (k0+(i:Nat))) dv
  exact ⟨p1,p2,_,by rw [zfA,List.getElem?_eq_getElem hi];rfl,p3⟩
theorem zkY:WkD K P w H1 (zsK K k0 a) (zhf k0 ds) fun S=>S a=some (.lst ds) where
 go:=fun i S H hi l r g=>by
  obtain ⟨vs,q,z⟩:=r _ _ g
  rw [zcd,z.length] at hi
  exact ⟨vs,vs[i],SqL.of q,List.getElem?_eq_getElem hi⟩
 stop:=fun S H l r g=>by
  obtain ⟨vs,q,z⟩:=r _ _ g
  rw [zcd,z.length]
  exact ⟨vs,SqL.of q,Nat.le_refl _⟩
 yld:=fun i S H x H' hi l r g y=>by
  obtain ⟨vs,q,z⟩:=r _ _ g
  obtain ⟨T,x',rfl,hT,rfl,hx⟩:=y
  rw [zcd] at hi
  obtain ⟨v,e3,dv⟩:=z.get (List.getElem?_eq_getElem hi)
  have hx':=hx vs (SqL.of q)
  rw [e3] at hx'
  cases hx'
  obtain ⟨p1,p2,p3⟩:=zhD r hT (.int (k0+(i:Nat))) dv
  exact ⟨p1,p2,_,by rw [zfA,List.getElem?_eq_getElem hi];rfl,p3⟩
end
section
variable {X:Cx} {B:Hp} {p pos tpos:Pos} {elts:List Expr} {kk:Nat}
def zhm (m:AM):IM:=fun env S R=>m env S fun ds S1=>match ds with
 | [.tp _ xs]=>R (zhf 0 xs) (fun _=>True) S1
 | [.rol xs]=>R (zhf 0 xs) (fun _=>True) S1
 | [.ref a]=>match S1 a with
  | some (.lst xs)=>R (zhf 0 xs) (fun S=>S a=some (.lst xs)) S1
  | _=>False
 | _=>False
theorem ziE {e:Expr} {m:AM} (ha:MA X B [e] m) (hm:X.mg "enumerate" = none) (hg:Gl X "enumerate" := by rfl) (hs:starEach [e] X.env=[(false,eval e X.env)]:=by rfl):MI X B (.Tuple elts kk tpos) (.Call (.Name "enumerate" p) [e] [] pos) (zhm m):=by
 refine ⟨ziV (zlg hg hm ha.pa hs) fun σ H R q=>?_,fun env S Q Q' i q=>ha.mono env S _ _ (fun d S1 q=>?_) q⟩
 ·obtain ⟨lB,env,S,r0,z0,q⟩:=q
  refine ⟨lB,env,S,r0,z0,ha.mono env S _ _ (fun ds S1 q vs H1 l1 z1 d1=>?_) q⟩
  split at q
  ·obtain ⟨v,rfl,dv⟩:=zjh d1
   cases dv with
   | tup s z=>exact ⟨_,rfl,.inr ⟨_,s,q _ H1 l1 z1 (zkW s z)⟩⟩
  ·obtain ⟨v,rfl,dv⟩:=zjh d1
   cases dv with
   | rol s z=>exact ⟨_,rfl,.inl ⟨_,s.sq,q _ H1 l1 z1 (zkX s z)⟩⟩
  ·obtain ⟨v,rfl,dv⟩:=zjh d1
   cases dv
   split at q
   ·rename_i xs e0
    obtain ⟨vs,q1,z⟩:=z1 _ _ e0
    exact ⟨_,rfl,.inl ⟨_,SqL.of q1,q _ H1 l1 z1 zkY⟩⟩
   ·exact q.elim
  ·exact q.elim
 ·split at q
  ·exact i _ _ _ q
  ·exact i _ _ _ q
  ·split at q
   ·exact i _ _ _ q
   ·exact q.elim
  ·exact q.elim
def zrK (m:AM):IM:=fun env S R=>m env S fun ds S1=>match ds with
 | [.tp _ xs,.tp _ ys]=>R (List.zipWith (fun x y=>.tup [x,y]) xs ys) (fun _=>True) S1
 | _=>False
end
abbrev MM:=D->List D->Sto->DQ->Prop
structure zrZ (X:Cx) (id:String) (r:MM):Prop where
 mt:MtR X id fun x xs H Q=>∃ d ds S,DV X.K H d x∧DVs X.K H ds xs∧Rp X.K X.prog X.w S H∧r d ds S (dnE X.K X.prog X.w H Q)
 mono:∀ d ds S (Q Q':DQ),(∀ d S,Q d S->Q' d S)->r d ds S Q->r d ds S Q'
section
variable {X:Cx} {B:Hp}
theorem zub {id:String} {r:MM} (R:V->List V->Hp->VK->Prop) (h:MtR X id R) (hR:∀ x xs H Q d ds S,DV X.K H d x->DVs X.K H ds xs->Rp X.K X.prog X.w S H->r d ds S (dnE X.K X.prog X.w H Q)->R x xs H Q)
  (mono:∀ d ds S (Q Q':DQ),(∀ d S,Q d S->Q' d S)->r d ds S Q->r d ds S Q'):zrZ X id r:=⟨fun pins s σ H x xs v us Q I rx rxs q=>by
 obtain ⟨d,ds,S,h1,h2,h3,h4⟩:=q
 exact h pins s σ H x xs v us Q I rx rxs (hR x xs H Q d ds S h1 h2 h3 h4),mono⟩
def zfO (ok:D->Sto->Prop) (r:MM) (mo:EM) (ma:AM):EM:=fun env S Q=>mo env S fun d S1=>ok d S1∧ma env S1 fun ds S2=>r d ds S2 Q
variable {o e:Expr} {es:List Expr} {name:Str} {apos cpos pos:Pos} {T id:String} {r:MM} {mo:EM} {ma:AM} {ok:D->Sto->Prop} {ty:V->Hp->Prop}
theorem zkn (ht:TyOk X T ty) (hty:∀ d x S H,DV X.K H d x->Rp X.K X.prog X.w S H->ok d S->ty x H) (pa:PlainAttrs T) (slot:Slot T name id) (htd:typeOf (.builtin id)=pure (.type "method_descriptor")) (hm:zrZ X id r) (ho:ME X B o mo) (ha:MA X B (e :: es) ma)
  (hbase:attributeBase o name X.env (eval o X.env)=eval o X.env:=by rfl)
  (hfew:((backTo cpos (starEach (e :: es) X.env)).all (fun x=>!x.1) && (backToKw cpos (keywordEach [] X.env)).all (fun x=>x.1.isSome)
   && decide ((e :: es).length+([]:List Keyword).length+(if ([]:List Keyword).isEmpty then 0 else 1) < 30))=true:=by rfl)
  (hline:(apos.endLine == cpos.line)=true:=by rfl) (hs:starEach (e :: es) X.env=(false,eval e X.env) :: starEach es X.env:=by rfl) (hplain:(backTo cpos (starEach es X.env)).any (·.1)=false:=by rfl) :
  ME X B (.Call (.Attribute o name apos) (e :: es) [] cpos) (zfO ok r mo ma):=by
 refine ⟨zbl (pe_mG ht pa slot htd hm.mt ho.pe ha.pa hbase hfew hline hs hplain) fun σ H Q q=>?_,fun env S Q Q' i q=>ho.mono env S _ _ (fun d S1 q=>⟨q.1,ha.mono env S1 _ _ (fun ds S2 q=>hm.mono _ _ _ _ _ i q) q.2⟩) q⟩
 obtain ⟨lB,env,S,r0,z0,q⟩:=q
 refine ⟨lB,env,S,r0,z0,ho.mono env S _ _ (fun d S1 q v H1 l1 z1 d1=>?_) q⟩
 refine ⟨hty _ _ _ _ d1 z1 q.1,lB.trans l1,env,S1,r0.le l1,z1,ha.mono env S1 _ _ (fun ds S2 q vs H2 l2 z2 d2=>?_) q.2⟩
 exact ⟨d,ds,S2,d1.le l2,d2,z2,hm.mono _ _ _ _ _ (zdN (l1.trans l2)) q⟩
def okL (d:D) (S:Sto):Prop:=match d with
 | .ref a=>match S a with
  | some (.lst _)=>True
  | _=>False
 | _=>False
theorem zvk {T:String}:TyOk X T (tyV X.K T):=fun pins σ H s x v I r ty=>tyV_is I r ty
theorem zl3:∀ d x S H,DV X.K H d x->Rp X.K X.prog X.w S H->okL d S->tyV X.K "list" x H:=fun d x S H h r q=>by
 unfold okL at q
 split at q
 ·cases h
  split at q
  ·rename_i a e0
   obtain ⟨vs,e,_⟩:=r _ _ e0
   exact .inl ⟨rfl,vs,SqL.of e⟩
  ·exact q.elim
 ·exact q.elim
theorem zlX {K:PySem.W.Frag} {P:Program} {w:World} {S:Sto} {H:Hp} {Q:VK} {a:Addr} {us ws:List V} {ds:List D} {d:D} {v:V} (r:Rp K P w S H) (e:H a=some (.lst us)) (z:DVs K H ds ws) (dv:DV K H d v) (q:dnE K P w H Q d (put S a (.lst ds))):Q v (upd H a (.lst ws)):=by
 have hmut:Mut (H a):=by rw [e];exact trivial
 have l:=Le.mut (o:=.lst ws) hmut
 exact q v _ l (r.wr (o:=.lst ds) hmut ⟨ws,upd_same,z.le l⟩) (dv.le l)
def zgv:MM:=fun d ds S Q=>match d,ds with
 | .ref a,[y]=>match S a with
  | some (.lst xs)=>xs.length < sizeLine∧Q .non (put S a (.lst (xs++[y])))
  | _=>False
 | _,_=>False
theorem zkq:zrZ X "list.append" zgv:=by
 refine zub _ mt_append (fun x xs H Q d ds S h1 h2 r q=>?_) (fun d ds S Q Q' i q=>?_)
 ·unfold zgv at q
  split at q
  ·rename_i a y
   obtain ⟨v,rfl,dv⟩:=zjh h2
   cases h1
   split at q
   ·rename_i ys e0
    obtain ⟨us,e,z⟩:=r _ _ e0
    exact ⟨_,us,v,rfl,rfl,e,by rw [← z.length];exact q.1,zlX r e (z.append (.cons dv .nil)) .non q.2⟩
   ·exact q.elim
  ·exact q.elim
 ·unfold zgv at q ⊢
  split at q
  ·split at q
   ·exact ⟨q.1,i _ _ q.2⟩
   ·exact q.elim
  ·exact q.elim
def zyM:MM:=fun d ds S Q=>match d,ds with
 | .ref a,[.ref b]=>match S a,S b with
  | some (.lst xs),some (.lst ys)=>xs.length+ys.length≤sizeLine∧Q .non (put S a (.lst (xs++ys)))
  | _,_=>False
 | _,_=>False
def zyJ:MM:=fun d ds S Q=>match d,ds with
 | .ref a,[]=>match S a with
  | some (.lst xs)=>Q .non (put S a (.lst xs.reverse))
  | _=>False
 | _,_=>False
theorem zaR (ho:ME X B o mo) (ha:MA X B [e] ma) (hbase:attributeBase o "append" X.env (eval o X.env)=eval o X.env:=by rfl)
  (hfew:((backTo cpos (starEach [e] X.env)).all (fun x=>!x.1) && (backToKw cpos (keywordEach [] X.env)).all (fun x=>x.1.isSome)
   && decide ([e].length+([]:List Keyword).length+(if ([]:List Keyword).isEmpty then 0 else 1) < 30))=true:=by rfl)
  (hline:(apos.endLine == cpos.line)=true:=by rfl) (hs:starEach [e] X.env=(false,eval e X.env) :: starEach [] X.env:=by rfl) (hplain:(backTo cpos (starEach [] X.env)).any (·.1)=false:=by rfl) :
  ME X B (.Call (.Attribute o "append" apos) [e] [] cpos) (zfO okL zgv mo ma):=zkn zvk zl3 F.plainAttrs_list F.slot_list_append F.type_list_append zkq ho ha hbase hfew hline hs hplain
def zkZ:CM:=fun ds S Q=>match ds with
 | []=>∀ p,S p=none->Q (.ref p) (put S p (.set (fun _=>false) 0))
 | _=>False
theorem zkL:zfq X (.type "set") zkZ:=by
 refine zgW _ cr_set0K (fun xs H Q ds S h r q=>?_) (fun ds S Q Q' i q=>?_)
 ·cases h with
  | nil=>exact ⟨rfl,fun p hp=>q p (r.free hp) _ _ (Le.new hp) (r.new hp upd_same) (.ref p)⟩
  | cons=>exact q.elim
 ·cases ds with
  | nil=>exact fun p hp=>i _ _ (q p hp)
  | cons=>exact q.elim
theorem znM {K:PySem.W.Frag} {P:Program} {w:World} {H:Hp} {a:Addr} {f:Key->Bool} {n:Nat} (e:OOk K P w H a (.set f n)):Mut (H a):=by
 have e':H a=some (SetK P w a f n):=e
 rw [e']
 exact trivial
def okS (d:D) (S:Sto):Prop:=match d with
 | .ref a=>match S a with
  | some (.set _ _)=>True
  | _=>False
 | _=>False
def zrj (mo:EM) (ma:AM):EM:=fun env S Q=>mo env S fun d S1=>okS d S1∧ma env S1 fun ds S2=>match d,ds with
 | .ref a,[y]=>match S2 a,keyD y with
  | some (.set f n),some k=>n+1 < scanBound∧Q .non (put S2 a (.set (fun j=>f j || decide (j=k)) (if f k=true then n else n+1)))
  | _,_=>False
 | _,_=>False
theorem zms (ho:ME X B o mo) (ha:MA X B [e] ma) (hbase:attributeBase o "add" X.env (eval o X.env)=eval o X.env:=by rfl)
  (hfew:((backTo cpos (starEach [e] X.env)).all (fun x=>!x.1) && (backToKw cpos (keywordEach [] X.env)).all (fun x=>x.1.isSome)
   && decide ([e].length+([]:List Keyword).length+(if ([]:List Keyword).isEmpty then 0 else 1) < 30))=true:=by rfl)
  (hline:(apos.endLine == cpos.line)=true:=by rfl) (hs:starEach [e] X.env=(false,eval e X.env) :: starEach [] X.env:=by rfl) (hplain:(backTo cpos (starEach [] X.env)).any (·.1)=false:=by rfl) :
  ME X B (.Call (.Attribute o "add" apos) [e] [] cpos) (zrj mo ma):=by
 refine ⟨zbl (pe_saddK ho.pe ha.pa hbase hfew hline hs hplain) fun σ H Q q=>?_,fun env S Q Q' i q=>ho.mono env S _ _ (fun d S1 q=>⟨q.1,ha.mono env S1 _ _ (fun ds S2 q=>?_) q.2⟩) q⟩
 ·obtain ⟨lB,env,S,r0,z0,q⟩:=q
  refine ⟨lB,env,S,r0,z0,ho.mono env S _ _ (fun d S1 q v H1 l1 z1 d1=>?_) q⟩
  obtain ⟨q1,q⟩:=q
  refine ⟨?_,lB.trans l1,env,S1,r0.le l1,z1,ha.mono env S1 _ _ (fun ds S2 q vs H2 l2 z2 d2=>?_) q⟩
  ·unfold okS at q1
   split at q1
   ·cases d1
    split at q1
    ·rename_i f n e0
     exact ⟨_,f,n,rfl,z1 _ _ e0⟩
    ·exact q1.elim
   ·exact q1.elim
  ·split at q
   ·obtain ⟨u,rfl,du⟩:=zjh d2
    cases d1
    split at q
    ·rename_i f n k e0 ek
     have eu:=zga du ek
     subst eu
     have e1:=z2 _ _ e0
     have hmut:=znM e1
     exact ⟨_,k,f,n,rfl,rfl,e1,q.1,q.2 _ _ ((l1.trans l2).trans (Le.mut hmut)) (z2.wr (o:=.set _ _) hmut upd_same) .non⟩
    ·exact q.elim
   ·exact q.elim
 ·split at q
  ·split at q
   ·exact ⟨q.1,i _ _ q.2⟩
   ·exact q.elim
  ·exact q.elim
def zn9:EM:=fun _ S Q=>∀ p,S p=none->Q (.ref p) (put S p (.dic []))
theorem zn4:ME X B (.Dict [] [] pos) zn9:=by
 refine ⟨zbl pe_dnewK fun σ H Q q=>?_,fun env S Q Q' i q p hp=>i _ _ (q p hp)⟩
 obtain ⟨lB,env,S,r0,z0,q⟩:=q
 exact fun p hp=>q p (z0.free hp) _ _ (Le.new hp) (z0.new (o:=.dic []) hp ⟨[],upd_same,.nil⟩) (.ref p)
def zjr:CM:=fun ds S Q=>match ds with
 | [.ref a]=>match S a with
  | some (.dic kvs)=>∀ p,S p=none->Q (.ref p) (put S p (.dic kvs))
  | _=>False
 | _=>False
theorem zoC:zfq X (.type "dict") zjr:=by
 refine zgW _ call_dictD (fun xs H Q ds S h r q=>?_) (fun ds S Q Q' i q=>?_)
 ·unfold zjr at q
  split at q
  ·obtain ⟨v,rfl,dv⟩:=zjh h
   cases dv
   split at q
   ·rename_i kvs e0
    obtain ⟨vs,e,z⟩:=r _ _ e0
    exact ⟨_,vs,rfl,.inl e,fun p hp=>q p (r.free hp) _ _ (Le.new hp) (r.new (o:=.dic kvs) hp ⟨vs,upd_same,z.le (Le.new hp)⟩) (.ref p)⟩
   ·exact q.elim
  ·exact q.elim
 ·unfold zjr at q ⊢
  split at q
  ·split at q
   ·exact fun p hp=>i _ _ (q p hp)
   ·exact q.elim
  ·exact q.elim
def mPs:List (EM×EM)->Slo->Sto->(List (D×D)->Sto->Prop)->Prop
 | [],_,S,Q=>Q [] S
 | (mk,mv) :: r,env,S,Q=>mk env S fun x S1=>mv env S1 fun y S2=>mPs r env S2 fun ps S3=>Q ((x,y) :: ps) S3
structure MPs (X:Cx) (B:Hp) (pos:Pos) (keys:List (Option Expr)) (values:List Expr) (ms:List (EM×EM)):Prop where
 pps:PPs X pos keys values (ms.map fun p=>(up X.K X.prog X.w B p.1,up X.K X.prog X.w B p.2))
 mono:∀ p∈ms,zci p.1∧zci p.2
theorem znN:MPs X B pos [] [] []:=⟨pps_nil,fun _ h=>nomatch h⟩
theorem zfB {k v:Expr} {ks:List (Option Expr)} {vs:List Expr} {mk mv:EM} {ms:List (EM×EM)} (hk:ME X B k mk) (hv:ME X B v mv) (hr:MPs X B pos ks vs ms):MPs X B pos (some k :: ks) (v :: vs) ((mk,mv) :: ms):=
 ⟨pps_cons hk.pe hv.pe hr.pps,fun p h=>by
  rcases List.mem_cons.mp h with e | h
  ·subst e;exact ⟨hk.mono,hv.mono⟩
  ·exact hr.mono p h⟩
def zjF:List (D×D)->Option (List (Key×D))
 | []=>some []
 | (k,v) :: r=>match keyD k,zjF r with
  | some k,some r=>some ((k,v) :: r)
  | _,_=>none
def zdx (kvs more:List (Key×D)):List (Key×D):=more.foldl (fun acc kv=>putD acc kv.1 kv.2) kvs
def zn8 (ms:List (EM×EM)):EM:=fun env S Q=>∀ p,S p=none->mPs ms env (put S p (.dic [])) fun ps S2=>match zjF ps with
 | some kvs=>S2 p=some (.dic [])∧kvs.length≤15∧Q (.ref p) (put S2 p (.dic (zdx [] kvs)))
 | none=>False
theorem zi2:∀ {ms:List (EM×EM)},(∀ p∈ms,zci p.1∧zci p.2)->∀ env S (Q Q':List (D×D)->Sto->Prop),(∀ ps S,Q ps S->Q' ps S)->mPs ms env S Q->mPs ms env S Q'
 | [],_,env,S,Q,Q',i,q=>i _ _ q
 | (mk,mv) :: r,h,env,S,Q,Q',i,q=>(h _ (List.mem_cons_self ..)).1 env S _ _ (fun x S1 q=>(h _ (List.mem_cons_self ..)).2 env S1 _ _ (fun y S2 q=>zi2 (fun p hp=>h p (List.mem_cons_of_mem _ hp)) env S2 _ _ (fun ps S3 q=>i _ _ q) q) q) q
inductive DPs (K:PySem.W.Frag) (H:Hp):List (D×D)->List (V×V)->Prop
 | nil:DPs K H [] []
 | cons {a b:D} {x y:V} {r:List (D×D)} {s:List (V×V)}:DV K H a x->DV K H b y->DPs K H r s->DPs K H ((a,b) :: r) ((x,y) :: s)
theorem DPs.le {K:PySem.W.Frag} {H H':Hp} {r:List (D×D)} {s:List (V×V)} (l:Le H H') (h:DPs K H r s):DPs K H' r s:=by
 induction h with
 | nil=>exact .nil
 | cons h1 h2 _ ih=>exact .cons (h1.le l) (h2.le l) ih
theorem zo2 {K:PySem.W.Frag} {P:Program} {w:World}:∀ {ms:List (EM×EM)},(∀ p∈ms,zci p.1∧zci p.2)->∀ {σ:L2.St} {H:Hp} {Q:List (V×V)->Hp->Prop} {env:Slo} {S:Sto},Le B H->zcz K H env σ->Rp K P w S H ->
  mPs ms env S (fun ps S'=>∀ vs H',Le H H'->Rp K P w S' H'->DPs K H' ps vs->Q vs H')->tPairs (ms.map fun p=>(up K P w B p.1,up K P w B p.2)) σ H Q
 | [],_,σ,H,Q,env,S,lB,r0,z0,q=>q [] H (Le.refl H) z0 .nil
 | (mk,mv) :: r,h,σ,H,Q,env,S,lB,r0,z0,q=>by
  refine ⟨lB,env,S,r0,z0,(h _ (List.mem_cons_self ..)).1 env S _ _ (fun x S1 q v H1 l1 z1 d1=>?_) q⟩
  refine ⟨lB.trans l1,env,S1,r0.le l1,z1,(h _ (List.mem_cons_self ..)).2 env S1 _ _ (fun y S2 q u H2 l2 z2 d2=>?_) q⟩
  refine zo2 (fun p hp=>h p (List.mem_cons_of_mem _ hp)) (lB.trans (l1.trans l2)) (r0.le (l1.trans l2)) z2 (zi2 (fun p hp=>h p (List.mem_cons_of_mem _ hp)) _ _ _ _ (fun ps S3 q vs H3 l3 z3 d3=>?_) q)
  exact q _ H3 ((l1.trans l2).trans l3) z3 (.cons (d1.le (l2.trans l3)) (d2.le l3) d3)
theorem zrp {K:PySem.W.Frag} {H:Hp} {ps:List (D×D)} {vs:List (V×V)} (h:DPs K H ps vs):∀ {kvs:List (Key×D)},zjF ps=some kvs->∃ us:List (Key×V),vs=us.map (fun kv=>(kV kv.1,kv.2))∧KVs K H kvs us:=by
 induction h with
 | nil=>intro kvs e;cases e;exact ⟨[],rfl,.nil⟩
 | @cons a b x y r s h1 h2 h3 ih=>
  intro kvs e
  unfold zjF at e
  split at e
  ·rename_i k r' ek er
   cases e
   obtain ⟨us,rfl,z⟩:=ih er
   have ex:=zga h1 ek
   subst ex
   exact ⟨(k,y) :: us,rfl,.cons h2 z⟩
  ·cases e
theorem KVs.merge {K:PySem.W.Frag} {H:Hp} {more:List (Key×D)} {mv:List (Key×V)} (h:KVs K H more mv):∀ {ds:List (Key×D)} {vs:List (Key×V)},KVs K H ds vs->KVs K H (zdx ds more) (mergeK vs mv):=by
 induction h with
 | nil=>intro ds vs h;exact h
 | cons h1 _ ih=>intro ds vs h;exact ih (h.put _ h1)
theorem zn5 {keys:List (Option Expr)} {values:List Expr} {ms:List (EM×EM)} (h:MPs X B pos keys values ms) (hall:keys.all (·.isSome)=true:=by rfl) (hl:keys.length=values.length:=by rfl) (h0:keys≠[]:=by simp)
  (h15:keys.length≤15:=by decide):ME X B (.Dict keys values pos) (zn8 ms):=by
 refine ⟨zbl (pe_disp h.pps hall hl h0 h15) fun σ H Q q=>?_,fun env S Q Q' i q p hp=>zi2 h.mono _ _ _ _ (fun ps S2 q=>?_) (q p hp)⟩
 ·obtain ⟨lB,env,S,r0,z0,q⟩:=q
  intro p hp
  have l1:Le H (upd H p (.dK [])):=Le.new hp
  have z1:Rp X.K X.prog X.w (put S p (.dic [])) (upd H p (.dK [])):=z0.new (o:=.dic []) hp ⟨[],upd_same,.nil⟩
  refine zo2 h.mono (lB.trans l1) (r0.le l1) z1 (zi2 h.mono _ _ _ _ (fun ps S2 q vs H2 l2 z2 d2=>?_) (q p (z0.free hp)))
  split at q
  ·rename_i kvs ek
   obtain ⟨q1,q2,q3⟩:=q
   obtain ⟨us,rfl,zk⟩:=zrp d2 ek
   obtain ⟨ws,e1,e2⟩:=z2 _ _ q1
   have ew:ws=[]:=by cases e2;rfl
   subst ew
   have hmut:Mut (H2 p):=by rw [e1];exact trivial
   have l3:=Le.mut (o:=.dK (mergeK [] us)) hmut
   exact ⟨e1,us,rfl,by rw [← zk.length];exact q2,q3 _ _ ((l1.trans l2).trans l3) (z2.wr (o:=.dic (zdx [] kvs)) hmut ⟨_,upd_same,((zk.merge .nil)).le l3⟩) (.ref p)⟩
  ·exact q.elim
 ·split at q
  ·exact ⟨q.1,q.2.1,i _ _ q.2.2⟩
  ·exact q.elim
def zqU (d:D) (S:Sto):Prop:=match d with
 | .ref a=>match S a with
  | some (.dic _)=>True
  | _=>False
 | _=>False
def zrf (mo mk mx:EM):EM:=fun env S Q=>mo env S fun d S1=>zqU d S1∧mk env S1 fun k S2=>mx env S2 fun z S3=>match d with
 | .ref a=>match S3 a,keyD k with
  | some (.dic kvs),some kk=>Q ((valD kvs kk).getD z) S3
  | _,_=>False
 | _=>False
theorem zkp {x:Str} {i:Int} (h:∃ t,X.mg x=some (.int i t)) (hg:Gl X x:=by rfl) (hd:(x == ("__debug__" : Str))=false:=by decide):ME X B (.Name x pos) (mC (.int i)):=by
 obtain ⟨t,h⟩:=h
 exact zn7 (pe_glob (v:=.int i) hg h ⟨t,rfl⟩ hd) fun _=>.int i
end
def dcL (g:GM) (t:TM) (mk mv:EM) (G:Sto->Prop) (p:Addr) (Q:DQ) (env:Slo):List D->Sto->Prop
 | [],S=>G S∧Q (.ref p) S
 | x :: xs,S=>G S∧g x env S fun env2 S2=>t env2 S2 fun b S3=>match b with
  | true=>mk env2 S3 fun y S4=>mv env2 S4 fun z S5=>match S5 p,keyD y with
   | some (.dic kvs),some k=>kvs.length < sizeLine∧dcL g t mk mv G p Q env xs (put S5 p (.dic (putD kvs k z)))
   | _,_=>False
  | false=>dcL g t mk mv G p Q env xs S3
def mDc (mi:IM) (g:GM) (t:TM) (mk mv:EM) (vs:List Nat):EM:=fun env S Q=>mi env S fun xs G S1=>∀ p,S1 p=none->dcL g t mk mv G p Q (zbM env vs) xs (put S1 p (.dic []))
section
variable {X:Cx} {B:Hp} {kx vx tg iter:Expr} {ifs:List Expr} {scope:Scope} {own:List (Str×Nat)} {pos:Pos} {mi:IM} {g:GM} {t:TM} {mk mv:EM}
theorem zhT {G:Sto->Prop} {p:Addr} {env:Slo} {Q Q':DQ} (hg:∀ d env S (Q Q':Slo->Sto->Prop),(∀ e S,Q e S->Q' e S)->g d env S Q->g d env S Q') (ht:zeU t) (hk:zci mk) (hm:zci mv) (i:∀ d S,Q d S->Q' d S):∀ xs S,dcL g t mk mv G p Q env xs S->dcL g t mk mv G p Q' env xs S
 | [],S,h=>⟨h.1,i _ _ h.2⟩
 | x :: xs,S,h=>⟨h.1,hg _ _ _ _ _ (fun e s q=>ht _ _ _ _ (fun b S3 q=>by
   cases b with
   | true=>
    refine hk _ _ _ _ (fun d S4 q=>hm _ _ _ _ (fun d S5 q=>?_) q) q
    split at q
    ·exact ⟨q.1,zhT hg ht hk hm i xs _ q.2⟩
    ·exact q.elim
   | false=>exact zhT hg ht hk hm i xs _ q) q) h.2⟩
theorem zsO {K:PySem.W.Frag} {P:Program} {w:World} {wi:TI} {tt:TG} {vs:List Nat} (hwi:∀ σ H R,(Le B H∧∃ env S,zcz K H env σ∧Rp K P w S H∧mi env S fun xs G S1=>∀ J H1,Le H H1->Rp K P w S1 H1->WkD K P w H1 J xs G->R J H1)->wi σ H R)
  (hmi:∀ env S (Q Q':List D->(Sto->Prop)->Sto->Prop),(∀ xs G S,Q xs G S->Q' xs G S)->mi env S Q->mi env S Q') (bt:BT K vs tt g) (ht:zeU t) (hk:zci mk) (hm:zci mv) {σ:L2.St} {H:Hp} {Q:VK}
  (q:up K P w B (mDc mi g t mk mv vs) σ H Q):tDc wi tt (upT K P w B t) (up K P w B mk) (up K P w B mv) vs σ H Q:=by
 obtain ⟨lB,env,S,r0,z0,q⟩:=q
 refine hwi _ _ _ ⟨lB,env,S,r0,z0,hmi _ _ _ _ (fun xs G S1 q J H1 l1 z1 wk=>?_) q⟩
 intro p hp
 have l2:Le H1 (upd H1 p (.dK [])):=Le.new hp
 have z2:Rp K P w (put S1 p (.dic [])) (upd H1 p (.dK [])):=z1.new (o:=.dic []) hp ⟨[],upd_same,.nil⟩
 have q:=q p (z1.free hp)
 refine ⟨fun i k H'=>i≤xs.length∧k=xs.length - i∧Le (upd H1 p (.dK [])) H'∧∃ S,Rp K P w S H'∧dcL g t mk mv G p (dnE K P w H Q) (zbM env vs) (xs.drop i) S,⟨xs.length,Nat.zero_le _,rfl,Le.refl _,_,z2,q⟩,fun i k H' h=>?_⟩
 obtain ⟨hi,rfl,l3,S,z3,q⟩:=h
 have l23:=l2.trans l3
 by_cases hlt:i < xs.length
 ·have ed:xs.drop i=xs[i] :: xs.drop (i+1):=List.drop_eq_getElem_cons hlt
  rw [ed] at q
  refine .inr ⟨wk.go i S H' hlt l23 z3 q.1,fun H'=>Le (upd H1 p (.dK [])) H'∧∃ S,Rp K P w S H'∧dcL g t mk mv G p (dnE K P w H Q) (zbM env vs) (xs.drop (i+1)) S,fun H3 h=>⟨xs.length - (i+1),by omega,hlt,rfl,h⟩,fun x H3 hy=>?_⟩
  obtain ⟨l4,z4,d,ex,dv⟩:=wk.yld i S H' x H3 hlt l23 z3 q.1 hy
  have e':d=xs[i]:=by
   rw [List.getElem?_eq_getElem hlt] at ex
   exact (Option.some.inj ex).symm
  subst e'
  have l04:=l1.trans (l23.trans l4)
  refine bt.mt _ _ _ _ _ (fun σ2 H2 z=>?_) (bt.td _ x _ _ S H3 _ dv ((r0.le l04).wipe vs) q.2)
  obtain ⟨e2,rfl,env2,r2,q2⟩:=z
  refine ⟨e2.trans zel,lB.trans l04,env2,S,r2,z4,ht _ _ _ _ (fun b S3 q H5 l5 z5=>?_) q2⟩
  cases b with
  | false=>exact ⟨l3.trans (l4.trans l5),S3,z5,q⟩
  | true=>
   refine ⟨lB.trans (l04.trans l5),env2,S3,r2.le l5,z5,hk _ _ _ _ (fun d S4 q v H6 l6 z6 d6=>?_) q⟩
   refine ⟨lB.trans (l04.trans (l5.trans l6)),env2,S4,r2.le (l5.trans l6),z6,hm _ _ _ _ (fun d' S5 q v' H7 l7 z7 d7=>?_) q⟩
   split at q
   ·rename_i kvs kk ey ek
    obtain ⟨us,e1,e2⟩:=z7 _ _ ey
    have ev:=zga d6 ek
    subst ev
    have hmut:Mut (H7 p):=by rw [e1];exact trivial
    have l8:=Le.mut (o:=.dK (putK us kk v')) hmut
    exact ⟨us,kk,rfl,e1,by rw [← e2.length];exact q.1,l3.trans (l4.trans (l5.trans (l6.trans (l7.trans l8)))),_,z7.wr (o:=.dic (putD kvs kk d')) hmut ⟨_,upd_same,(e2.put kk d7).le l8⟩,q.2⟩
   ·exact q.elim
 ·have ei:i=xs.length:=by omega
  subst ei
  rw [List.drop_length] at q
  exact .inl ⟨wk.stop S H' l23 z3 q.1,q.2 _ H' (l1.trans l23) z3 (.ref p)⟩
theorem zq2 {vs:List Nat} (hmi:∀ env S (Q Q':List D->(Sto->Prop)->Sto->Prop),(∀ xs G S,Q xs G S->Q' xs G S)->mi env S Q->mi env S Q') (hg:∀ d env S (Q Q':Slo->Sto->Prop),(∀ e S,Q e S->Q' e S)->g d env S Q->g d env S Q') (ht:zeU t) (hk:zci mk) (hm:zci mv):zci (mDc mi g t mk mv vs):=fun env S Q Q' i q=>
 hmi _ _ _ _ (fun xs G S1 q p hp=>zhT hg ht hk hm i _ _ (q p hp)) q
abbrev zwV (X:Cx) (B:Hp) (mi:IM):TI:=fun σ H R=>Le B H∧∃ env S,zcz X.K H env σ∧Rp X.K X.prog X.w S H∧mi env S fun xs G S1=>∀ J H1,Le H H1->Rp X.K X.prog X.w S1 H1->WkD X.K X.prog X.w H1 J xs G->R J H1
theorem zlf {i:Nat} {y:Str} {py spos:Pos} {wi:TI} {g:TG} {tt:TT} {tk tv:TE} (hc:X.calm=true) (hN:X.N.Nodup) (hy:X.N[i]? = some y) (hyl:X.env.scope.names.lookup y=some .local)
  (hsw:swapsWith (.DictComp kx vx [⟨tg,iter,ifs,0⟩] scope pos) (some (.Name y py)) spos.line X.env=pure true) (hi:PI X tg iter wi) (ok:BlkOk X.N X.env.scope scope own)
  (hg:Blk X scope fun Y=>PG Y tg g) (ht:Blk X scope fun Y=>PTs Y ifs tt) (hk:Blk X scope fun Y=>PE Y kx tk) (he:Blk X scope fun Y=>PE Y vx tv) (hs:∀ x,foldedSetIterable iter X.env x=pure x:=by intro _;rfl) :
  PS X (.Assign [.Name y py] (.DictComp kx vx [⟨tg,iter,ifs,0⟩] scope pos) spos) (tAsg (tDc wi g tt tk tv (own.map (·.2))) (gName i)):=by
 refine ⟨fun pins s σ H D I h=>?_⟩
 rw [exec_Assign_Name_used _ _ _ _ hsw]
 refine wpAny_bind (wpAny_standAt (wpAny_bind ?_))
 show wpAny _ X.A (do let _ ← comprehension (.DictComp kx vx [⟨tg,iter,ifs,0⟩] scope pos) scope X.env (firstIterPos [⟨tg,iter,ifs,0⟩] pos) newDict false (eval iter X.env) (some (assign (.Name y py) X.env))) _ _ s
 have h:tDc wi g tt tk tv (own.map (·.2)) σ H (fun x H1=>gName i x σ H1 D.nx):=h
 refine wpAny_bind (thn (dc_core (Qf:=fun _ s'=>SP X pins D .next s') hc hN I hi ok hg ht hk he hs h fun L C s' m H' I' q hn f=>?_) fun _ s' hq=>wpAny_pure (wpAny_pure hq))
 show wpAny _ _ (assign (.Name y py) X.env (.ref L)) _ _ _
 refine wpAny_assign_Name (store_ok2 (v:=V.ref L) I' hN hy (.inl hyl) rfl (fun s2 I2 ⟨a,sb,ha⟩=>?_) (.inr hyl))
 obtain ⟨f0,f1,f2,f3,f4,f5⟩:=f
 have haC:C≠a:=by
  rcases ha with z | z
  ·rw [z];exact f1
  ·exact fun e=>f4 y a z e.symm
 refine ⟨m,hn.sameBut sb haC,fun h3 sb3=>?_⟩
 exact ⟨_,H',I2.turned (t':=s2.toks) (fun b o hb e=>(sb3.2 b hb).trans e) f0 f1 f3 f4 f5,q⟩
theorem zll {tt:TG} {i:Nat} {y:Str} {py spos:Pos} (hc:X.calm=true) (hN:X.N.Nodup) (hi:MI X B tg iter mi) (ok:BlkOk X.N X.env.scope scope own) (bt:BT X.K (own.map (·.2)) tt g)
  (hg:Blk X scope fun Y=>PG Y tg tt) (hm:Blk X scope fun Y=>MTs Y B ifs t) (hk:Blk X scope fun Y=>ME Y B kx mk) (he:Blk X scope fun Y=>ME Y B vx mv) (hy:X.N[i]? = some y:=by rfl) (hyl:X.env.scope.names.lookup y=some .local:=by rfl)
  (hsw:swapsWith (.DictComp kx vx [⟨tg,iter,ifs,0⟩] scope pos) (some (.Name y py)) spos.line X.env=pure true:=by rfl) (hs:∀ x,foldedSetIterable iter X.env x=pure x:=by intro _;rfl) :
  MS X B (.Assign [.Name y py] (.DictComp kx vx [⟨tg,iter,ifs,0⟩] scope pos) spos) (zaP (mDc mi g t mk mv (own.map (·.2))) (gNm i)):=by
 have m1:zeU t:=(hm X.s_0 (fun _=>none) 0 [] []).mono
 have m2:zci mk:=(hk X.s_0 (fun _=>none) 0 [] []).mono
 have m3:zci mv:=(he X.s_0 (fun _=>none) 0 [] []).mono
 have m4:=zq2 (vs:=own.map (·.2)) hi.mono bt.mg m1 m2 m3
 refine ⟨zcZ (zlf (wi:=zwV X B mi) (tt:=upT X.K X.prog X.w B t) (tk:=up X.K X.prog X.w B mk) (tv:=up X.K X.prog X.w B mv) hc hN hy hyl hsw hi.pi ok hg (fun s H C cl fp=>(hm s H C cl fp).pts) (fun s H C cl fp=>(hk s H C cl fp).pe) (fun s H C cl fp=>(he s H C cl fp).pe) hs)
  fun D σ H q=>?_,fun A B env S l q=>m4 _ _ _ _ (fun d S1 q=>l.nx _ _ q) q⟩
 obtain ⟨lB,env,S,r0,z0,q⟩:=q
 refine zsO (B:=B) (mi:=mi) (g:=g) (t:=t) (mk:=mk) (mv:=mv) (fun _ _ _ z=>z) hi.mono bt m1 m2 m3 ⟨lB,env,S,r0,z0,m4 _ _ _ _ (fun d S1 q v H1 l z dv=>?_) q⟩
 exact q _ H1 l ((r0.le l).set dv i) z
end
section
variable {X:Cx} {B:Hp} {W:XW} {k:Nat} {f C:Addr} {fd:FuncData} {ps:List Str} {x:Str} {p pos:Pos} {e:Expr} {es:List Expr} {ma:AM}
theorem zjX {CX:CXT} {sp:Sp} {E:XK} {pins:List (Addr×Obj)} {σ:L2.St} {H:Hp} {s:Shared} {Q:VK} {us:List Value} {vs:List V} (M:Mk X.K C f) (F:FnOk X.prog X.w X.K X.mg X.base CX k f fd ps sp) (hr:Room (k+1) X.A) (hb:Binds X.K fd ps [])
  (hx:PassesAt CX X σ E) (I:Inv X pins σ H s) (r:Vals vs us)
  (h:∀ x dx,H x=none->H dx=none->dx≠x->sp (.ref x :: vs) (upd (upd H dx (.own x)) x (.ins C dx [])) (fun v H2=>v = .non∧Q (.ref x) H2) E) :
  wpAny (model X.prog X.w) X.A (call (.ref C) us) (EP X pins σ Q) X.xe s:=by
 have hq:=h (s.heap.objs.size+1) s.heap.objs.size (I.hok.fresh (Nat.le_succ _)) (I.hok.fresh (Nat.le_refl _)) (Nat.ne_of_lt (Nat.lt_succ_self _))
 have I2:=Inv.made (C:=C) I
 have r2:Vals (V.ref (s.heap.objs.size+1) :: vs) (Value.ref (s.heap.objs.size+1) :: us):=.cons rfl r
 have hl:(Value.ref (s.heap.objs.size+1) :: us).length=ps.length:=by
  have e:=r2.length
  rw [F.len _ _ _ _ hq] at e
  exact e.symm
 have hl':((Value.ref (s.heap.objs.size+1) :: us)++[]).length=ps.length:=by rw [List.append_nil];exact hl
 have hbb:=hb _ (Value.ref (s.heap.objs.size+1) :: us) I2.kIn hl'
 rw [List.append_nil] at hbb
 refine wpAny_call (make_map (f:=f) I.kIn M.makes M.init (beq_iff_eq.mp M.fn) (codeAny_mono (F.run _ X.stack _ _ ⟨Value.ref (s.heap.objs.size+1) :: us,[]⟩ (Value.ref (s.heap.objs.size+1) :: us) _ _ E (hr.make C us [])
  (I2.env0.make C us []) hbb r2 hq) fun r s' hq'=>?_))
 cases r with
 | error e=>exact hx pins _ _ e s' I2 hq'
 | ok fl=>
  cases fl with
  | ret u=>
   obtain ⟨v,H',I3,rv,ev,q3⟩:=I2.after hq'
   subst ev
   exact ⟨rv,⟨V.ref (s.heap.objs.size+1),H',I3,rfl,q3⟩⟩
  | next=>exact False.elim hq'
  | brk=>exact False.elim hq'
  | cont=>exact False.elim hq'
def zgM (C:Addr) (sp:SpD) (W:XW) (m:AM):EM:=fun env S Q=>m env S fun ds S1=>∀ p,S1 p=none->sp (.ref p :: ds) (put S1 p (.ins C [])) (fun v S2=>v = .non∧Q (.ref p) S2) fun c fs S'=>W c fs env S'
theorem zlm {sp:SpD} {m:AM} (hs:zd4 sp) (hm:zkS m):zci (zgM C sp W m):=fun env S Q Q' i q=>hm env S _ _ (fun ds S1 q p hp=>hs _ _ _ _ _ _ (fun d S q=>⟨q.1,i _ _ q.2⟩) (fun _ _ _ h=>h) (q p hp)) q
theorem zmR {sp:SpD} (hs:zd4 sp) {K:PySem.W.Frag} {P:Program} {w:World} {env:Slo} {σ:L2.St} {H H1:Hp} {S1:Sto} {ds:List D} {vs:List V} {Q:VK} (lB:Le B H) (r0:zcz K H env σ) (l1:Le H H1) (z1:Rp K P w S1 H1) (d1:DVs K H1 ds vs)
  (q:∀ p,S1 p=none->sp (.ref p :: ds) (put S1 p (.ins C [])) (fun v S2=>v = .non∧dnE K P w H Q (.ref p) S2) fun c fs S'=>W c fs env S') (x dx:Addr) (hx:H1 x=none) (hdx:H1 dx=none) (hne:dx≠x) :
  zhv K P w sp (.ref x :: vs) (upd (upd H1 dx (.own x)) x (.ins C dx [])) (fun v H2=>v = .non∧Q (.ref x) H2) (WE (upW K P w B W) σ):=by
 have hx2:upd H1 dx (.own x) x=none:=by rw [upd_ne (Ne.symm hne)];exact hx
 have l2:Le H1 (upd H1 dx (.own x)):=Le.new hdx
 have l3:Le (upd H1 dx (.own x)) (upd (upd H1 dx (.own x)) x (.ins C dx [])):=Le.new hx2
 have l13:=l2.trans l3
 have z3:Rp K P w (put S1 x (.ins C [])) (upd (upd H1 dx (.own x)) x (.ins C dx [])):=(z1.more hdx).new (o:=.ins C []) hx2 ⟨dx,[],upd_same,.nil⟩
 refine ⟨.ref x :: ds,_,.cons (.ref x) (d1.le l13),z3,hs _ _ _ _ _ _ (fun d S2 q v H2 l z dv=>?_) (fun c fs S' hW dd H' l z xx=>?_) (q x (z1.free hx))⟩
 ·obtain ⟨rfl,q⟩:=q
  cases dv
  exact ⟨rfl,q _ H2 ((l1.trans l13).trans l) z (.ref x)⟩
 ·exact ⟨lB.trans ((l1.trans l13).trans l),env,S',fs,r0.le ((l1.trans l13).trans l),z,xx,hW⟩
theorem ze9 {sp:SpD} (M:Mk X.K C f) (F:Fd X.prog X.w X.K X.mg X.base k f sp) (hr:Room (k+1) X.A) (tk:Tk X B W) (hm:X.mg x=some (.ref C)) (ha:MA X B (e :: es) ma) (hg:Gl X x:=by rfl)
  (hdb:(x == ("__debug__" : Str))=false:=by decide) (he:starEach (e :: es) X.env=(false,eval e X.env) :: starEach es X.env:=by rfl) (hpl:(backTo pos (starEach es X.env)).any (·.1)=false:=by rfl) :
  ME X B (.Call (.Name x p) (e :: es) [] pos) (zgM C sp W ma):=by
 obtain ⟨fd,ps,F1,b⟩:=F.ex
 refine ⟨⟨fun pins s σ H Q I h=>?_⟩,zlm F.mono ha.mono⟩
 obtain ⟨lB,env,S,r0,z0,q⟩:=h
 refine wpAny_Call_Name_kw (ld_glob I hg hm ?_ hdb)
 refine PySem.W.callWith_K (h₀:=X.base) I.ok.mod.kin M.kp (thn (ha.pa.run pos pins s σ H (fun vs H1=>∀ x dx,H1 x=none->H1 dx=none->dx≠x->zhv X.K X.prog X.w sp (.ref x :: vs) (upd (upd H1 dx (.own x)) x (.ins C dx [])) (fun v H2=>v = .non∧Q (.ref x) H2) (WE (upW X.K X.prog X.w B W) σ)) I ⟨lB,env,S,r0,z0,ha.mono env S _ _ (fun ds S1 q vs H1 l1 z1 d1=>?_) q⟩) fun us s1 ⟨vs,H1,I1,r,q⟩=>⟨I1.kIn,?_⟩) he hpl
 ·exact zmR F.mono lB r0 l1 z1 d1 q
 ·exact zjX M F1 hr b (passAt tk σ) I1 r q
end
def hitsD (S:Sto) (kb:List (Key×D)):List (Key×D)->Option Bool
 | []=>some true
 | (k,v) :: r=>match valD kb k with
  | none=>some false
  | some u=>match rs S 40 v,rs S 40 u,hitsD S kb r with
   | some p,some q,some b=>some (PyData.eqv p q && b)
   | _,_,_=>none
def zyv (S:Sto) (d e:D):Option Bool:=match d,e with
 | .ref a,.ref b=>match S a,S b with
  | some (.dic ka),some (.dic kb)=>if ka.length=kb.length then hitsD S kb ka else some false
  | _,_=>none
 | _,_=>none
def zyE (g:Bool->Bool):BM:=fun d e S Q=>match zyv S d e with
 | some b=>Q (.bl (g b)) S
 | none=>zg8 g d e S Q
section
variable {X:Cx}
end
theorem zhn {k:Nat} {A:Around} (hr:Room k A):A.units+65 < cLine:=by have:=hr.un;omega
theorem zb5 {k:Nat} {A:Around} (hr:Room k A):A.units+64 < cLine:=by have:=hr.un;omega
theorem hu1 {k:Nat} {A:Around} (hr:Room k A):A.units+1 < cLine:=by have:=hr.un;omega
abbrev zjN:BM:=vI0 fun i j=>.int (i - j)
abbrev zkT:BM:=vI (fun _ j=>0 < j) fun i j=>.int (i % j)
abbrev zhu:BM:=vI CDivW fun i j=>.int (i / j)
abbrev zoZ:BM:=vI CPow fun i j=>.int (i ^ j.toNat)
abbrev zr5:CM:=vI1 fun i=>.int (if i < 0 then -i else i)
abbrev vInt:CM:=vI1 fun i=>.int i
abbrev zr4:CM:=vI2 fun i j=>.int (if j > i then j else i)
abbrev zyx:CM:=vI2 fun i j=>.int (if j < i then j else i)
section
variable {X:Cx} {B:Hp} {pos:Pos}
theorem zbK {x:Str} {n:String} (hm:X.mg x=none) (hv:bootBuiltins x=some (.type n)) (hg:Gl X x:=by rfl) (hn:x ≠ "__name__" := by decide) (hd:(x == ("__debug__" : Str))=false:=by decide):ME X B (.Name x pos) (mC (.ty n)):=
 zn7 (pe_bltn (v:=.ty n) hg hm hv rfl hn hd) fun _=>.ty n
end
theorem zlO {P:Program} {w:World} {K:PySem.W.Frag} {mg:Str->Option Value} {base:Heap} {k:Nat} {f:Addr} {fd:FuncData} {ps:List Str} (b:Binds K fd ps []) (kp:PySem.W.keepIn K (.ref f)=true):Fd P w K mg base k f (fun _ _ _ _=>False):=
 ⟨⟨fd,ps,⟨fun vs H Q E h=>(by obtain ⟨_,_,_,_,z⟩:=h;exact z.elim),fun A outer s H args us vs Q E _ _ _ _ h=>(by obtain ⟨_,_,_,_,z⟩:=h;exact z.elim)⟩,b⟩,kp,fun _ _ _ _ _ _ _ _ h=>h⟩
structure Tx (fa:List He.Fa) (fn:List He.DefD) (K:PySem.W.Frag) (mg:Str->Option Value):Prop where
 ex:∃ h:Heap,K.In h∧h.Ns mainGlobals mg∧He.SaysD fa fn K
section
variable {fa:List He.Fa} {fn:List He.DefD} {K:PySem.W.Frag} {mg:Str->Option Value}
theorem Tx.glo (T:Tx fa fn K mg) (i:Nat) {x:Str} (h:fa[i]? = some (.glo x):=by rfl):mg x=some (.ref (He.ga K x)):=by
 obtain ⟨_,X,G,c⟩:=T.ex
 exact He.glo_ok X G (c.fact i h)
theorem Tx.free (T:Tx fa fn K mg) (i:Nat) {x:Str} (h:fa[i]? = some (.free x):=by rfl):mg x=none:=by
 obtain ⟨_,X,G,c⟩:=T.ex
 exact He.free_ok X G (c.fact i h)
theorem Tx.int (T:Tx fa fn K mg) (i:Nat) {x:Str} {n:Int} (h:fa[i]? = some (.int x n):=by rfl):∃ t,mg x=some (.int n t):=by
 obtain ⟨_,X,G,c⟩:=T.ex
 exact He.int_ok X G (c.fact i h)
theorem Tx.cls (T:Tx fa fn K mg) (i:Nat) {x:Str} (h:fa[i]? = some (.cls x):=by rfl):Cls K (He.ga K x):=by
 obtain ⟨_,X,G,c⟩:=T.ex
 exact He.cls_ok (c.fact i h)
theorem Tx.noat (T:Tx fa fn K mg) (i:Nat) {x f:Str} (h:fa[i]? = some (.noat x f):=by rfl):NoAttr K (He.ga K x) f:=by
 obtain ⟨_,X,G,c⟩:=T.ex
 exact He.noat_ok (c.fact i h)
theorem Tx.meth (T:Tx fa fn K mg) (i:Nat) {x m:Str} (h:fa[i]? = some (.meth x m):=by rfl):Meth K (He.ga K x) m (He.ma K (He.ga K x) m):=by
 obtain ⟨_,X,G,c⟩:=T.ex
 exact He.meth_ok (c.fact i h)
theorem Tx.mkr (T:Tx fa fn K mg) (i:Nat) {x:Str} (h:fa[i]? = some (.mkr x):=by rfl):Mk K (He.ga K x) (He.ma K (He.ga K x) "__init__"):=by
 obtain ⟨_,X,G,c⟩:=T.ex
 exact He.mkr_ok (c.fact i h)
theorem Tx.df (T:Tx fa fn K mg) (i:Nat) {d:He.DefD} (h:fn[i]? = some d:=by rfl):∃ fd,FunD K d.name d.qual d.params d.body d.scope (d.dvs K) (d.kws K) (He.fAd K d.at_) fd:=by
 obtain ⟨_,X,G,c⟩:=T.ex
 exact c.def_ i h
end
section
variable {env:Slo} {S:Sto} {Q:DQ} {A:Fin} {m n:SM} {me mf mg' ma mb:EM} {g:GM} {t u:TM} {r:BM} {c:CM} {ms:AM} {d e:D} {TQ:Bool->Sto->Prop} {AQ:List D->Sto->Prop} {a:Addr} {x:D} {i j k:Nat} {K:PySem.W.Frag} {W:XW} {sp:SpD} {C:Addr} {f:Str}
theorem ze4 (h:m { A with nx:=n A } env S):zav m n A env S:=h
def zmH (g:GM) (env:Slo) (A:Fin):DQ:=fun d S1=>g d env S1 A.nx
theorem s_asg (h:me env S (zmH g env A)):zaP me g A env S:=h
theorem znp (h:A.nx (env.set i (some d)) S):zmH (gNm i) env A d S:=h
theorem zqi (h:g d env S A.nx):zmH g env A d S:=h
def kIf (m n:SM) (A:Fin) (env:Slo):Bool->Sto->Prop:=fun b S1=>match b with
 | true=>m A env S1
 | false=>n A env S1
theorem s_if (h:t env S (kIf m n A env)):mIf t m n A env S:=h
theorem zxb (h:m A env S):kIf m n A env true S:=h
theorem zto (h:n A env S):kIf m n A env false S:=h
theorem zdJ {p:Prop} {_:Decidable p} (h1:p->m A env S) (h2:¬ p->n A env S):kIf m n A env (decide p) S:=by
 by_cases q:p
 ·rw [decide_eq_true q];exact h1 q
 ·rw [decide_eq_false q];exact h2 q
theorem zef {b:Bool} (h1:b=true->m A env S) (h2:b=false->n A env S):kIf m n A env b S:=by
 cases b
 ·exact h2 rfl
 ·exact h1 rfl
theorem zvn (h:A.nx env S):mNx A env S:=h
theorem ztR (h:A.bk env S):zvu A env S:=h
theorem ztQ (h:A.ct env S):zvt A env S:=h
theorem s_ret (h:me env S A.rt):zaZ me A env S:=h
theorem zpm (h:A.rt .non S):zq9 A env S:=h
def zlC (env:Slo) (A:Fin):DQ:=fun _ S1=>A.nx env S1
theorem s_drop (h:me env S (zlC env A)):zcF me A env S:=h
theorem zni (h:A.nx env S):zlC env A d S:=h
def zoe (i:Nat) (d:D) (r:BM) (env:Slo) (A:Fin):DQ:=fun y S1=>r d y S1 fun z S2=>A.nx (env.set i (some z)) S2
theorem s_aug (e0:env[i]? = some (some d)) (h:me env S (zoe i d r env A)):zmC i me r A env S:=by
 unfold zmC
 rw [e0]
 exact h
def zkz (i:Nat) (env:Slo) (A:Fin):DQ:=fun z S2=>A.nx (env.set i (some z)) S2
theorem zno (h:r d x S (zkz i env A)):zoe i d r env A x S:=h
theorem znn (h:A.nx (env.set i (some d)) S):zkz i env A d S:=h
def zoO (a:Addr) (i:Int) (env:Slo) (A:Fin):DQ:=fun z S5=>match zk4 S5 (.ref a) (.int i) z with
 | some S6=>A.nx env S6
 | none=>False
def zrG (a:Addr) (i:Int) (x:D) (r:BM) (env:Slo) (A:Fin):DQ:=fun y S4=>r x y S4 (zoO a i env A)
def zuv (a:Addr) (i:Int) (me:EM) (r:BM) (env:Slo) (A:Fin):DQ:=fun x S3=>me env S3 (zrG a i x r env A)
theorem znE {v:Nat} {z:Int} (e0:env[v]? = some (some (.ref a))) (hz:0≤z) (h:vIx (.ref a) (.int z) S (zuv a z me r env A)):zjD (zah v) (mC (.int z)) me r A env S:=by
 unfold zjD zah mC
 rw [e0]
 exact ⟨trivial,hz,h⟩
theorem zql {z:Int} (h:me env S (zrG a z x r env A)):zuv a z me r env A x S:=h
theorem zqk {z:Int} (h:r d x S (zoO a z env A)):zrG a z d r env A x S:=h
theorem zqj {z:Int} {xs:List D} (e0:S a=some (.lst xs)) (ei:ixN xs.length z=some j) (h:A.nx env (put S a (.lst (xs.set j d)))):zoO a z env A d S:=by
 unfold zoO zk4
 simp only [e0,ei]
 exact h
def kFor (g:GM) (m:SM) (A:Fin) (env:Slo):List D->(Sto->Prop)->Sto->Prop:=fun xs G S1=>forL g m G A xs env S1
theorem zqC {mi:IM} (h:mi env S (kFor g m A env)):zej mi g m A env S:=h
theorem zl7 {xs:List D} {G:Sto->Prop} (h:forL g m G A xs env S):kFor g m A env xs G S:=h
def zkx (R:List D->(Sto->Prop)->Sto->Prop):DQ:=fun d S1=>match d with
 | .tp _ xs=>R xs (fun _=>True) S1
 | .rol xs=>R xs (fun _=>True) S1
 | .str x=>R (zjJ x) (fun _=>True) S1
 | .ref a=>match S1 a with
  | some (.lst xs)=>R xs (fun S=>S a=some (.lst xs)) S1
  | _=>False
 | _=>False
variable {R:List D->(Sto->Prop)->Sto->Prop} {xs ys:List D} {fl fl':Bool}
theorem zqt (h:me env S (zkx R)):zek me env S R:=h
theorem zm4 (h:R xs (fun _=>True) S):zkx R (.tp fl xs) S:=h
theorem zm6 (h:R xs (fun _=>True) S):zkx R (.rol xs) S:=h
theorem zm5 {x:Str} (h:R (zjJ x) (fun _=>True) S):zkx R (.str x) S:=h
theorem zm7 (e0:S a=some (.lst xs)) (h:R xs (fun S=>S a=some (.lst xs)) S):zkx R (.ref a) S:=by
 unfold zkx
 simp only [e0]
 exact h
def kR1 (R:List D->(Sto->Prop)->Sto->Prop):List D->Sto->Prop:=fun ds S1=>match ds with
 | [.int j]=>-(2 ^ 62)≤j∧j < 2 ^ 62∧R (ziz 0 j.toNat) (fun _=>True) S1
 | _=>False
theorem ztF (h:ms env S (kR1 R)):zce ms env S R:=h
theorem zgH {j:Int} (h1:-(2 ^ 62)≤j) (h2:j < 2 ^ 62) (h:R (ziz 0 j.toNat) (fun _=>True) S):kR1 R [.int j] S:=⟨h1,h2,h⟩
def kEn (R:List D->(Sto->Prop)->Sto->Prop):List D->Sto->Prop:=fun ds S1=>match ds with
 | [.tp _ xs]=>R (zhf 0 xs) (fun _=>True) S1
 | [.rol xs]=>R (zhf 0 xs) (fun _=>True) S1
 | [.ref a]=>match S1 a with
  | some (.lst xs)=>R (zhf 0 xs) (fun S=>S a=some (.lst xs)) S1
  | _=>False
 | _=>False
theorem ztH (h:ms env S (kEn R)):zhm ms env S R:=h
theorem zqc (h:R (zhf 0 xs) (fun _=>True) S):kEn R [.tp fl xs] S:=h
theorem zqd (e0:S a=some (.lst xs)) (h:R (zhf 0 xs) (fun S=>S a=some (.lst xs)) S):kEn R [.ref a] S:=by
 unfold kEn
 simp only [e0]
 exact h
def kZi (R:List D->(Sto->Prop)->Sto->Prop):List D->Sto->Prop:=fun ds S1=>match ds with
 | [.tp _ xs,.tp _ ys]=>R (List.zipWith (fun x y=>.tup [x,y]) xs ys) (fun _=>True) S1
 | _=>False
theorem ztD (h:ms env S (kZi R)):zrK ms env S R:=h
theorem ztj (h:R (List.zipWith (fun x y=>.tup [x,y]) xs ys) (fun _=>True) S):kZi R [.tp fl xs,.tp fl' ys] S:=h
variable {NQ:Slo->Sto->Prop} {gs:GsM}
theorem zeg (h:NQ (env.set i (some d)) S):gNm i d env S NQ:=h
theorem zxe (hl:xs.length=k) (h:gs xs env S NQ):gT k gs (.tp fl xs) env S NQ:=⟨hl,h⟩
def kgC (gs:GsM) (xs:List D) (NQ:Slo->Sto->Prop):Slo->Sto->Prop:=fun env' S'=>gs xs env' S' NQ
theorem zxg (h:g d env S (kgC gs xs NQ)):gC g gs (d :: xs) env S NQ:=h
theorem zti (h:gs xs env S NQ):kgC gs xs NQ env S:=h
theorem zxf (h:NQ env S):gN [] env S NQ:=h
def zmE (d o:D) (env:Slo) (NQ:Slo->Sto->Prop):DQ:=fun i S2=>match zk4 S2 o i d with
 | some S3=>NQ env S3
 | none=>False
def zsc (d:D) (mi:EM) (env:Slo) (NQ:Slo->Sto->Prop):DQ:=fun o S1=>mi env S1 (zmE d o env NQ)
theorem ztL {mo mi:EM} (h:mo env S (zsc d mi env NQ)):gIx mo mi d env S NQ:=h
theorem zpE {mi:EM} (h:mi env S (zmE d e env NQ)):zsc d mi env NQ e S:=h
theorem ziP {z:Int} (e0:S a=some (.lst xs)) (ei:ixN xs.length z=some j) (h:NQ env (put S a (.lst (xs.set j d)))):zmE d (.ref a) env NQ (.int z) S:=by
 unfold zmE zk4
 simp only [e0,ei]
 exact h
theorem zfX {kvs:List (Key×D)} {kk:Key} (e0:S a=some (.dic kvs)) (ek:keyD e=some kk) (hl:kvs.length < sizeLine) (h:NQ env (put S a (.dic (putD kvs kk d)))):zmE d (.ref a) env NQ e S:=by
 unfold zmE zk4
 simp only [e0,ek,hl,if_true]
 exact h
theorem zsU (e0:env[i]? = some (some d)) (h:Q d S):zah i env S Q:=by
 unfold zah
 rw [e0]
 exact h
theorem s_C (h:Q d S):mC d env S Q:=h
def zlz (r:BM) (x:D) (Q:DQ):DQ:=fun y S2=>r x y S2 Q
def zsl (r:BM) (mb:EM) (env:Slo) (Q:DQ):DQ:=fun x S1=>mb env S1 (zlz r x Q)
theorem zw9 (h:ma env S (zsl r mb env Q)):mOp r ma mb env S Q:=h
theorem zpX (h:mb env S (zlz r d Q)):zsl r mb env Q d S:=h
theorem zpW (h:r d e S Q):zlz r d Q e S:=h
theorem s_B (h:me env S (kB TQ)):mB me env S TQ:=h
theorem zxd {b:Bool} (h:TQ b S):kB TQ (.bl b) S:=h
def zlx (TQ:Bool->Sto->Prop):DQ:=fun d S1=>match zo9 S1 d with
 | some b=>TQ b S1
 | none=>False
theorem zsX (h:me env S (zlx TQ)):zct me env S TQ:=h
theorem zl5 {b:Bool} (e0:zo9 S d=some b) (h:TQ b S):zlx TQ d S:=by
 unfold zlx
 rw [e0]
 exact h
def zmI (u:TM) (env:Slo) (TQ:Bool->Sto->Prop):Bool->Sto->Prop:=fun c S1=>match c with
 | true=>u env S1 TQ
 | false=>TQ false S1
def kOr (u:TM) (env:Slo) (TQ:Bool->Sto->Prop):Bool->Sto->Prop:=fun c S1=>match c with
 | true=>TQ true S1
 | false=>u env S1 TQ
def zsm (TQ:Bool->Sto->Prop):Bool->Sto->Prop:=fun c S1=>TQ (!c) S1
theorem ztS (h:t env S (zmI u env TQ)):zhX t u env S TQ:=h
theorem zw8 (h:t env S (kOr u env TQ)):mOr t u env S TQ:=h
theorem zs7 (h:t env S (zsm TQ)):zcL t env S TQ:=h
theorem zpY {b:Bool} (h:TQ (!b) S):zsm TQ b S:=h
theorem znr (h:u env S TQ):zmI u env TQ true S:=h
theorem zns (h:TQ false S):zmI u env TQ false S:=h
theorem zpU (h:TQ true S):kOr u env TQ true S:=h
theorem zpV (h:u env S TQ):kOr u env TQ false S:=h
theorem zbt {b:Bool} (h1:b=true->u env S TQ) (h2:b=false->TQ false S):zmI u env TQ b S:=by
 cases b
 ·exact h2 rfl
 ·exact h1 rfl
theorem zd7 {b:Bool} (h1:b=true->TQ true S) (h2:b=false->u env S TQ):kOr u env TQ b S:=by
 cases b
 ·exact h2 rfl
 ·exact h1 rfl
def zio (mb:EM) (env:Slo) (Q:DQ):Bool->Sto->Prop:=fun c S1=>match c with
 | true=>mb env S1 Q
 | false=>Q (.bl false) S1
def zmF (mb:EM) (env:Slo) (Q:DQ):Bool->Sto->Prop:=fun c S1=>match c with
 | true=>Q (.bl true) S1
 | false=>mb env S1 Q
def zlA (Q:DQ):Bool->Sto->Prop:=fun c S1=>Q (.bl (!c)) S1
theorem zqJ (h:ma env S (kB (zio mb env Q))):zeG ma mb env S Q:=h
theorem zs6 (h:ma env S (kB (zmF mb env Q))):zvr ma mb env S Q:=h
theorem zpq (h:ma env S (kB (zlA Q))):zrb ma env S Q:=h
theorem znc {b:Bool} (h:Q (.bl (!b)) S):zlA Q b S:=h
theorem zlc (h:mb env S Q):zio mb env Q true S:=h
theorem zld (h:Q (.bl false) S):zio mb env Q false S:=h
theorem zna (h:Q (.bl true) S):zmF mb env Q true S:=h
theorem znb (h:mb env S Q):zmF mb env Q false S:=h
theorem zbT {b:Bool} (h1:b=true->mb env S Q) (h2:b=false->Q (.bl false) S):zio mb env Q b S:=by
 cases b
 ·exact h2 rfl
 ·exact h1 rfl
theorem zcB {b:Bool} (h1:b=true->Q (.bl true) S) (h2:b=false->mb env S Q):zmF mb env Q b S:=by
 cases b
 ·exact h2 rfl
 ·exact h1 rfl
def zmG (ma mb:EM) (env:Slo) (Q:DQ):Bool->Sto->Prop:=fun c S1=>match c with
 | true=>ma env S1 Q
 | false=>mb env S1 Q
theorem ztC (h:t env S (zmG ma mb env Q)):zr8 t ma mb env S Q:=h
theorem zng (h:ma env S Q):zmG ma mb env Q true S:=h
theorem znh (h:mb env S Q):zmG ma mb env Q false S:=h
theorem zcC {b:Bool} (h1:b=true->ma env S Q) (h2:b=false->mb env S Q):zmG ma mb env Q b S:=by
 cases b
 ·exact h2 rfl
 ·exact h1 rfl
def zlE (r':BM) (y:D) (mc:EM) (env:Slo) (Q:DQ):Bool->Sto->Prop:=fun k S3=>match k with
 | true=>mc env S3 (zlz r' y Q)
 | false=>Q (.bl false) S3
def zrE (r r':BM) (x:D) (mc:EM) (env:Slo) (Q:DQ):DQ:=fun y S2=>r x y S2 (kB (zlE r' y mc env Q))
def zsx (r r':BM) (mb mc:EM) (env:Slo) (Q:DQ):DQ:=fun x S1=>mb env S1 (zrE r r' x mc env Q)
variable {r':BM} {mc:EM}
theorem znA (h:ma env S (zsx r r' mb mc env Q)):zf8 r r' ma mb mc env S Q:=h
theorem zqg (h:mb env S (zrE r r' d mc env Q)):zsx r r' mb mc env Q d S:=h
theorem zqf (h:r d e S (kB (zlE r' e mc env Q))):zrE r r' d mc env Q e S:=h
theorem znk (h:mc env S (zlz r' d Q)):zlE r' d mc env Q true S:=h
theorem znl (h:Q (.bl false) S):zlE r' d mc env Q false S:=h
theorem zcD {b:Bool} (h1:b=true->mc env S (zlz r' d Q)) (h2:b=false->Q (.bl false) S):zlE r' d mc env Q b S:=by
 cases b
 ·exact h2 rfl
 ·exact h1 rfl
theorem zs9 (h:AQ [] S):zan env S AQ:=h
def kC2 (d:D) (AQ:List D->Sto->Prop):List D->Sto->Prop:=fun ds S2=>AQ (d :: ds) S2
def kC1 (ms:AM) (env:Slo) (AQ:List D->Sto->Prop):DQ:=fun d S1=>ms env S1 (kC2 d AQ)
theorem zqG (h:me env S (kC1 ms env AQ)):zac me ms env S AQ:=h
theorem ztt (h:ms env S (kC2 d AQ)):kC1 ms env AQ d S:=h
theorem zts (h:AQ (d :: xs) S):kC2 d AQ xs S:=h
def kCB (c:CM) (Q:DQ):List D->Sto->Prop:=fun ds S1=>c ds S1 Q
theorem zxj (h:ms env S (kCB c Q)):mCB c ms env S Q:=h
theorem ztr (h:c xs S Q):kCB c Q xs S:=h
def kSp (sp:SpD) (W:XW) (env:Slo) (Q:DQ):List D->Sto->Prop:=fun ds S1=>sp ds S1 Q fun c fs S'=>W c fs env S'
theorem s_call (h:ms env S (kSp sp W env Q)):zaw sp W ms env S Q:=h
theorem ztl (h:sp xs S Q fun c fs S'=>W c fs env S'):kSp sp W env Q xs S:=h
def kMk (C:Addr) (sp:SpD) (W:XW) (env:Slo) (Q:DQ):List D->Sto->Prop:=fun ds S1=>∀ p,S1 p=none->sp (.ref p :: ds) (put S1 p (.ins C [])) (fun v S2=>v = .non∧Q (.ref p) S2) fun c fs S'=>W c fs env S'
theorem zpv (h:ms env S (kMk C sp W env Q)):zgM C sp W ms env S Q:=h
theorem ztm (h:∀ p,S p=none->sp (.ref p :: xs) (put S p (.ins C [])) (fun v S2=>v = .non∧Q (.ref p) S2) fun c fs S'=>W c fs env S'):kMk C sp W env Q xs S:=h
end
section
variable {env:Slo} {S:Sto} {Q:DQ} {A:Fin} {me mo ma mb:EM} {ms:AM} {d e x:D} {AQ:List D->Sto->Prop} {a C:Addr} {K:PySem.W.Frag} {W:XW} {sp:SpD} {f:Str} {fl:Bool} {xs ys:List D} {fs:List (Str×D)} {kvs:List (Key×D)} {kk:Key}
def kTup (Q:DQ):List D->Sto->Prop:=fun ds S1=>Q (.tup ds) S1
theorem zpF (h:Q (.tup xs) S):kTup Q xs S:=h
def zup (sp:SpD) (W:XW) (a:Addr) (env:Slo) (Q:DQ):List D->Sto->Prop:=fun ds S2=>sp (.ref a :: ds) S2 Q fun c fs S'=>W c fs env S'
def zrB (C:Addr) (f:Str) (sp:SpD) (W:XW) (ms:AM) (env:Slo) (Q:DQ):DQ:=fun d S1=>match d with
 | .ref a=>match S1 a with
  | some (.ins C' fs)=>C'=C∧fs.lookup f=none∧ms env S1 fun ds S2=>sp (.ref a :: ds) S2 Q fun c fs S'=>W c fs env S'
  | _=>False
 | _=>False
theorem zpu (h:mo env S (zrB C f sp W ms env Q)):zdZ C f sp W mo ms env S Q:=h
theorem zp4 (e0:S a=some (.ins C fs)) (el:fs.lookup f=none) (h:ms env S (zup sp W a env Q)):zrB C f sp W ms env Q (.ref a) S:=by
 unfold zrB
 simp only [e0]
 exact ⟨trivial,el,h⟩
theorem zp3 (h:sp (.ref a :: xs) S Q fun c fs S'=>W c fs env S'):zup sp W a env Q xs S:=h
def zrC (K:PySem.W.Frag) (f:Str) (Q:DQ):DQ:=fun d S1=>match d with
 | .ref a=>match S1 a with
  | some (.ins C fs)=>match fs.lookup f with
   | some v=>FOk K C f∧Q v S1
   | none=>False
  | _=>False
 | _=>False
theorem ztM (h:me env S (zrC K f Q)):zfa K me f env S Q:=h
theorem zqb (e0:S a=some (.ins C fs)) (el:fs.lookup f=some d) (ok:FOk K C f) (h:Q d S):zrC K f Q (.ref a) S:=by
 unfold zrC
 simp only [e0,el]
 exact ⟨ok,h⟩
def zrt (K:PySem.W.Frag) (f:Str) (y:D) (env:Slo) (A:Fin):DQ:=fun d S2=>match d with
 | .ref a=>match S2 a with
  | some (.ins C fs)=>FOk K C f∧fs.length < 1000∧A.nx env (put S2 a (.ins C (zgJ f y fs)))
  | _=>False
 | _=>False
def zse (K:PySem.W.Frag) (f:Str) (mo:EM) (env:Slo) (A:Fin):DQ:=fun y S1=>mo env S1 (zrt K f y env A)
theorem zpk (h:me env S (zse K f mo env A)):zfC K mo me f A env S:=h
theorem zpJ (h:mo env S (zrt K f d env A)):zse K f mo env A d S:=h
theorem zew (e0:S a=some (.ins C fs)) (ok:FOk K C f) (hl:fs.length < 1000) (h:A.nx env (put S a (.ins C (zgJ f d fs)))):zrt K f d env A (.ref a) S:=by
 unfold zrt
 simp only [e0]
 exact ⟨ok,hl,h⟩
theorem ztu {z:Int} (e0:atI xs z=some d) (h:Q d S):vIx (.tp fl xs) (.int z) S Q:=by
 unfold vIx
 simp only [e0]
 exact h
theorem ztw {z:Int} (e0:atI xs z=some d) (h:Q d S):vIx (.rol xs) (.int z) S Q:=by
 unfold vIx
 simp only [e0]
 exact h
theorem ztv {x:Str} {z:Int} {c:Nat} (e0:atI x.cps.toList z=some c) (h:Q (.str ⟨#[c]⟩) S):vIx (.str x) (.int z) S Q:=by
 unfold vIx
 simp only [e0]
 exact h
theorem zbx {z:Int} (e0:S a=some (.lst xs)) (e1:atI xs z=some d) (h:Q d S):vIx (.ref a) (.int z) S Q:=by
 unfold vIx
 simp only [e0,e1]
 exact h
theorem ztx (e0:S a=some (.dic kvs)) (ek:keyD e=some kk) (e1:valD kvs kk=some d) (h:Q d S):vIx (.ref a) e S Q:=by
 unfold vIx
 cases e <;> simp_all
theorem zqK {i j:Int} (h:Q (.int (i+j)) S):zb6 (.int i) (.int j) S Q:=h
theorem znu {i j:Int} (h:Q (.int (i+j)) S):zix (.int i) (.int j) S Q:=h
theorem zsY {i j:Int} (h:Q (.int (i - j)) S):zjN (.int i) (.int j) S Q:=h
theorem zta {i j:Int} (hj:0 < j) (h:Q (.int (i % j)) S):zkT (.int i) (.int j) S Q:=⟨hj,h⟩
theorem zqD {i j:Int} (hj:CDivW i j) (h:Q (.int (i / j)) S):zhu (.int i) (.int j) S Q:=⟨hj,h⟩
theorem zs5 {i j:Int} (hj:CPow i j) (h:Q (.int (i ^ j.toNat)) S):zoZ (.int i) (.int j) S Q:=⟨hj,h⟩
theorem zpt {i j:Int} (hj:CMul i j) (h:Q (.int (i * j)) S):zjq (.int i) (.int j) S Q:=⟨hj,h⟩
theorem ztd {i j:Int} (h:Q (.bl (decide (i < j))) S):vLt (.int i) (.int j) S Q:=h
theorem ztg {i j:Int} (h:Q (.bl (decide (i≤j))) S):vLe (.int i) (.int j) S Q:=h
theorem ztU {i:Int} (h:Q (.int (if i < 0 then -i else i)) S):zr5 [.int i] S Q:=h
theorem ztA {i:Int} (h:Q (.int i) S):vInt [.int i] S Q:=h
theorem ztc {i j:Int} (h:Q (.int (if j > i then j else i)) S):zr4 [.int i,.int j] S Q:=h
theorem ztN {g:Bool->Bool} {i j:Str} (h:Q (.bl (g (decide (i=j)))) S):zg8 g (.str i) (.str j) S Q:=h
theorem ztO {g:Bool->Bool} {i j:Int} (h:Q (.bl (g (decide (i=j)))) S):zg8 g (.int i) (.int j) S Q:=h
theorem ztP {g:Bool->Bool} {i j:Bool} (h:Q (.bl (g (decide (i=j)))) S):zg8 g (.bl i) (.bl j) S Q:=h
theorem zpB {n:Nat} (e0:zrm S d=some n) (h:Q (.int n) S):zcJ [d] S Q:=by
 unfold zcJ
 simp only [e0]
 exact h
theorem zfW (e0:zk5 S d=some xs) (h:∀ p,S p=none->Q (.ref p) (put S p (.lst xs))):zem [d] S Q:=by
 unfold zem
 simp only [e0]
 exact h
theorem zjS (e0:zk5 S d=some xs) (h:Q (.tp (zlM d) xs) S):zcI [d] S Q:=by
 unfold zcI
 simp only [e0]
 exact h
theorem ztJ {i j:Int} (h:Q (.bl (decide (j < i))) S):vGt (.int i) (.int j) S Q:=h
theorem ztK {i j:Int} (h:Q (.bl (decide (j≤i))) S):vGe (.int i) (.int j) S Q:=h
theorem ztf {i j:Str} (h:Q (.bl (!decide (j.cps.toList < i.cps.toList))) S):vLe (.str i) (.str j) S Q:=h
def kTp (Q:DQ):List D->Sto->Prop:=fun ds S1=>ds.length≤sizeLine∧Q (.tup ds) S1
def kLs (Q:DQ):List D->Sto->Prop:=fun ds S1=>ds.length≤sizeLine∧∀ p,S1 p=none->Q (.ref p) (put S1 p (.lst ds))
theorem zsV (h:ms env S (kTp Q)):zbu ms env S Q:=h
theorem zaE (hl:xs.length≤sizeLine) (h:Q (.tup xs) S):kTp Q xs S:=⟨hl,h⟩
theorem zte (h:ms env S (kLs Q)):zfs ms env S Q:=h
theorem zb4 (hl:xs.length≤sizeLine) (h:∀ p,S p=none->Q (.ref p) (put S p (.lst xs))):kLs Q xs S:=⟨hl,h⟩
theorem ziS {x y:Str} (hl:x.length+y.length≤sizeLine) (h:Q (.str (x++y)) S):zb6 (.str x) (.str y) S Q:=⟨hl,h⟩
theorem zeW (hl:xs.length+ys.length≤sizeLine) (h:Q (.tup (xs++ys)) S):zb6 (.tup xs) (.tup ys) S Q:=⟨rfl,hl,h⟩
theorem ziT {b:Addr} (e0:S a=some (.lst xs)) (e1:S b=some (.lst ys)) (hl:xs.length+ys.length≤sizeLine) (h:∀ p,S p=none->Q (.ref p) (put S p (.lst (xs++ys)))):zb6 (.ref a) (.ref b) S Q:=by
 unfold zb6
 simp only [e0,e1]
 exact ⟨hl,h⟩
def zsp (r:MM) (d:D) (Q:DQ):List D->Sto->Prop:=fun ds S2=>r d ds S2 Q
def zsq (ok:D->Sto->Prop) (r:MM) (ms:AM) (env:Slo) (Q:DQ):DQ:=fun d S1=>ok d S1∧ms env S1 (zsp r d Q)
variable {ok:D->Sto->Prop} {rm:MM}
theorem ztb (h:mo env S (zsq ok rm ms env Q)):zfO ok rm mo ms env S Q:=h
theorem znd (e0:S a=some (.lst xs)) (h:ms env S (zsp rm (.ref a) Q)):zsq okL rm ms env Q (.ref a) S:=by
 refine ⟨?_,h⟩
 unfold okL
 simp only [e0]
theorem zp2 (h:rm d xs S Q):zsp rm d Q xs S:=h
theorem s_app (e0:S a=some (.lst xs)) (hl:xs.length < sizeLine) (h:Q .non (put S a (.lst (xs++[d])))):zgv (.ref a) [d] S Q:=by
 unfold zgv
 simp only [e0]
 exact ⟨hl,h⟩
def zoN (d k:D) (Q:DQ):DQ:=fun z S3=>match d with
 | .ref a=>match S3 a,keyD k with
  | some (.dic kvs),some kk=>Q ((valD kvs kk).getD z) S3
  | _,_=>False
 | _=>False
def zsu (d:D) (mx:EM) (env:Slo) (Q:DQ):DQ:=fun k S2=>mx env S2 (zoN d k Q)
def zsv (mk mx:EM) (env:Slo) (Q:DQ):DQ:=fun d S1=>zqU d S1∧mk env S1 (zsu d mx env Q)
variable {mk mx:EM}
theorem zqw (h:mo env S (zsv mk mx env Q)):zrf mo mk mx env S Q:=h
theorem zp9 (e0:S a=some (.dic kvs)) (h:mk env S (zsu (.ref a) mx env Q)):zsv mk mx env Q (.ref a) S:=by
 refine ⟨?_,h⟩
 unfold zqU
 simp only [e0]
theorem zp8 (h:mx env S (zoN d e Q)):zsu d mx env Q e S:=h
theorem zp7 (e0:S a=some (.dic kvs)) (ek:keyD e=some kk) (h:Q ((valD kvs kk).getD d) S):zoN (.ref a) e Q d S:=by
 unfold zoN
 simp only [e0,ek]
 exact h
theorem ziR (h:∀ p,S p=none->Q (.ref p) (put S p (.dic []))):zn9 env S Q:=h
def zrx (x y:D) (PQ:List (D×D)->Sto->Prop):List (D×D)->Sto->Prop:=fun ps S3=>PQ ((x,y) :: ps) S3
def zrw (x:D) (r:List (EM×EM)) (env:Slo) (PQ:List (D×D)->Sto->Prop):DQ:=fun y S2=>mPs r env S2 (zrx x y PQ)
def zsk (mv:EM) (r:List (EM×EM)) (env:Slo) (PQ:List (D×D)->Sto->Prop):DQ:=fun x S1=>mv env S1 (zrw x r env PQ)
variable {PQ:List (D×D)->Sto->Prop} {mps:List (EM×EM)} {ps:List (D×D)}
theorem zs4 (h:ma env S (zsk mb mps env PQ)):mPs ((ma,mb) :: mps) env S PQ:=h
theorem zs3 (h:PQ [] S):mPs [] env S PQ:=h
theorem zpS (h:mb env S (zrw d mps env PQ)):zsk mb mps env PQ d S:=h
theorem zpR (h:mPs mps env S (zrx d e PQ)):zrw d mps env PQ e S:=h
theorem zpT (h:PQ ((d,e) :: ps) S):zrx d e PQ ps S:=h
def kDi (p:Addr) (Q:DQ):List (D×D)->Sto->Prop:=fun ps S2=>match zjF ps with
 | some kvs=>S2 p=some (.dic [])∧kvs.length≤15∧Q (.ref p) (put S2 p (.dic (zdx [] kvs)))
 | none=>False
theorem zqE (h:∀ p,S p=none->mPs mps env (put S p (.dic [])) (kDi p Q)):zn8 mps env S Q:=h
theorem ztp (e0:zjF ps=some kvs) (e1:S a=some (.dic [])) (hl:kvs.length≤15) (h:Q (.ref a) (put S a (.dic (zdx [] kvs)))):kDi a Q ps S:=by
 unfold kDi
 simp only [e0]
 exact ⟨e1,hl,h⟩
theorem zl4 (h:∀ p,S p=none->Q (.ref p) (put S p (.set (fun _=>false) 0))):zkZ [] S Q:=h
theorem zqF (e0:S a=some (.dic kvs)) (h:∀ p,S p=none->Q (.ref p) (put S p (.dic kvs))):zjr [.ref a] S Q:=by
 unfold zjr
 simp only [e0]
 exact h
def zsz (d:D) (Q:DQ):List D->Sto->Prop:=fun ds S2=>match d,ds with
 | .ref a,[y]=>match S2 a,keyD y with
  | some (.set f n),some k=>n+1 < scanBound∧Q .non (put S2 a (.set (fun j=>f j || decide (j=k)) (if f k=true then n else n+1)))
  | _,_=>False
 | _,_=>False
def zsA (ms:AM) (env:Slo) (Q:DQ):DQ:=fun d S1=>okS d S1∧ms env S1 (zsz d Q)
theorem ztT (h:mo env S (zsA ms env Q)):zrj mo ms env S Q:=h
theorem zqm {fu:Key->Bool} {n:Nat} (e0:S a=some (.set fu n)) (h:ms env S (zsz (.ref a) Q)):zsA ms env Q (.ref a) S:=by
 refine ⟨?_,h⟩
 unfold okS
 simp only [e0]
theorem zl8 {fu:Key->Bool} {n:Nat} (e0:S a=some (.set fu n)) (ek:keyD d=some kk) (hn:n+1 < scanBound) (h:Q .non (put S a (.set (fun j=>fu j || decide (j=kk)) (if fu kk=true then n else n+1)))):zsz (.ref a) Q [d] S:=by
 unfold zsz
 simp only [e0,ek]
 exact ⟨hn,h⟩
theorem ztB {g:Bool->Bool} (e0:S a=some (.dic kvs)) (ek:keyD d=some kk) (h:Q (.bl (g (valD kvs kk).isSome)) S):zh0 g d (.ref a) S Q:=by
 unfold zh0
 simp only [e0,ek]
 exact h
theorem zjW {g:Bool->Bool} {fu:Key->Bool} {n:Nat} (e0:S a=some (.set fu n)) (ek:keyD d=some kk) (h:Q (.bl (g (fu kk))) S):zh0 g d (.ref a) S Q:=by
 unfold zh0
 simp only [e0,ek]
 exact h
theorem znt {g:Bool->Bool} {p:PyData} {qs:List PyData} (e0:S a=some (.lst xs)) (e1:rs S 40 d=some p) (e2:rs S 40 (.ref a)=some (.list qs)) (h:Q (.bl (g (qs.any fun z=>PyData.eqv z p))) S):zh0 g d (.ref a) S Q:=by
 unfold zh0
 simp only [e0,e1,e2]
 exact h
theorem zg3 {g:Bool->Bool} {p:PyData} {qs:List PyData} (e1:rs S 40 d=some p) (e2:rs S 40 (.tp fl xs)=some (.tuple qs)) (h:Q (.bl (g (qs.any fun z=>PyData.eqv z p))) S):zh0 g d (.tp fl xs) S Q:=by
 unfold zh0
 simp only [e1,e2]
 exact h
theorem ztz {g:Bool->Bool} (h:Q (.bl (g true)) S):zl0 g .non .non S Q:=h
theorem zjv {ty:String} {b:String} {c:Bool} (e0:tyD S d=some ty) (e1:zmJ ty b=some c) (h:Q (.bl c) S):zda [d,.ty b] S Q:=by
 unfold zda
 simp only [e0,e1]
 exact h
def zrr (d:D) (l:Option Int) (Q:DQ):Option Int->Sto->Prop:=fun h S3=>vSl d l h S3 Q
def zrs (d:D) (hi:OM) (env:Slo) (Q:DQ):Option Int->Sto->Prop:=fun l S2=>hi env S2 (zrr d l Q)
def zsd (lo hi:OM) (env:Slo) (Q:DQ):DQ:=fun d S1=>lo env S1 (zrs d hi env Q)
variable {lo hi:OM} {OQ:Option Int->Sto->Prop} {l h':Option Int}
theorem zw7 (h:me env S (zsd lo hi env Q)):mSl me lo hi env S Q:=h
theorem zpI (h:lo env S (zrs d hi env Q)):zsd lo hi env Q d S:=h
theorem zpH (h:hi env S (zrr d l Q)):zrs d hi env Q l S:=h
theorem zpG (h:vSl d l h' S Q):zrr d l Q h' S:=h
theorem zs8 (h:OQ none S):zks env S OQ:=h
def kP (OQ:Option Int->Sto->Prop):DQ:=fun d S1=>match d with
 | .int i=>OQ (some i) S1
 | _=>False
theorem s_P (h:me env S (kP OQ)):mP me env S OQ:=h
theorem zxc {i:Int} (h:OQ (some i) S):kP OQ (.int i) S:=h
theorem zsZ (h:Q (.tup (cutD xs l h')) S):vSl (.tup xs) l h' S Q:=⟨rfl,h⟩
theorem zs0 (h:∀ p,S p=none->Q (.ref p) (put S p (.lst (cutD xs l h')))):vSl (.rol xs) l h' S Q:=h
theorem zs1 (e0:S a=some (.lst xs)) (h:∀ p,S p=none->Q (.ref p) (put S p (.lst (cutD xs l h')))):vSl (.ref a) l h' S Q:=by
 unfold vSl
 simp only [e0]
 exact h
variable {g:GM} {t:TM} {G:Sto->Prop} {mi:IM} {vs:List Nat}
def kLc (g:GM) (t:TM) (me:EM) (vs:List Nat) (env:Slo) (Q:DQ):List D->(Sto->Prop)->Sto->Prop:=fun xs G S1=>∀ p,S1 p=none->lcL g t me G p Q (zbM env vs) xs (put S1 p (.lst []))
theorem zxa (h:mi env S (kLc g t me vs env Q)):mLc mi g t me vs env S Q:=h
theorem ztn (h:∀ p,S p=none->lcL g t me G p Q (zbM env vs) xs (put S p (.lst []))):kLc g t me vs env Q xs G S:=h
def kDc (g:GM) (t:TM) (mk mb:EM) (vs:List Nat) (env:Slo) (Q:DQ):List D->(Sto->Prop)->Sto->Prop:=fun xs G S1=>∀ p,S1 p=none->dcL g t mk mb G p Q (zbM env vs) xs (put S1 p (.dic []))
theorem zxi (h:mi env S (kDc g t mk mb vs env Q)):mDc mi g t mk mb vs env S Q:=h
theorem ztq (h:∀ p,S p=none->dcL g t mk mb G p Q (zbM env vs) xs (put S p (.dic []))):kDc g t mk mb vs env Q xs G S:=h
theorem zpz (e0:S a=some (.lst xs)) (h:Q (.int xs.length) S):zcJ [.ref a] S Q:=zpB (n:=xs.length) (by unfold zrm;simp only [e0]) h
theorem zpA (e0:S a=some (.dic kvs)) (h:Q (.int kvs.length) S):zcJ [.ref a] S Q:=zpB (n:=kvs.length) (by unfold zrm;simp only [e0]) h
theorem zpw (h:Q (.int xs.length) S):zcJ [.tp fl xs] S Q:=h
theorem zpy (h:Q (.int xs.length) S):zcJ [.rol xs] S Q:=h
theorem zpx {x:Str} (h:Q (.int x.length) S):zcJ [.str x] S Q:=h
theorem zjU (e0:S a=some (.lst xs)) (h:∀ p,S p=none->Q (.ref p) (put S p (.lst xs))):zem [.ref a] S Q:=zfW (by unfold zk5;simp only [e0]) h
theorem zjT (h:∀ p,S p=none->Q (.ref p) (put S p (.lst xs))):zem [.tp fl xs] S Q:=zfW rfl h
theorem zk7 (e0:S a=some (.lst xs)) (h:Q (.tup xs) S):zcI [.ref a] S Q:=zjS (by unfold zk5;simp only [e0]) h
theorem zk6 (h:Q (.tup xs) S):zcI [.tup xs] S Q:=zjS rfl h
theorem zqn {b:String} {c:Bool} (e1:zmJ "tuple" b=some c) (h:Q (.bl c) S):zda [.tp fl xs,.ty b] S Q:=zjv rfl e1 h
theorem zqo {x:Str} {b:String} {c:Bool} (e1:zmJ "str" b=some c) (h:Q (.bl c) S):zda [.str x,.ty b] S Q:=zjv rfl e1 h
theorem zqp {b:String} {c:Bool} (e0:S a=some (.lst xs)) (e1:zmJ "list" b=some c) (h:Q (.bl c) S):zda [.ref a,.ty b] S Q:=zjv (by unfold tyD;simp only [e0]) e1 h
theorem zm3 {TQ:Bool->Sto->Prop} {b:Bool} (h:TQ b S):zlx TQ (.bl b) S:=h
end
structure zsI (N P:List Str) (sc:Scope):Prop where
 kind:sc.kind = .function
 co:sc.isCoroutine=false
 gen:sc.isGenerator=false
 nd:N.Nodup
 pre:N.take P.length=P
 par:∀ x∈P,sc.names.lookup x=some .local
 nocell:∀ y∈sc.names,y.2≠.cell
 free:∀ y∈sc.names,y.2 = .free->y.1 = "__class__"
 cls:sc.names.lookup ("__class__" : Str)=some .free
 sup:sc.names.lookup ("super" : Str)=some .globalImplicit
abbrev zh1 (qual:Str) (scope:Scope) (L f:Addr) (cd:Value) (cc:Addr):Env:=PySem.W.ksEnv qual scope L f cd cc
def cxS (P:Program) (w:World) (K:PySem.W.Frag) (mg:Str->Option Value) (base:Heap) (N:List Str) (qual:Str) (scope:Scope) (f:Addr) (cd:Value) (cc:Addr) (A:Around) (outer:List Env) (s:Shared) (H:Hp) (E:XK):Cx where
 prog:=P
 w:=w
 K:=K
 mg:=mg
 base:=base
 A:=A.deeper (zh1 qual scope s.heap.objs.size f cd cc)
 N:=N
 s_0:=s
 H_0:=H
 env:=zh1 qual scope s.heap.objs.size f cd cc
 outer:=outer
 stack:=zh1 qual scope s.heap.objs.size f cd cc :: outer
 ex:=[]
 calm:=true
 fn:=fun x=>!(x == ("__class__" : Str))
 pn:=[]
 xe:=fun e s'=>wpAny (model P w) (A.deeper (zh1 qual scope s.heap.objs.size f cd cc)) (leaving (zh1 qual scope s.heap.objs.size f cd cc) e) (fun _ s''=>L2.CX P w outer H s E e s'') (fun e' s''=>L2.CX P w outer H s E e' s'') s'
def zyP (C:Addr) (sp:SpD) (W:XW) (ma:AM):EM:=fun env S Q=>zah 0 env S fun d S1=>match d with
 | .ref a=>(match S1 a with
  | some (.ins C' _)=>C'=C∧ma env S1 fun ds S2=>sp (.ref a :: ds) S2 Q fun c fs S'=>W c fs env S'
  | _=>False)
 | _=>False
structure zvc (env:Env) (p0 p1 pa pos pe:Pos) (e:Expr) (es:List Expr) (pl:Sem Bool):Prop where
 hi:interactive env=false
 hs:swapsWith (.Call (.Attribute (.Call (.Name "super" p0) [] [] p1) "__init__" pa) (e :: es) [] pos) none pe.line env=pure false
 he:eval (.Call (.Attribute (.Call (.Name "super" p0) [] [] p1) "__init__" pa) (e :: es) [] pos) env=(do
   let ov ← attributeBase (.Call (.Name "super" p0) [] [] p1) "__init__" env (eval (.Call (.Name "super" p0) [] [] p1) env)
   standAt pa.atName
   let (f,first) ← holding [ov] (getMethod ov "__init__" pl)
   callWith pos f first (backTo pos (starEach (e :: es) env)) [])
 st:starEach (e :: es) env=(false,eval e env) :: starEach es env
 pl_:(backTo pos (starEach es env)).any (·.1)=false
structure zwT (file:Str) (K:PySem.W.Frag) (d:SuD):Prop where
 ex:∃ (oc:Value) (od:Option Addr) (kV doc pm:Value) (an:Option Addr) (ct:Value) (osl:Array (Option Value)) (cda cc:Addr) (c1:Value) (c2:Option Addr) (c3:Array (Option Value)) (x1:Value) (x2:Option Addr) (x3:Array (Option Value)) (fvs:Array Value) (tf:Tok) (cd:ClassData),
  K.lookup (d.f K)=some ⟨oc,od,.func (PySem.W.ksFn "__init__" d.qual d.params d.body d.scope .none kV doc pm an (.ref cda) ct cc),osl⟩∧PySem.W.codeIn K (.ref cda) d.qual=true∧K.lookup cda=some ⟨c1,c2,.fields fvs,c3⟩∧fvs[2]? = some (.str file tf)∧
  K.lookup cc=some ⟨x1,x2,.cell (some (.ref (He.ga K d.C))),x3⟩∧PySem.W.clsIn K (He.ga K d.C)=some cd
 kp:PySem.W.keepIn K (.ref (d.f K))=true
 sub:PySem.W.mroIn K (He.ga K d.C) (.ref (He.ga K d.C))=some true
 st:PySem.W.nsIn K cStatics "thirdparty.any" = some none
 hm:PySem.W.ks_superIn K (He.ga K d.C) (He.ga K d.C) "__init__" = some (some (.ref (d.g K)))
 ht:PySem.W.typeIn K (.ref (d.g K))=some (.type "function")
 hf:PySem.W.fnIn K (d.g K)=true
theorem zlS {K:PySem.W.Frag} {cc C:Addr} (h:zoA K cc C=true):∃ x1 x2 x3,K.lookup cc=some ⟨x1,x2,.cell (some (.ref C)),x3⟩:=by
 unfold zoA at h
 split at h
 ·rename_i x1 x2 a x3 e
  have:=of_decide_eq_true h
  subst this
  exact ⟨_,_,_,e⟩
 ·cases h
theorem zlN {file:Str} {K:PySem.W.Frag} {cda:Addr} (h:zoo file K cda=true):∃ c1 c2 c3 vs tf,K.lookup cda=some ⟨c1,c2,.fields vs,c3⟩∧vs[2]? = some (.str file tf):=by
 unfold zoo at h
 split at h
 ·rename_i c1 c2 vs c3 e
  split at h
  ·rename_i z tf e2
   have:=of_decide_eq_true h
   subst this
   exact ⟨_,_,_,_,_,e,e2⟩
  ·cases h
 ·cases h
theorem SuD.get {file:Str} {K:PySem.W.Frag} {d:SuD} (e:suW K (d.f K)=d.val) (c:d.ok file K=true):zwT file K d:=by
 obtain ⟨k1,c⟩:=He.ba c
 obtain ⟨k2,c⟩:=He.ba c
 obtain ⟨k3,c⟩:=He.ba c
 obtain ⟨k4,c⟩:=He.ba c
 obtain ⟨k5,c⟩:=He.ba c
 obtain ⟨k6,c⟩:=He.ba c
 obtain ⟨k7,k8⟩:=He.ba c
 refine ⟨?_,k1,of_decide_eq_true k4,He.eqO_ok k5,He.eqO_ok k6,beq_iff_eq.mp k7,k8⟩
 obtain ⟨cd,hcd⟩:=Option.isSome_iff_exists.mp k3
 unfold zrV at k2
 unfold suW SuD.val at e
 split at k2
 ·rename_i oc od fd osl q
  rw [q] at e
  obtain ⟨n1,n2,n3,n4,n5,n6,n7,n8,n9,n10,n11,n12,n13,n14,n15⟩:=fd
  simp only [Option.some.injEq,Prod.mk.injEq] at e
  obtain ⟨h1,h2,h3,h4,h5,h6,h8⟩:=e
  subst h1 h2 h3 h4 h5 h6 h8
  dsimp only at k2
  split at k2
  ·rename_i x cc cda
   obtain ⟨j1,k2⟩:=He.ba k2
   obtain ⟨j2,k2⟩:=He.ba k2
   obtain ⟨j3,j4⟩:=He.ba k2
   have jx:=of_decide_eq_true j1
   subst jx
   obtain ⟨x1,x2,x3,ex⟩:=zlS j2
   obtain ⟨c1,c2,c3,vs,tf,ef,ev⟩:=zlN j4
   exact ⟨_,_,_,_,_,_,_,_,_,_,_,_,_,_,_,_,_,_,_,q,j3,ef,ev,ex,hcd⟩
  ·cases k2
 ·cases k2
def zt7 (n:Nat) (fa:List He.Fa) (fn:List He.DefD) (su:List SuD) (file:Str) (g:Addr->Option Obj):AlS:=zqV fa fn su file (He.frG g (He.asD g n++[cStatics]))
def zyr (n:Nat) (fa:List He.Fa) (fn:List He.DefD) (su:List SuD) (file:Str):PySem.W.Hook where
 α:=AlS
 obs:=fun s=>zt7 n fa fn su file s.heap.get?
 val:=fun _=>zoY fn su
 says:=fun _ h=>∃ K:PySem.W.Frag,K.In h∧zqV fa fn su file K=zoY fn su
 of:=fun _ _ e=>⟨_,He.frG_in,e⟩
 keeps:=fun _ _ _ ⟨K,hK,c⟩ k=>⟨K,hK.keeps k,c⟩
structure Ty (fa:List He.Fa) (fn:List He.DefD) (su:List SuD) (file:Str) (K:PySem.W.Frag) (mg:Str->Option Value):Prop extends Tx fa fn K mg where
 say:zqV fa fn su file K=zoY fn su
theorem Ty.mk' {fa:List He.Fa} {fn:List He.DefD} {su:List SuD} {file:Str} {K:PySem.W.Frag} {mg:Str->Option Value} {h:Heap} (X:K.In h) (G:h.Ns mainGlobals mg) (c:zqV fa fn su file K=zoY fn su):Ty fa fn su file K mg:=
 ⟨⟨h,X,G,congrArg (fun z:AlS=>z.1) c⟩,c⟩
theorem Ty.su {fa:List He.Fa} {fn:List He.DefD} {su:List SuD} {file:Str} {K:PySem.W.Frag} {mg:Str->Option Value} (T:Ty fa fn su file K mg) (i:Nat) {d:SuD} (h:su[i]? = some d:=by rfl):zwT file K d:=by
 have c1:(su.all fun d=>d.ok file K)=true:=congrArg (fun z:AlS=>z.2.1) T.say
 have c2:(su.map fun d=>suW K (d.f K))=su.map SuD.val:=congrArg (fun z:AlS=>z.2.2) T.say
 have e2:(su.map fun d=>suW K (d.f K))[i]? = (su.map SuD.val)[i]?:=by rw [c2]
 rw [List.getElem?_map,List.getElem?_map,h] at e2
 exact SuD.get (Option.some.inj e2) (List.all_eq_true.mp c1 d (List.mem_of_getElem? h))
theorem znH {P:Program} {w:World} {K:PySem.W.Frag} {mg:Str->Option Value} {base:Heap} {x qual:Str} {params:Arguments} {body:List Stmt} {scope:Scope} {dvs:List V} {kws:List (Str×V)} {f:Addr} {fd:FuncData} {N ps:List Str} {k n m:Nat} {b:XW->SM} (F:FunD K x qual params body scope dvs kws f fd) (S:FnScope N ps scope)
  (hn:ps.length=n) (hN:N.length=n+m)
  (hb:∀ (cdv:Value) (A:Around) (outer:List Env) (s:Shared) (H:Hp) (E:XK),Room k (A.deeper (envOfC qual scope s.heap.objs.size f cdv))->∀ (X:Cx) (eX:X=cxOf (L2.CX P w) P w K mg base N qual scope f cdv A outer s H E) (W:XW),Tk X H W->PassesOwn (model X.prog X.w) X.A X.env X.xe->MSs X H body (b W)):FnOk P w K mg base (L2.CX P w) (k+1) f fd ps (zhv K P w (spB n m b)):=by
 refine F.ok S (fun vs H Q E h=>?_) (fun cdv A outer s H vs Q E hr h=>?_)
 ·obtain ⟨ds,S0,h1,h2,Q0,E0,_,_,h3,_⟩:=h
  rw [← h1.length,h3,hn]
 ·obtain ⟨ds,S0,h1,h2,Q0,E0,i1,i2,h3,h4⟩:=h
  have tk0:Takes (cxOf (L2.CX P w) P w K mg base N qual scope f cdv A outer s H E) (fun cls d _ H=>E cls d H):=takes_of rfl rfl rfl rfl
  have tk:Tk (cxOf (L2.CX P w) P w K mg base N qual scope f cdv A outer s H E) H (fun c fs _ S'=>E0 c fs S'):=tk0.imp fun c d σ H' z=>by
   obtain ⟨l,env,S',fs,_,z1,z2,z3⟩:=z
   exact i2 _ _ _ z3 d H' l z1 z2
  have Z:=hb cdv A outer s H E hr _ rfl _ tk (passes_of rfl)
  refine ⟨_,Z.ps,Le.refl H,_,S0,zgR h1 (by rw [h3];exact hN),h2,Z.mono.go h4 ⟨fun e S' q σ H' l r z=>?_,fun d S' q v H' l z dv=>i1 _ _ q v H' l z dv,fun _ _ q=>q.elim,fun _ _ q=>q.elim⟩⟩
  exact i1 _ _ q _ H' l z .non
theorem zjg {K:PySem.W.Frag} {H:Hp}:∀ ns:List Int,DVs K H (ns.map D.int) (ns.map V.int)
 | []=>.nil
 | n :: ns=>.cons (.int n) (zjg ns)
theorem walk_of {l:PySem.W.OpenLaw} {n k:Nat} {q:Program} {loose:List Str} {XP:(Str->Option Value)->Heap->Prop} {YP:World->Heap->Prop} {d:DefRec} {x:Str} (hn:l.most=some n) (hz:n≤sizeLine)
  (hdf:d.params.defaults=[]) (hr:Room k callerA)
  (F:∀ (w:World) (mg:Str->Option Value) (fa:Addr) (h:Heap),YP w h->h.Ns mainGlobals mg->mg d.name=some (.ref fa)->∃ (K:PySem.W.Frag) (fd:FuncData) (sp:SpD),K.In h∧(∀ (s:Shared) (u:Value),BindsTo s fd ⟨[u],[]⟩ [(x,u)])∧
   (∀ ns:List Int,ns.length≤n->∀ (S:Sto) (Q:DQ) (E:XQ),(∀ S',Q (.bl true) S')->sp [.rol (ns.map D.int)] S Q E)∧∀ base:Heap,FnOk l.prog w K mg base (L2.CX l.prog w) k fa fd [x] (zhv K l.prog w sp)) :
  PySem.W.WalkO q loose XP YP l.row.toRowW d [] (fun f vs=>PySem.call f vs):=by
 refine Att.attach_call hn hdf ?_
 intro w t0 t1 mg mb fa ob pm cd doc a vs ns ground hY hob hdt hcode hname hlist hare hmost hgens
 obtain ⟨K,fd,sp,kin,hb,hsp,hf⟩:=F w mg fa _ hY ground.T.g hname
 refine law_call kin ground.T.g ground.T.b ground.T.builtins ground.T.nolimit hgens hlist hare (Nat.le_trans hmost hz) hr (fun base _ _=>hf base) hb (fun H hO hS=>?_) fun H e s' hc=>?_
 ·refine ⟨[.rol (ns.map D.int)],fun _=>none,.cons (.rol (RoL.of hO hS) (zjg ns)) .nil,fun b o e=>(by cases e),hsp ns hmost _ _ _ fun S' v H' _ _ dv=>?_⟩
  cases dv
  rfl
 ·obtain ⟨_,_,_,_,_,_,_,_,_,_,_,_,z⟩:=hc
  exact z
structure ClH where
 c:Value
 i:Nat
 ts:Addr->Value->Option Addr->TS
def zqR (i:Nat) (D:Ends):Ends where
 nx:=fun σ H=>D.nx (σ.set i none) H
 rt:=D.rt
 bk:=fun σ H=>D.bk (σ.set i none) H
 ct:=fun σ H=>D.ct (σ.set i none) H
def wCl (K:PySem.W.Frag) (Wout:WX) (D:Ends):List ClH->WX
 | []=>Wout
 | q :: r=>fun cls d σ H=>∃ b,PySem.W.exmOne K cls q.c=some b∧(b=true->∀ a,H a=none->q.ts a cls d (zqR q.i D) (σ.set q.i (some (.ref a))) H)∧(b=false->wCl K Wout D r cls d σ H)
inductive ClOk (X:Cx):List ExceptHandler->List ClH->Prop
 | nil:ClOk X [] []
 | cons {x n:Str} {q:ClH} {st0:Stmt} {rest:List Stmt} {p1 p2:Pos} {hds:List ExceptHandler} {l:List ClH} (hi:X.N[q.i]? = some n) (hl:X.env.kindOf n=some .local) (hc:Names X x q.c)
   (hsu:∀ (a:Addr) (oe:Obj) (cls:Value) (d:Option Addr) (pn:List (Addr×Obj)),Zc cls d oe->(∃ vs,oe.data = .fields vs)->PSs (X.suite a ((a,oe) :: pn)) (st0 :: rest) (q.ts a cls d)) (r:ClOk X hds l) :
   ClOk X (.ExceptHandler (some (.Name x p1)) (some n) (st0 :: rest) p2 :: hds) (q :: l)
section
variable {X:Cx} {bd:List Stmt} {c0:ExceptHandler} {cs:List ExceptHandler} {l:List ClH} {pos:Pos} {tb:WX->TS} {Wout:WX}
theorem zjx (hst:X.stack=X.env :: X.outer) (hfr:X.env.frame=some X.env.locals) (hN:X.N.Nodup) (tk:Takes X Wout)
  (hb:∀ (W:WX) (pn:List (Addr×Obj)) (xe:Value->Shared->Prop),Takes (X.tr pn xe) W->PassesOwn (model X.prog X.w) X.A X.env xe->PSs (X.tr pn xe) bd (tb W)) (hcl:ClOk X (c0 :: cs) l) :
  PS X (.Try bd (c0 :: cs) [] [] pos) (fun D σ H=>tb (wCl X.K Wout D l) D σ H):=by
 refine ⟨fun pins s0 σ0 H0 D I0 q0=>?_⟩
 have okX:=I0.ok
 have frX:X.A.frames=some (X.env :: X.outer):=okX.frames.trans (congrArg some hst)
 have body:=hb (wCl X.K Wout D l) (X.pn++pins) (fun e s₁=>wpAny (model X.prog X.w) X.A (noteFrame e X.env) (fun _ s₂=>wpAny (model X.prog X.w) X.A (setFlight e none) (fun _ s₃=>wpAny (model X.prog X.w) X.A (handleBy e X.env (c0 :: cs)) (SP X pins D) X.xe s₃) X.xe s₂) X.xe s₁) ?air PassesOwn.looking
 case air=>
  intro uu t ⟨a,B,sI,pins',σ1,H1,cls,d,eu,JI,nb,up,sky,na,eos,abg,wish⟩
  subst eu
  have J:=JI.ofTry okX
  refine Sky.land Zc.steady frX hfr (by rw [← hst];exact sky) fun g3 air3 up3=>?_
  have J3:Inv X pins σ1 H1 { t with heap:=g3 }:=J.landed nb air3.1 (up.trans up3) eos abg
  obtain ⟨o3,v3,at3,z3,dt3⟩:=air3.there
  have off:a∉frs (X.env :: X.outer):=fun hm=>by
   obtain ⟨_,o',e',hnf⟩:=air3.2.2.1.mem hm
   rw [at3] at e'
   cases e'
   exact hnf _ dt3
  have offL:a≠X.env.locals:=fun z=>off (List.mem_filterMap.mpr ⟨X.env,List.mem_cons_self,hfr.trans (congrArg some z.symm)⟩)
  have offF:a∉X.fs:=fun hm=>by
   obtain ⟨e,he,q⟩:=List.mem_filterMap.mp hm
   exact off (List.mem_filterMap.mpr ⟨e,List.mem_cons_of_mem _ he,q⟩)
  have inS:=J3.suite at3 dt3 na offL offF
  have each:∀ {hds:List ExceptHandler} {l':List ClH},ClOk X hds l'->wCl X.K Wout D l' cls d σ1 H1->wpAny (model X.prog X.w) X.A (handleBy (.ref a) X.env hds) (SP X pins D) X.xe { t with heap:=g3 }:=by
   intro hds l' hk
   induction hk with
   | nil=>
    intro wo
    refine wpAny_handleBy_nil ?_
    obtain ⟨_,_,_,oz,vz,Tz,_,_,atz,_,dtz,h1z,_⟩:=id air3
    unfold PySem.passOn
    refine wpAny_bind (wpAny_field atz dtz h1z ?_)
    rw [if_neg (by simp:¬ ((Value.ref Tz == Value.none)=true))]
    have out:wpAny (model X.prog X.w) X.A (setFlight (.ref a) X.env.frame) (fun _ s4=>wpAny (model X.prog X.w) X.A (throw (.ref a):Sem Flow) (SP X pins D) X.xe s4) X.xe { t with heap:=g3 }:=by
     rw [hfr]
     exact HandSPX.setFlight_upZ air3 fun g4 hg4 up4=>wpAny_throw (tk _ _ ⟨a,B,sI,pins,σ1,H1,cls,d,rfl,J,nb,(up.trans up3).trans up4,.inr (.inr (by rw [hst];exact hg4)),na,eos,abg,wo⟩)
    first
     | exact wpAny_bind (wpAny_pure (wpAny_bind out))
     | exact wpAny_bind out
   | @cons x n q st0 rest p1 p2 hds2 l2 hi hln hc hsu _ ih=>
    rintro ⟨b,hb1,yes,no⟩
    refine wpAny_handleBy_cons (codeAny_handlers_test ?_) (fun z=>by cases z)
    have isC:PySem.W.Looks (model X.prog X.w) g3 (typeOf (.ref a)) cls:=fun _ _ _ _ k w=>wpAny_typeOf_ref (k _ _ at3) (by rw [z3.1];exact w)
    have look:=PySem.W.exm_one (M:=model X.prog X.w) J3.kIn isC hb1
    have named:∀ {Q:Value->Shared->Prop} {E:Value->Shared->Prop},Q q.c { t with heap:=g3 }->wpAny (model X.prog X.w) (X.A.mark (some (.ref a))) (eval (.Name x p1) X.env) Q E { t with heap:=g3 }:=fun {Q E} w=>by
     rcases hc with ⟨c1,c2,c3 | ⟨c3,c4,c5⟩⟩
     ·exact ld_glob (X:=X.suite a ((a,o3) :: (X.pn++pins))) inS c1 c3 w c2
     ·exact ld_blt (X:=X.suite a ((a,o3) :: (X.pn++pins))) inS c1 c3 c4 w c5 c2
    refine named (look.here ?_)
    cases b with
    | false=>
     show wpAny _ X.A (handleBy (.ref a) X.env hds2) _ _ _
     exact ih (no rfl)
    | true=>
     refine codeAny_handlers_suite_as (HandSPX.lands_againZ air3 fun g4 air4 up4=>?_)
     have J4:Inv X pins σ1 H1 { t with heap:=g4 }:=J.landed nb air4.1 ((up.trans up3).trans up4) eos abg
     obtain ⟨o4,v4,at4,z4,dt4⟩:=air4.there
     refine store_ok (X:=X.suite a ((a,o4) :: (X.pn++pins))) (v:=.ref a) (J4.suite at4 dt4 na offL offF) hN hi (.inl hln) rfl (fun s5 S5=>?_) (.inr hln)
     refine wpAny_mono ((hsu a o4 cls d (X.pn++pins) z4 ⟨_,dt4⟩).run [] s5 _ H1 _ S5 (yes rfl a na)) (fun fl s6 hs6=>?_) (fun _ _ z=>z.elim)
     have fin:∀ {σ6:L2.St} {H6:Hp} {Q:Shared->Prop},Inv (X.suite a ((a,o4) :: (X.pn++pins))) [] σ6 H6 s6->(∀ s7,Inv X pins (σ6.set q.i none) H6 s7->Q s7)->wpAny (model X.prog X.w) X.A (do bindName X.env n .none;unbindBehindTheSuite X.env n p2) (fun _ s7=>Q s7) X.xe s6:=fun S6 hq=>gone_ok (S6.unsuite okX) hN hi hln hq
     cases fl with
     | next=>obtain ⟨_,_,S6,w6⟩:=hs6;exact fin S6 fun s7 J7=>⟨_,_,J7,w6⟩
     | brk=>obtain ⟨_,_,S6,w6⟩:=hs6;exact fin S6 fun s7 J7=>⟨_,_,J7,w6⟩
     | cont=>obtain ⟨_,_,S6,w6⟩:=hs6;exact fin S6 fun s7 J7=>⟨_,_,J7,w6⟩
     | ret u=>obtain ⟨_,_,_,S6,r6,w6⟩:=hs6;exact fin S6 fun s7 J7=>⟨_,_,_,J7,r6,w6⟩
  exact each hcl wish
 refine wpAny_Try_except (wpAny_mono (body.run [] s0 σ0 H0 D (I0.toTry _) q0) (fun fl s1 hs1=>?_) (fun _ _ z=>z))
 cases fl with
 | next=>obtain ⟨_,_,J,w⟩:=hs1;exact wpAny_execs_nil ⟨_,_,J.ofTry okX,w⟩
 | brk=>obtain ⟨_,_,J,w⟩:=hs1;exact ⟨_,_,J.ofTry okX,w⟩
 | cont=>obtain ⟨_,_,J,w⟩:=hs1;exact ⟨_,_,J.ofTry okX,w⟩
 | ret u=>obtain ⟨_,_,_,J,r,w⟩:=hs1;exact ⟨_,_,_,J.ofTry okX,r,w⟩
end
abbrev SuM:=Addr->Value->List (Str×D)->SM
structure Cl where
 C:Addr
 i:Nat
 su:SuM
def zkF (i:Nat) (A:Fin):Fin:={ nx:=fun e s=>A.nx (e.set i none) s,rt:=A.rt,bk:=fun e s=>A.bk (e.set i none) s,ct:=fun e s=>A.ct (e.set i none) s }
def zoI (K:PySem.W.Frag) (W:XW) (A:Fin):List Cl->XW
 | []=>W
 | q :: r=>fun c fs env S=>∃ b,PySem.W.exmOne K c (.ref q.C)=some b∧(b=true->∀ a,S a=none->q.su a c fs (zkF q.i A) (env.set q.i (some (.ref a))) S)∧(b=false->zoI K W A r c fs env S)
def zue (K:PySem.W.Frag) (b:XW->SM) (l:List Cl) (W:XW):SM:=fun A env S=>∃ A0,zd5 A0 A∧b (zoI K W A0 l) A0 env S
theorem zd5.trans {A B C:Fin} (h:zd5 A B) (h':zd5 B C):zd5 A C:=⟨fun e S q=>h'.nx e S (h.nx e S q),fun e S q=>h'.rt e S (h.rt e S q),fun e S q=>h'.bk e S (h.bk e S q),fun e S q=>h'.ct e S (h.ct e S q)⟩
def tSu (K:PySem.W.Frag) (P:Program) (w:World) (su:SuM):Addr->Value->Option Addr->TS:=fun a cls d D' σ H=>∃ (fs:List (Str×D)) (A1:Fin) (env:Slo) (S:Sto),XdR K H d fs∧zd5 A1 (dnF K P w H D')∧zcz K H env σ∧Rp K P w S H∧su a cls fs A1 env S
inductive HdM (X:Cx):List ExceptHandler->List Cl->Prop
 | nil:HdM X [] []
 | cons {x n:Str} {q:Cl} {st0:Stmt} {rest:List Stmt} {p1 p2:Pos} {hds:List ExceptHandler} {l:List Cl} (hi:X.N[q.i]? = some n) (hl:X.env.kindOf n=some .local) (hc:Names X x (.ref q.C))
   (hsu:∀ (a:Addr) (oe:Obj) (cls:Value) (d:Option Addr) (pn:List (Addr×Obj)),Zc cls d oe->(∃ vs,oe.data = .fields vs)->∀ (fs:List (Str×D)) (B':Hp),XdR X.K B' d fs->MSs (X.suite a ((a,oe) :: pn)) B' (st0 :: rest) (q.su a cls fs)) (r:HdM X hds l) :
   HdM X (.ExceptHandler (some (.Name x p1)) (some n) (st0 :: rest) p2 :: hds) (q :: l)
section
variable {X:Cx} {B:Hp} {W:XW}
theorem HdM.ok {hds:List ExceptHandler} {l:List Cl} (h:HdM X hds l):ClOk X hds (l.map fun q=>⟨.ref q.C,q.i,tSu X.K X.prog X.w q.su⟩):=by
 induction h with
 | nil=>exact .nil
 | cons hi hl hc hsu _ ih=>
  refine .cons hi hl hc (fun a oe cls d pn hz hf=>⟨fun pins s σ H D' I z=>?_⟩) ih
  obtain ⟨fs,A1,env,S,xd,le,er,rp,q⟩:=z
  have M:=hsu a oe cls d pn hz hf fs H xd
  exact M.ps.run pins s σ H D' I ⟨Le.refl H,env,S,er,rp,M.mono _ _ _ _ le q⟩
theorem zjL {K:PySem.W.Frag} {P:Program} {w:World} {H:Hp} {D':Ends} {A0:Fin} (le:zd5 A0 (dnF K P w H D')) (lB:Le B H):∀ (l:List Cl) {cls:Value} {d:Option Addr} {σ:L2.St} {H1:Hp} {env:Slo} {S:Sto} {fs:List (Str×D)},Le H H1->zcz K H1 env σ->Rp K P w S H1->XdR K H1 d fs->zoI K W A0 l cls fs env S ->
  wCl K (upW K P w B W) D' (l.map fun q=>⟨.ref q.C,q.i,tSu K P w q.su⟩) cls d σ H1
 | [],cls,d,σ,H1,env,S,fs,l1,er,rp,xd,q=>⟨lB.trans l1,env,S,fs,er,rp,xd,q⟩
 | c :: l,cls,d,σ,H1,env,S,fs,l1,er,rp,xd,q=>by
  obtain ⟨b,hb,yes,no⟩:=q
  refine ⟨b,hb,fun e a na=>?_,fun e=>zjL le lB l l1 er rp xd (no e)⟩
  refine ⟨fs,_,_,S,xd,?_,er.set (.ref a) c.i,rp,yes e a (rp.free na)⟩
  exact ⟨fun e s q σ' H' l' r z=>le.nx _ _ q _ H' (l1.trans l') (r.unset c.i) z,fun x s q v H' l' z dv=>le.rt _ _ q v H' (l1.trans l') z dv,fun e s q σ' H' l' r z=>le.bk _ _ q _ H' (l1.trans l') (r.unset c.i) z,fun e s q σ' H' l' r z=>le.ct _ _ q _ H' (l1.trans l') (r.unset c.i) z⟩
theorem zq0 {bd:List Stmt} {c0:ExceptHandler} {cs:List ExceptHandler} {l:List Cl} {pos:Pos} {b:XW->SM} (hst:X.stack=X.env :: X.outer) (hfr:X.env.frame=some X.env.locals) (hN:X.N.Nodup) (tk:Tk X B W)
  (hb:∀ (B':Hp) (W':XW) (pn:List (Addr×Obj)) (xe:Value->Shared->Prop),Tk (X.tr pn xe) B' W'->PassesOwn (model X.prog X.w) X.A X.env xe->MSs (X.tr pn xe) B' bd (b W')) (hcl:HdM X (c0 :: cs) l) :
  MS X B (.Try bd (c0 :: cs) [] [] pos) (zue X.K b l W):=by
 refine ⟨zcZ (zjx (tb:=fun WW D' σ H=>∃ (W':XW) (A0:Fin) (env:Slo) (S:Sto),(∀ cls d σ' H',upW X.K X.prog X.w H W' cls d σ' H'->WW cls d σ' H')∧zd5 A0 (dnF X.K X.prog X.w H D')∧zcz X.K H env σ∧Rp X.K X.prog X.w S H∧b W' A0 env S) hst hfr hN tk (fun WW pn xe tk' po=>⟨fun pins s σ H D' I z=>?_⟩) hcl.ok) fun D' σ H q=>?_,fun A A' env S le q=>?_⟩
 ·obtain ⟨W',A0,env,S,imp,le,er,rp,q⟩:=z
  have M:=hb H W' pn xe (tk'.imp imp) po
  exact M.ps.run pins s σ H D' I ⟨Le.refl H,env,S,er,rp,M.mono _ _ _ _ le q⟩
 ·obtain ⟨lB,env,S,er,rp,A0,le,q⟩:=q
  refine ⟨zoI X.K W A0 l,A0,env,S,fun cls d σ' H' z=>?_,le,er,rp,q⟩
  obtain ⟨l1,env',S',fs,er',rp',xd,hw⟩:=z
  exact zjL le lB l l1 er' rp' xd hw
 ·obtain ⟨A0,le0,q⟩:=q
  exact ⟨A0,le0.trans le,q⟩
def mXf (i:Nat) (C a:Addr) (cls:Value) (fs:List (Str×D)) (f:Str):EM:=fun env S Q=>zah i env S fun x S1=>x = .ref a∧cls = .ref C∧match fs.lookup f with
 | some v=>Q v S1
 | none=>False
theorem zeF {i:Nat} {env:Slo} {S:Sto} {Q Q':DQ} (h:∀ d S,Q d S->Q' d S) (q:zah i env S Q):zah i env S Q':=by
 unfold zah at q ⊢
 split at q
 ·exact h _ _ q
 ·exact q.elim
theorem zuc {a C:Addr} {oe:Obj} {cls:Value} {d:Option Addr} {pn:List (Addr×Obj)} {e:Expr} {i:Nat} {f:Str} {pos:Pos} {fs:List (Str×D)} {B':Hp} (T:XfC X.K C) (hno:PySem.W.findIn X.K (.ref C) f=some none) (hz:Zc cls d oe) (hf:∃ vs,oe.data = .fields vs)
  (xd:XdR X.K B' d fs) (he:ME (X.suite a ((a,oe) :: pn)) B' e (zah i)) (hb:attributeBase e f X.env (eval e X.env)=eval e X.env:=by rfl):ME (X.suite a ((a,oe) :: pn)) B' (.Attribute e f pos) (mXf i C a cls fs f):=by
 refine ⟨zbl (pe_xf T hno hz hf he.pe hb) fun σ H Q q=>?_,fun env S Q Q' h q=>zeF (fun x S1 z=>?_) q⟩
 ·obtain ⟨lB,env,S,er,rp,q⟩:=q
  refine ⟨lB,env,S,er,rp,zeF (fun x S1 z v H1 l1 z1 dv=>?_) q⟩
  obtain ⟨ex,ec,hm⟩:=z
  subst ex
  cases dv
  refine ⟨rfl,ec,?_⟩
  split at hm
  ·rename_i y ey
   cases d with
   | none=>
    have e0:fs=[]:=xd
    subst e0
    cases ey
   | some dd=>
    obtain ⟨vs,e1,kv⟩:=xd
    obtain ⟨u,eu,du⟩:=(kv.lookup f).1 _ ey
    exact ⟨dd,vs,u,rfl,(lB.trans l1).xd _ _ e1,eu,hm u H1 l1 z1 (du.le (lB.trans l1))⟩
  ·exact hm.elim
 ·obtain ⟨ex,ec,hm⟩:=z
  refine ⟨ex,ec,?_⟩
  split at hm
  ·exact h _ _ hm
  ·exact hm.elim
end
def spX (K:PySem.W.Frag) (f:Str):Sp:=fun vs H Q _=>∃ (a:Addr) (y:V) (C:Addr),vs=[.ref a,y]∧OexC K C∧PySem.W.findIn K (.ref C) f=some none∧H a=some (exo a C none)∧∀ dx,H dx=none->dx≠a->Q .non (upd (upd H dx (exd dx [(f,y)])) a (exo a C (some dx)))
theorem zrR {P:Program} {w:World} {K:PySem.W.Frag} {mg:Str->Option Value} {base:Heap} {CX:CXT} {qual f pn:Str} {params:Arguments} {body:List Stmt} {scope:Scope} {fI:Addr} {fd:FuncData} {p0 p1 p2 p3:Pos} (F:FunD K "__init__" qual params body scope [] [] fI fd) (S:FnScope ["self", pn] ["self", pn] scope)
  (hb:body=[.Assign [.Attribute (.Name "self" p0) f p1] (.Name pn p2) p3])
  (h1:∀ (X:Cx),X.N=(["self", pn]:List Str)->X.env.scope=scope->PE X (.Name "self" p0) (tVar 0)∧PE X (.Name pn p2) (tVar 1)∧swapsWith (.Name pn p2) (some (.Attribute (.Name "self" p0) f p1)) p3.line X.env=pure false) :
  FnOk P w K mg base CX 1 fI fd ["self", pn] (spX K f):=by
 refine F.ok S (fun vs H Q E h=>?_) (fun cdv A outer s H vs Q E hr h=>?_)
 ·obtain ⟨a,y,C,rfl,_⟩:=h
  rfl
 ·obtain ⟨g1,g2,g3⟩:=h1 (cxOf CX P w K mg base ["self", pn] qual scope fI cdv A outer s H E) rfl rfl
  refine ⟨tOst K f (tVar 0) (tVar 1),?_,?_⟩
  ·rw [hb]
   exact pss_one (ps_ost g1 g2 g3)
  ·obtain ⟨a,y,C,rfl,T,hno,ea,hq⟩:=h
   exact ⟨y,rfl,.ref a,rfl,a,C,rfl,T,hno,.inl ⟨ea,fun dx hd hne=>hq dx hd hne⟩⟩
structure ExOk (P:Program) (w:World) (K:PySem.W.Frag) (mg:Str->Option Value) (base:Heap) (x f:Str):Prop where
 gC:mg x=some (.ref (He.ga K x))
 oex:OexC K (He.ga K x)
 iC:PySem.W.findIn K (.ref (He.ga K x)) "__init__" = some (some (.ref (He.ma K (He.ga K x) "__init__")))
 tI:PySem.W.typeIn K (.ref (He.ma K (He.ga K x) "__init__"))=some (.type "function")
 hno:PySem.W.findIn K (.ref (He.ga K x)) f=some none
 xf:XfC K (He.ga K x)
 fn:∃ fd ps,FnOk P w K mg base (L2.CX P w) 1 (He.ma K (He.ga K x) "__init__") fd ps (spX K f)∧Binds K fd ps []
def zja (C:Addr) (f:Str) (W:XW) (ma:AM):SM:=fun _ env S=>ma env S fun ds S1=>match ds with
 | [y]=>W (.ref C) [(f,y)] env S1
 | _=>False
section
variable {X:Cx} {B:Hp} {W:XW} {ma:AM} {x f:Str} {p pos pos':Pos} {e:Expr}
theorem zhM (hc:X.calm=true) (tk:Tk X B W) (hr:Room 2 X.A) (U:ExOk X.prog X.w X.K X.mg X.base x f) (ha:MA X B [e] ma) (hg:Gl X x:=by rfl) (hdb:(x == ("__debug__" : Str))=false:=by decide)
  (he:starEach [e] X.env=(false,eval e X.env) :: starEach [] X.env:=by rfl) (hpl:(backTo pos (starEach [] X.env)).any (·.1)=false:=by rfl):MS X B (.Raise (some (.Call (.Name x p) [e] [] pos)) none pos') (zja (He.ga X.K x) f W ma):=by
 obtain ⟨fd,ps,F1,bi⟩:=U.fn
 have none:Passes (L2.CX X.prog X.w) X (fun _ _ _=>False):=fun pins σ H s e s' I c=>by
  obtain ⟨_,_,_,_,_,_,_,_,_,_,_,_,z⟩:=c
  exact z.elim
 refine ⟨zcZ (ps_raise hc tk (pmk_oex U.oex U.iC U.tI F1 hr bi .nil none hg U.gC ha.pa hdb he hpl)) fun D' σ H q=>?_,fun A A' env S _ q=>q⟩
 obtain ⟨lB,env,S,er,rp,q⟩:=q
 refine ⟨lB,env,S,er,rp,ha.mono _ _ _ _ (fun ds S1 z vs H1 l1 z1 dv=>?_) q⟩
 split at z
 ·rename_i y
  cases dv with
  | @cons _ _ v _ d1 d2=>
   cases d2
   refine ⟨by simp,fun a na=>⟨a,v,He.ga X.K x,rfl,U.oex,U.hno,upd_same,fun dx hdx hne=>⟨rfl,dx,[(f,v)],upd_same,(upd_ne hne).trans upd_same,(upd_ne hne).symm.trans hdx,?_⟩⟩⟩
   have hd1:H1 dx = .none:=(upd_ne hne).symm.trans hdx
   have at_:∀ b,b≠a->b≠dx->upd (del (upd (upd (upd H1 a (exo a (He.ga X.K x) .none)) dx (exd dx [(f,v)])) a (exo a (He.ga X.K x) (some dx))) a) dx (.xd [(f,v)]) b=H1 b:=fun b h1 h2=>by
    rw [upd_ne h2,del_ne h1,upd_ne h1,upd_ne h2,upd_ne h1]
   have off:∀ b o,H1 b=some o->b≠a∧b≠dx:=fun b o eb=>⟨fun z=>(by subst z;rw [na] at eb;cases eb),fun z=>(by subst z;rw [hd1] at eb;cases eb)⟩
   have le:Le H1 (upd (del (upd (upd (upd H1 a (exo a (He.ga X.K x) .none)) dx (exd dx [(f,v)])) a (exo a (He.ga X.K x) (some dx))) a) dx (.xd [(f,v)])):=
    ⟨fun b xs eb=>(at_ b (off b _ eb).1 (off b _ eb).2).trans eb,fun b o u eb=>(at_ b (off b _ eb).1 (off b _ eb).2).trans eb,fun b u eb=>(at_ b (off b _ eb).1 (off b _ eb).2).trans eb⟩
   refine ⟨(lB.trans l1).trans le,env,S1,[(f,y)],(er.le l1).le le,fun b o eb=>?_,⟨[(f,v)],upd_same,.cons (d1.le le) .nil⟩,z⟩
   obtain ⟨u,eu,_⟩:=(z1 b o eb).some
   exact (z1 b o eb).at le (at_ b (off b _ eu).1 (off b _ eu).2)
 ·exact z.elim
end
theorem zkd {K:PySem.W.Frag} {C:Addr} (h:zt3 K C=true):OexC K C:=by
 obtain ⟨h1,h⟩:=He.ba h
 obtain ⟨h2,h⟩:=He.ba h
 obtain ⟨h3,h⟩:=He.ba h
 obtain ⟨h4,h5⟩:=He.ba h
 refine ⟨?_,He.eqO_ok h2,of_decide_eq_true h3,of_decide_eq_true h4,h5⟩
 split at h1
 ·rename_i t dd cd sl e
  split at h1
  ·rename_i C' bm k0 k1 k2 k3 n k5 em es
   obtain ⟨j0,h1⟩:=He.ba h1
   obtain ⟨j1,h1⟩:=He.ba h1
   obtain ⟨j2,h1⟩:=He.ba h1
   obtain ⟨j3,h1⟩:=He.ba h1
   obtain ⟨j4,j5⟩:=He.ba h1
   have i0:=of_decide_eq_true j0
   have i1:=of_decide_eq_true j1
   have i2:=of_decide_eq_true j2
   have i3:cd.hasDel=false:=by simpa using j3
   subst i0 i1 i2
   obtain ⟨nm,bs,mro,ns,qn,hd,sn,sb,ab,col,del⟩:=cd
   dsimp only at em i3 j4
   subst em i3 j4
   have esl:sl = #[k0,k1,k2,k3,some (.builtin "ValueError.__new__"),k5]:=by
    rw [← Array.toList_inj]
    exact es
   subst esl
   exact ⟨_,_,_,_,_,_,_,_,_,_,_,_,_,_,_,e,j5⟩
  ·cases h1
 ·cases h1
def zt6 (n:Nat) (fa:List He.Fa) (fn:List He.DefD) (su:List SuD) (file:Str) (ex:List Str) (g:Addr->Option Obj):AlX:=obsX fa fn su file ex (He.frG g (He.asD g n++[cStatics]))
def hookX (n:Nat) (fa:List He.Fa) (fn:List He.DefD) (su:List SuD) (file:Str) (ex:List Str):PySem.W.Hook where
 α:=AlX
 obs:=fun s=>zt6 n fa fn su file ex s.heap.get?
 val:=fun _=>valX fn su
 says:=fun _ h=>∃ K:PySem.W.Frag,K.In h∧obsX fa fn su file ex K=valX fn su
 of:=fun _ _ e=>⟨_,He.frG_in,e⟩
 keeps:=fun _ _ _ ⟨K,hK,c⟩ k=>⟨K,hK.keeps k,c⟩
structure Tz (fa:List He.Fa) (fn:List He.DefD) (su:List SuD) (file:Str) (ec:List Str) (K:PySem.W.Frag) (mg:Str->Option Value):Prop extends Ty fa fn su file K mg where
 exs:∀ x∈ec,zwQ K x=true
theorem Tz.mk' {fa:List He.Fa} {fn:List He.DefD} {su:List SuD} {file:Str} {ex:List Str} {K:PySem.W.Frag} {mg:Str->Option Value} {h:Heap} (X:K.In h) (G:h.Ns mainGlobals mg) (c:obsX fa fn su file ex K=valX fn su):Tz fa fn su file ex K mg:=
 ⟨Ty.mk' X G (congrArg (fun z:AlX=>z.1) c),List.all_eq_true.mp (congrArg (fun z:AlX=>z.2) c)⟩
theorem Tz.exm {fa:List He.Fa} {fn:List He.DefD} {su:List SuD} {file:Str} {ex:List Str} {K:PySem.W.Frag} {mg:Str->Option Value} (T:Tz fa fn su file ex K mg) (i:Nat) {x y:Str} {b:Bool} (h:fa[i]? = some (.exm x y b):=by rfl):PySem.W.exmOne K (.ref (He.ga K x)) (.ref (He.ga K y))=some b:=by
 obtain ⟨_,X,G,c⟩:=T.ex
 exact of_decide_eq_true (c.fact i h)
theorem Tz.exc {fa:List He.Fa} {fn:List He.DefD} {su:List SuD} {file:Str} {ex:List Str} {K:PySem.W.Frag} {mg:Str->Option Value} {P:Program} {w:World} {base:Heap} (T:Tz fa fn su file ex K mg) {x f:Str} (j g m n:Nat) (hj:ex[j]? = some x) (hg:fa[g]? = some (.glo x)) (hm:fa[m]? = some (.meth x "__init__")) (hn:fa[n]? = some (.noat x f))
  (hf:∃ fd ps,FnOk P w K mg base (L2.CX P w) 1 (He.ma K (He.ga K x) "__init__") fd ps (spX K f)∧Binds K fd ps []):ExOk P w K mg base x f:=by
 obtain ⟨e1,e2⟩:=He.ba (T.exs x (List.mem_of_getElem? hj))
 have M:=T.meth m hm
 exact ⟨T.glo g hg,zkd e1,M.at_,beq_iff_eq.mp M.fn,T.noat n hn,xfB_ok e2,hf⟩
section
variable {X:Cx} {B:Hp} {e:Expr} {pos:Pos}
def zyR (m:EM):EM:=fun env S Q=>m env S fun d S1=>match d with
 | .int i=>Q (.int (-i)) S1
 | _=>False
def zvj:CM:=fun ds S Q=>match ds with
 | [.ref a]=>match S a with
  | some (.dic kvs)=>(∀ kv∈kvs,okK kv.1)∧∀ p,S p=none->Q (.ref p) (put S p (.lst (kvs.map fun kv=>kD kv.1)))
  | _=>False
 | _=>False
def zvg:CM:=fun ds S Q=>match ds with
 | [.ref a]=>∃ zs:List Str,S a=some (.lst (zs.map D.str))∧zs.length < 64∧∀ ys,ys.Perm zs->sortedS ys=true->∀ p,S p=none->Q (.ref p) (put S p (.lst (ys.map D.str)))
 | _=>False
end
section
variable {env:Slo} {S:Sto} {Q:DQ} {A:Fin} {ma:AM} {W:XW} {C a:Addr} {f:Str} {d:D} {K:PySem.W.Frag} {b:XW->SM} {l:List Cl} {m:EM} {i:Nat} {cls:Value} {fs:List (Str×D)} {c:Cl} {kvs:List (Key×D)}
def kRa (C:Addr) (f:Str) (W:XW) (env:Slo):List D->Sto->Prop:=fun ds S1=>match ds with
 | [y]=>W (.ref C) [(f,y)] env S1
 | _=>False
theorem zsW (h:b (zoI K W A l) A env S):zue K b l W A env S:=⟨A,zd5.refl A,h⟩
theorem ztI (e0:PySem.W.exmOne K cls (.ref c.C)=some true) (h:∀ a,S a=none->c.su a cls fs (zkF c.i A) (env.set c.i (some (.ref a))) S):zoI K W A (c :: l) cls fs env S:=⟨true,e0,fun _=>h,fun z=>(by cases z)⟩
theorem zw6 (e0:env[i]? = some (some (.ref a))) (el:fs.lookup f=some d) (h:Q d S):mXf i C a (.ref C) fs f env S Q:=by
 unfold mXf zah
 simp only [e0,el]
 exact ⟨trivial,trivial,h⟩
def zyU (Q:DQ):DQ:=fun d S1=>match d with
 | .int i=>Q (.int (-i)) S1
 | _=>False
end
section
variable {env:Slo} {S:Sto} {Q:DQ} {A:Fin} {m n:SM} {me mf mg' ma mb:EM} {g:GM} {t u:TM} {r:BM} {c:CM} {ms:AM} {d e:D} {TQ:Bool->Sto->Prop} {AQ:List D->Sto->Prop} {a:Addr} {x:D} {i j k:Nat} {K:PySem.W.Frag} {W:XW} {sp:SpD} {C:Addr} {f:Str}
instance zym:St (zaP me g A env S) (me env S (zmH g env A)):=⟨fun h=>s_asg h⟩
instance zy4:St (mIf t m n A env S) (t env S (kIf m n A env)):=⟨fun h=>s_if h⟩
instance zy0:St (kIf m n A env true S) (m A env S):=⟨fun h=>zxb h⟩
instance zy2:St (kIf m n A env false S) (n A env S):=⟨fun h=>zto h⟩
instance zyY:St (mNx A env S) (A.nx env S):=⟨fun h=>zvn h⟩
instance zyl:St (zvu A env S) (A.bk env S):=⟨fun h=>ztR h⟩
instance zyk:St (zvt A env S) (A.ct env S):=⟨fun h=>ztQ h⟩
instance zxG:St (zaZ me A env S) (me env S A.rt):=⟨fun h=>s_ret h⟩
instance zvG:St (zq9 A env S) (A.rt .non S):=⟨fun h=>zpm h⟩
instance zwC:St (zcF me A env S) (me env S (zlC env A)):=⟨fun h=>s_drop h⟩
instance zuL:St (zlC env A d S) (A.nx env S):=⟨fun h=>zni h⟩
instance zuQ:St (zoe i d r env A x S) (r d x S (zkz i env A)):=⟨fun h=>zno h⟩
instance zws {z:Int}:St (zuv a z me r env A x S) (me env S (zrG a z x r env A)):=⟨fun h=>zql h⟩
instance zwr {z:Int}:St (zrG a z d r env A x S) (r d x S (zoO a z env A)):=⟨fun h=>zqk h⟩
instance zyf {mi:IM}:St (zej mi g m A env S) (mi env S (kFor g m A env)):=⟨fun h=>zqC h⟩
instance zwl {xs:List D} {G:Sto->Prop}:St (kFor g m A env xs G S) (forL g m G A xs env S):=⟨fun h=>zl7 h⟩
variable {R:List D->(Sto->Prop)->Sto->Prop} {xs ys:List D}
instance zwu:St (zek me env S R) (me env S (zkx R)):=⟨fun h=>zqt h⟩
instance zuB:St (zkx R (.tp fl xs) S) (R xs (fun _=>True) S):=⟨fun h=>zm4 h⟩
instance zuD:St (zkx R (.rol xs) S) (R xs (fun _=>True) S):=⟨fun h=>zm6 h⟩
instance zuC {x:Str}:St (zkx R (.str x) S) (R (zjJ x) (fun _=>True) S):=⟨fun h=>zm5 h⟩
instance zx9:St (zce ms env S R) (ms env S (kR1 R)):=⟨fun h=>ztF h⟩
instance zyb:St (zhm ms env S R) (ms env S (kEn R)):=⟨fun h=>ztH h⟩
instance zwm:St (kEn R [.tp fl xs] S) (R (zhf 0 xs) (fun _=>True) S):=⟨fun h=>zqc h⟩
instance zx7:St (zrK ms env S R) (ms env S (kZi R)):=⟨fun h=>ztD h⟩
instance zxW:St (kZi R [.tp fl xs,.tp fl' ys] S) (R (List.zipWith (fun x y=>.tup [x,y]) xs ys) (fun _=>True) S):=⟨fun h=>ztj h⟩
variable {NQ:Slo->Sto->Prop} {gs:GsM}
instance zy6:St (gC g gs (d :: xs) env S NQ) (g d env S (kgC gs xs NQ)):=⟨fun h=>zxg h⟩
instance zxV:St (kgC gs xs NQ env S) (gs xs env S NQ):=⟨fun h=>zti h⟩
instance zy5:St (gN [] env S NQ) (NQ env S):=⟨fun h=>zxf h⟩
instance zye {mo mi:EM}:St (gIx mo mi d env S NQ) (mo env S (zsc d mi env NQ)):=⟨fun h=>ztL h⟩
instance zvS {mi:EM}:St (zsc d mi env NQ e S) (mi env S (zmE d e env NQ)):=⟨fun h=>zpE h⟩
instance i_C:St (mC d env S Q) (Q d S):=⟨fun h=>s_C h⟩
instance zyX:St (mOp r ma mb env S Q) (ma env S (zsl r mb env Q)):=⟨fun h=>zw9 h⟩
instance zwa:St (zsl r mb env Q d S) (mb env S (zlz r d Q)):=⟨fun h=>zpX h⟩
instance zv9:St (zlz r d Q e S) (r d e S Q):=⟨fun h=>zpW h⟩
instance i_B:St (mB me env S TQ) (me env S (kB TQ)):=⟨fun h=>s_B h⟩
instance zy3 {b:Bool}:St (kB TQ (.bl b) S) (TQ b S):=⟨fun h=>zxd h⟩
instance zxB:St (zct me env S TQ) (me env S (zlx TQ)):=⟨fun h=>zsX h⟩
instance zyn:St (zhX t u env S TQ) (t env S (zmI u env TQ)):=⟨fun h=>ztS h⟩
instance zyW:St (mOr t u env S TQ) (t env S (kOr u env TQ)):=⟨fun h=>zw8 h⟩
instance zxK:St (zcL t env S TQ) (t env S (zsm TQ)):=⟨fun h=>zs7 h⟩
instance zwb {b:Bool}:St (zsm TQ b S) (TQ (!b) S):=⟨fun h=>zpY h⟩
instance zuR:St (zmI u env TQ true S) (u env S TQ):=⟨fun h=>znr h⟩
instance zuS:St (zmI u env TQ false S) (TQ false S):=⟨fun h=>zns h⟩
instance zv7:St (kOr u env TQ true S) (TQ true S):=⟨fun h=>zpU h⟩
instance zv8:St (kOr u env TQ false S) (u env S TQ):=⟨fun h=>zpV h⟩
instance zwH:St (zeG ma mb env S Q) (ma env S (kB (zio mb env Q))):=⟨fun h=>zqJ h⟩
instance zxJ:St (zvr ma mb env S Q) (ma env S (kB (zmF mb env Q))):=⟨fun h=>zs6 h⟩
instance zvI:St (zrb ma env S Q) (ma env S (kB (zlA Q))):=⟨fun h=>zpq h⟩
instance zuH {b:Bool}:St (zlA Q b S) (Q (.bl (!b)) S):=⟨fun h=>znc h⟩
instance zsG:St (zio mb env Q true S) (mb env S Q):=⟨fun h=>zlc h⟩
instance zsH:St (zio mb env Q false S) (Q (.bl false) S):=⟨fun h=>zld h⟩
instance zuF:St (zmF mb env Q true S) (Q (.bl true) S):=⟨fun h=>zna h⟩
instance zuG:St (zmF mb env Q false S) (mb env S Q):=⟨fun h=>znb h⟩
instance zx6:St (zr8 t ma mb env S Q) (t env S (zmG ma mb env Q)):=⟨fun h=>ztC h⟩
instance zuJ:St (zmG ma mb env Q true S) (ma env S Q):=⟨fun h=>zng h⟩
instance zuK:St (zmG ma mb env Q false S) (mb env S Q):=⟨fun h=>znh h⟩
variable {r':BM} {mc:EM}
instance zuZ:St (zf8 r r' ma mb mc env S Q) (ma env S (zsx r r' mb mc env Q)):=⟨fun h=>znA h⟩
instance zwp:St (zsx r r' mb mc env Q d S) (mb env S (zrE r r' d mc env Q)):=⟨fun h=>zqg h⟩
instance zwo:St (zrE r r' d mc env Q e S) (r d e S (kB (zlE r' e mc env Q))):=⟨fun h=>zqf h⟩
instance zuN:St (zlE r' d mc env Q true S) (mc env S (zlz r' d Q)):=⟨fun h=>znk h⟩
instance zuO:St (zlE r' d mc env Q false S) (Q (.bl false) S):=⟨fun h=>znl h⟩
instance zxM:St (zan env S AQ) (AQ [] S):=⟨fun h=>zs9 h⟩
instance zwD:St (zac me ms env S AQ) (me env S (kC1 ms env AQ)):=⟨fun h=>zqG h⟩
instance zx3:St (kC1 ms env AQ d S) (ms env S (kC2 d AQ)):=⟨fun h=>ztt h⟩
instance zx2:St (kC2 d AQ xs S) (AQ (d :: xs) S):=⟨fun h=>zts h⟩
instance zy9:St (mCB c ms env S Q) (ms env S (kCB c Q)):=⟨fun h=>zxj h⟩
instance zx1:St (kCB c Q xs S) (c xs S Q):=⟨fun h=>ztr h⟩
instance zwE:St (zaw sp W ms env S Q) (ms env S (kSp sp W env Q)):=⟨fun h=>s_call h⟩
instance zxX:St (kSp sp W env Q xs S) (sp xs S Q fun c fs S'=>W c fs env S'):=⟨fun h=>ztl h⟩
instance zvM:St (zgM C sp W ms env S Q) (ms env S (kMk C sp W env Q)):=⟨fun h=>zpv h⟩
instance zxY:St (kMk C sp W env Q xs S) (∀ p,S p=none->sp (.ref p :: xs) (put S p (.ins C [])) (fun v S2=>v = .non∧Q (.ref p) S2) fun c fs S'=>W c fs env S'):=⟨fun h=>ztm h⟩
end
section
variable {env:Slo} {S:Sto} {Q:DQ} {A:Fin} {me mo ma mb:EM} {ms:AM} {d e x:D} {AQ:List D->Sto->Prop} {a C:Addr} {K:PySem.W.Frag} {W:XW} {sp:SpD} {f:Str} {xs ys:List D} {fs:List (Str×D)} {kvs:List (Key×D)} {kk:Key}
instance zvT:St (kTup Q xs S) (Q (.tup xs) S):=⟨fun h=>zpF h⟩
instance zvL:St (zdZ C f sp W mo ms env S Q) (mo env S (zrB C f sp W ms env Q)):=⟨fun h=>zpu h⟩
instance zwg:St (zup sp W a env Q xs S) (sp (.ref a :: xs) S Q fun c fs S'=>W c fs env S'):=⟨fun h=>zp3 h⟩
instance zyg:St (zfa K me f env S Q) (me env S (zrC K f Q)):=⟨fun h=>ztM h⟩
instance zvE:St (zfC K mo me f A env S) (me env S (zse K f mo env A)):=⟨fun h=>zpk h⟩
instance zvX:St (zse K f mo env A d S) (mo env S (zrt K f d env A)):=⟨fun h=>zpJ h⟩
instance zwI {i j:Int}:St (zb6 (.int i) (.int j) S Q) (Q (.int (i+j)) S):=⟨fun h=>zqK h⟩
instance zuT {i j:Int}:St (zix (.int i) (.int j) S Q) (Q (.int (i+j)) S):=⟨fun h=>znu h⟩
instance zxD {i j:Int}:St (zjN (.int i) (.int j) S Q) (Q (.int (i - j)) S):=⟨fun h=>zsY h⟩
instance zxP {i j:Int}:St (vLt (.int i) (.int j) S Q) (Q (.bl (decide (i < j))) S):=⟨fun h=>ztd h⟩
instance zxS {i j:Int}:St (vLe (.int i) (.int j) S Q) (Q (.bl (decide (i≤j))) S):=⟨fun h=>ztg h⟩
instance zyp {i:Int}:St (zr5 [.int i] S Q) (Q (.int (if i < 0 then -i else i)) S):=⟨fun h=>ztU h⟩
instance zx5 {i:Int}:St (vInt [.int i] S Q) (Q (.int i) S):=⟨fun h=>ztA h⟩
instance zxO {i j:Int}:St (zr4 [.int i,.int j] S Q) (Q (.int (if j > i then j else i)) S):=⟨fun h=>ztc h⟩
instance zyh {g:Bool->Bool} {i j:Str}:St (zg8 g (.str i) (.str j) S Q) (Q (.bl (g (decide (i=j)))) S):=⟨fun h=>ztN h⟩
instance zyi {g:Bool->Bool} {i j:Int}:St (zg8 g (.int i) (.int j) S Q) (Q (.bl (g (decide (i=j)))) S):=⟨fun h=>ztO h⟩
instance zyj {g:Bool->Bool} {i j:Bool}:St (zg8 g (.bl i) (.bl j) S Q) (Q (.bl (g (decide (i=j)))) S):=⟨fun h=>ztP h⟩
instance zyc {i j:Int}:St (vGt (.int i) (.int j) S Q) (Q (.bl (decide (j < i))) S):=⟨fun h=>ztJ h⟩
instance zyd {i j:Int}:St (vGe (.int i) (.int j) S Q) (Q (.bl (decide (j≤i))) S):=⟨fun h=>ztK h⟩
instance zxR {i j:Str}:St (vLe (.str i) (.str j) S Q) (Q (.bl (!decide (j.cps.toList < i.cps.toList))) S):=⟨fun h=>ztf h⟩
instance zxA:St (zbu ms env S Q) (ms env S (kTp Q)):=⟨fun h=>zsV h⟩
instance zxQ:St (zfs ms env S Q) (ms env S (kLs Q)):=⟨fun h=>zte h⟩
variable {ok:D->Sto->Prop} {rm:MM}
instance zxN:St (zfO ok rm mo ms env S Q) (mo env S (zsq ok rm ms env Q)):=⟨fun h=>ztb h⟩
instance zwf:St (zsp rm d Q xs S) (rm d xs S Q):=⟨fun h=>zp2 h⟩
variable {mk mx:EM}
instance zwx:St (zrf mo mk mx env S Q) (mo env S (zsv mk mx env Q)):=⟨fun h=>zqw h⟩
instance zwj:St (zsu d mx env Q e S) (mx env S (zoN d e Q)):=⟨fun h=>zp8 h⟩
variable {PQ:List (D×D)->Sto->Prop} {mps:List (EM×EM)} {ps:List (D×D)}
instance zxI:St (mPs ((ma,mb) :: mps) env S PQ) (ma env S (zsk mb mps env PQ)):=⟨fun h=>zs4 h⟩
instance zxH:St (mPs [] env S PQ) (PQ [] S):=⟨fun h=>zs3 h⟩
instance zv5:St (zsk mb mps env PQ d S) (mb env S (zrw d mps env PQ)):=⟨fun h=>zpS h⟩
instance zv4:St (zrw d mps env PQ e S) (mPs mps env S (zrx d e PQ)):=⟨fun h=>zpR h⟩
instance zv6:St (zrx d e PQ ps S) (PQ ((d,e) :: ps) S):=⟨fun h=>zpT h⟩
instance zyo:St (zrj mo ms env S Q) (mo env S (zsA ms env Q)):=⟨fun h=>ztT h⟩
instance zx4 {g:Bool->Bool}:St (zl0 g .non .non S Q) (Q (.bl (g true)) S):=⟨fun h=>ztz h⟩
variable {lo hi:OM} {OQ:Option Int->Sto->Prop} {l h':Option Int}
instance zyV:St (mSl me lo hi env S Q) (me env S (zsd lo hi env Q)):=⟨fun h=>zw7 h⟩
instance zvW:St (zsd lo hi env Q d S) (lo env S (zrs d hi env Q)):=⟨fun h=>zpI h⟩
instance zvV:St (zrs d hi env Q l S) (hi env S (zrr d l Q)):=⟨fun h=>zpH h⟩
instance zvU:St (zrr d l Q h' S) (vSl d l h' S Q):=⟨fun h=>zpG h⟩
instance zxL:St (zks env S OQ) (OQ none S):=⟨fun h=>zs8 h⟩
instance i_P:St (mP me env S OQ) (me env S (kP OQ)):=⟨fun h=>s_P h⟩
instance zy1 {i:Int}:St (kP OQ (.int i) S) (OQ (some i) S):=⟨fun h=>zxc h⟩
instance zxE:St (vSl (.tup xs) l h' S Q) (Q (.tup (cutD xs l h')) S):=⟨fun h=>zsZ h⟩
variable {g:GM} {t:TM} {G:Sto->Prop} {mi:IM} {vs:List Nat}
instance zyZ:St (mLc mi g t me vs env S Q) (mi env S (kLc g t me vs env Q)):=⟨fun h=>zxa h⟩
instance zxZ:St (kLc g t me vs env Q xs G S) (∀ p,S p=none->lcL g t me G p Q (zbM env vs) xs (put S p (.lst []))):=⟨fun h=>ztn h⟩
instance zy8:St (mDc mi g t mk mb vs env S Q) (mi env S (kDc g t mk mb vs env Q)):=⟨fun h=>zxi h⟩
instance zx0:St (kDc g t mk mb vs env Q xs G S) (∀ p,S p=none->dcL g t mk mb G p Q (zbM env vs) xs (put S p (.dic []))):=⟨fun h=>ztq h⟩
instance zvN:St (zcJ [.tp fl xs] S Q) (Q (.int xs.length) S):=⟨fun h=>zpw h⟩
instance zvP:St (zcJ [.rol xs] S Q) (Q (.int xs.length) S):=⟨fun h=>zpy h⟩
instance zvO {x:Str}:St (zcJ [.str x] S Q) (Q (.int x.length) S):=⟨fun h=>zpx h⟩
instance zsC:St (zcI [.tup xs] S Q) (Q (.tup xs) S):=⟨fun h=>zk6 h⟩
instance zuA {TQ:Bool->Sto->Prop} {b:Bool}:St (zlx TQ (.bl b) S) (TQ b S):=⟨fun h=>zm3 h⟩
end
section
variable {X:Cx} {B:Hp}
def zo1 (f:List Bool->Bool):CM:=fun ds S Q=>match ds with
 | [.ref a]=>∃ bs:List Bool,S a=some (.lst (bs.map D.bl))∧Q (.bl (f bs)) S
 | _=>False
abbrev zyG:CM:=zo1 fun bs=>bs.all id
abbrev zyF:CM:=zo1 fun bs=>bs.any id
def zjp:CM:=fun ds S Q=>match ds with
 | [.ref a]=>∃ xs,S a=some (.lst xs)∧Q (.tp true xs) S
 | _=>False
theorem zkM:CallR X (.type "tuple") (fun xs H Q=>∃ p ys,xs=[.ref p]∧SqL X.K H p ys∧∀ l o,H l=none->o.dict=none->Q (.ref l) (upd H l (.frz o (.tup ys)))):=by
 intro pins s σ H xs us Q I r h
 obtain ⟨p,ys,rfl,hq,q⟩:=h
 obtain ⟨u,rfl,rx⟩:=vals1 r
 cases rx
 obtain ⟨its,rv,pl,hz⟩:=I.list hq
 have hn:=rv.length
 refine call_tuple_list pl.isList (fun h1 kp=>?_) (by simp only [List.size_toArray] <;> omega)
 have I1:Inv X pins σ H { s with heap:=h1 }:=I.kept (t':=s.toks) kp
 refine ⟨.ref h1.objs.size,upd H h1.objs.size (.frz { cls:=.type "tuple", data:=.seq its.toArray } (.tup ys)),?_,rfl,q _ _ (I1.hok.fresh (Nat.le_refl _)) rfl⟩
 refine I1.laid (t':=s.toks) (fun b o e=>Heap.get?_push_of_some _ e) (Nat.le_refl _) ?_
 exact ⟨Heap.get?_push_size _ rfl,hz,its,rv,IsTup.new _ _⟩
theorem zoB:zfq X (.type "tuple") zjp:=by
 refine zgW _ zkM (fun xs H Q ds S h r q=>?_) (fun ds S Q Q' i q=>?_)
 ·unfold zjp at q
  split at q
  ·obtain ⟨v,rfl,dv⟩:=zjh h
   cases dv
   obtain ⟨xs,e0,q⟩:=q
   obtain ⟨vs,e1,z⟩:=r _ _ e0
   refine ⟨_,vs,rfl,SqL.of e1,fun l o hl ho=>q _ _ (Le.new hl) (r.more hl) (.tup (.inl (.inr ⟨o,upd_same⟩)) (z.le (Le.new hl)) ⟨o,upd_same,ho⟩)⟩
  ·exact q.elim
 ·unfold zjp at q ⊢
  split at q
  ·obtain ⟨xs,e,q⟩:=q
   exact ⟨xs,e,i _ _ q⟩
  ·exact q.elim
def okT (d:D) (_:Sto):Prop:=match d with
 | .tp f _=>f=true
 | _=>False
def tyN (x:V) (H:Hp):Prop:=∃ a o vs,x = .ref a∧H a=some (.frz o (.tup vs))∧o.dict=none
theorem zw1:TyOk X "tuple" tyN:=fun pins σ H s x v I r q=>by
 obtain ⟨a,o,vs,rfl,e,hd⟩:=q
 obtain rfl:v=Value.ref a:=r
 obtain ⟨e1,_,its,_,o',e2,hc,_⟩:=I.hok a _ e
 refine ⟨⟨o',e2,hc⟩,fun b eb=>?_⟩
 cases eb
 exact ⟨o,e1,hd⟩
theorem zo7:∀ d x S H,DV X.K H d x->Rp X.K X.prog X.w S H->okT d S->tyN x H:=fun d x S H h r q=>by
 unfold okT at q
 split at q
 ·subst q
  cases h with
  | tup s z t=>
   obtain ⟨o,e,hd⟩:=t
   exact ⟨_,o,_,rfl,e,hd⟩
 ·exact q.elim
def znF:MM:=fun d ds S Q=>match d,ds with
 | .tp _ xs,[.str z]=>∃ (ys:List Str) (j:Nat),xs=ys.map D.str∧ys[j]? = some z∧(∀ m,m < j->ys[m]?≠some z)∧Q (.int (j:Nat)) S
 | _,_=>False
theorem zje {K:PySem.W.Frag} {H:Hp}:∀ {bs:List Str} {vs:List V},DVs K H (bs.map D.str) vs->vs=bs.map V.str
 | [],_,h=>by cases h;rfl
 | b :: bs,_,h=>by
  cases h with
  | cons h1 h2=>
   cases h1
   rw [zje h2]
   rfl
theorem zlt:zrZ X "tuple.index" znF:=by
 refine zub _ mt_tup_index (fun x xs H Q d ds S h1 h2 r q=>?_) (fun d ds S Q Q' i q=>?_)
 ·unfold znF at q
  split at q
  ·obtain ⟨v,rfl,dv⟩:=zjh h2
   cases dv
   cases h1 with
   | tup s z t=>
    obtain ⟨ys,j,rfl,e1,e2,q⟩:=q
    obtain rfl:=zje z
    exact ⟨_,ys,_,j,rfl,rfl,s,e1,e2,zaC q r (.int _)⟩
  ·exact q.elim
 ·unfold znF at q ⊢
  split at q
  ·obtain ⟨ys,j,e,e1,e2,q⟩:=q
   exact ⟨ys,j,e,e1,e2,i _ _ q⟩
  ·exact q.elim
theorem zgx {o e:Expr} {mo:EM} {ma:AM} {apos cpos:Pos} (ho:ME X B o mo) (ha:MA X B [e] ma)
  (hbase:attributeBase o "index" X.env (eval o X.env)=eval o X.env:=by rfl)
  (hfew:((backTo cpos (starEach [e] X.env)).all (fun x=>!x.1) && (backToKw cpos (keywordEach [] X.env)).all (fun x=>x.1.isSome)
   && decide ([e].length+([]:List Keyword).length+(if ([]:List Keyword).isEmpty then 0 else 1) < 30))=true:=by rfl)
  (hline:(apos.endLine == cpos.line)=true:=by rfl) (hs:starEach [e] X.env=(false,eval e X.env) :: starEach [] X.env:=by rfl) (hplain:(backTo cpos (starEach [] X.env)).any (·.1)=false:=by rfl) :
  ME X B (.Call (.Attribute o "index" apos) [e] [] cpos) (zfO okT znF mo ma):=
 zkn zw1 zo7 PySem.F.plainAttrs_tuple PySem.F.slot_tuple_index PySem.F.type_tuple_index zlt ho ha hbase hfew hline hs hplain
end
section
variable {K:PySem.W.Frag} {P:Program} {w:World} {H1:Hp} {a b:Addr} {ds es:List D}
end
section
variable {X:Cx} {B:Hp} {p pos tpos:Pos} {elts:List Expr} {kk:Nat}
def zrJ (m:AM):IM:=fun env S R=>m env S fun ds S1=>match ds with
 | [.ref a,.ref b]=>∃ xs ys,S1 a=some (.lst xs)∧S1 b=some (.lst ys)∧R (List.zipWith (fun x y=>.tup [x,y]) xs ys) (fun S=>S a=some (.lst xs)∧S b=some (.lst ys)) S1
 | _=>False
end
section
variable {X:Cx} {B:Hp} {pos:Pos}
def zmy:EM:=fun _ S Q=>∀ p,S p=none->Q (.ref p) (put S p (.dit []))
def zlw:D->Option (List Key)
 | .tp f xs=>if f then none else xs.mapM keyD
 | _=>none
def setT (S:Sto) (o i v:D):Option Sto:=match o,zlw i with
 | .ref a,some k=>match S a with
  | some (.dit kvs)=>if kvs.length < sizeLine then some (put S a (.dit (putD kvs k v))) else none
  | _=>none
 | _,_=>none
def zxk (X:Cx):TSet:=fun o i v H Q=>∃ do_ di dv S S',DV X.K H do_ o∧DV X.K H di i∧DV X.K H dv v∧Rp X.K X.prog X.w S H∧setT S do_ di dv=some S'∧∀ H',Le H H'->Rp X.K X.prog X.w S' H'->Q H'
def zwO (mo mi:EM):GM:=fun d env S Q=>mo env S fun o S1=>mi env S1 fun i S2=>match setT S2 o i d with
 | some S3=>Q env S3
 | none=>False
def tFz (t:TE):TE:=fun σ H Q=>t σ H fun x H1=>∃ d u,H1 d=some u∧Mut (some u)∧∀ od,Q x (upd H1 d (.frz od u))
def zoP (S:Sto) (a:Addr):Sto:=fun b=>if b=a then none else S b
def mFz (m:EM):EM:=fun env S Q=>m env S fun d S1=>match d with
 | .ref a=>match S1 a with
  | some (.dit kvs)=>(∀ kv∈kvs,∀ x∈kv.1,okK x)∧Q (.rod (kvs.map (·.1)) (kvs.map (·.2))) (zoP S1 a)
  | _=>False
 | _=>False
def zyz:BM:=fun d e S Q=>match d,zlw e with
 | .rod ks xs,some k=>match valD (ks.zip xs) k with
  | some x=>Q x S
  | none=>False
 | _,_=>False
def zwJ (m:EM):IM:=fun env S R=>m env S fun d S1=>match d with
 | .rod ks _=>R (ks.map fun k=>.tup (k.map kD)) (fun _=>True) S1
 | _=>False
end
def lcI (g:GM) (t:TM) (m:EM) (G:Sto->Prop) (p:Addr) (N:Sto->Prop) (env:Slo):List D->Sto->Prop
 | [],S=>G S∧N S
 | x :: xs,S=>G S∧g x env S fun env2 S2=>t env2 S2 fun b S3=>match b with
  | true=>m env2 S3 fun d S4=>match S4 p with
   | some (.lst ys)=>ys.length < sizeLine∧lcI g t m G p N env xs (put S4 p (.lst (ys++[d])))
   | _=>False
  | false=>lcI g t m G p N env xs S3
def lcO (g:GM) (t:TM) (mi1:IM) (g1:GM) (t1:TM) (m:EM) (vs1:List Nat) (G:Sto->Prop) (p:Addr) (Q:DQ) (env:Slo):List D->Sto->Prop
 | [],S=>G S∧Q (.ref p) S
 | x :: xs,S=>G S∧g x env S fun env2 S2=>t env2 S2 fun b S3=>match b with
  | true=>mi1 env2 S3 fun ys G1 S4=>lcI g1 t1 m G1 p (lcO g t mi1 g1 t1 m vs1 G p Q env xs) (zbM env2 vs1) ys S4
  | false=>lcO g t mi1 g1 t1 m vs1 G p Q env xs S3
def zoL (mi:IM) (g:GM) (t:TM) (mi1:IM) (g1:GM) (t1:TM) (m:EM) (vs vs1:List Nat):EM:=fun env S Q=>mi env S fun xs G S1=>∀ p,S1 p=none->lcO g t mi1 g1 t1 m vs1 G p Q (zbM env vs) xs (put S1 p (.lst []))
section
abbrev zkV (g:GM):Prop:=∀ d env S (Q Q':Slo->Sto->Prop),(∀ e S,Q e S->Q' e S)->g d env S Q->g d env S Q'
abbrev zjI (mi:IM):Prop:=∀ env S (Q Q':List D->(Sto->Prop)->Sto->Prop),(∀ xs G S,Q xs G S->Q' xs G S)->mi env S Q->mi env S Q'
variable {X:Cx} {B:Hp} {elt tg iter tg1 iter1:Expr} {ifs ifs1:List Expr} {scope:Scope} {own:List (Str×Nat)} {pos:Pos} {mi mi1:IM} {g g1:GM} {t t1:TM} {m:EM} {vs1:List Nat}
theorem zhQ {G:Sto->Prop} {p:Addr} {env:Slo} {N N':Sto->Prop} (hg:zkV g) (ht:zeU t) (hm:zci m) (i:∀ S,N S->N' S):∀ xs S,lcI g t m G p N env xs S->lcI g t m G p N' env xs S
 | [],S,h=>⟨h.1,i _ h.2⟩
 | x :: xs,S,h=>⟨h.1,hg _ _ _ _ _ (fun e s q=>ht _ _ _ _ (fun b S3 q=>by
   cases b with
   | true=>
    refine hm _ _ _ _ (fun d S4 q=>?_) q
    split at q
    ·exact ⟨q.1,zhQ hg ht hm i xs _ q.2⟩
    ·exact q.elim
   | false=>exact zhQ hg ht hm i xs _ q) q) h.2⟩
theorem zhO {G:Sto->Prop} {p:Addr} {env:Slo} {Q Q':DQ} (hg:zkV g) (ht:zeU t) (hi1:zjI mi1) (hg1:zkV g1) (ht1:zeU t1) (hm:zci m) (i:∀ d S,Q d S->Q' d S):∀ xs S,lcO g t mi1 g1 t1 m vs1 G p Q env xs S->lcO g t mi1 g1 t1 m vs1 G p Q' env xs S
 | [],S,h=>⟨h.1,i _ _ h.2⟩
 | x :: xs,S,h=>⟨h.1,hg _ _ _ _ _ (fun e s q=>ht _ _ _ _ (fun b S3 q=>by
   cases b with
   | true=>exact hi1 _ _ _ _ (fun ys G1 S4 q=>zhQ hg1 ht1 hm (fun S5 q=>zhO hg ht hi1 hg1 ht1 hm i xs _ q) _ _ q) q
   | false=>exact zhO hg ht hi1 hg1 ht1 hm i xs _ q) q) h.2⟩
theorem zo3 {K:PySem.W.Frag} {P:Program} {w:World} {wi wi1:TI} {tt tt1:TG} {vs:List Nat} (hwi:∀ σ H R,(Le B H∧∃ env S,zcz K H env σ∧Rp K P w S H∧mi env S fun xs G S1=>∀ J H1,Le H H1->Rp K P w S1 H1->WkD K P w H1 J xs G->R J H1)->wi σ H R)
  (hwi1:∀ σ H R,(Le B H∧∃ env S,zcz K H env σ∧Rp K P w S H∧mi1 env S fun xs G S1=>∀ J H1,Le H H1->Rp K P w S1 H1->WkD K P w H1 J xs G->R J H1)->wi1 σ H R)
  (hmi:zjI mi) (hmi1:zjI mi1) (bt:BT K vs tt g) (bt1:BT K vs1 tt1 g1) (ht:zeU t) (ht1:zeU t1) (hm:zci m) {σ:L2.St} {H:Hp} {Q:VK}
  (q:up K P w B (zoL mi g t mi1 g1 t1 m vs vs1) σ H Q):tLc2 wi tt (upT K P w B t) wi1 tt1 (upT K P w B t1) (up K P w B m) vs vs1 σ H Q:=by
 obtain ⟨lB,env,S,r0,z0,q⟩:=q
 refine hwi _ _ _ ⟨lB,env,S,r0,z0,hmi _ _ _ _ (fun xs G S1 q J H1 l1 z1 wk=>?_) q⟩
 intro p hp
 have l2:Le H1 (upd H1 p (.lst [])):=Le.new hp
 have z2:Rp K P w (put S1 p (.lst [])) (upd H1 p (.lst [])):=z1.new hp ⟨[],upd_same,.nil⟩
 have q:=q p (z1.free hp)
 refine ⟨fun i k H'=>i≤xs.length∧k=xs.length - i∧Le (upd H1 p (.lst [])) H'∧∃ S,Rp K P w S H'∧lcO g t mi1 g1 t1 m vs1 G p (dnE K P w H Q) (zbM env vs) (xs.drop i) S,⟨xs.length,Nat.zero_le _,rfl,Le.refl _,_,z2,q⟩,fun i k H' h=>?_⟩
 obtain ⟨hi,rfl,l3,S,z3,q⟩:=h
 have l23:=l2.trans l3
 by_cases hlt:i < xs.length
 ·have ed:xs.drop i=xs[i] :: xs.drop (i+1):=List.drop_eq_getElem_cons hlt
  rw [ed] at q
  refine .inr ⟨wk.go i S H' hlt l23 z3 q.1,fun H'=>Le (upd H1 p (.lst [])) H'∧∃ S,Rp K P w S H'∧lcO g t mi1 g1 t1 m vs1 G p (dnE K P w H Q) (zbM env vs) (xs.drop (i+1)) S,fun H3 h=>⟨xs.length - (i+1),by omega,hlt,rfl,h⟩,fun x H3 hy=>?_⟩
  obtain ⟨l4,z4,d,ex,dv⟩:=wk.yld i S H' x H3 hlt l23 z3 q.1 hy
  have e':d=xs[i]:=by
   rw [List.getElem?_eq_getElem hlt] at ex
   exact (Option.some.inj ex).symm
  subst e'
  have l04:=l1.trans (l23.trans l4)
  refine bt.mt _ _ _ _ _ (fun σ2 H2 z=>?_) (bt.td _ x _ _ S H3 _ dv ((r0.le l04).wipe vs) q.2)
  obtain ⟨e2,rfl,env2,r2,q2⟩:=z
  refine ⟨e2.trans zel,lB.trans l04,env2,S,r2,z4,ht _ _ _ _ (fun b S3 q H5 l5 z5=>?_) q2⟩
  cases b with
  | false=>exact ⟨l3.trans (l4.trans l5),S3,z5,q⟩
  | true=>
   refine hwi1 _ _ _ ⟨lB.trans (l04.trans l5),env2,S3,r2.le l5,z5,hmi1 _ _ _ _ (fun ys G1 S4 q J1 H6 l6 z6 wk1=>?_) q⟩
   refine ⟨fun j k H'=>j≤ys.length∧k=ys.length - j∧Le H6 H'∧∃ S,Rp K P w S H'∧lcI g1 t1 m G1 p (lcO g t mi1 g1 t1 m vs1 G p (dnE K P w H Q) (zbM env vs) (xs.drop (i+1))) (zbM env2 vs1) (ys.drop j) S,⟨ys.length,Nat.zero_le _,rfl,Le.refl _,_,z6,q⟩,fun j k H7 h=>?_⟩
   obtain ⟨hj,rfl,l7,S7,z7,q⟩:=h
   by_cases hjl:j < ys.length
   ·have ej:ys.drop j=ys[j] :: ys.drop (j+1):=List.drop_eq_getElem_cons hjl
    rw [ej] at q
    refine .inr ⟨wk1.go j S7 H7 hjl l7 z7 q.1,fun H'=>Le H6 H'∧∃ S,Rp K P w S H'∧lcI g1 t1 m G1 p (lcO g t mi1 g1 t1 m vs1 G p (dnE K P w H Q) (zbM env vs) (xs.drop (i+1))) (zbM env2 vs1) (ys.drop (j+1)) S,fun H3 h=>⟨ys.length - (j+1),by omega,hjl,rfl,h⟩,fun x H8 hy=>?_⟩
    obtain ⟨l8,z8,d,ex,dv⟩:=wk1.yld j S7 H7 x H8 hjl l7 z7 q.1 hy
    have e':d=ys[j]:=by
     rw [List.getElem?_eq_getElem hjl] at ex
     exact (Option.some.inj ex).symm
    subst e'
    have l08:=l5.trans (l6.trans (l7.trans l8))
    refine bt1.mt _ _ _ _ _ (fun σ3 H9 z=>?_) (bt1.td _ x _ _ S7 H8 _ dv ((r2.le l08).wipe vs1) q.2)
    obtain ⟨e3,rfl,env3,r3,q3⟩:=z
    refine ⟨e3.trans zel,lB.trans (l04.trans l08),env3,S7,r3,z8,ht1 _ _ _ _ (fun b S9 q H10 l9 z9=>?_) q3⟩
    cases b with
    | false=>exact ⟨l7.trans (l8.trans l9),S9,z9,q⟩
    | true=>
     refine ⟨lB.trans (l04.trans (l08.trans l9)),env3,S9,r3.le l9,z9,hm _ _ _ _ (fun d S10 q v H11 l10 z10 d10=>?_) q⟩
     split at q
     ·rename_i us0 ey
      obtain ⟨us,f1,f2⟩:=z10 _ _ ey
      have hmut:Mut (H11 p):=by rw [f1];exact trivial
      have l11:=Le.mut (o:=.lst (us++[v])) hmut
      exact ⟨us,f1,by rw [← f2.length];exact q.1,l7.trans (l8.trans (l9.trans (l10.trans l11))),_,z10.wr (o:=.lst (us0++[d])) hmut ⟨_,upd_same,(f2.append (.cons d10 .nil)).le l11⟩,q.2⟩
     ·exact q.elim
   ·have ei:j=ys.length:=by omega
    subst ei
    rw [List.drop_length] at q
    exact .inl ⟨wk1.stop S7 H7 l7 z7 q.1,l3.trans (l4.trans (l5.trans (l6.trans l7))),S7,z7,q.2⟩
 ·have ei:i=xs.length:=by omega
  subst ei
  rw [List.drop_length] at q
  exact .inl ⟨wk.stop S H' l23 z3 q.1,q.2 _ H' (l1.trans l23) z3 (.ref p)⟩
theorem znU {vs:List Nat} (hmi:zjI mi) (hg:zkV g) (ht:zeU t) (hi1:zjI mi1) (hg1:zkV g1) (ht1:zeU t1) (hm:zci m):zci (zoL mi g t mi1 g1 t1 m vs vs1):=fun env S Q Q' i q=>
 hmi _ _ _ _ (fun xs G S1 q p hp=>zhO hg ht hi1 hg1 ht1 hm i _ _ (q p hp)) q
abbrev zoW (X:Cx) (B:Hp) (mi:IM):TI:=fun σ H R=>Le B H∧∃ env S,zcz X.K H env σ∧Rp X.K X.prog X.w S H∧mi env S fun xs G S1=>∀ J H1,Le H H1->Rp X.K X.prog X.w S1 H1->WkD X.K X.prog X.w H1 J xs G->R J H1
theorem zig {tt tt1:TG} {i:Nat} {y:Str} {py spos:Pos} (hc:X.calm=true) (hN:X.N.Nodup) (hi:MI X B tg iter mi) (ok:BlkOk X.N X.env.scope scope own) (bt:BT X.K (own.map (·.2)) tt g) (bt1:BT X.K vs1 tt1 g1)
  (hg:Blk X scope fun Y=>PG Y tg tt) (hm:Blk X scope fun Y=>MTs Y B ifs t) (hi1:Blk X scope fun Y=>MI Y B tg1 iter1 mi1) (hg1:Blk X scope fun Y=>PG Y tg1 tt1) (hm1:Blk X scope fun Y=>MTs Y B ifs1 t1) (he:Blk X scope fun Y=>ME Y B elt m)
  (hv:∀ i∈vs1,i∈own.map (·.2):=by decide) (hy:X.N[i]? = some y:=by rfl) (hyl:X.env.scope.names.lookup y=some .local:=by rfl)
  (hsw:swapsWith (.ListComp elt [⟨tg,iter,ifs,0⟩,⟨tg1,iter1,ifs1,0⟩] scope pos) (some (.Name y py)) spos.line X.env=pure true:=by rfl) (hs:∀ x,foldedSetIterable iter X.env x=pure x:=by intro _;rfl) (hs1:∀ env x,foldedSetIterable iter1 env x=pure x:=by intro _ _;rfl) :
  MS X B (.Assign [.Name y py] (.ListComp elt [⟨tg,iter,ifs,0⟩,⟨tg1,iter1,ifs1,0⟩] scope pos) spos) (zaP (zoL mi g t mi1 g1 t1 m (own.map (·.2)) vs1) (gNm i)):=by
 have m1:zeU t:=(hm X.s_0 (fun _=>none) 0 [] []).mono
 have m2:zci m:=(he X.s_0 (fun _=>none) 0 [] []).mono
 have m3:zeU t1:=(hm1 X.s_0 (fun _=>none) 0 [] []).mono
 have m4:zjI mi1:=(hi1 X.s_0 (fun _=>none) 0 [] []).mono
 have m5:=znU (vs:=own.map (·.2)) (vs1:=vs1) hi.mono bt.mg m1 m4 bt1.mg m3 m2
 refine ⟨zcZ (ps_setLc2 (tt:=upT X.K X.prog X.w B t) (tt1:=upT X.K X.prog X.w B t1) (te:=up X.K X.prog X.w B m) (wi:=zoW X B mi) (wi1:=zoW X B mi1) hc hN hy hyl hsw hi.pi ok hv hg (fun s H C cl fp=>(hm s H C cl fp).pts) (fun s H C cl fp=>(hi1 s H C cl fp).pi) hg1 (fun s H C cl fp=>(hm1 s H C cl fp).pts) (fun s H C cl fp=>(he s H C cl fp).pe) hs hs1)
  fun D σ H q=>?_,fun A B env S l q=>m5 _ _ _ _ (fun d S1 q=>l.nx _ _ q) q⟩
 obtain ⟨lB,env,S,r0,z0,q⟩:=q
 refine zo3 (B:=B) (mi:=mi) (mi1:=mi1) (g:=g) (t:=t) (g1:=g1) (t1:=t1) (m:=m) (fun _ _ _ z=>z) (fun _ _ _ z=>z) hi.mono m4 bt bt1 m1 m3 m2 ⟨lB,env,S,r0,z0,m5 _ _ _ _ (fun d S1 q v H1 l z dv=>?_) q⟩
 exact q _ H1 l ((r0.le l).set dv i) z
end
section
variable {prog:Program} {w:World} {A:Around} {E:Value->Shared->Prop} {s:Shared}
end
section
variable {X:Cx} {B:Hp}
def zw2 (K:PySem.W.Frag) (te:TE):TE:=fun σ H Q=>te σ H fun x H1=>∃ a xs,x = .ref a∧SqT K H1 a xs∧∀ p,H1 p=none->Q (.ref p) (upd H1 p (.tup xs.reverse))
def zq8 (m:EM):EM:=fun env S Q=>m env S fun d S1=>match d with
 | .tp _ xs=>Q (.tup xs.reverse) S1
 | _=>False
end
section
variable {env:Slo} {S:Sto} {Q:DQ} {A:Fin} {me mo mi':EM} {ms:AM} {d e:D} {a b p:Addr} {xs ys:List D} {bs:List Bool} {R:List D->(Sto->Prop)->Sto->Prop} {ks:List (List Key)} {kvs:List (List Key×D)} {k:List Key} {NQ:Slo->Sto->Prop}
theorem zph (e0:S a=some (.lst xs)) (h:Q (.tp true xs) S):zjp [.ref a] S Q:=⟨xs,e0,h⟩
theorem zqs {zs:List Str} {z:Str} {j:Nat} (e0:zs[j]? = some z) (h0:∀ m,m < j->zs[m]?≠some z) (h:Q (.int (j:Nat)) S):znF (.tp true (zs.map D.str)) [.str z] S Q:=⟨zs,j,rfl,e0,h0,h⟩
def kZL (R:List D->(Sto->Prop)->Sto->Prop):List D->Sto->Prop:=fun ds S1=>match ds with
 | [.ref a,.ref b]=>∃ xs ys,S1 a=some (.lst xs)∧S1 b=some (.lst ys)∧R (List.zipWith (fun x y=>.tup [x,y]) xs ys) (fun S=>S a=some (.lst xs)∧S b=some (.lst ys)) S1
 | _=>False
theorem znv (h:ms env S (kZL R)):zrJ ms env S R:=h
theorem ztk (e1:S a=some (.lst xs)) (e2:S b=some (.lst ys)) (h:R (List.zipWith (fun x y=>.tup [x,y]) xs ys) (fun S=>S a=some (.lst xs)∧S b=some (.lst ys)) S):kZL R [.ref a,.ref b] S:=⟨xs,ys,e1,e2,h⟩
theorem zny (h:∀ p,S p=none->Q (.ref p) (put S p (.dit []))):zmy env S Q:=h
def zus (d o:D) (env:Slo) (NQ:Slo->Sto->Prop):DQ:=fun i S2=>match setT S2 o i d with
 | some S3=>NQ env S3
 | none=>False
def zsw (d:D) (mi:EM) (env:Slo) (NQ:Slo->Sto->Prop):DQ:=fun o S1=>mi env S1 (zus d o env NQ)
theorem zqA (h:mo env S (zsw d mi' env NQ)):zwO mo mi' d env S NQ:=h
theorem zqa (h:mi' env S (zus d e env NQ)):zsw d mi' env NQ e S:=h
def kFz (Q:DQ):DQ:=fun d S1=>match d with
 | .ref a=>match S1 a with
  | some (.dit kvs)=>(∀ kv∈kvs,∀ x∈kv.1,okK x)∧Q (.rod (kvs.map (·.1)) (kvs.map (·.2))) (zoP S1 a)
  | _=>False
 | _=>False
theorem zxh (h:me env S (kFz Q)):mFz me env S Q:=h
def zsg (R:List D->(Sto->Prop)->Sto->Prop):DQ:=fun d S1=>match d with
 | .rod ks _=>R (ks.map fun k=>.tup (k.map kD)) (fun _=>True) S1
 | _=>False
theorem zqu (h:me env S (zsg R)):zwJ me env S R:=h
theorem zpN (h:R (ks.map fun k=>.tup (k.map kD)) (fun _=>True) S):zsg R (.rod ks xs) S:=h
def zly (Q:DQ):DQ:=fun d S1=>match d with
 | .tp _ xs=>Q (.tup xs.reverse) S1
 | _=>False
theorem zpl (h:me env S (zly Q)):zq8 me env S Q:=h
theorem zm8 {f:Bool} (h:Q (.tup xs.reverse) S):zly Q (.tp f xs) S:=h
def zur (g:GM) (t:TM) (mi1:IM) (g1:GM) (t1:TM) (m:EM) (vs vs1:List Nat) (env:Slo) (Q:DQ):List D->(Sto->Prop)->Sto->Prop:=fun xs G S1=>∀ p,S1 p=none->lcO g t mi1 g1 t1 m vs1 G p Q (zbM env vs) xs (put S1 p (.lst []))
theorem zth {mi mi1:IM} {g g1:GM} {t t1:TM} {m:EM} {vs vs1:List Nat} (h:mi env S (zur g t mi1 g1 t1 m vs vs1 env Q)):zoL mi g t mi1 g1 t1 m vs vs1 env S Q:=h
instance zuU:St (zrJ ms env S R) (ms env S (kZL R)):=⟨fun h=>znv h⟩
instance zuX:St (zmy env S Q) (∀ p,S p=none->Q (.ref p) (put S p (.dit []))):=⟨fun h=>zny h⟩
instance zwA:St (zwO mo mi' d env S NQ) (mo env S (zsw d mi' env NQ)):=⟨fun h=>zqA h⟩
instance zwk:St (zsw d mi' env NQ e S) (mi' env S (zus d e env NQ)):=⟨fun h=>zqa h⟩
instance zy7:St (mFz me env S Q) (me env S (kFz Q)):=⟨fun h=>zxh h⟩
instance zwv:St (zwJ me env S R) (me env S (zsg R)):=⟨fun h=>zqu h⟩
instance zv1:St (zsg R (.rod ks xs) S) (R (ks.map fun k=>.tup (k.map kD)) (fun _=>True) S):=⟨fun h=>zpN h⟩
instance zvF:St (zq8 me env S Q) (me env S (zly Q)):=⟨fun h=>zpl h⟩
instance zuE {f:Bool}:St (zly Q (.tp f xs) S) (Q (.tup xs.reverse) S):=⟨fun h=>zm8 h⟩
instance zxU {mi mi1:IM} {g g1:GM} {t t1:TM} {m:EM} {vs vs1:List Nat}:St (zoL mi g t mi1 g1 t1 m vs vs1 env S Q) (mi env S (zur g t mi1 g1 t1 m vs vs1 env Q)):=⟨fun h=>zth h⟩
end
def zyt (n:Nat) (fa:List He.Fa) (fn:List He.DefD) (su:List SuD) (file:Str) (ex:List Str):PySem.W.Hook where
 α:=AlX
 obs:=fun s=>obsX fa fn su file ex (kFr n s.heap.get?)
 val:=fun _=>valX fn su
 says:=fun _ h=>∃ K:PySem.W.Frag,K.In h∧obsX fa fn su file ex K=valX fn su
 of:=fun _ _ e=>⟨_,He.frG_in,e⟩
 keeps:=fun _ _ _ ⟨K,hK,c⟩ k=>⟨K,hK.keeps k,c⟩
section
variable {env:Slo} {S:Sto} {A:Fin} {m:SM} {t:TM}
def kWh (W:Nat->Slo->Sto->Prop) (k:Nat) (m:SM) (A:Fin) (env:Slo):Bool->Sto->Prop:=fun b S1=>match b with
 | true=>m { A with nx:=fun e s=>∃ k',k' < k∧W k' e s,ct:=fun e s=>∃ k',k' < k∧W k' e s,bk:=A.nx } env S1
 | false=>A.nx env S1
end
theorem zoy {a:D} {l:List D}:List.map some (a :: l)=some a :: List.map some l:=rfl
theorem zox:List.map (some:D->Option D) []=[]:=rfl
theorem zoz {a:Option D} {l m:List (Option D)}:(a :: l)++m=a :: (l++m):=rfl
theorem zow {m:List (Option D)}:[]++m=m:=rfl
theorem zov {n:Nat}:List.replicate (n+1) (none:Option D)=none :: List.replicate n none:=rfl
theorem zou:List.replicate 0 (none:Option D)=[]:=rfl
theorem zot {a b:Option D} {l:List (Option D)}:List.set (a :: l) 0 b=b :: l:=rfl
theorem zos {a b:Option D} {l:List (Option D)} {n:Nat}:List.set (a :: l) (n+1) b=a :: List.set l n b:=rfl
theorem zor {env:Slo}:zbM env []=env:=rfl
theorem zoq {env:Slo} {v:Nat} {vs:List Nat}:zbM env (v :: vs)=(zbM env vs).set v none:=rfl
section
variable {env env':Slo} {S:Sto} {A:Fin} {d:D} {i:Nat} {NQ:Slo->Sto->Prop}
theorem znq (e:env.set i (some d)=env') (h:A.nx env' S):zmH (gNm i) env A d S:=by subst e;exact h
theorem zqz (e:env.set i (some d)=env') (h:NQ env' S):gNm i d env S NQ:=by subst e;exact h
theorem zlb (e:env.set i (some d)=env') (h:A.nx env' S):zkz i env A d S:=by subst e;exact h
end
theorem zmt {α β γ:Type} {f:α->β} {h:β->Option γ} {g:α->γ}:∀ {xs:List α},(∀ a∈xs,h (f a)=some (g a))->(xs.map f).mapM h=some (xs.map g)
 | [],_=>rfl
 | x :: xs,e=>by
  rw [List.map_cons,List.mapM_cons,e x (List.mem_cons_self ..),zmt fun a ha=>e a (List.mem_cons_of_mem _ ha)]
  rfl
section
variable {S:Sto} {Q:DQ} {g:Bool->Bool} {p q:PyData} {a b:Addr} {fl fl':Bool} {xs ys:List D}
theorem zqM {n:Nat} {ps:List PyData} (e:S a=some (.lst xs)) (h:xs.mapM (rs S n)=some ps):rs S (n+1) (.ref a)=some (.list ps):=by
 unfold rs
 simp only [e,h]
 rfl
theorem ztW {n:Nat} {ps:List PyData} (h:xs.mapM (rs S n)=some ps):rs S (n+1) (.tp fl xs)=some (.tuple ps):=by
 unfold rs
 simp only [h]
 rfl
end
section
variable {X:Cx} {B:Hp}
def zvb (f f':Bool) (xs ys:List D):Bool:=if xs.isEmpty then f' else if ys.isEmpty then f else false
def ziy:BM:=fun d e S Q=>match d,e with
 | .tp f xs,.tp f' ys=>xs.length+ys.length≤sizeLine∧Q (.tp (zvb f f' xs ys) (xs++ys)) S
 | _,_=>False
theorem zlo:∀ d e S (Q Q':DQ),(∀ d S,Q d S->Q' d S)->ziy d e S Q->ziy d e S Q':=by
 intro d e S Q Q' i h
 unfold ziy at h ⊢
 split at h
 ·exact ⟨h.1,i _ _ h.2⟩
 ·exact h.elim
theorem znJ:OpD X (binaryOp .Add) ziy:=by
 refine opd _ ((op_add.or op_add_str).or (op_catA.or op_cat)) (fun x y H Q d e S h1 h2 r h=>?_) zlo
 unfold ziy at h
 split at h
 ·cases h1 with
  | @tup a vs ds f1 s1 z1 t1=>
   cases h2 with
   | @tup b us es f2 s2 z2 t2=>
    have hl:vs.length+us.length≤sizeLine:=by rw [← z1.length,← z2.length];exact h.1
    refine .inr (.inl ⟨_,_,vs,us,rfl,rfl,s1,s2,hl,fun e=>?_,fun _ e=>?_,fun n1 n2=>?_⟩)
    ·subst e
     cases z1
     exact zaC h.2 r (.tup s2 z2 t2)
    ·subst e
     cases z2
     have hq:=h.2
     rename_i n1
     cases z1 with
     | nil=>exact absurd rfl n1
     | cons z0 z1=>exact zaC hq r (by rw [List.append_nil];exact .tup s1 (.cons z0 z1) t1)
    ·have hq:=h.2
     cases z1 with
     | nil=>exact absurd rfl n1
     | cons z0 z1=>
      cases z2 with
      | nil=>exact absurd rfl n2
      | cons y0 z2=>exact zgS hq r ((DVs.cons z0 z1).append (.cons y0 z2))
 ·exact h.elim
def zvi (d:D) (lo hi:Option Int) (S:Sto) (Q:DQ):Prop:=match d with
 | .tp f xs=>∀ g,(g=true->f=true)->Q (.tp g (cutD xs lo hi)) S
 | _=>False
def zvq (m:EM) (lo hi:OM):EM:=fun env S Q=>m env S fun d S1=>lo env S1 fun l S2=>hi env S2 fun h S3=>zvi d l h S3 Q
end
section
variable {env:Slo} {S:Sto} {Q:DQ} {me:EM} {lo hi:OM} {xs ys:List D} {f f':Bool} {l h':Option Int} {d:D}
theorem zqL (hl:xs.length+ys.length≤sizeLine) (h:Q (.tp (zvb f f' xs ys) (xs++ys)) S):ziy (.tp f xs) (.tp f' ys) S Q:=⟨hl,h⟩
def zum (d:D) (l:Option Int) (Q:DQ):Option Int->Sto->Prop:=fun h S3=>zvi d l h S3 Q
def zru (d:D) (hi:OM) (env:Slo) (Q:DQ):Option Int->Sto->Prop:=fun l S2=>hi env S2 (zum d l Q)
def zsf (lo hi:OM) (env:Slo) (Q:DQ):DQ:=fun d S1=>lo env S1 (zru d hi env Q)
theorem zs2 (h:me env S (zsf lo hi env Q)):zvq me lo hi env S Q:=h
theorem zpM (h:lo env S (zru d hi env Q)):zsf lo hi env Q d S:=h
theorem zpL (h:hi env S (zum d l Q)):zru d hi env Q l S:=h
instance zxF:St (zvq me lo hi env S Q) (me env S (zsf lo hi env Q)):=⟨fun h=>zs2 h⟩
instance zv0:St (zsf lo hi env Q d S) (lo env S (zru d hi env Q)):=⟨fun h=>zpM h⟩
instance zvZ:St (zru d hi env Q l S) (hi env S (zum d l Q)):=⟨fun h=>zpL h⟩
end
section
variable {X:Cx} {B:Hp} {o e:Expr} {mo:EM} {ma:AM} {apos cpos pos:Pos} {tg:Expr}
def rPp:MM:=fun d ds S Q=>match d,ds with
 | .ref a,[]=>match S a with
  | some (.lst xs)=>match xs[xs.length - 1]? with
   | some y=>Q y (put S a (.lst xs.dropLast))
   | none=>False
  | _=>False
 | _,_=>False
theorem DVs.dropLast {K:PySem.W.Frag} {H:Hp} {ds:List D} {vs:List V} (h:DVs K H ds vs):DVs K H ds.dropLast vs.dropLast:=by
 rw [List.dropLast_eq_take,List.dropLast_eq_take,← h.length]
 exact h.take _
def rPa:MM:=fun d ds S Q=>match d,ds with
 | .ref a,[.int i]=>match S a with
  | some (.lst xs)=>-(2 ^ 63)≤i∧i < 2 ^ 63∧∃ k y,seqIndex? i xs.length=some k∧xs[k]? = some y∧Q y (put S a (.lst (xs.eraseIdx k)))
  | _=>False
 | _,_=>False
theorem zls:zrZ X "list.pop" rPa:=by
 refine zub _ mt_popAt (fun x xs H Q d ds S h1 h2 r q=>?_) (fun d ds S Q Q' i q=>?_)
 ·unfold rPa at q
  split at q
  ·rename_i a i
   cases h2 with
   | cons d1 d2=>
   cases d2
   cases d1
   cases h1
   split at q
   ·rename_i ys e0
    obtain ⟨us,e,z⟩:=r _ _ e0
    obtain ⟨b1,b2,k,y,hk,hy,q⟩:=q
    obtain ⟨v,ev,dv⟩:=z.get hy
    rw [z.length] at hk
    exact ⟨_,us,i,k,v,rfl,rfl,e,b1,b2,hk,ev,zlX r e (z.eraseIdx k) dv q⟩
   ·exact q.elim
  ·exact q.elim
 ·unfold rPa at q ⊢
  split at q
  ·split at q
   ·obtain ⟨b1,b2,k,y,hk,hy,q⟩:=q
    exact ⟨b1,b2,k,y,hk,hy,i _ _ q⟩
   ·exact q.elim
  ·exact q.elim
theorem zlp (ho:ME X B o mo) (ha:MA X B [e] ma) (hbase:attributeBase o "pop" X.env (eval o X.env)=eval o X.env:=by rfl)
  (hfew:((backTo cpos (starEach [e] X.env)).all (fun x=>!x.1) && (backToKw cpos (keywordEach [] X.env)).all (fun x=>x.1.isSome)
   && decide ([e].length+([]:List Keyword).length+(if ([]:List Keyword).isEmpty then 0 else 1) < 30))=true:=by rfl)
  (hline:(apos.endLine == cpos.line)=true:=by rfl) (hs:starEach [e] X.env=(false,eval e X.env) :: starEach [] X.env:=by rfl) (hplain:(backTo cpos (starEach [] X.env)).any (·.1)=false:=by rfl) :
  ME X B (.Call (.Attribute o "pop" apos) [e] [] cpos) (zfO okL rPa mo ma):=zkn zvk zl3 F.plainAttrs_list F.slot_list_pop F.type_list_pop zls ho ha hbase hfew hline hs hplain
def zvo (lo c:Int) (n:Nat):List D:=(List.range n).map fun (i:Nat)=>.int (lo+(i:Int) * c)
def zkC (m:AM):IM:=fun env S R=>m env S fun ds S1=>match ds with
 | [.int i,.int j,.int c]=>∃ n,RgC i j c n∧R (zvo i c n) (fun _=>True) S1
 | _=>False
end
def zjM (K:PySem.W.Frag) (C:Addr) (su:SuM) (W:XW) (A:Fin):XW:=fun c fs env S=>∃ b,PySem.W.exmOne K c (.ref C)=some b∧(b=true->∀ a,S a=none->su a c fs A env S)∧(b=false->W c fs env S)
def zq7 (K:PySem.W.Frag) (b:XW->SM) (C:Addr) (su:SuM) (W:XW):SM:=fun A env S=>∃ A0,zd5 A0 A∧b (zjM K C su W A0) A0 env S
section
variable {X:Cx} {B:Hp} {W:XW}
structure TabOk (K:PySem.W.Frag) (w:World) (a:Addr) (kvs:List (Str×Int)):Prop where
 kd:∃ es n,KDict K w a es n
 at_:∀ k i,kvs.lookup k=some i->∃ t,PySem.W.nsIn K a k=some (some (.int i t))
def zve (kvs:List (Str×Int)) (m:EM):EM:=fun env S Q=>m env S fun d S1=>match d with
 | .str z=>(match kvs.lookup z with
  | some i=>Q (.int i) S1
  | none=>False)
 | _=>False
end
def zys (n:Nat) (fa:List He.Fa) (fn:List He.DefD) (su:List SuD) (file:Str) (ex:List Str) (tb:List zeV):PySem.W.Hook where
 α:=AlG
 obs:=fun s=>obsG fa fn su file ex tb (kFr n s.heap.get?)
 val:=fun w=>zr3 fn su tb w
 says:=fun w h=>∃ K:PySem.W.Frag,K.In h∧obsG fa fn su file ex tb K=zr3 fn su tb w
 of:=fun _ _ e=>⟨_,He.frG_in,e⟩
 keeps:=fun _ _ _ ⟨K,hK,c⟩ k=>⟨K,hK.keeps k,c⟩
structure Tg (fa:List He.Fa) (fn:List He.DefD) (su:List SuD) (file:Str) (ec:List Str) (tb:List zeV) (w:World) (K:PySem.W.Frag) (mg:Str->Option Value):Prop extends Tz fa fn su file ec K mg where
 tabs:∀ t∈tb,TabOk K w (He.ga K t.1) t.2
theorem lookup_mem {kvs:List (Str×Int)} {k:Str} {i:Int} (h:kvs.lookup k=some i):(k,i)∈kvs:=by
 induction kvs with
 | nil=>cases h
 | cons a r ih=>
  rw [List.lookup_cons] at h
  split at h
  ·rename_i e
   have e':k=a.1:=by simpa using e
   cases h
   subst e'
   exact List.mem_cons_self
  ·exact List.mem_cons_of_mem _ (ih h)
theorem Tg.mk' {fa:List He.Fa} {fn:List He.DefD} {su:List SuD} {file:Str} {ex:List Str} {tb:List zeV} {w:World} {K:PySem.W.Frag} {mg:Str->Option Value} {h:Heap} (X:K.In h) (G:h.Ns mainGlobals mg) (c:obsG fa fn su file ex tb K=zr3 fn su tb w):Tg fa fn su file ex tb w K mg:=by
 refine ⟨Tz.mk' X G (congrArg (fun z:AlG=>z.1) c),fun t ht=>⟨?_,fun k i e=>?_⟩⟩
 ·have c2:(tb.map fun t=>He.dicW K (He.ga K t.1))=tb.map fun t=>some (He.keysIn w.params (t.2.map (·.1))):=congrArg (fun z:AlG=>z.2.2) c
  obtain ⟨i,hi⟩:=List.getElem?_of_mem ht
  have e2:(tb.map fun t=>He.dicW K (He.ga K t.1))[i]? = (tb.map fun t=>some (He.keysIn w.params (t.2.map (·.1))))[i]?:=by rw [c2]
  rw [List.getElem?_map,List.getElem?_map,hi] at e2
  exact He.dicW_ok (Option.some.inj e2)
 ·have c1:tb.all (zvl K)=true:=congrArg (fun z:AlG=>z.2.1) c
  have c3:=List.all_eq_true.mp (List.all_eq_true.mp c1 t ht) _ (lookup_mem e)
  dsimp only at c3
  split at c3
  ·rename_i j tt e3
   have:=of_decide_eq_true c3
   subst this
   exact ⟨tt,e3⟩
  ·cases c3
theorem Tx.str {fa:List He.Fa} {fn:List He.DefD} {K:PySem.W.Frag} {mg:Str->Option Value} (T:Tx fa fn K mg) (i:Nat) {x z:Str} (h:fa[i]? = some (.str x z):=by rfl):∃ t,mg x=some (.str z t):=by
 obtain ⟨_,X,G,c⟩:=T.ex
 exact He.str_ok X G (c.fact i h)
section
variable {K:PySem.W.Frag} {b:XW->SM} {C:Addr} {su:SuM} {W:XW} {A:Fin} {env:Slo} {S:Sto} {Q:DQ} {m:EM} {kvs:List (Str×Int)}
theorem zpi (h:b (zjM K C su W A) A env S):zq7 K b C su W A env S:=⟨A,zd5.refl A,h⟩
end
structure Enc {α:Type} [DecidableEq α] (k:Nat) (f:α->D) (g:α->PyData):Prop where
 rd:∀ (S:Sto) (n:Nat) (a:α),k≤n->rs S n (f a)=some (g a)
 eq:∀ a b,PyData.eqv (g a) (g b)=decide (a=b)
theorem zcm:Enc 0 D.str PyData.str:=⟨fun S n a _=>by cases n <;> rfl,fun a b=>(zfb a b).symm⟩
theorem zop:Enc 0 D.int PyData.int:=⟨fun S n a _=>by cases n <;> rfl,fun a b=>by
 show decide (a=b)=_
 rfl⟩
section
variable {α β:Type} [DecidableEq α] [DecidableEq β] {k k':Nat} {f:α->D} {g:α->PyData} {f':β->D} {g':β->PyData}
theorem Enc.mono (h:Enc k f g) (hk:k≤k'):Enc k' f g:=⟨fun S n a hn=>h.rd S n a (by omega),h.eq⟩
theorem Enc.all (h:Enc k f g):∀ xs ys:List α,PyData.eqvAll (xs.map g) (ys.map g)=decide (xs=ys)
 | [],[]=>by simp [PyData.eqvAll]
 | [],y :: ys=>by simp [PyData.eqvAll]
 | x :: xs,[]=>by simp [PyData.eqvAll]
 | x :: xs,y :: ys=>by
  rw [List.map_cons,List.map_cons,PyData.eqvAll,h.eq,h.all xs ys]
  by_cases e:x=y
  ·subst e;simp
  ·simp [e]
theorem Enc.many (h:Enc k f g) (S:Sto) {n:Nat} (hn:k≤n) (xs:List α):(xs.map f).mapM (rs S n)=some (xs.map g):=zmt fun a _=>h.rd S n a hn
theorem Enc.tup (h:Enc k f g) (fl:Bool):Enc (k+1) (fun xs:List α=>D.tp fl (xs.map f)) (fun xs=>.tuple (xs.map g)):=⟨fun S n a hn=>by
 obtain ⟨n,rfl⟩:∃ m,n=m+1:=⟨n - 1,by omega⟩
 show ((a.map f).mapM (rs S n)).map PyData.tuple=_
 rw [h.many S (by omega)]
 rfl,fun a b=>by rw [PyData.eqv,h.all]⟩
theorem Enc.cons (h:Enc k f g) (h':Enc k f' g') (fl:Bool):Enc (k+1) (fun z:α×List β=>D.tp fl (f z.1 :: z.2.map f')) (fun z=>.tuple (g z.1 :: z.2.map g')):=⟨fun S n a hn=>by
 obtain ⟨n,rfl⟩:∃ m,n=m+1:=⟨n - 1,by omega⟩
 show ((f a.1 :: a.2.map f').mapM (rs S n)).map PyData.tuple=_
 rw [List.mapM_cons,h.rd S n _ (by omega),h'.many S (by omega)]
 rfl,fun a b=>by
 obtain ⟨a1,a2⟩:=a
 obtain ⟨b1,b2⟩:=b
 rw [PyData.eqv,PyData.eqvAll,h.eq,h'.all]
 by_cases e:a1=b1
 ·subst e
  by_cases e2:a2=b2
  ·subst e2;simp
  ·simp [e2]
 ·simp [e]⟩
theorem Enc.pair (h:Enc k f g) (h':Enc k f' g') (fl:Bool):Enc (k+1) (fun z:α×β=>D.tp fl [f z.1,f' z.2]) (fun z=>.tuple [g z.1,g' z.2]):=⟨fun S n a hn=>by
 obtain ⟨n,rfl⟩:∃ m,n=m+1:=⟨n - 1,by omega⟩
 show ([f a.1,f' a.2].mapM (rs S n)).map PyData.tuple=_
 rw [List.mapM_cons,List.mapM_cons,h.rd S n _ (by omega),h'.rd S n _ (by omega)]
 rfl,fun a b=>by
 obtain ⟨a1,a2⟩:=a
 obtain ⟨b1,b2⟩:=b
 rw [PyData.eqv,PyData.eqvAll,PyData.eqvAll,PyData.eqvAll,h.eq,h'.eq]
 by_cases e:a1=b1
 ·subst e
  by_cases e2:a2=b2
  ·subst e2;simp
  ·simp [e2]
 ·simp [e]⟩
theorem Enc.any (h:Enc k f g) (z:α):∀ zs:List α,((zs.map g).any fun y=>PyData.eqv y (g z))=decide (z∈zs)
 | []=>by simp
 | y :: zs=>by
  rw [List.map_cons,List.any_cons,h.any z zs,h.eq]
  by_cases e:y=z
  ·subst e;simp
  ·have e2:¬ z=y:=fun q=>e q.symm
   simp [e,e2]
variable {S:Sto} {Q:DQ} {u:Bool->Bool} {a b:Addr} {z y:α} {zs ys:List α}
theorem Enc.inL (h:Enc k f g) (hk:k≤39) (e0:S a=some (.lst (zs.map f))) (q:Q (.bl (u (decide (z∈zs)))) S):zh0 u (f z) (.ref a) S Q:=
 znt e0 (h.rd S 40 z (by omega)) (zqM e0 (h.many S (by omega) zs)) (by rw [h.any];exact q)
theorem Enc.inT (h:Enc k f g) (hk:k≤39) {fl:Bool} (q:Q (.bl (u (decide (z∈zs)))) S):zh0 u (f z) (.tp fl (zs.map f)) S Q:=
 zg3 (h.rd S 40 z (by omega)) (ztW (h.many S (by omega) zs)) (by rw [h.any];exact q)
theorem ziQ {d e:D} {p q:PyData} (e1:rs S 40 d=some p) (e2:rs S 40 e=some q) (h:Q (.bl (u (PyData.eqv p q))) S):zg8 u d e S Q:=by
 unfold zg8
 split
 ·cases e1;cases e2
  rw [zfb];exact h
 ·cases e1;cases e2
  exact h
 ·cases e1;cases e2
  rename_i x y
  have e:PyData.eqv (.bool x) (.bool y)=decide (x=y):=by
   cases x <;> cases y <;> rfl
  rw [e] at h
  exact h
 ·simp only [e1,e2]
  exact h
theorem Enc.eqv (h:Enc k f g) (hk:k≤40) (q:Q (.bl (u (decide (z=y)))) S):zg8 u (f z) (f y) S Q:=
 ziQ (h.rd S 40 z hk) (h.rd S 40 y hk) (by rw [h.eq];exact q)
end
section
variable {env:Slo} {S:Sto} {Q:DQ} {ms:AM} {R:List D->(Sto->Prop)->Sto->Prop} {xs:List D} {a:Addr}
def kR3 (R:List D->(Sto->Prop)->Sto->Prop):List D->Sto->Prop:=fun ds S1=>match ds with
 | [.int i,.int j,.int c]=>∃ n,RgC i j c n∧R (zvo i c n) (fun _=>True) S1
 | _=>False
theorem ztE (h:ms env S (kR3 R)):zkC ms env S R:=h
instance zx8:St (zkC ms env S R) (ms env S (kR3 R)):=⟨fun h=>ztE h⟩
theorem zmZ {i:Int} {k:Nat} {y:D} (e0:S a=some (.lst xs)) (b1:-(2 ^ 63)≤i) (b2:i < 2 ^ 63) (hk:seqIndex? i xs.length=some k) (hy:xs[k]? = some y) (h:Q y (put S a (.lst (xs.eraseIdx k)))):rPa (.ref a) [.int i] S Q:=by
 unfold rPa
 simp only [e0]
 exact ⟨b1,b2,k,y,hk,hy,h⟩
theorem zpo {k:Nat} {y:D} (e0:S a=some (.lst xs)) (hl:xs.length≤1000000) (hy:xs[k]? = some y) (h:Q y (put S a (.lst (xs.eraseIdx k)))):rPa (.ref a) [.int (k:Int)] S Q:=by
 have hk:k < xs.length:=(List.getElem?_eq_some_iff.mp hy).1
 refine zmZ e0 (by omega) (by omega) ?_ hy h
 unfold seqIndex?
 have h1:¬ (k:Int) < 0:=by omega
 simp [h1,hk]
variable {K:PySem.W.Frag} {b:XW->SM} {C:Addr} {su:SuM} {W:XW} {A:Fin} {m:EM} {kvs:List (Str×Int)}
instance zvD:St (zq7 K b C su W A env S) (b (zjM K C su W A) A env S):=⟨fun h=>zpi h⟩
def zvv (kvs:List (Str×Int)) (Q:DQ):DQ:=fun d S1=>match d with
 | .str z=>(match kvs.lookup z with
  | some i=>Q (.int i) S1
  | none=>False)
 | _=>False
theorem zpj (h:m env S (zvv kvs Q)):zve kvs m env S Q:=h
instance zxC:St (zve kvs m env S Q) (m env S (zvv kvs Q)):=⟨fun h=>zpj h⟩
end
def zlZ (C:Addr) (sp:SpD) (g:Bool->Bool):BM:=fun d e S Q=>match d,e with
 | .ref a,.ref b=>(∃ fs,S a=some (.ins C fs))∧(∃ fs,S b=some (.ins C fs))∧sp [.ref a,.ref b] S (fun v S'=>∃ r,v = .bl r∧Q (.bl (g r)) S') (fun _ _ _=>False)
 | _,_=>False
theorem znQ {C:Addr} {sp:SpD} {g:Bool->Bool} (hs:zd4 sp):∀ d e S (Q Q':DQ),(∀ d S,Q d S->Q' d S)->zlZ C sp g d e S Q->zlZ C sp g d e S Q':=fun d e S Q Q' i h=>by
 unfold zlZ at h ⊢
 split at h
 ·exact ⟨h.1,h.2.1,hs _ _ _ _ _ _ (fun v S' ⟨r,e,q⟩=>⟨r,e,i _ _ q⟩) (fun _ _ _ z=>z) h.2.2⟩
 ·exact h.elim
structure EqC (K:PySem.W.Frag) (C f:Addr):Prop where
 hs:PySem.W.findIn K (.ref C) "__eq__" = some (some (.ref f))
 hf:PySem.W.isFn K (.ref f)=true
 own:∀ h:Heap,K.In h->∀ x o,h.get? x=some o->o.cls = .ref C->h.OwnEqNoNe x C f "object" [.type "object"]
section
variable {X:Cx} {k:Nat} {C f:Addr} {sp:SpD}
theorem zlk {σ:L2.St}:PassesAt (L2.CX X.prog X.w) X σ (fun _ _ _=>False):=fun _ _ _ _ _ _ c=>by
 obtain ⟨_,_,_,_,_,_,_,_,_,_,_,_,z⟩:=c
 exact z.elim
theorem zka {pins:List (Addr×Obj)} {σ:L2.St} {H:Hp} {s:Shared} {a:Addr} (I:Inv X pins σ H s) {dx:Addr} {fs:List (Str×V)} (h:H a=some (.ins C dx fs)):∃ o od,PySem.W.InstAt s.heap a o C od:=by
 obtain ⟨mA,J,_⟩:=ins_get I.hok h
 obtain ⟨od,J,_⟩:=J.look
 exact ⟨_,od,J⟩
theorem zpc (F:zd4 sp) {H:Hp} {S:Sto} {a b:Addr} {Q:VK} {g:Bool->Bool} (rp:Rp X.K X.prog X.w S H) (q:sp [.ref a,.ref b] S (fun v S'=>∃ r,v = .bl r∧dnE X.K X.prog X.w H Q (.bl (g r)) S') (fun _ _ _=>False)) :
  zhv X.K X.prog X.w sp [.ref a,.ref b] H (fun v H'=>∃ r,v = .bl r∧Q (.bl (g r)) H') (fun _ _ _=>False):=by
 refine ⟨[.ref a,.ref b],S,.cons (.ref a) (.cons (.ref b) .nil),rp,F _ _ _ _ _ _ (fun v S' z u H' l r dv=>?_) (fun _ _ _ z=>z.elim) q⟩
 obtain ⟨r',rfl,z⟩:=z
 cases dv
 exact ⟨r',rfl,z (.bl (g r')) H' l r (.bl _)⟩
theorem ziX (F:Fd X.prog X.w X.K X.mg X.base k f sp) (hr:Room k X.A) (U:EqC X.K C f):OpD X (compareOp .Eq) (zlZ C sp fun b=>b):=by
 obtain ⟨fd,ps,F1,bi⟩:=F.ex
 refine ⟨fun pins s σ H x y u v Q I rx ry h=>?_,znQ F.mono⟩
 obtain ⟨d,e,S,dx,dy,rp,h⟩:=h
 unfold zlZ at h
 split at h
 ·rename_i a b
  obtain ⟨⟨fs,ea⟩,⟨gs,eb⟩,q⟩:=h
  cases dx
  cases dy
  obtain rfl:u=Value.ref a:=rx
  obtain rfl:v=Value.ref b:=ry
  obtain ⟨da,va,ha,_⟩:=rp _ _ ea
  obtain ⟨db,vb,hb,_⟩:=rp _ _ eb
  obtain ⟨oa,oda,J⟩:=zka I ha
  obtain ⟨ob,odb,J'⟩:=zka I hb
  obtain ⟨m,hF⟩:=I.fr
  show wpAny _ _ (richCompare .Eq (.ref a) (.ref b)) _ _ _
  refine PySem.W.cmp_K (op:=.Eq) (tb:=.ref C) hr.units0 hF I.ok.mod.kin J J'.type (by simp [PySem.W.notFirst]) U.hs U.hf ?_
  refine wpAny_mono (run_fnS (E:=fun _ _ _ _=>False) F1 hr bi zlk I (us:=[.ref a,.ref b]) (vs:=[.ref a,.ref b]) (.cons rfl (.cons rfl .nil)) (zpc F.mono rp q)) (fun w s' z=>?_) fun _ _ z=>z
  obtain ⟨vv,H',I',rv,r,ev,z⟩:=z
  subst ev
  obtain rfl:w=Value.bool r:=rv
  exact ⟨.bl r,H',I',rfl,z⟩
 ·exact h.elim
end
theorem zqW:typeLookup (.type "object") ("__eq__" : Str)=pure (some (.builtin "object.__eq__")):=by kernel_rfl
theorem zjC {K:PySem.W.Frag} {h:Heap} {N:Addr} {mg:Str->Option Value} {n:Str} {v:Value} (X:K.In h) (G:h.Ns N mg) (e:PySem.W.nsIn K N n=some (some v)):mg n=some v:=by
 obtain ⟨o,es,ep,ho,hd,_,hf⟩:=G
 unfold PySem.W.nsIn at e
 split at e
 ·rename_i c d es' n' sl q
  have:=X _ _ q
  rw [ho] at this
  cases this
  cases hd
  split at e
  ·rename_i en he
   rw [← hf]
   unfold nsFind findBy
   rw [← Array.find?_toList,he]
   exact Option.some.inj e
  ·split at e <;> cases e
 ·cases e
theorem zqY {K:PySem.W.Frag} {C:Addr} (h:neB K C=true):∀ hp:Heap,K.In hp->∀ x o,hp.get? x=some o->o.cls = .ref C->hp.OwnEqNoNe x C (He.ma K C "__eq__") "object" [.type "object"]:=by
 intro hp X x ox hx hc
 obtain ⟨h1,h2⟩:=He.ba h
 split at h2
 ·rename_i t2 d2 dt2 sl2 q2
  have e2:=of_decide_eq_true h2
  subst e2
  have hfo:=X _ _ q2
  split at h1
  ·rename_i t dd cd sl q
   split at h1
   ·rename_i C' o' k0 k1 k2 k3 n k5 em es
    obtain ⟨j0,h1⟩:=He.ba h1
    obtain ⟨j1,h1⟩:=He.ba h1
    obtain ⟨j2,h1⟩:=He.ba h1
    obtain ⟨j3,h1⟩:=He.ba h1
    obtain ⟨j4,h1⟩:=He.ba h1
    obtain ⟨j5,h1⟩:=He.ba h1
    obtain ⟨j6,j7⟩:=He.ba h1
    have i0:=of_decide_eq_true j0
    have i1:=of_decide_eq_true j1
    have i2:=of_decide_eq_true j2
    have i3:=of_decide_eq_true j3
    have i4:cd.hasDel=false:=by simpa using j4
    subst i0 i1 i2 i3
    obtain ⟨nm,bs,mro,ns,qn,hd,sn,sb,ab,col,del⟩:=cd
    dsimp only at em i4 j5 j6 j7
    subst em i4
    have esl:sl = #[k0,k1,k2,k3,some (.builtin "object.__new__"),k5]:=by
     rw [← Array.toList_inj]
     exact es
    subst esl
    have N:hp.Ns ns (hp.nsMap ns):=.of_isNs (PySem.W.isNs_of_in X j5)
    exact ⟨ox,_,nm,qn,ns,bs,hd,sn,sb,ab,col,dd,k0,k1,k2,k3,k5, "object.__new__", hp.nsMap ns,_,hx,hc,X _ _ q,N,zjC X N (He.eqO_ok j6),hfo,rfl,PySem.F.mro_object,zqW,PySem.W.ns_none_of X N (He.eqO_ok j7)⟩
   ·cases h1
  ·cases h1
 ·cases h2
def zsS (K:PySem.W.Frag) (f g:Str):Sp:=fun vs H Q _=>∃ (a:Addr) (y z:V) (C:Addr),vs=[.ref a,y,z]∧OexC K C∧PySem.W.findIn K (.ref C) f=some none∧PySem.W.findIn K (.ref C) g=some none∧H a=some (exo a C none)∧
 ∀ dx,H dx=none->dx≠a->Q .non (upd (upd (upd H dx (exd dx [(f,y)])) a (exo a C (some dx))) dx (exd dx [(g,z),(f,y)]))
theorem zon {P:Program} {w:World} {K:PySem.W.Frag} {mg:Str->Option Value} {base:Heap} {CX:CXT} {qual f g pn qn:Str} {params:Arguments} {body:List Stmt} {scope:Scope} {fI:Addr} {fd:FuncData} {p0 p1 p2 p3 q0 q1 q2 q3:Pos} (F:FunD K "__init__" qual params body scope [] [] fI fd) (S:FnScope ["self", pn,qn] ["self", pn,qn] scope)
  (hb:body=[.Assign [.Attribute (.Name "self" p0) f p1] (.Name pn p2) p3,.Assign [.Attribute (.Name "self" q0) g q1] (.Name qn q2) q3])
  (h1:∀ (X:Cx),X.N=(["self", pn,qn]:List Str)->X.env.scope=scope->PE X (.Name "self" p0) (tVar 0)∧PE X (.Name pn p2) (tVar 1)∧swapsWith (.Name pn p2) (some (.Attribute (.Name "self" p0) f p1)) p3.line X.env=pure false∧
   PE X (.Name "self" q0) (tVar 0)∧PE X (.Name qn q2) (tVar 2)∧swapsWith (.Name qn q2) (some (.Attribute (.Name "self" q0) g q1)) q3.line X.env=pure false) :
  FnOk P w K mg base CX 1 fI fd ["self", pn,qn] (zsS K f g):=by
 refine F.ok S (fun vs H Q E h=>?_) (fun cdv A outer s H vs Q E hr h=>?_)
 ·obtain ⟨a,y,z,C,rfl,_⟩:=h
  rfl
 ·obtain ⟨g1,g2,g3,g4,g5,g6⟩:=h1 (cxOf CX P w K mg base ["self", pn,qn] qual scope fI cdv A outer s H E) rfl rfl
  subst hb
  refine ⟨_,pss_cons (ps_ost g1 g2 g3) (pss_one (ps_ost g4 g5 g6)),?_⟩
  ·obtain ⟨a,y,z,C,rfl,T,hno,hno2,ea,hq⟩:=h
   refine ⟨y,rfl,.ref a,rfl,a,C,rfl,T,hno,.inl ⟨ea,fun dx hd hne=>?_⟩⟩
   exact ⟨z,rfl,.ref a,rfl,a,C,rfl,T,hno2,.inr ⟨dx,[(f,y)],upd_same,(upd_ne hne).trans upd_same,by simp,hq dx hd hne⟩⟩
structure zoG (P:Program) (w:World) (K:PySem.W.Frag) (mg:Str->Option Value) (base:Heap) (x f g:Str):Prop where
 gC:mg x=some (.ref (He.ga K x))
 oex:OexC K (He.ga K x)
 iC:PySem.W.findIn K (.ref (He.ga K x)) "__init__" = some (some (.ref (He.ma K (He.ga K x) "__init__")))
 tI:PySem.W.typeIn K (.ref (He.ma K (He.ga K x) "__init__"))=some (.type "function")
 hno1:PySem.W.findIn K (.ref (He.ga K x)) f=some none
 hno2:PySem.W.findIn K (.ref (He.ga K x)) g=some none
 xf:XfC K (He.ga K x)
 fn:∃ fd ps,FnOk P w K mg base (L2.CX P w) 1 (He.ma K (He.ga K x) "__init__") fd ps (zsS K f g)∧Binds K fd ps []
def zdD (C:Addr) (f g:Str) (W:XW) (ma:AM):SM:=fun _ env S=>ma env S fun ds S1=>match ds with
 | [y,z]=>W (.ref C) [(g,z),(f,y)] env S1
 | _=>False
section
variable {X:Cx} {B:Hp} {W:XW} {ma:AM} {x f g:Str} {p pos pos':Pos} {e e2:Expr}
theorem zc3 (hc:X.calm=true) (tk:Tk X B W) (hr:Room 2 X.A) (U:zoG X.prog X.w X.K X.mg X.base x f g) (ha:MA X B [e,e2] ma) (hg:Gl X x:=by rfl) (hdb:(x == ("__debug__" : Str))=false:=by decide)
  (he:starEach [e,e2] X.env=(false,eval e X.env) :: starEach [e2] X.env:=by rfl) (hpl:(backTo pos (starEach [e2] X.env)).any (·.1)=false:=by rfl):MS X B (.Raise (some (.Call (.Name x p) [e,e2] [] pos)) none pos') (zdD (He.ga X.K x) f g W ma):=by
 obtain ⟨fd,ps,F1,bi⟩:=U.fn
 have none:Passes (L2.CX X.prog X.w) X (fun _ _ _=>False):=fun pins σ H s e s' I c=>by
  obtain ⟨_,_,_,_,_,_,_,_,_,_,_,_,z⟩:=c
  exact z.elim
 refine ⟨zcZ (ps_raise hc tk (pmk_oex U.oex U.iC U.tI F1 hr bi .nil none hg U.gC ha.pa hdb he hpl)) fun D' σ H q=>?_,fun A A' env S _ q=>q⟩
 obtain ⟨lB,env,S,er,rp,q⟩:=q
 refine ⟨lB,env,S,er,rp,ha.mono _ _ _ _ (fun ds S1 z vs H1 l1 z1 dv=>?_) q⟩
 split at z
 ·rename_i y y2
  cases dv with
  | @cons _ _ v _ d1 d2=>
   cases d2 with
   | @cons _ _ v2 _ d2 d3=>
   cases d3
   refine ⟨by simp,fun a na=>⟨a,v,v2,He.ga X.K x,rfl,U.oex,U.hno1,U.hno2,upd_same,fun dx hdx hne=>⟨rfl,dx,[(g,v2),(f,v)],(upd_ne hne.symm).trans upd_same,upd_same,(upd_ne hne).symm.trans hdx,?_⟩⟩⟩
   have hd1:H1 dx = .none:=(upd_ne hne).symm.trans hdx
   have at_:∀ b,b≠a->b≠dx->upd (del (upd (upd (upd (upd H1 a (exo a (He.ga X.K x) .none)) dx (exd dx [(f,v)])) a (exo a (He.ga X.K x) (some dx))) dx (exd dx [(g,v2),(f,v)])) a) dx (.xd [(g,v2),(f,v)]) b=H1 b:=fun b h1 h2=>by
    rw [upd_ne h2,del_ne h1,upd_ne h2,upd_ne h1,upd_ne h2,upd_ne h1]
   have off:∀ b o,H1 b=some o->b≠a∧b≠dx:=fun b o eb=>⟨fun z=>(by subst z;rw [na] at eb;cases eb),fun z=>(by subst z;rw [hd1] at eb;cases eb)⟩
   have le:Le H1 (upd (del (upd (upd (upd (upd H1 a (exo a (He.ga X.K x) .none)) dx (exd dx [(f,v)])) a (exo a (He.ga X.K x) (some dx))) dx (exd dx [(g,v2),(f,v)])) a) dx (.xd [(g,v2),(f,v)])):=
    ⟨fun b xs eb=>(at_ b (off b _ eb).1 (off b _ eb).2).trans eb,fun b o u eb=>(at_ b (off b _ eb).1 (off b _ eb).2).trans eb,fun b u eb=>(at_ b (off b _ eb).1 (off b _ eb).2).trans eb⟩
   refine ⟨(lB.trans l1).trans le,env,S1,[(g,y2),(f,y)],(er.le l1).le le,fun b o eb=>?_,⟨[(g,v2),(f,v)],upd_same,.cons (d2.le le) (.cons (d1.le le) .nil)⟩,z⟩
   obtain ⟨u,eu,_⟩:=(z1 b o eb).some
   exact (z1 b o eb).at le (at_ b (off b _ eu).1 (off b _ eu).2)
 ·exact z.elim
end
theorem Tz.exc2 {fa:List He.Fa} {fn:List He.DefD} {su:List SuD} {file:Str} {ex:List Str} {K:PySem.W.Frag} {mg:Str->Option Value} {P:Program} {w:World} {base:Heap} (T:Tz fa fn su file ex K mg) {x f h:Str} (j g m n o:Nat) (hj:ex[j]? = some x) (hg:fa[g]? = some (.glo x)) (hm:fa[m]? = some (.meth x "__init__")) (hn:fa[n]? = some (.noat x f)) (ho:fa[o]? = some (.noat x h))
  (hf:∃ fd ps,FnOk P w K mg base (L2.CX P w) 1 (He.ma K (He.ga K x) "__init__") fd ps (zsS K f h)∧Binds K fd ps []):zoG P w K mg base x f h:=by
 obtain ⟨e1,e2⟩:=He.ba (T.exs x (List.mem_of_getElem? hj))
 have M:=T.meth m hm
 exact ⟨T.glo g hg,zkd e1,M.at_,beq_iff_eq.mp M.fn,T.noat n hn,T.noat o ho,xfB_ok e2,hf⟩
structure IsC (K:PySem.W.Frag) (C:Addr):Prop where
 cl:Cls K C
 ha:PySem.W.findIn K (.ref C) "__class__" = some (some (.builtin "object.__class__"))
 hn:PySem.W.specialIn K (.builtin "object.__class__") "__get__" = some (some (.builtin "getset_descriptor.__get__"))
 htk:PySem.W.takesIn K (.builtin "object.__class__")=some true
 hm:PySem.W.mroIn K C (.type "object")=some true
theorem zrH {K:PySem.W.Frag} {C:Addr} (h:isB K C=true) (c:Cls K C):IsC K C:=by
 obtain ⟨h1,h⟩:=He.ba h
 obtain ⟨h2,h⟩:=He.ba h
 obtain ⟨h3,h4⟩:=He.ba h
 exact ⟨c,He.eqO_ok h1,He.eqO_ok h2,of_decide_eq_true h3,of_decide_eq_true h4⟩
def zo0 (C:Addr):CM:=fun ds S Q=>match ds with
 | [.ref a,.ref c]=>c=C∧(∃ fs,S a=some (.ins C fs))∧Q (.bl true) S
 | _=>False
theorem zrW {X:Cx} {C:Addr} (U:IsC X.K C):zfq X (.builtin "isinstance") (zo0 C):=by
 refine zgW _ call_isi (fun xs H Q ds S h r q=>?_) (fun ds S Q Q' i q=>?_)
 ·unfold zo0 at q
  split at q
  ·obtain ⟨rfl,⟨fs,ea⟩,q⟩:=q
   obtain ⟨v,u,rfl,z,z'⟩:=zu7 h
   cases z
   cases z'
   obtain ⟨dx,vs,e,_⟩:=r _ _ ea
   exact ⟨_,_,_,_,true,rfl,.own _,.base (.ins e U.cl U.ha U.hn U.htk U.hm),by unfold PySem.W.kitOne;simp,zaC q r (.bl _)⟩
  ·exact q.elim
 ·unfold zo0 at q ⊢
  split at q
  ·exact ⟨q.1,q.2.1,i _ _ q.2.2⟩
  ·exact q.elim
theorem zn3 {X:Cx} {B:Hp} {x:Str} {a:Addr} {pos:Pos} (h:X.mg x=some (.ref a)) (hg:Gl X x:=by rfl) (hd:(x == ("__debug__" : Str))=false:=by decide):ME X B (.Name x pos) (mC (.ref a)):=zn7 (pe_glob (v:=.ref a) hg h rfl hd) fun _=>.ref a
theorem zty {C a:Addr} {S:Sto} {Q:DQ} {fs:List (Str×D)} (e:S a=some (.ins C fs)) (h:Q (.bl true) S):zo0 C [.ref a,.ref C] S Q:=⟨rfl,⟨_,e⟩,h⟩
def hookE (n:Nat) (fa:List He.Fa) (fn:List He.DefD) (su:List SuD) (file:Str) (ex:List Str) (tb:List zeV) (eq:List Str):PySem.W.Hook where
 α:=AlE
 obs:=fun s=>obsE fa fn su file ex tb eq (kFr n s.heap.get?)
 val:=fun w=>valE fn su tb w
 says:=fun w h=>∃ K:PySem.W.Frag,K.In h∧obsE fa fn su file ex tb eq K=valE fn su tb w
 of:=fun _ _ e=>⟨_,He.frG_in,e⟩
 keeps:=fun _ _ _ ⟨K,hK,c⟩ k=>⟨K,hK.keeps k,c⟩
structure Te (fa:List He.Fa) (fn:List He.DefD) (su:List SuD) (file:Str) (ec:List Str) (tb:List zeV) (eq:List Str) (w:World) (K:PySem.W.Frag) (mg:Str->Option Value):Prop extends Tg fa fn su file ec tb w K mg where
 eqs:∀ x∈eq,(neB K (He.ga K x) && isB K (He.ga K x))=true
theorem Te.mk' {fa:List He.Fa} {fn:List He.DefD} {su:List SuD} {file:Str} {ex:List Str} {tb:List zeV} {eq:List Str} {w:World} {K:PySem.W.Frag} {mg:Str->Option Value} {h:Heap} (X:K.In h) (G:h.Ns mainGlobals mg) (c:obsE fa fn su file ex tb eq K=valE fn su tb w):Te fa fn su file ex tb eq w K mg:=
 ⟨Tg.mk' X G (congrArg (fun z:AlE=>z.1) c),List.all_eq_true.mp (congrArg (fun z:AlE=>z.2) c)⟩
theorem Te.eqc {fa:List He.Fa} {fn:List He.DefD} {su:List SuD} {file:Str} {ex:List Str} {tb:List zeV} {eq:List Str} {w:World} {K:PySem.W.Frag} {mg:Str->Option Value} (T:Te fa fn su file ex tb eq w K mg) (i m:Nat) {x:Str} (h:eq[i]? = some x:=by rfl) (hm:fa[m]? = some (.meth x "__eq__"):=by rfl):EqC K (He.ga K x) (He.ma K (He.ga K x) "__eq__"):=
 ⟨(T.meth m hm).at_,(T.meth m hm).fn,zqY (He.ba (T.eqs x (List.mem_of_getElem? h))).1⟩
theorem Te.isc {fa:List He.Fa} {fn:List He.DefD} {su:List SuD} {file:Str} {ex:List Str} {tb:List zeV} {eq:List Str} {w:World} {K:PySem.W.Frag} {mg:Str->Option Value} (T:Te fa fn su file ex tb eq w K mg) (i m:Nat) {x:Str} (h:eq[i]? = some x:=by rfl) (hm:fa[m]? = some (.cls x):=by rfl):IsC K (He.ga K x):=
 zrH (He.ba (T.eqs x (List.mem_of_getElem? h))).2 (T.cls m hm)
section
variable {env:Slo} {S:Sto} {Q:DQ} {ma:AM} {A:Fin} {C:Addr} {f g':Str} {W:XW} {d e:D}
def zsh (C:Addr) (f g:Str) (W:XW) (env:Slo):List D->Sto->Prop:=fun ds S1=>match ds with
 | [y,z]=>W (.ref C) [(g,z),(f,y)] env S1
 | _=>False
theorem zk8 (h:ma env S (zsh C f g' W env)):zdD C f g' W ma A env S:=h
theorem zpO (h:W (.ref C) [(g',e),(f,d)] env S):zsh C f g' W env [d,e] S:=h
instance zsD:St (zdD C f g' W ma A env S) (ma env S (zsh C f g' W env)):=⟨fun h=>zk8 h⟩
instance zv2:St (zsh C f g' W env [d,e] S) (W (.ref C) [(g',e),(f,d)] env S):=⟨fun h=>zpO h⟩
theorem zpp {sp:SpD} {g:Bool->Bool} {a b:Addr} {fs gs:List (Str×D)} (e1:S a=some (.ins C fs)) (e2:S b=some (.ins C gs)) (h:sp [.ref a,.ref b] S (fun v S'=>∃ r,v = .bl r∧Q (.bl (g r)) S') (fun _ _ _=>False)):zlZ C sp g (.ref a) (.ref b) S Q:=⟨⟨_,e1⟩,⟨_,e2⟩,h⟩
end
section
open PyProof.Rows
variable {prog:Program} {w:World} {A:Around} {E:Value->Shared->Prop} {s:Shared}
end
section
variable {X:Cx}
end
section
variable {X:Cx} {B:Hp} {pos:Pos}
def zyy:BM:=fun d e S Q=>match d,zlw e with
 | .ref a,some k=>match S a with
  | some (.dit kvs)=>match valD kvs k with
   | some v=>Q v S
   | none=>False
  | _=>False
 | _,_=>False
def zwZ (g:Bool->Bool):BM:=fun d e S Q=>match zlw d,e with
 | some k,.ref a=>match S a with
  | some (.dit kvs)=>Q (.bl (g (valD kvs k).isSome)) S
  | _=>False
 | _,_=>False
def zvh:CM:=fun ds S Q=>match ds with
 | [.tp _ xs]=>∃ ns:List Int,xs=ns.map D.int∧ns.length < 64∧∀ ns':List Int,ns'.Perm ns->ns'.Pairwise (·≤·)->∀ p,S p=none->Q (.ref p) (put S p (.lst (ns'.map D.int)))
 | _=>False
def zrh (m:EM):EM:=fun env S Q=>m env S fun d S1=>match d with
 | .int i=>Q (.int (Builtin.Int.intBits i:Nat)) S1
 | _=>False
end
def gTL (n:Nat) (gs:GsM):GM:=fun d env S Q=>match d with
 | .ref a=>match S a with
  | some (.lst ds)=>ds.length=n∧gs ds env S Q
  | _=>False
 | _=>False
section
variable {X:Cx} {B:Hp} {pos:Pos}
end
def zyQ (i j:Nat) (ma:AM):SM:=fun A env S=>ma env S fun ds S1=>match ds with
 | [d,e]=>A.nx ((env.set i (some d)).set j (some e)) S1
 | _=>False
section
variable {X:Cx} {B:Hp} {pos:Pos}
end
section
variable {env:Slo} {S:Sto} {ma:AM} {A:Fin} {i j:Nat} {d e:D}
def zyT (i j:Nat) (A:Fin) (env:Slo):List D->Sto->Prop:=fun ds S1=>match ds with
 | [d,e]=>A.nx ((env.set i (some d)).set j (some e)) S1
 | _=>False
end
section
variable {env:Slo} {S:Sto} {Q:DQ} {a:Addr} {d:D} {m:EM} {kvs:List (List Key×D)} {k:List Key} {v:D}
def zlF (Q:DQ):DQ:=fun d S1=>match d with
 | .int i=>Q (.int (Builtin.Int.intBits i:Nat)) S1
 | _=>False
theorem zqH (h:m env S (zlF Q)):zrh m env S Q:=h
theorem znm {i:Int} (h:Q (.int (Builtin.Int.intBits i:Nat)) S):zlF Q (.int i) S:=h
instance zwF:St (zrh m env S Q) (m env S (zlF Q)):=⟨fun h=>zqH h⟩
instance zuP {i:Int}:St (zlF Q (.int i) S) (Q (.int (Builtin.Int.intBits i:Nat)) S):=⟨fun h=>znm h⟩
end
open PyProof.Rows (sortedS envOfC)
section
open PyProof.Rows
variable {prog:Program} {w:World} {A:Around} {E:Value->Shared->Prop} {s:Shared}
end
section
variable {X:Cx}
def zvf:CM:=fun ds S Q=>match ds with
 | [.tp _ xs]=>∃ zs:List Str,xs=zs.map D.str∧zs.length < 64∧∀ ys,ys.Perm zs->sortedS ys=true->∀ p,S p=none->Q (.ref p) (put S p (.lst (ys.map D.str)))
 | _=>False
def eqz (k:Str) (v:Value):Bool:=match v with
 | .str n _=>n.cps.toList == k.cps.toList
 | _=>false
def zxn:V->List V->Hp->VK->Prop:=fun x xs H Q=>∃ (l:Addr) (ns:List Str) (k:Str) (j:Nat),x = .ref l∧xs=[.str k]∧H l=some (.lst (ns.map V.str))∧ns[j]? = some k∧(∀ m:Nat,m < j->ns[m]?≠some k)∧Q .non (upd H l (.lst ((ns.eraseIdx j).map V.str)))
def zyK:MM:=fun d ds S Q=>match d,ds with
 | .ref a,[.str k]=>∃ (zs:List Str) (j:Nat),S a=some (.lst (zs.map D.str))∧zs[j]? = some k∧(∀ m:Nat,m < j->zs[m]?≠some k)∧Q .non (put S a (.lst ((zs.eraseIdx j).map D.str)))
 | _,_=>False
end
section
variable {X:Cx} {B:Hp} {pos cpos apos:Pos} {o e value:Expr} {mo me:EM}
def zri (K:PySem.W.Frag) (mo me:EM) (f:Str) (r:BM):SM:=fun A env S=>mo env S fun d S1=>match d with
 | .ref a=>match S1 a with
  | some (.ins C fs)=>match fs.lookup f with
   | some v=>FOk K C f∧me env S1 fun y S2=>r v y S2 fun z S3=>match S3 a with
    | some (.ins C' fs')=>C'=C∧fs'.length < 1000∧A.nx env (put S3 a (.ins C (zgJ f z fs')))
    | _=>False
   | none=>False
  | _=>False
 | _=>False
end
section
variable {X:Cx} {B:Hp} {pos cpos apos tpos:Pos} {o e value:Expr} {mo me:EM}
end
structure FdK (P:Program) (w:World) (K:PySem.W.Frag) (mg:Str->Option Value) (base:Heap) (k:Nat) (f:Addr) (sp:SpD) (n:Nat) (x:Str) (i:Int):Prop where
 ex:∃ fd ps,FnOk P w K mg base (L2.CX P w) k f fd ps (zhv K P w sp)∧KBn K fd ps n [x] (fun us ws=>us++ws) (fun vs zs=>vs++zs)∧∃ ds,Vals [V.int i] ds∧Binds K fd ps ds
 kp:PySem.W.keepIn K (.ref f)=true
 mono:zd4 sp
section
variable {P:Program} {w:World} {K:PySem.W.Frag} {mg:Str->Option Value} {base:Heap}
end
section
variable {X:Cx} {B:Hp} {W:XW} {k n:Nat} {f:Addr} {sp:SpD} {x y:Str} {i:Int} {p pos kpos:Pos} {e e2:Expr} {es:List Expr} {ma:AM} {m2:EM}
def zmA (sp:SpD) (W:XW) (n:Nat) (m:AM) (m2:EM):EM:=fun env S Q=>m env S fun ds S1=>m2 env S1 fun d S2=>ds.length=n∧sp (ds++[d]) S2 Q fun c fs S'=>W c fs env S'
def zmB (sp:SpD) (W:XW) (i:Int) (m:AM):EM:=fun env S Q=>m env S fun ds S1=>sp (ds++[.int i]) S1 Q fun c fs S'=>W c fs env S'
theorem zj6 {CX:CXT} {fd:FuncData} {ps ks:List Str} {sp:Sp} {E:L2.St->XK} {kws:List Keyword} {t tk:TA} {g:List Value->List Value->List Value} {gV:List V->List V->List V} (F:FnOk X.prog X.w X.K X.mg X.base CX k f fd ps sp) (hr:Room k X.A) (hg:Gl X x) (hm:X.mg x=some (.ref f)) (hk:PySem.W.keepIn X.K (.ref f)=true) (hb:KBn X.K fd ps n ks g gV) (hx:∀ σ,PassesAt CX X σ (E σ))
  (ha:PA X (e :: es) t) (hkw:PK X kws tk) (hall:(backToKw pos (keywordEach kws X.env)).all (·.1.isSome)=true:=by rfl) (hks:(backToKw pos (keywordEach kws X.env)).filterMap (·.1)=ks:=by rfl)
  (hdb:(x == ("__debug__" : Str))=false:=by decide) (he:starEach (e :: es) X.env=(false,eval e X.env) :: starEach es X.env:=by rfl)
  (hpl:((backTo pos (starEach (e :: es) X.env)).any (·.1) || (backToKw pos (keywordEach kws X.env)).any (·.1.isNone))=false:=by rfl) :
  PE X (.Call (.Name x p) (e :: es) kws pos) (fun σ H Q=>t σ H fun vs H1=>tk σ H1 fun zs H2=>vs.length=n∧zs.length=ks.length∧sp (gV vs zs) H2 Q (E σ)):=by
 refine ⟨fun pins s σ H Q I h=>?_⟩
 refine wpAny_Call_Name_kw (ld_glob I hg hm ?_ hdb)
 refine PySem.W.callWith_KW (h₀:=X.base) I.ok.mod.kin hk hall (thn (ha.run pos pins s σ H _ I h) fun us s1 ⟨vs,H1,I1,r,q⟩=>?_) hpl he
 refine thn (hkw.run pos pins s1 σ H1 _ I1 q) fun ws s2 ⟨zs,H2,I2,rz,l1,l2,q2⟩=>⟨I2.kIn,?_⟩
 rw [hks]
 have r2:=hb.rel r rz
 refine wpAny_call (codeAny_mono (F.run X.A X.stack s2 H2 ⟨us,ks.zip ws⟩ (g us ws) (gV vs zs) Q (E σ) hr I2.env0 (hb.to s2 us ws I2.kIn (r.length.symm.trans l1) (rz.length.symm.trans l2)) r2 q2) fun r s' hq=>?_)
 cases r with
 | error e=>exact hx σ pins H2 s2 e s' I2 hq
 | ok fl=>
  cases fl with
  | ret u=>exact I2.after hq
  | next=>exact False.elim hq
  | brk=>exact False.elim hq
  | cont=>exact False.elim hq
end
structure zkR (K:PySem.W.Frag) (a:Addr) (zs:List Str):Prop where
 sq:∀ H,SqT K H a (zs.map V.str)
 sh:SeqAt.shaped (.tuple (zs.map PyData.str))=true
theorem zhY:∀ {us:List Value} {zs:List Str},us.map zvm=zs.map some->Vals (zs.map V.str) us
 | [],[],_=>.nil
 | [],z :: zs,h=>by cases h
 | u :: us,[],h=>by cases h
 | u :: us,z :: zs,h=>by
  rw [List.map_cons,List.map_cons] at h
  injection h with h1 h2
  refine .cons ?_ (zhY h2)
  cases u <;> first | (cases h1;done) | skip
  rename_i y t
  cases h1
  exact ⟨t,rfl⟩
theorem zlI {K:PySem.W.Frag} {t:Str×List Str} (h:zlJ K t=true):zkR K (He.ga K t.1) t.2:=by
 unfold zlJ at h
 split at h
 ·rename_i c dd its n sl e
  obtain ⟨h1,h⟩:=He.ba h
  obtain ⟨h2,h⟩:=He.ba h
  obtain ⟨h3,h4⟩:=He.ba h
  have h1:=of_decide_eq_true h1
  subst h1
  exact ⟨fun H=>.inr ⟨_,its,n,e,rfl,rfl,Nat.le_trans (of_decide_eq_true h3) (by decide),zhY (of_decide_eq_true h2)⟩,h4⟩
 ·cases h
theorem zji {K:PySem.W.Frag} {H:Hp}:∀ zs:List Str,DpAll K H (zs.map V.str) (zs.map PyData.str)
 | []=>.nil
 | z :: zs=>.cons (.str z) (zji zs)
def ziH (zs:List Str) (g:Bool->Bool) (m:EM):EM:=fun env S Q=>m env S fun d S1=>match d with
 | .str z=>Q (.bl (g (decide (z∈zs)))) S1
 | _=>False
section
variable {X:Cx} {B:Hp} {e:Expr} {m:EM} {x:Str} {a:Addr} {zs:List Str} {p pos:Pos}
theorem zi5 {g:Bool->Bool} (h:zci m):zci (ziH zs g m):=fun env S Q Q' i q=>h env S _ _ (fun d S1 z=>by
 cases d <;> try exact z.elim
 exact i _ _ z) q
theorem zlU (z:Str) (zs:List Str):((zs.map PyData.str).any fun y=>PyData.eqv y (.str z))=decide (z∈zs):=zcm.any z zs
theorem zmS {g:Bool->Bool} {op:CmpOp} {r:R2} (T:zkR X.K a zs) (hm:zci m)
  (hr:∀ (z:Str) H Q,SeqAt.shaped (.str z)=true->Q (.bl (g (decide (z∈zs)))) H->r (.str z) (.ref a) H Q) {σ:L2.St} {H:Hp} {Q:VK} (q:up X.K X.prog X.w B (ziH zs g m) σ H Q):tOp r (up X.K X.prog X.w B m) (tC (.ref a)) σ H Q:=by
 obtain ⟨lB,env,S,r0,z0,q⟩:=q
 refine ⟨lB,env,S,r0,z0,hm env S _ _ (fun d S1 z v H1 l1 z1 dv=>?_) q⟩
 cases d <;> try exact z.elim
 rename_i y
 cases dv with
 | str _ ok=>
  refine hr y H1 Q ?_ (z _ H1 l1 z1 (.bl _))
  have:=(zcc (S:=S1) z1 (DV.str y ok) (by rfl)).2
  exact this
theorem zhg (hu:X.A.units+65 < cLine) (T:zkR X.K a zs) (hx:X.mg x=some (.ref a)) (he:ME X B e m) (hg:Gl X x:=by rfl) (hd:(x == ("__debug__" : Str))=false:=by decide) (hb:behindInMarks .NotIn (.Name x p)=false:=by first | exact nomark _ | rfl) :
  MT X B (.Compare e [.NotIn] [.Name x p] pos) (mB (ziH zs (fun b=>!b) m)):=by
 refine ⟨zh6 (pt_cmpR (zia hu) he.pe (pe_glob (v:=.ref a) hg hx rfl hd) hb) fun σ H Q h=>?_,znZ (zi5 he.mono)⟩
 obtain ⟨lB,env,S,r0,z0,h⟩:=h
 refine zmS (op:=.NotIn) (g:=fun b=>!b) T he.mono (fun z H Q sh q=>⟨_,_,.str z,.tup (T.sq H) (zji zs),sh,T.sh,by rw [zlU];exact q⟩) ⟨lB,env,S,r0,z0,?_⟩
 refine zi5 he.mono env S _ _ (fun d S1 q v H' l r d1=>?_) h
 cases d1 <;> first | exact ⟨_,rfl,q H' l r⟩ | exact q.elim
end
def hookT (n:Nat) (fa:List He.Fa) (fn:List He.DefD) (su:List SuD) (file:Str) (ex:List Str) (tb:List zeV) (eq:List Str) (gt:List ziu):PySem.W.Hook where
 α:=AlT
 obs:=fun s=>obsT fa fn su file ex tb eq gt (kFr n s.heap.get?)
 val:=fun w=>valT fn su tb w
 says:=fun w h=>∃ K:PySem.W.Frag,K.In h∧obsT fa fn su file ex tb eq gt K=valT fn su tb w
 of:=fun _ _ e=>⟨_,He.frG_in,e⟩
 keeps:=fun _ _ _ ⟨K,hK,c⟩ k=>⟨K,hK.keeps k,c⟩
structure Tt (fa:List He.Fa) (fn:List He.DefD) (su:List SuD) (file:Str) (ec:List Str) (tb:List zeV) (eq:List Str) (gt:List ziu) (w:World) (K:PySem.W.Frag) (mg:Str->Option Value):Prop extends Te fa fn su file ec tb eq w K mg where
 gts:∀ t∈gt,zlJ K t=true
theorem Tt.mk' {fa:List He.Fa} {fn:List He.DefD} {su:List SuD} {file:Str} {ex:List Str} {tb:List zeV} {eq:List Str} {gt:List ziu} {w:World} {K:PySem.W.Frag} {mg:Str->Option Value} {h:Heap} (X:K.In h) (G:h.Ns mainGlobals mg) (c:obsT fa fn su file ex tb eq gt K=valT fn su tb w):Tt fa fn su file ex tb eq gt w K mg:=
 ⟨Te.mk' X G (congrArg (fun z:AlT=>z.1) c),List.all_eq_true.mp (congrArg (fun z:AlT=>z.2) c)⟩
theorem Tt.gt {fa:List He.Fa} {fn:List He.DefD} {su:List SuD} {file:Str} {ex:List Str} {tb:List zeV} {eq:List Str} {gt:List ziu} {w:World} {K:PySem.W.Frag} {mg:Str->Option Value} (T:Tt fa fn su file ex tb eq gt w K mg) (i:Nat) {x:Str} {zs:List Str} (h:gt[i]? = some (x,zs):=by rfl):zkR K (He.ga K x) zs:=
 zlI (T.gts _ (List.mem_of_getElem? h))
section
variable {env:Slo} {S:Sto} {Q:DQ} {A:Fin} {m mo me m2:EM} {ms:AM} {K:PySem.W.Frag} {C a:Addr} {f:Str} {d e:D} {r:BM} {W:XW} {sp:SpD} {n:Nat} {i:Int} {zs:List Str} {xs:List D} {fs:List (Str×D)} {z:Str}
def zlB (zs:List Str) (g:Bool->Bool) (Q:DQ):DQ:=fun d S1=>match d with
 | .str z=>Q (.bl (g (decide (z∈zs)))) S1
 | _=>False
theorem zqr {g:Bool->Bool} (h:m env S (zlB zs g Q)):ziH zs g m env S Q:=h
theorem znf {g:Bool->Bool} (h:Q (.bl (g (decide (z∈zs)))) S):zlB zs g Q (.str z) S:=h
instance zwt {g:Bool->Bool}:St (ziH zs g m env S Q) (m env S (zlB zs g Q)):=⟨fun h=>zqr h⟩
instance zuI {g:Bool->Bool}:St (zlB zs g Q (.str z) S) (Q (.bl (g (decide (z∈zs)))) S):=⟨fun h=>znf h⟩
def zuu (sp:SpD) (W:XW) (n:Nat) (ds:List D) (env:Slo) (Q:DQ):DQ:=fun d S2=>ds.length=n∧sp (ds++[d]) S2 Q fun c fs S'=>W c fs env S'
def zsy (sp:SpD) (W:XW) (n:Nat) (m2:EM) (env:Slo) (Q:DQ):List D->Sto->Prop:=fun ds S1=>m2 env S1 (zuu sp W n ds env Q)
theorem znC (h:ms env S (zsy sp W n m2 env Q)):zmA sp W n ms m2 env S Q:=h
theorem zqh (h:m2 env S (zuu sp W n xs env Q)):zsy sp W n m2 env Q xs S:=h
instance zu1:St (zmA sp W n ms m2 env S Q) (ms env S (zsy sp W n m2 env Q)):=⟨fun h=>znC h⟩
instance zwq:St (zsy sp W n m2 env Q xs S) (m2 env S (zuu sp W n xs env Q)):=⟨fun h=>zqh h⟩
def kCD (sp:SpD) (W:XW) (i:Int) (env:Slo) (Q:DQ):List D->Sto->Prop:=fun ds S1=>sp (ds++[.int i]) S1 Q fun c fs S'=>W c fs env S'
theorem znD (h:ms env S (kCD sp W i env Q)):zmB sp W i ms env S Q:=h
instance zu2:St (zmB sp W i ms env S Q) (ms env S (kCD sp W i env Q)):=⟨fun h=>znD h⟩
def zxz (K:PySem.W.Frag) (a C:Addr) (f:Str) (env:Slo) (A:Fin):DQ:=fun z S3=>match S3 a with
 | some (.ins C' fs')=>C'=C∧fs'.length < 1000∧A.nx env (put S3 a (.ins C (zgJ f z fs')))
 | _=>False
def zvC (K:PySem.W.Frag) (me:EM) (f:Str) (r:BM) (env:Slo) (A:Fin):DQ:=fun d S1=>match d with
 | .ref a=>match S1 a with
  | some (.ins C fs)=>match fs.lookup f with
   | some v=>FOk K C f∧me env S1 fun y S2=>r v y S2 (zxz K a C f env A)
   | none=>False
  | _=>False
 | _=>False
theorem zqI (h:mo env S (zvC K me f r env A)):zri K mo me f r A env S:=h
instance zwG:St (zri K mo me f r A env S) (mo env S (zvC K me f r env A)):=⟨fun h=>zqI h⟩
end
class Gt (k:Nat) (g:Prop):Prop
theorem zdL (k:Nat) {g:Prop} [Gt k g] (q:g):g:=q
section
variable {env:Slo} {S:Sto} {Q:DQ} {A:Fin} {m n:SM} {me mf mg' ma mb:EM} {g:GM} {t u:TM} {r:BM} {ms:AM} {d e:D} {TQ:Bool->Sto->Prop} {ds:List D} {i:Nat} {K:PySem.W.Frag} {NQ:Slo->Sto->Prop} {b:Bool}
instance:Gt 0 (zmH (gNm i) env A d S):=⟨⟩
instance:Gt 0 (gNm i d env S NQ):=⟨⟩
instance:Gt 0 (zkz i env A d S):=⟨⟩
instance:Gt 1 (zah i env S Q):=⟨⟩
instance {f}:Gt 1 (zrC K f Q d S):=⟨⟩
instance:Gt 2 (vIx d e S Q):=⟨⟩
instance {C f sp W}:Gt 3 (zrB C f sp W ms env Q d S):=⟨⟩
instance {o}:Gt 3 (zmE d o env NQ e S):=⟨⟩
instance:Gt 3 (zmC i me r A env S):=⟨⟩
instance {mk mx}:Gt 3 (zsv mk mx env Q d S):=⟨⟩
instance {a}:Gt 3 (zoN a e Q d S):=⟨⟩
instance:Gt 4 (zcJ ds S Q):=⟨⟩
instance:Gt 4 (zda ds S Q):=⟨⟩
instance {ok rm}:Gt 5 (zsq ok rm ms env Q d S):=⟨⟩
instance {k gs}:Gt 5 (gT k gs d env S NQ):=⟨⟩
instance {a z}:Gt 5 (zoO a z env A d S):=⟨⟩
instance {R}:Gt 5 (zkx R d S):=⟨⟩
instance:Gt 5 (zmH g env A d S):=⟨⟩
instance:Gt 6 (zkT d e S Q):=⟨⟩
instance:Gt 6 (zhu d e S Q):=⟨⟩
instance:Gt 6 (zoZ d e S Q):=⟨⟩
instance:Gt 6 (zjq d e S Q):=⟨⟩
instance {mv mc}:Gt 6 (zjD mv mc me r A env S):=⟨⟩
instance {R}:Gt 7 (kEn R ds S):=⟨⟩
instance:Gt 7 (zsA ms env Q d S):=⟨⟩
instance:Gt 7 (zcI ds S Q):=⟨⟩
instance:Gt 7 (zjp ds S Q):=⟨⟩
instance {R}:Gt 7 (kZL R ds S):=⟨⟩
instance:Gt 8 (kIf m n A env b S):=⟨⟩
instance:Gt 8 (zmG ma mb env Q b S):=⟨⟩
instance:Gt 9 (zmI u env TQ b S):=⟨⟩
instance:Gt 9 (kOr u env TQ b S):=⟨⟩
instance:Gt 10 (zio mb env Q b S):=⟨⟩
instance:Gt 10 (zmF mb env Q b S):=⟨⟩
instance {mc}:Gt 10 (zlE r d mc env Q b S):=⟨⟩
end
structure zzc (P:Program) (w:World) (K:PySem.W.Frag) (mg:Str->Option Value) (base:Heap) (k:Nat) (f:Addr) (sp:SpD) (n:Nat) (y:Str) (gD:List D->List D->List D):Prop where
 ex:∃ (fd:FuncData) (ps:List Str) (g:List Value->List Value->List Value) (gV:List V->List V->List V),FnOk P w K mg base (L2.CX P w) k f fd ps (zhv K P w sp)∧KBn K fd ps n [y] g gV∧∀ (H:Hp) (ds ws:List D) (vs zs:List V),DVs K H ds vs->DVs K H ws zs->DVs K H (gD ds ws) (gV vs zs)
 kp:PySem.W.keepIn K (.ref f)=true
 mono:zd4 sp
section
variable {P:Program} {w:World} {K:PySem.W.Frag} {mg:Str->Option Value} {base:Heap}
end
section
variable {X:Cx} {B:Hp} {W:XW} {k n:Nat} {f C:Addr} {sp:SpD} {x y:Str} {p pos kpos:Pos} {e e2:Expr} {es:List Expr} {ma:AM} {m2:EM} {gD:List D->List D->List D}
def zmw (C:Addr) (sp:SpD) (W:XW) (n:Nat) (gD:List D->List D->List D) (m:AM) (m2:EM):EM:=fun env S Q=>m env S fun ds S1=>m2 env S1 fun d S2=>ds.length=n∧∀ p,S2 p=none->sp (gD (.ref p :: ds) [d]) (put S2 p (.ins C [])) (fun v S3=>v = .non∧Q (.ref p) S3) fun c fs S'=>W c fs env S'
end
section
variable {env:Slo} {S:Sto} {Q:DQ} {C:Addr} {sp:SpD} {W:XW} {n:Nat} {gD:List D->List D->List D} {ms:AM} {m2:EM} {xs:List D} {d:D}
def zun (C:Addr) (sp:SpD) (W:XW) (n:Nat) (gD:List D->List D->List D) (ds:List D) (env:Slo) (Q:DQ):DQ:=fun d S2=>ds.length=n∧∀ p,S2 p=none->sp (gD (.ref p :: ds) [d]) (put S2 p (.ins C [])) (fun v S3=>v = .non∧Q (.ref p) S3) fun c fs S'=>W c fs env S'
def zsn (C:Addr) (sp:SpD) (W:XW) (n:Nat) (gD:List D->List D->List D) (m2:EM) (env:Slo) (Q:DQ):List D->Sto->Prop:=fun ds S1=>m2 env S1 (zun C sp W n gD ds env Q)
theorem zm1 (h:ms env S (zsn C sp W n gD m2 env Q)):zmw C sp W n gD ms m2 env S Q:=h
theorem zpZ (h:m2 env S (zun C sp W n gD xs env Q)):zsn C sp W n gD m2 env Q xs S:=h
instance zuy:St (zmw C sp W n gD ms m2 env S Q) (ms env S (zsn C sp W n gD m2 env Q)):=⟨fun h=>zm1 h⟩
instance zwc:St (zsn C sp W n gD m2 env Q xs S) (m2 env S (zun C sp W n gD xs env Q)):=⟨fun h=>zpZ h⟩
end
def iGT (zs:List Str):IM:=fun env S R=>R (zs.map D.str) (fun _=>True) S
def zt2 (zs:List Str):Bool:=zs.all fun z=>PyData.strOk z && decide (z.length≤sizeLine)
theorem zjf {K:PySem.W.Frag} {H:Hp}:∀ {zs:List Str},zt2 zs=true->DVs K H (zs.map D.str) (zs.map V.str)
 | [],_=>.nil
 | z :: zs,h=>by
  unfold zt2 at h
  rw [List.all_cons,Bool.and_eq_true,Bool.and_eq_true] at h
  exact .cons (.str z ⟨h.1.1,of_decide_eq_true h.1.2⟩) (zjf h.2)
section
variable {X:Cx} {B:Hp} {tg:Expr} {x:Str} {a:Addr} {zs:List Str} {p:Pos}
theorem zkl (T:zkR X.K a zs) (hx:X.mg x=some (.ref a)) (hg:Gl X x:=by rfl) (hd:(x == ("__debug__" : Str))=false:=by decide) (ok:zt2 zs=true:=by decide +kernel):MI X B tg (.Name x p) (iGT zs):=by
 refine ⟨ziV (zh8 (pe_glob (v:=.ref a) hg hx rfl hd)) fun σ H R q=>?_,fun env S Q Q' i q=>i _ _ _ q⟩
 obtain ⟨lB,env,S,r0,z0,q⟩:=q
 exact .inl ⟨_,rfl,.inr ⟨⟨_,T.sq H⟩,q _ H (Le.refl H) z0 (zlY (T.sq H) (zjf ok))⟩⟩
def zxs:V->List V->Hp->VK->Prop:=fun x xs H Q=>∃ (l:Addr) (ns:List Str) (k:Str),x = .ref l∧xs=[.str k]∧H l=some (.lst (ns.map V.str))∧Q (.int (ns.count k:Nat)) H
def zyN:MM:=fun d ds S Q=>match d,ds with
 | .ref a,[.str k]=>∃ zs:List Str,S a=some (.lst (zs.map D.str))∧Q (.int (zs.count k:Nat)) S
 | _,_=>False
end
section
variable {X:Cx} {B:Hp} {cpos apos:Pos} {o e:Expr} {mo:EM} {ma:AM}
end
section
variable {env:Slo} {S:Sto} {Q:DQ} {a:Addr} {zs:List Str} {z:Str} {R:List D->(Sto->Prop)->Sto->Prop}
theorem ztG (h:R (zs.map D.str) (fun _=>True) S):iGT zs env S R:=h
instance zya:St (iGT zs env S R) (R (zs.map D.str) (fun _=>True) S):=⟨fun h=>ztG h⟩
end
section
variable {X:Cx} {B:Hp} {a:Expr} {pos:Pos} {ma:EM} {ta:TE}
def zrc (ma:EM):EM:=fun env S Q=>ma env S (zlx fun c S1=>Q (.bl (!c)) S1)
end
section
variable {ma:EM} {env:Slo} {S:Sto} {Q:DQ} {a:Addr} {xs:List D} {TQ:Bool->Sto->Prop}
theorem zpr (h:ma env S (zlx fun c S1=>Q (.bl (!c)) S1)):zrc ma env S Q:=h
instance zvJ:St (zrc ma env S Q) (ma env S (zlx fun c S1=>Q (.bl (!c)) S1)):=⟨fun h=>zpr h⟩
end
section
variable {X:Cx}
def zwY:CM:=fun ds S Q=>match ds with
 | [.bl b]=>Q (.int (if b then 1 else 0)) S
 | _=>False
end
section
variable {S:Sto} {Q:DQ} {b:Bool}
end
section
variable {prog:Program} {w:World} {A:Around} {E:Value->Shared->Prop} {s:Shared} {K:PySem.W.Frag} {x C f:Addr} {ox:Obj} {od:Option Obj}
end
def zwW (C:Addr) (sp:SpD):CM:=fun ds S Q=>match ds with
 | [.ref a]=>(∃ fs,S a=some (.ins C fs))∧sp [.ref a] S (fun v S'=>∃ i:Nat,v = .int i∧i < 2 ^ 62∧Q (.int i) S') (fun _ _ _=>False)
 | _=>False
section
variable {X:Cx} {k:Nat} {C f:Addr} {sp:SpD}
end
section
variable {S:Sto} {Q:DQ} {C a:Addr} {fs:List (Str×D)} {sp:SpD}
end
def zra (C:Addr) (sp:SpD) (m:EM):EM:=fun env S Q=>m env S fun d S1=>match d with
 | .ref a=>(∃ fs,S1 a=some (.ins C fs))∧sp [.ref a] S1 Q (fun _ _ _=>False)
 | _=>False
section
variable {X:Cx} {B:Hp} {W:XW} {k:Nat} {C p g:Addr} {sp:SpD} {f:Str} {e:Expr} {mo:EM} {pos:Pos}
end
section
variable {M:Model} {A:Around} {E:Value->Shared->Prop} {s:Shared} {K:PySem.W.Frag} {x C f:Addr} {ox:Obj} {od:Option Obj} {i v:Value}
end
def zr9 (C:Addr) (sp:SpD) (W:XW) (o d:D) (env:Slo) (NQ:Slo->Sto->Prop):DQ:=fun i S2=>match o with
 | .ref a=>(∃ fs,S2 a=some (.ins C fs))∧sp [.ref a,i,d] S2 (fun _ S3=>NQ env S3) (fun c fs S'=>W c fs env S')
 | _=>False
def zwN (C:Addr) (sp:SpD) (W:XW) (mo mi:EM):GM:=fun d env S Q=>mo env S fun o S1=>mi env S1 (zr9 C sp W o d env Q)
section
variable {X:Cx} {B:Hp} {W:XW} {k:Nat} {C f:Addr} {sp:SpD} {o i:Expr} {mo mi:EM} {pos:Pos}
end
theorem PrD.get {K:PySem.W.Frag} {d:PrD} (e:He5.fnA K (d.g K)=d.da.val) (c:d.ok K=true):PropOf K (He.ga K d.C) d.f (d.p K) (d.g K)∧∃ fd,FunD K d.f d.qual d.params d.body d.scope [] [] (d.g K) fd:=by
 obtain ⟨k1,c⟩:=He.ba c
 obtain ⟨k2,c⟩:=He.ba c
 obtain ⟨k3,c⟩:=He.ba c
 obtain ⟨k4,k5⟩:=He.ba c
 refine ⟨⟨He.eqO_ok k1,He.eqO_ok k2,of_decide_eq_true k3,?_⟩,He5.DefA.funD (d:=d.da) e k5⟩
 unfold zqP at k4
 split at k4
 ·rename_i f r e2
  refine ⟨r,?_⟩
  have:d.g K=f:=by
   unfold PrD.g He5.wf
   rw [show PySem.W.recIn K (He.ma K (He.ga K d.C) d.f) "property" = _ from e2]
  rw [this]
  exact e2
 ·cases k4
def zyq (n:Nat) (fa:List He.Fa) (fn:List He.DefD) (su:List SuD) (file:Str) (ex:List Str) (tb:List zeV) (eq:List Str) (gt:List ziu) (pr:List PrD) (sq:List Str):PySem.W.Hook where
 α:=AlV
 obs:=fun s=>zoK fa fn su file ex tb eq gt pr sq (kFr n s.heap.get?)
 val:=fun w=>zjo fn su tb pr w
 says:=fun w h=>∃ K:PySem.W.Frag,K.In h∧zoK fa fn su file ex tb eq gt pr sq K=zjo fn su tb pr w
 of:=fun _ _ e=>⟨_,He.frG_in,e⟩
 keeps:=fun _ _ _ ⟨K,hK,c⟩ k=>⟨K,hK.keeps k,c⟩
structure Tv (fa:List He.Fa) (fn:List He.DefD) (su:List SuD) (file:Str) (ec:List Str) (tb:List zeV) (eq:List Str) (gt:List ziu) (pr:List PrD) (sq:List Str) (w:World) (K:PySem.W.Frag) (mg:Str->Option Value):Prop extends Tt fa fn su file ec tb eq gt w K mg where
 prs:∀ d∈pr,d.ok K=true
 prv:(pr.map fun d=>He5.fnA K (d.g K))=pr.map fun d=>d.da.val
 sqs:∀ C∈sq,PySem.W.noSeq K (He.ga K C)=true
section
variable {fa:List He.Fa} {fn:List He.DefD} {su:List SuD} {file:Str} {ex:List Str} {tb:List zeV} {eq:List Str} {gt:List ziu} {qr:List PrD} {qs:List Str} {w:World} {K:PySem.W.Frag} {mg:Str->Option Value}
theorem Tv.mk' {h:Heap} (X:K.In h) (G:h.Ns mainGlobals mg) (c:zoK fa fn su file ex tb eq gt qr qs K=zjo fn su tb qr w):Tv fa fn su file ex tb eq gt qr qs w K mg:=by
 have c2:((qr.all fun d=>d.ok K) && qs.all fun C=>PySem.W.noSeq K (He.ga K C))=true:=congrArg (fun z:AlV=>z.2.1) c
 obtain ⟨c3,c4⟩:=He.ba c2
 exact ⟨Tt.mk' X G (congrArg (fun z:AlV=>z.1) c),List.all_eq_true.mp c3,congrArg (fun z:AlV=>z.2.2) c,List.all_eq_true.mp c4⟩
theorem Tv.pr (T:Tv fa fn su file ex tb eq gt qr qs w K mg) (i:Nat) {d:PrD} (h:qr[i]? = some d:=by rfl):PropOf K (He.ga K d.C) d.f (d.p K) (d.g K)∧∃ fd,FunD K d.f d.qual d.params d.body d.scope [] [] (d.g K) fd:=by
 have e2:(qr.map fun d=>He5.fnA K (d.g K))[i]? = (qr.map fun d=>d.da.val)[i]?:=by rw [T.prv]
 rw [List.getElem?_map,List.getElem?_map,h] at e2
 exact PrD.get (Option.some.inj e2) (T.prs d (List.mem_of_getElem? h))
theorem Tv.sq (T:Tv fa fn su file ex tb eq gt qr qs w K mg) (i:Nat) {C:Str} (h:qs[i]? = some C:=by rfl):PySem.W.noSeq K (He.ga K C)=true:=T.sqs C (List.mem_of_getElem? h)
end
section
variable {env:Slo} {S:Sto} {Q:DQ} {m mo mi:EM} {C a:Addr} {sp:SpD} {W:XW} {fs:List (Str×D)} {d e o:D} {NQ:Slo->Sto->Prop}
def zry (C:Addr) (sp:SpD) (Q:DQ):DQ:=fun d S1=>match d with
 | .ref a=>(∃ fs,S1 a=some (.ins C fs))∧sp [.ref a] S1 Q (fun _ _ _=>False)
 | _=>False
theorem zpn (h:m env S (zry C sp Q)):zra C sp m env S Q:=h
def zsa (C:Addr) (sp:SpD) (W:XW) (mi:EM) (d:D) (env:Slo) (NQ:Slo->Sto->Prop):DQ:=fun o S1=>mi env S1 (zr9 C sp W o d env NQ)
theorem zqy (h:mo env S (zsa C sp W mi d env NQ)):zwN C sp W mo mi d env S NQ:=h
theorem zpC (h:mi env S (zr9 C sp W o d env NQ)):zsa C sp W mi d env NQ o S:=h
instance zvH:St (zra C sp m env S Q) (m env S (zry C sp Q)):=⟨fun h=>zpn h⟩
instance zwz:St (zwN C sp W mo mi d env S NQ) (mo env S (zsa C sp W mi d env NQ)):=⟨fun h=>zqy h⟩
instance zvQ:St (zsa C sp W mi d env NQ o S) (mi env S (zr9 C sp W o d env NQ)):=⟨fun h=>zpC h⟩
end
structure Ex0 (K:PySem.W.Frag) (mg:Str->Option Value) (x:Str):Prop where
 gC:mg x=some (.ref (He.ga K x))
 oex:OexC K (He.ga K x)
 q:PySem.W.excIn K (He.ga K x) zwS "ValueError.__new__" = true
def zkr (C:Addr) (W:XW) (ma:AM):SM:=fun _ env S=>ma env S fun ds S1=>match ds with
 | [_]=>W (.ref C) [] env S1
 | _=>False
section
variable {X:Cx} {B:Hp} {W:XW} {ma:AM} {x:Str} {p pos pos':Pos} {e:Expr}
end
end DL
namespace PySem.W
open PySem PySem.Spec PySem.Calls PyProof.Rows
section
variable {prog:Program} {w:World} {A:Around} {E:Value->Shared->Prop} {s:Shared} {K:Frag} {x D:Addr} {ox:Obj} {od:Option Obj}
theorem zkI {Q:Option Value->Shared->Prop} (hga:findIn K (.ref D) "__getattribute__" = some (some (.builtin "BaseException.__getattribute__"))) (hgt:findIn K (.ref D) "__getattr__" = some none) (hsub:subIn K (.ref D) (.type "BaseException")=some true)
  (hdct:hasDictIn K D=true) (ha:findIn K (.ref D) "__class__" = some (some (.builtin "object.__class__")))
  (hn:specialIn K (.builtin "object.__class__") "__get__" = some (some (.builtin "getset_descriptor.__get__"))) (htk:takesIn K (.builtin "object.__class__")=some true) (hm:mroIn K D (.type "object")=some true)
  (X:K.In s.heap) (I:InstAt s.heap x ox D od) (h:Q (some (.ref D)) { s with toks:=s.toks+1 }):wpAny (model prog w) A (getAttr? (.ref x) "__class__") Q E s:=by
 have hs:(clsIn K D).isSome=true:=by
  obtain ⟨cd,hc,_⟩:=any_some hdct
  rw [hc]
  rfl
 have hf:findObj K D od "__class__" = some (.bind (.builtin "getset_descriptor.__get__") (.builtin "object.__class__")):=by
  cases od with
  | none=>exact findObj_dataN hs ha hn htk
  | some o=>exact findObj_data hs ha hn htk
 obtain ⟨hp,g,d,t,os⟩:=s
 have L0:=I.type (M:=model prog w)
 have L1:=looks_findIn (M:=model prog w) X hga
 have L2:=looks_findIn (M:=model prog w) X hgt
 have L3:=looks_find (M:=model prog w) X I hf
 have sub:Looks (model prog w) hp (isInstance (.ref x) (.type "BaseException")) true:=L0.andThen (looks_subIn X hsub)
 have hx0:(false && onTheHeap (Value.builtin "BaseException.__getattribute__"))=false:=rfl
 have hx2:(Value.builtin "BaseException.__getattribute__" == Value.builtin "object.__getattribute__")=false:=by decide +kernel
 have hx1:(onTheHeap (Value.ref D) && Value.builtin "BaseException.__getattribute__" == Value.builtin "object.__getattribute__")=false:=by rw [hx2];rfl
 unfold getAttr? getAttrBy? getAttrBy
 refine wpAny_bind (wpAny_mkText (wpAny_bind (wpAny_attempt (wpAny_holding (wpAny_bind (L0.at (wpAny_bind (L1.at ?_))))))))
 show wpAny _ _ (if (onTheHeap (Value.ref D) && Value.builtin "BaseException.__getattribute__" == Value.builtin "object.__getattribute__")=true then _ else _) _ _ _
 rw [hx1,if_neg Bool.false_ne_true]
 unfold getAttrByItsOwn hookBefore
 refine wpAny_bind ?_
 rw [if_pos (show onTheHeap (Value.ref D)=true from rfl)]
 refine L2.at ?_
 refine wpAny_bind (wpAny_attempt (wpAny_holding ?_))
 unfold callGetattribute
 rw [hx0,if_neg Bool.false_ne_true]
 unfold boundAndCalled
 rw [PySem.F.excAttr_ValueError.ga.bind (.ref x)]
 refine wpAny_bind (wpAny_pure ?_)
 show wpAny _ _ (call (.builtin "BaseException.__getattribute__") [.ref x,.str "__class__" t]) _ _ _
 refine wpAny_call (codeAny_call_builtin PySem.F.excAttr_ValueError.ga.plain PySem.F.entry_bexc_ga ?_)
 refine @check_slot (model prog w) _ _ ⟨hp,g,d,t+1,os⟩ "BaseException.__getattribute__" "BaseException" "__getattribute__" (.ref x) [.str "__class__" t] [] _ (by decide +kernel) (by decide +kernel) sub (PySem.F.args_bexc_ga (.ref x) (.str "__class__" t)) ?_
 unfold Builtin.«object.__getattribute__»
 refine wpAny_bind (wpAny_of_eq (a:=((Value.ref x:Value),[Value.str "__class__" t])) (by first | rfl | (simp only [slotArgs];rfl)) ?_)
 refine wpAny_bind (wpAny_pure (wpAny_bind (L0.at (wpAny_bind (L3.at ?_)))))
 show wpAny _ _ (holding [Value.builtin "object.__class__"] (call (.builtin "getset_descriptor.__get__") [.builtin "object.__class__", .ref x,.ref D]) >>= ret) _ _ _
 refine wpAny_bind (wpAny_holding (wpAny_call (class_get (s:=⟨hp,g,d,t+1,os⟩) (ox:=ox) (od:=od) X I hm ?_)))
 refine wpAny_pure ?_
 show wpAny _ _ (handedOut (.ref D)) _ _ _
 rw [handedOut_of (v:=.ref D) rfl]
 first
  | exact wpAny_pure (wpAny_pure h)
  | exact wpAny_pure h
  | exact wpAny_pure (wpAny_bind (wpAny_pure (wpAny_pure h)))
theorem dl_kitx (hga:findIn K (.ref D) "__getattribute__" = some (some (.builtin "BaseException.__getattribute__"))) (hgt:findIn K (.ref D) "__getattr__" = some none) (hsub:subIn K (.ref D) (.type "BaseException")=some true) (hdct:hasDictIn K D=true) (ha:findIn K (.ref D) "__class__" = some (some (.builtin "object.__class__")))
  (hn:specialIn K (.builtin "object.__class__") "__get__" = some (some (.builtin "getset_descriptor.__get__"))) (htk:takesIn K (.builtin "object.__class__")=some true) (hm:mroIn K D (.type "object")=some true) :
  KitX K (.ref x) (.ref D) (fun h=>∃ od,InstAt h x ox D od) where
 ty:=fun _ _ _ I=>by
  obtain ⟨od,I⟩:=I
  exact I.type
 it:=fun _ _ X _=>by
  obtain ⟨cdD,hcD,_⟩:=any_some hdct
  unfold clsIn at hcD
  split at hcD
  ·rename_i c' d' cd' sl' ho
   intro A' Q' E' s' k q
   unfold isType loadHead
   exact wpAny_bind (wpAny_loadPart (k _ _ (X _ _ ho)) (wpAny_pure q))
  ·cases hcD
 ne:=fun h tp dd its n sl X htp=>by
  obtain ⟨cdD,hcD,_⟩:=any_some hdct
  refine Bool.eq_false_iff.mpr fun q=>?_
  have e:D=tp:=Value.ref.inj (beq_iff_eq.mp q)
  subst e
  unfold clsIn at hcD
  split at hcD
  ·rename_i c' d' cd' sl' ho
   have z:=(X _ _ ho).symm.trans htp
   cases z
  ·cases hcD
 ca:=fun X I k=>by
  obtain ⟨od,I⟩:=I
  exact zkI hga hgt hsub hdct ha hn htk hm X I k
end
end PySem.W
namespace DL
open PySem PySem.Spec PyProof.Rows L2
def XdH (H:Hp) (d:Option Addr):Prop:=match d with
 | some dd=>∃ fs,H dd=some (.xd fs)
 | none=>True
def zxo (K:PySem.W.Frag) (D a:Addr) (d:Option Addr):List V->Hp->VK->Prop:=fun xs H Q=>∃ (c:V) (cv:Value) (b:Bool),xs=[.ref a,c]∧XdH H d∧(∀ u,RelV c u->u=cv)∧PySem.W.kitOne K (.ref D) cv=some b∧Q (.bl b) H
theorem zlT {X:Cx} {a D:Addr} {oe:Obj} {d:Option Addr} {pn:List (Addr×Obj)} (C:ExcC X.K D) (hz:Zc (.ref D) d oe) (hf:∃ vs,oe.data = .fields vs):CallR (X.suite a ((a,oe) :: pn)) (.builtin "isinstance") (zxo X.K D a d):=by
 intro pins s σ H xs us Q I r h
 obtain ⟨c,cv,b,rfl,hx,hcv,e,q⟩:=h
 cases r with
 | cons rx rr=>
  cases rr with
  | cons rt rr=>
   cases rr
   cases rx
   have ec:=hcv _ rt
   subst ec
   obtain ⟨hget,_⟩:=I.pin (a,oe) (List.mem_append.mpr (.inl List.mem_cons_self))
   obtain ⟨vs,hv⟩:=hf
   have J:∃ od,PySem.W.InstAt s.heap a oe D od:=by
    cases d with
    | none=>
     refine ⟨none,hget,hz.1,by unfold PySem.W.notCls;rw [hv] <;> rfl,?_⟩
     rw [hz.2]
     trivial
    | some dd=>
     obtain ⟨fs,ea⟩:=hx
     have hx:ObjOk X.prog X.w H s.heap dd (.xd fs):=I.hok dd _ ea
     obtain ⟨mA,hns,hr⟩:=hx
     obtain ⟨od,ho,hl⟩:=lookIn_ns hns
     exact ⟨some od,hget,hz.1,by unfold PySem.W.notCls;rw [hv] <;> rfl,by rw [hz.2];exact ho⟩
   exact PySem.W.kia_one (PySem.W.dl_kitx C.hg C.hk C.hs C.hd C.ha C.hn C.ht C.hm) I.kIn J e (fun z=>nomatch z) fun tk=>⟨.bl b,H,I.kept (t':=tk) fun _ _ z=>z,rfl,q⟩
def zoM (i:Nat) (C a:Addr) (cls:Value) (b:Bool):EM:=fun env S Q=>zah i env S fun x S1=>x = .ref a∧cls = .ref C∧Q (.bl b) S1
theorem zmq {X:Cx} {a C:Addr} {oe:Obj} {cls:Value} {d:Option Addr} {pn:List (Addr×Obj)} {e:Expr} {i:Nat} {y:Str} {p p2 pos:Pos} {fs:List (Str×D)} {B':Hp} {c:V} {cv:Value} {b:Bool} (T:ExcC X.K C) (hk:PySem.W.kitOne X.K (.ref C) cv=some b) (hv:∀ u,RelV c u->u=cv) (hz:Zc cls d oe) (hf:∃ vs,oe.data = .fields vs)
  (xd:XdR X.K B' d fs) (he:ME (X.suite a ((a,oe) :: pn)) B' e (zah i)) (hy:PE (X.suite a ((a,oe) :: pn)) (.Name y p2) (tC c)) (hg:Gl X "isinstance") (hm:X.mg "isinstance" = none)
  (hs:starEach [e,.Name y p2] X.env=(false,eval e X.env) :: starEach [.Name y p2] X.env:=by rfl) (hpl:(backTo pos (starEach [.Name y p2] X.env)).any (·.1)=false:=by rfl):ME (X.suite a ((a,oe) :: pn)) B' (.Call (.Name "isinstance" p) [e,.Name y p2] [] pos) (zoM i C a cls b):=by
 by_cases ec:cls = .ref C
 ·subst ec
  refine ⟨zbl (pe_callB (zlT T hz hf) hg hm boot_isinstance (pa_cons he.pe (pa_cons hy pa_nil) (hs:=hs)) (he:=hs) (hpl:=hpl)) fun σ H Q q=>?_,fun env S Q Q' h q=>zeF (fun x S1 z=>⟨z.1,z.2.1,h _ _ z.2.2⟩) q⟩
  obtain ⟨lB,env,S,er,rp,q⟩:=q
  refine ⟨lB,env,S,er,rp,zeF (fun x S1 z v H1 l1 z1 dv=>?_) q⟩
  obtain ⟨ex,_,hm2⟩:=z
  subst ex
  cases dv
  refine ⟨c,cv,b,rfl,?_,hv,hk,hm2 _ H1 l1 z1 (.bl b)⟩
  cases d with
  | none=>trivial
  | some dd=>
   obtain ⟨vs,e1,_⟩:=xd
   exact ⟨vs,(lB.trans l1).xd _ _ e1⟩
 ·refine ⟨zbl (⟨fun pins s σ H Q I h=>False.elim h⟩:PE (X.suite a ((a,oe) :: pn)) (.Call (.Name "isinstance" p) [e,.Name y p2] [] pos) (fun _ _ _=>False)) fun σ H Q q=>?_,fun env S Q Q' h q=>zeF (fun x S1 z=>⟨z.1,z.2.1,h _ _ z.2.2⟩) q⟩
  obtain ⟨lB,env,S,er,rp,q⟩:=q
  unfold zoM zah at q
  split at q
  ·exact ec q.2.1
  ·exact q
structure zzb (P:Program) (w:World) (K:PySem.W.Frag) (mg:Str->Option Value) (base:Heap) (k:Nat) (f:Addr) (sp:SpD) (n:Nat) (y y2:Str) (gD:List D->List D->List D):Prop where
 ex:∃ (fd:FuncData) (ps:List Str) (g:List Value->List Value->List Value) (gV:List V->List V->List V),FnOk P w K mg base (L2.CX P w) k f fd ps (zhv K P w sp)∧KBn K fd ps n [y,y2] g gV∧∀ (H:Hp) (ds ws:List D) (vs zs:List V),DVs K H ds vs->DVs K H ws zs->DVs K H (gD ds ws) (gV vs zs)
 kp:PySem.W.keepIn K (.ref f)=true
 mono:zd4 sp
section
variable {P:Program} {w:World} {K:PySem.W.Frag} {mg:Str->Option Value} {base:Heap}
end
section
variable {X:Cx} {B:Hp} {W:XW} {k n:Nat} {f C:Addr} {sp:SpD} {x y y2:Str} {p pos kpos kpos2:Pos} {e e2 e3:Expr} {es:List Expr} {ma:AM} {m2 m3:EM} {gD:List D->List D->List D}
def zmx (C:Addr) (sp:SpD) (W:XW) (n:Nat) (gD:List D->List D->List D) (m:AM) (m2 m3:EM):EM:=fun env S Q=>m env S fun ds S1=>m2 env S1 fun d S2=>m3 env S2 fun d2 S3=>ds.length=n∧∀ p,S3 p=none->sp (gD (.ref p :: ds) [d,d2]) (put S3 p (.ins C [])) (fun v S4=>v = .non∧Q (.ref p) S4) fun c fs S'=>W c fs env S'
end
structure Tu (fa:List He.Fa) (fn:List He.DefD) (su:List SuD) (file:Str) (ec:List Str) (tb:List zeV) (eq:List Str) (gt:List ziu) (pr:List PrD) (sq no:List Str) (is:List zmN) (w:World) (K:PySem.W.Frag) (mg:Str->Option Value):Prop extends Tv fa fn su file ec tb eq gt pr sq w K mg where
 nos:∀ x∈no,zt8 K x=true
 iss:∀ z∈is,zsB K z=true
section
variable {fa:List He.Fa} {fn:List He.DefD} {su:List SuD} {file:Str} {ex:List Str} {tb:List zeV} {eq:List Str} {gt:List ziu} {qr:List PrD} {qs no:List Str} {is:List zmN} {w:World} {K:PySem.W.Frag} {mg:Str->Option Value}
theorem Tu.mk' {h:Heap} (X:K.In h) (G:h.Ns mainGlobals mg) (c:zmj fa fn su file ex tb eq gt qr qs no is K=zoJ fn su tb qr w):Tu fa fn su file ex tb eq gt qr qs no is w K mg:=by
 have c2:((no.all fun x=>zt8 K x) && is.all fun z=>zsB K z)=true:=congrArg (fun z:AlU=>z.2) c
 obtain ⟨c3,c4⟩:=He.ba c2
 exact ⟨Tv.mk' X G (congrArg (fun z:AlU=>z.1) c),List.all_eq_true.mp c3,List.all_eq_true.mp c4⟩
theorem Tu.isi (T:Tu fa fn su file ex tb eq gt qr qs no is w K mg) (i:Nat) {x y:Str} {b:Bool} (h:is[i]? = some (x,y,b):=by rfl):ExcC K (He.ga K x)∧PySem.W.kitOne K (.ref (He.ga K x)) (.ref (He.ga K y))=some b:=by
 have z:=T.iss _ (List.mem_of_getElem? h)
 unfold zsB at z
 obtain ⟨h1,h2⟩:=He.ba z
 obtain ⟨h3,h4⟩:=He.ba h2
 unfold isB at h3
 obtain ⟨k1,h3⟩:=He.ba h3
 obtain ⟨k2,h3⟩:=He.ba h3
 obtain ⟨k3,k4⟩:=He.ba h3
 have X:=xfB_ok h1
 exact ⟨⟨X.ga,X.gg,X.exC,X.hdC,He.eqO_ok k1,He.eqO_ok k2,of_decide_eq_true k3,of_decide_eq_true k4⟩,of_decide_eq_true h4⟩
end
section
variable {env:Slo} {S:Sto} {Q:DQ} {ma ms:AM} {m2 m3:EM} {A:Fin} {C a:Addr} {W:XW} {d e:D} {cls:Value} {b:Bool} {i n:Nat} {sp:SpD} {gD:List D->List D->List D} {xs:List D}
def zsi (C:Addr) (W:XW) (env:Slo):List D->Sto->Prop:=fun ds S1=>match ds with
 | [_]=>W (.ref C) [] env S1
 | _=>False
theorem zk9 (h:ma env S (zsi C W env)):zkr C W ma A env S:=h
theorem zpP (h:W (.ref C) [] env S):zsi C W env [d] S:=h
theorem zqq (e0:env[i]? = some (some (.ref a))) (h:Q (.bl b) S):zoM i C a (.ref C) b env S Q:=by
 unfold zoM zah
 simp only [e0]
 exact ⟨trivial,trivial,h⟩
def zuo (C:Addr) (sp:SpD) (W:XW) (n:Nat) (gD:List D->List D->List D) (ds:List D) (d:D) (env:Slo) (Q:DQ):DQ:=fun d2 S3=>ds.length=n∧∀ p,S3 p=none->sp (gD (.ref p :: ds) [d,d2]) (put S3 p (.ins C [])) (fun v S4=>v = .non∧Q (.ref p) S4) fun c fs S'=>W c fs env S'
def zrA (C:Addr) (sp:SpD) (W:XW) (n:Nat) (gD:List D->List D->List D) (ds:List D) (m3:EM) (env:Slo) (Q:DQ):DQ:=fun d S2=>m3 env S2 (zuo C sp W n gD ds d env Q)
def zso (C:Addr) (sp:SpD) (W:XW) (n:Nat) (gD:List D->List D->List D) (m2 m3:EM) (env:Slo) (Q:DQ):List D->Sto->Prop:=fun ds S1=>m2 env S1 (zrA C sp W n gD ds m3 env Q)
theorem zm2 (h:ms env S (zso C sp W n gD m2 m3 env Q)):zmx C sp W n gD ms m2 m3 env S Q:=h
theorem zp1 (h:m2 env S (zrA C sp W n gD xs m3 env Q)):zso C sp W n gD m2 m3 env Q xs S:=h
theorem zp0 (h:m3 env S (zuo C sp W n gD xs d env Q)):zrA C sp W n gD xs m3 env Q d S:=h
instance zsE:St (zkr C W ma A env S) (ma env S (zsi C W env)):=⟨fun h=>zk9 h⟩
instance zv3:St (zsi C W env [d] S) (W (.ref C) [] env S):=⟨fun h=>zpP h⟩
instance zuz:St (zmx C sp W n gD ms m2 m3 env S Q) (ms env S (zso C sp W n gD m2 m3 env Q)):=⟨fun h=>zm2 h⟩
instance zwe:St (zso C sp W n gD m2 m3 env Q xs S) (m2 env S (zrA C sp W n gD xs m3 env Q)):=⟨fun h=>zp1 h⟩
instance zwd:St (zrA C sp W n gD xs m3 env Q d S) (m3 env S (zuo C sp W n gD xs d env Q)):=⟨fun h=>zp0 h⟩
end
def frE (g:Addr->Option Obj):Nat->List Addr->List Addr
 | 0,l=>l
 | n+1,l=>l++frE g n (l.flatMap fun a=>match g a with
  | some o=>(He.refsD o).filter fun b=>!(Nat.beq b mainGlobals)
  | none=>[])
def kPr (n:Nat) (g:Addr->Option Obj):PySem.W.Frag:=He.frG g (frE g n [mainGlobals]++[cStatics])
def zwL (n:Nat) (fa:List He.Fa) (fn:List He.DefD) (su:List SuD) (file:Str) (ex:List Str) (tb:List zeV) (eq:List Str) (gt:List ziu) (pr:List PrD) (sq:List Str):PySem.W.Hook where
 α:=AlV
 obs:=fun s=>zoK fa fn su file ex tb eq gt pr sq (kPr n s.heap.get?)
 val:=fun w=>zjo fn su tb pr w
 says:=fun w h=>∃ K:PySem.W.Frag,K.In h∧zoK fa fn su file ex tb eq gt pr sq K=zjo fn su tb pr w
 of:=fun _ _ e=>⟨_,He.frG_in,e⟩
 keeps:=fun _ _ _ ⟨K,hK,c⟩ k=>⟨K,hK.keeps k,c⟩
def zwM (n:Nat) (fa:List He.Fa) (fn:List He.DefD) (su:List SuD) (file:Str) (ex:List Str) (tb:List zeV) (eq:List Str) (gt:List ziu) (pr:List PrD) (sq:List Str) (no:List Str) (is:List zmN):PySem.W.Hook where
 α:=AlU
 obs:=fun s=>zmj fa fn su file ex tb eq gt pr sq no is (kPr n s.heap.get?)
 val:=fun w=>zoJ fn su tb pr w
 says:=fun w h=>∃ K:PySem.W.Frag,K.In h∧zmj fa fn su file ex tb eq gt pr sq no is K=zoJ fn su tb pr w
 of:=fun _ _ e=>⟨_,He.frG_in,e⟩
 keeps:=fun _ _ _ ⟨K,hK,c⟩ k=>⟨K,hK.keeps k,c⟩
structure ClV where
 c:Value
 i:Option Nat
 ts:Addr->Value->Option Addr->TS
def zxt (i:Option Nat) (D:Ends):Ends:=match i with
 | some j=>zqR j D
 | none=>D
def zw4 (i:Option Nat) (a:Addr) (σ:L2.St):L2.St:=match i with
 | some j=>σ.set j (some (.ref a))
 | none=>σ
def wCv (K:PySem.W.Frag) (Wout:WX) (D:Ends):List ClV->WX
 | []=>Wout
 | q :: r=>fun cls d σ H=>∃ b,PySem.W.exmOne K cls q.c=some b∧(b=true->∀ a,H a=none->q.ts a cls d (zxt q.i D) (zw4 q.i a σ) H)∧(b=false->wCv K Wout D r cls d σ H)
inductive CvOk (X:Cx):List ExceptHandler->List ClV->Prop
 | nil:CvOk X [] []
 | named {x n:Str} {c:Value} {i:Nat} {ts:Addr->Value->Option Addr->TS} {st0:Stmt} {rest:List Stmt} {p1 p2:Pos} {hds:List ExceptHandler} {l:List ClV} (hi:X.N[i]? = some n) (hl:X.env.kindOf n=some .local) (hc:Names X x c)
   (hsu:∀ (a:Addr) (oe:Obj) (cls:Value) (d:Option Addr) (pn:List (Addr×Obj)),Zc cls d oe->(∃ vs,oe.data = .fields vs)->PSs (X.suite a ((a,oe) :: pn)) (st0 :: rest) (ts a cls d)) (r:CvOk X hds l) :
   CvOk X (.ExceptHandler (some (.Name x p1)) (some n) (st0 :: rest) p2 :: hds) (⟨c,some i,ts⟩ :: l)
 | plain {x:Str} {c:Value} {ts:Addr->Value->Option Addr->TS} {st0:Stmt} {rest:List Stmt} {p1 p2:Pos} {hds:List ExceptHandler} {l:List ClV} (hc:Names X x c)
   (hsu:∀ (a:Addr) (oe:Obj) (cls:Value) (d:Option Addr) (pn:List (Addr×Obj)),Zc cls d oe->(∃ vs,oe.data = .fields vs)->PSs (X.suite a ((a,oe) :: pn)) (st0 :: rest) (ts a cls d)) (r:CvOk X hds l) :
   CvOk X (.ExceptHandler (some (.Name x p1)) none (st0 :: rest) p2 :: hds) (⟨c,none,ts⟩ :: l)
section
variable {X:Cx} {bd:List Stmt} {c0:ExceptHandler} {cs:List ExceptHandler} {l:List ClV} {pos:Pos} {tb:WX->TS} {Wout:WX}
end
structure ClW where
 C:Addr
 i:Option Nat
 su:SuM
def zyu (i:Option Nat) (A:Fin):Fin:=match i with
 | some j=>zkF j A
 | none=>A
def zw5 (i:Option Nat) (a:Addr) (env:Slo):Slo:=match i with
 | some j=>env.set j (some (.ref a))
 | none=>env
def zoX (K:PySem.W.Frag) (W:XW) (A:Fin):List ClW->XW
 | []=>W
 | q :: r=>fun c fs env S=>∃ b,PySem.W.exmOne K c (.ref q.C)=some b∧(b=true->∀ a,S a=none->q.su a c fs (zyu q.i A) (zw5 q.i a env) S)∧(b=false->zoX K W A r c fs env S)
def zxu (K:PySem.W.Frag) (b:XW->SM) (l:List ClW) (W:XW):SM:=fun A env S=>∃ A0,zd5 A0 A∧b (zoX K W A0 l) A0 env S
inductive HdX (X:Cx):List ExceptHandler->List ClW->Prop
 | nil:HdX X [] []
 | named {x n:Str} {C:Addr} {i:Nat} {su:SuM} {st0:Stmt} {rest:List Stmt} {p1 p2:Pos} {hds:List ExceptHandler} {l:List ClW} (hi:X.N[i]? = some n) (hl:X.env.kindOf n=some .local) (hc:Names X x (.ref C))
   (hsu:∀ (a:Addr) (oe:Obj) (cls:Value) (d:Option Addr) (pn:List (Addr×Obj)),Zc cls d oe->(∃ vs,oe.data = .fields vs)->∀ (fs:List (Str×D)) (B':Hp),XdR X.K B' d fs->MSs (X.suite a ((a,oe) :: pn)) B' (st0 :: rest) (su a cls fs)) (r:HdX X hds l) :
   HdX X (.ExceptHandler (some (.Name x p1)) (some n) (st0 :: rest) p2 :: hds) (⟨C,some i,su⟩ :: l)
 | plain {x:Str} {C:Addr} {su:SuM} {st0:Stmt} {rest:List Stmt} {p1 p2:Pos} {hds:List ExceptHandler} {l:List ClW} (hc:Names X x (.ref C))
   (hsu:∀ (a:Addr) (oe:Obj) (cls:Value) (d:Option Addr) (pn:List (Addr×Obj)),Zc cls d oe->(∃ vs,oe.data = .fields vs)->∀ (fs:List (Str×D)) (B':Hp),XdR X.K B' d fs->MSs (X.suite a ((a,oe) :: pn)) B' (st0 :: rest) (su a cls fs)) (r:HdX X hds l) :
   HdX X (.ExceptHandler (some (.Name x p1)) none (st0 :: rest) p2 :: hds) (⟨C,none,su⟩ :: l)
section
variable {X:Cx} {B:Hp} {W:XW}
theorem HdX.ok {hds:List ExceptHandler} {l:List ClW} (h:HdX X hds l):CvOk X hds (l.map fun q=>⟨.ref q.C,q.i,tSu X.K X.prog X.w q.su⟩):=by
 have su_ok:∀ {su:SuM} {st0:Stmt} {rest:List Stmt},(∀ (a:Addr) (oe:Obj) (cls:Value) (d:Option Addr) (pn:List (Addr×Obj)),Zc cls d oe->(∃ vs,oe.data = .fields vs)->∀ (fs:List (Str×D)) (B':Hp),XdR X.K B' d fs->MSs (X.suite a ((a,oe) :: pn)) B' (st0 :: rest) (su a cls fs)) ->
   ∀ (a:Addr) (oe:Obj) (cls:Value) (d:Option Addr) (pn:List (Addr×Obj)),Zc cls d oe->(∃ vs,oe.data = .fields vs)->PSs (X.suite a ((a,oe) :: pn)) (st0 :: rest) (tSu X.K X.prog X.w su a cls d):=fun {su st0 rest} hsu a oe cls d pn hz hf=>⟨fun pins s σ H D' I z=>by
  obtain ⟨fs,A1,env,S,xd,le,er,rp,q⟩:=z
  have M:=hsu a oe cls d pn hz hf fs H xd
  exact M.ps.run pins s σ H D' I ⟨Le.refl H,env,S,er,rp,M.mono _ _ _ _ le q⟩⟩
 induction h with
 | nil=>exact .nil
 | named hi hl hc hsu _ ih=>exact .named hi hl hc (su_ok hsu) ih
 | plain hc hsu _ ih=>exact .plain hc (su_ok hsu) ih
end
section
variable {K:PySem.W.Frag} {b:XW->SM} {l:List ClW} {W:XW} {A:Fin} {env:Slo} {S:Sto} {cls:Value} {fs:List (Str×D)} {C:Addr} {i:Option Nat} {su:SuM}
end
section
variable {P:Program} {w:World} {K:PySem.W.Frag} {mg:Str->Option Value} {base:Heap}
end
structure Lo (H H':Hp):Prop where
 tup:∀ a xs,H a=some (.tup xs)->H' a=some (.tup xs)
 frz:∀ a o u,(∀ vs,u≠.dK vs)->H a=some (.frz o u)->H' a=some (.frz o u)
theorem Lo.sqt {K:PySem.W.Frag} {H H':Hp} {a:Addr} {xs:List V} (l:Lo H H') (h:SqT K H a xs):SqT K H' a xs:=by
 rcases h with (h | ⟨o,h⟩) | h
 ·exact .inl (.inl (l.tup a xs h))
 ·exact .inl (.inr ⟨o,l.frz a o _ (fun _ z=>nomatch z) h⟩)
 ·exact .inr h
theorem Lo.rol {K:PySem.W.Frag} {H H':Hp} {a:Addr} {xs:List V} (l:Lo H H') (h:RoL K H a xs):RoL K H' a xs:=by
 rcases h with ⟨o,h⟩ | h
 ·exact .inl ⟨o,l.frz a o _ (fun _ z=>nomatch z) h⟩
 ·exact .inr h
theorem Lo.tf {H H':Hp} {a:Addr} {vs:List V} {f:Bool} (l:Lo H H') (h:TF H a vs f):TF H' a vs f:=by
 cases f with
 | false=>exact l.tup _ _ h
 | true=>
  obtain ⟨o,e,z⟩:=h
  exact ⟨o,l.frz _ _ _ (fun _ z=>nomatch z) e,z⟩
section
variable {K:PySem.W.Frag} {H H':Hp}
mutual
theorem DV.lo (l:Lo H H'):∀ (d:D) (v:V),DV K H d v->DV K H' d v
 | .non,_,h=>by cases h;exact .non
 | .bl b,_,h=>by cases h;exact .bl b
 | .int b,_,h=>by cases h;exact .int b
 | .str b,_,h=>by
  cases h with
  | str _ ok=>exact .str b ok
 | .ty b,_,h=>by cases h;exact .ty b
 | .ref b,_,h=>by cases h;exact .ref b
 | .tp f ds,_,h=>by
  cases h with
  | tup hs hd ht=>exact .tup (l.sqt hs) (DVs.lo l ds _ hd) (l.tf ht)
 | .rol ds,_,h=>by
  cases h with
  | rol hs hd=>exact .rol (l.rol hs) (DVs.lo l ds _ hd)
 | .rod ks ds,_,h=>by
  cases h with
  | rod hs hl hk hd=>
   obtain ⟨o,hs⟩:=hs
   exact .rod ⟨o,l.frz _ _ _ (fun _ z=>nomatch z) hs⟩ hl hk (DVs.lo l ds _ hd)
theorem DVs.lo (l:Lo H H'):∀ (ds:List D) (vs:List V),DVs K H ds vs->DVs K H' ds vs
 | [],_,h=>by cases h;exact .nil
 | d :: ds,_,h=>by
  cases h with
  | cons h1 h2=>exact .cons (DV.lo l d _ h1) (DVs.lo l ds _ h2)
end
theorem KVs.lo {κ:Type} {ds:List (κ×D)} {vs:List (κ×V)} (l:Lo H H') (h:KVs K H ds vs):KVs K H' ds vs:=by
 induction h with
 | nil=>exact .nil
 | cons h1 _ ih=>exact .cons (DV.lo l _ _ h1) ih
theorem KN.lo {ds:List D} {kvs:List (NestedKey×D)} {zs:List (NestedKey×Addr×V)} (l:Lo H H') (h:KN K H ds kvs zs):KN K H' ds kvs zs:=by
 induction h with
 | nil=>exact .nil
 | cons h1 h2 h3 h4 _ ih=>exact .cons h1 h2 (DV.lo l _ _ h3) (DV.lo l _ _ h4) ih
theorem OOk.lo {P:Program} {w:World} {a:Addr} {o:O} (h:OOk K P w H a o) (l:Lo H H') (e:H' a=H a):OOk K P w H' a o:=by
 cases o with
 | lst=>obtain ⟨vs,q,z⟩:=h;exact ⟨vs,e.trans q,DVs.lo l _ _ z⟩
 | dic=>obtain ⟨vs,q,z⟩:=h;exact ⟨vs,e.trans q,z.lo l⟩
 | dit=>obtain ⟨vs,q,z⟩:=h;exact ⟨vs,e.trans q,z.lo l⟩
 | set=>exact e.trans h
 | ins=>obtain ⟨dx,vs,q,z⟩:=h;exact ⟨dx,vs,e.trans q,z.lo l⟩
 | din=>obtain ⟨zs,q,z⟩:=h;exact ⟨zs,e.trans q,z.lo l⟩
end
def FzK (K:PySem.W.Frag) (H:Hp) (a:Addr) (kvs:List (Key×D)):Prop:=∃ o vs,H a=some (.frz o (.dK vs))∧KVs K H kvs vs
theorem FzK.le {K:PySem.W.Frag} {H H':Hp} {a:Addr} {kvs:List (Key×D)} (h:FzK K H a kvs) (l:Le H H'):FzK K H' a kvs:=by
 obtain ⟨o,vs,e,z⟩:=h
 exact ⟨o,vs,l.frz _ _ _ e,z.le l⟩
def zyS (m:Addr->List (Key×D)->EM):EM:=fun env S Q=>∃ a kvs,S a=some (.dic kvs)∧∃ Q0:DQ,(∀ d S1,Q0 d S1->S1 a=none∧Q d (put S1 a (.dic kvs)))∧m a kvs env (zoP S a) Q0
section
variable {X:Cx} {B:Hp} {e:Expr} {m:Addr->List (Key×D)->EM}
end
def zrN (a:Addr) (kvs:List (Key×D)) (m:EM):IM:=fun env S R=>m env S fun d S1=>d = .ref a∧(∀ kv∈kvs,okK kv.1)∧R (kvs.map fun kv=>kD kv.1) (fun _=>True) S1
section
variable {X:Cx} {B:Hp} {a:Addr} {kvs:List (Key×D)} {tg:Expr}
def zyB (a:Addr) (kvs:List (Key×D)):BM:=fun d e S Q=>d = .ref a∧match keyD e with
 | some k=>(match valD kvs k with
  | some x=>Q x S
  | none=>False)
 | none=>False
end
section
variable {env:Slo} {S:Sto} {Q:DQ} {a:Addr} {kvs:List (Key×D)} {me:EM} {R:List D->(Sto->Prop)->Sto->Prop} {x:D} {k:Key} {d:D} {m:Addr->List (Key×D)->EM}
def zrD (a:Addr) (kvs:List (Key×D)) (R:List D->(Sto->Prop)->Sto->Prop):DQ:=fun d S1=>d = .ref a∧(∀ kv∈kvs,okK kv.1)∧R (kvs.map fun kv=>kD kv.1) (fun _=>True) S1
theorem znx (h:me env S (zrD a kvs R)):zrN a kvs me env S R:=h
instance zuW:St (zrN a kvs me env S R) (me env S (zrD a kvs R)):=⟨fun h=>znx h⟩
end
section
variable {K:PySem.W.Frag} {P:Program} {w:World} {H:Hp} {h:Heap}
theorem zpb (ok:HOk P w H h) {a:Addr} {vs:List V} {f:Bool} (t:TF H a vs f):∃ (its:List Value) (o:Obj) (n:Nat),Vals vs its∧h.get? a=some o∧o.cls = .type "tuple" ∧ o.data = .seq its.toArray n:=by
 cases f with
 | false=>
  obtain ⟨_,its,r,o,h1,h2,n,h3⟩:=(show ObjOk P w H h a (.tup vs) from ok a _ t)
  exact ⟨its,o,n,r,h1,h2,h3⟩
 | true=>
  obtain ⟨ob,e,_⟩:=t
  obtain ⟨_,_,its,r,o,h1,h2,n,h3⟩:=(show ObjOk P w H h a (.frz ob (.tup vs)) from ok a _ e)
  exact ⟨its,o,n,r,h1,h2,h3⟩
mutual
theorem znK (ok:HOk P w H h):∀ (d:D) (v:V) (u:Value) (k:NestedKey),DV K H d v->RelV v u->nkD d=some k->NestedIs h k u
 | .non,_,u,k,z,r,e=>by
  cases z
  rw [nkD] at e
  cases e
  rw [show u=Value.none from r]
  exact .none
 | .bl b,_,u,k,z,r,e=>by
  cases z
  rw [nkD] at e
  cases e
  rw [show u=Value.bool b from r]
  exact .bool rfl
 | .int i,_,u,k,z,r,e=>by
  cases z
  rw [nkD] at e
  cases e
  obtain ⟨t,rfl⟩:=r
  exact .int i t
 | .str x,_,u,k,z,r,e=>by
  cases z
  rw [nkD] at e
  cases e
  obtain ⟨t,rfl⟩:=r
  exact .text x t
 | .tp f xs,_,u,k,z,r,e=>by
  cases z with
  | @tup a vs _ _ s zs t=>
   rw [nkD] at e
   obtain ⟨ks,e1,rfl⟩:=Option.map_eq_some_iff.mp e
   obtain rfl:u=Value.ref a:=r
   obtain ⟨its,o,n,rr,h1,h2,h3⟩:=zpb ok t
   exact .tup h1 h2 h3 (by simpa using zi0 ok xs vs its ks zs rr e1)
 | .rol _,_,_,_,_,_,e=>by rw [nkD] at e;cases e
 | .ref _,_,_,_,_,_,e=>by rw [nkD] at e;cases e
 | .ty _,_,_,_,_,_,e=>by rw [nkD] at e;cases e
 | .rod _ _,_,_,_,_,_,e=>by rw [nkD] at e;cases e
theorem zi0 (ok:HOk P w H h):∀ (ds:List D) (vs:List V) (us:List Value) (ks:List NestedKey),DVs K H ds vs->Vals vs us->zqX ds=some ks->NestedAll h ks us
 | [],_,_,ks,z,r,e=>by
  cases z
  cases r
  rw [zqX] at e
  cases e
  exact .nil
 | d :: ds,_,_,ks,z,r,e=>by
  cases z with
  | cons z1 z2=>
   cases r with
   | cons r1 r2=>
    rw [zqX] at e
    obtain ⟨k,e1,e⟩:=Option.bind_eq_some_iff.mp e
    obtain ⟨ks',e2,rfl⟩:=Option.map_eq_some_iff.mp e
    exact .cons (znK ok d _ _ k z1 r1 e1) (zi0 ok ds _ _ ks' z2 r2 e2)
end
def nk8:D->Option NestedKey
 | .tp f xs=>match nkD (.tp f xs) with
  | some k=>if k.depth≤8 then some k else none
  | none=>none
 | _=>none
def zV (zs:List (NestedKey×Addr×V)):List (NestedKey×V):=zs.map fun z=>(z.1,z.2.2)
variable {ks:List D} {kvs:List (NestedKey×D)} {zs:List (NestedKey×Addr×V)} {xs:List (NestedKey×Addr×Value)} {a:Addr} {k:NestedKey}
theorem KN.kv_ (r:KN K H ks kvs zs):KVs K H kvs (zV zs):=by
 induction r with
 | nil=>exact .nil
 | cons _ _ _ h4 _ ih=>exact .cons h4 ih
theorem KN.len (r:KN K H ks kvs zs):kvs.length=zs.length∧ks.length=zs.length:=by
 induction r with
 | nil=>exact ⟨rfl,rfl⟩
 | cons _ _ _ _ _ ih=>exact ⟨by simp [ih.1],by simp [ih.2]⟩
theorem KZ.val (r:KZ zs xs) (k:NestedKey):RelO (valV (zV zs) k) ((atKey xs k).map (·.2)):=by
 induction r with
 | nil=>exact True.intro
 | @cons p q ps qs h t ih=>
  obtain ⟨h1,_,h2⟩:=h
  by_cases e:p.1=k
  ·have e':q.1=k:=h1.symm.trans e
   have b:atKey (q :: qs) k=some q.2:=by simp [atKey,List.find?_cons,e']
   rw [show zV (p :: ps)=(p.1,p.2.2) :: zV ps from rfl,valV_pos (p:=(p.1,p.2.2)) e,b]
   exact h2
  ·have e':¬ q.1=k:=fun z=>e (h1.trans z)
   have b:atKey (q :: qs) k=atKey qs k:=by simp [atKey,List.find?_cons,e']
   rw [show zV (p :: ps)=(p.1,p.2.2) :: zV ps from rfl,valV_neg (p:=(p.1,p.2.2)) e,b]
   exact ih
def zr6 (zs:List (NestedKey×Addr×V)) (k:NestedKey) (b:Addr) (y:V):List (NestedKey×Addr×V):=if (valV (zV zs) k).isSome=true then zs.map (fun z=>if z.1=k then (z.1,z.2.1,y) else z) else zs++[(k,b,y)]
theorem KZ.repl (r:KZ zs xs) (k:NestedKey) {y:V} {u:Value} (ry:RelV y u):KZ (zs.map fun z=>if z.1=k then (z.1,z.2.1,y) else z) (xs.map (putAt k u)):=by
 induction r with
 | nil=>exact .nil
 | @cons p q ps qs h t ih=>
  rw [List.map_cons,List.map_cons]
  refine .cons ?_ ih
  obtain ⟨h1,h2,h3⟩:=h
  unfold putAt
  by_cases e:p.1=k
  ·rw [if_pos e,if_pos (h1.symm.trans e)];exact ⟨h1,h2,ry⟩
  ·rw [if_neg e,if_neg (fun z=>e (h1.trans z))];exact ⟨h1,h2,h3⟩
theorem KZ.put (r:KZ zs xs) (k:NestedKey) {b:Addr} {y:V} {u:Value} (ry:RelV y u):KZ (zr6 zs k b y) (storedH xs k b u):=by
 have e:=(r.val k).isSome_eq
 rw [Option.isSome_map] at e
 unfold zr6 storedH
 rw [e]
 by_cases q:(atKey xs k).isSome=true
 ·rw [if_pos q,if_pos q];exact r.repl k ry
 ·rw [if_neg q,if_neg q];exact Paired.snoc r ⟨rfl,rfl,ry⟩
def zle (ks:List D) (kvs:List (NestedKey×D)) (k:NestedKey) (d:D):List D:=if (valD kvs k).isSome=true then ks else ks++[d]
theorem zoE (kvs:List (NestedKey×D)) (k:NestedKey):(kvs.any fun kv=>decide (kv.1=k))=(valD kvs k).isSome:=by
 induction kvs with
 | nil=>rfl
 | cons p kvs ih=>
  unfold valD at ih ⊢
  rw [List.any_cons,List.find?_cons,ih]
  by_cases e:p.1=k
  ·simp [e]
  ·simp [e]
theorem KN.map (r:KN K H ks kvs zs) (k:NestedKey) {e:D} {y:V} (ry:DV K H e y):KN K H ks (kvs.map fun kv=>if kv.1=k then (kv.1,e) else kv) (zs.map fun z=>if z.1=k then (z.1,z.2.1,y) else z):=by
 induction r with
 | nil=>exact .nil
 | @cons d e' k' b v ds kvs zs h1 h2 h3 h4 _ ih=>
  rw [List.map_cons,List.map_cons]
  by_cases q:k'=k
  ·simp only [q,if_true]
   rw [q] at h1 h2
   exact .cons h1 h2 h3 ry ih
  ·simp only [q,if_false]
   exact .cons h1 h2 h3 h4 ih
theorem KN.snoc (r:KN K H ks kvs zs) {k:NestedKey} {d e:D} {b:Addr} {y:V} (h1:nkD d=some k) (h2:k.depth≤8) (h3:DV K H d (.ref b)) (h4:DV K H e y):KN K H (ks++[d]) (kvs++[(k,e)]) (zs++[(k,b,y)]):=by
 induction r with
 | nil=>exact .cons h1 h2 h3 h4 .nil
 | cons g1 g2 g3 g4 _ ih=>exact .cons g1 g2 g3 g4 ih
theorem KN.put (r:KN K H ks kvs zs) {k:NestedKey} {d e:D} {b:Addr} {y:V} (h1:nkD d=some k) (h2:k.depth≤8) (h3:DV K H d (.ref b)) (h4:DV K H e y):KN K H (zle ks kvs k d) (putD kvs k e) (zr6 zs k b y):=by
 unfold zle putD zr6
 rw [zoE,zhl r.kv_ k]
 by_cases q:(valD kvs k).isSome=true
 ·rw [if_pos q,if_pos q,if_pos q];exact r.map k h4
 ·rw [if_neg q,if_neg q,if_neg q];exact r.snoc h1 h2 h3 h4
end
section
variable {X:Cx} {B:Hp} {pos:Pos}
def zmz:EM:=fun _ S Q=>∀ p,S p=none->Q (.ref p) (put S p (.din [] []))
def zyD (g:Bool->Bool):BM:=fun d e S Q=>match nk8 d,e with
 | some k,.ref a=>match S a with
  | some (.din _ kvs)=>Q (.bl (g (valD kvs k).isSome)) S
  | _=>False
 | _,_=>False
def zyA:BM:=fun d e S Q=>match d,nk8 e with
 | .ref a,some k=>match S a with
  | some (.din _ kvs)=>match valD kvs k with
   | some v=>Q v S
   | none=>False
  | _=>False
 | _,_=>False
def zsT (S:Sto) (o i v:D):Option Sto:=match o,nk8 i with
 | .ref a,some k=>match S a with
  | some (.din ks kvs)=>if kvs.length < sizeLine then some (put S a (.din (zle ks kvs k i) (putD kvs k v))) else none
  | _=>none
 | _,_=>none
def zxl (X:Cx):TSet:=fun o i v H Q=>∃ do_ di dv S S',DV X.K H do_ o∧DV X.K H di i∧DV X.K H dv v∧Rp X.K X.prog X.w S H∧zsT S do_ di dv=some S'∧∀ H',Le H H'->Rp X.K X.prog X.w S' H'->Q H'
def zwP (mo mi:EM):GM:=fun d env S Q=>mo env S fun o S1=>mi env S1 fun i S2=>match zsT S2 o i d with
 | some S3=>Q env S3
 | none=>False
def kSd (d k:D) (Q:DQ):DQ:=fun z S3=>match d,nk8 k with
 | .ref a,some kk=>match S3 a with
  | some (.din ks kvs)=>kvs.length < sizeLine∧match valD kvs kk with
   | some v=>Q v S3
   | none=>Q z (put S3 a (.din (zle ks kvs kk k) (putD kvs kk z)))
  | _=>False
 | _,_=>False
def okN (d:D) (S:Sto):Prop:=match d with
 | .ref a=>match S a with
  | some (.din _ _)=>True
  | _=>False
 | _=>False
def zmu (mo mk mx:EM):EM:=fun env S Q=>mo env S fun d S1=>okN d S1∧mk env S1 fun k S2=>mx env S2 (kSd d k Q)
def zyI (X:Cx) (to ty tx:TE):TE:=fun σ H Q=>to σ H fun x H1=>(∃ a zs,x = .ref a∧H1 a=some (dN X.prog X.w a zs))∧ty σ H1 fun y H2=>tx σ H2 fun z H3=>∃ d k v S,DV X.K H3 d x∧DV X.K H3 k y∧DV X.K H3 v z∧Rp X.K X.prog X.w S H3∧kSd d k (dnE X.K X.prog X.w H3 Q) v S
end
section
variable {env:Slo} {S:Sto} {Q:DQ} {a:Addr} {ks:List D} {kvs:List (NestedKey×D)} {d e v:D} {k:NestedKey} {NQ:Slo->Sto->Prop} {mo mi mk mx:EM}
theorem znz (h:∀ p,S p=none->Q (.ref p) (put S p (.din [] []))):zmz env S Q:=h
def zuh (d o:D) (env:Slo) (NQ:Slo->Sto->Prop):DQ:=fun i S2=>match zsT S2 o i d with
 | some S3=>NQ env S3
 | none=>False
def zsb (d:D) (mi:EM) (env:Slo) (NQ:Slo->Sto->Prop):DQ:=fun o S1=>mi env S1 (zuh d o env NQ)
theorem zqB (h:mo env S (zsb d mi env NQ)):zwP mo mi d env S NQ:=h
theorem zpD (h:mi env S (zuh d e env NQ)):zsb d mi env NQ e S:=h
def zul (d:D) (mx:EM) (env:Slo) (Q:DQ):DQ:=fun k S2=>mx env S2 (kSd d k Q)
def zvw (mk mx:EM) (env:Slo) (Q:DQ):DQ:=fun d S1=>okN d S1∧mk env S1 (zul d mx env Q)
theorem zmY (h:mo env S (zvw mk mx env Q)):zmu mo mk mx env S Q:=h
theorem zpK (h:mx env S (kSd e d Q)):zul e mx env Q d S:=h
end
section
variable {env:Slo} {S:Sto} {Q:DQ} {d e:D} {NQ:Slo->Sto->Prop} {mo mi mk mx:EM}
instance zuY:St (zmz env S Q) (∀ p,S p=none->Q (.ref p) (put S p (.din [] []))):=⟨fun h=>znz h⟩
instance zwB:St (zwP mo mi d env S NQ) (mo env S (zsb d mi env NQ)):=⟨fun h=>zqB h⟩
instance zvR:St (zsb d mi env NQ e S) (mi env S (zuh d e env NQ)):=⟨fun h=>zpD h⟩
instance zuw:St (zmu mo mk mx env S Q) (mo env S (zvw mk mx env Q)):=⟨fun h=>zmY h⟩
instance zvY:St (zul e mx env Q d S) (mx env S (kSd e d Q)):=⟨fun h=>zpK h⟩
end
def weave {α:Type}:List Bool->List α->List α->List α
 | [],_,_=>[]
 | true :: _,_,[]=>[]
 | true :: bs,mv,w :: ws=>w :: weave bs mv ws
 | false :: _,[],_=>[]
 | false :: bs,m :: mv,ws=>m :: weave bs mv ws
theorem zfK:∀ {bs:List Bool} {mz zs:List V} {mv ws:List Value},Vals mz mv->Vals zs ws->Vals (weave bs mz zs) (weave bs mv ws)
 | [],_,_,_,_,_,_=>.nil
 | true :: bs,_,_,_,_,r,.nil=>.nil
 | true :: bs,_,_,_,_,r,.cons h t=>.cons h (zfK r t)
 | false :: bs,_,_,_,_,.nil,r=>.nil
 | false :: bs,_,_,_,_,.cons h t,r=>.cons h (zfK t r)
theorem zgE {K:PySem.W.Frag} {H:Hp}:∀ {bs:List Bool} {mz zs:List D} {mv ws:List V},DVs K H mz mv->DVs K H zs ws->DVs K H (weave bs mz zs) (weave bs mv ws)
 | [],_,_,_,_,_,_=>.nil
 | true :: bs,_,_,_,_,r,.nil=>.nil
 | true :: bs,_,_,_,_,r,.cons h t=>.cons h (zgE r t)
 | false :: bs,_,_,_,_,.nil,r=>.nil
 | false :: bs,_,_,_,_,.cons h t,r=>.cons h (zgE t r)
structure MK (X:Cx) (B:Hp) (kws:List Keyword) (m:AM):Prop where
 pk:PK X kws (upA X.K X.prog X.w B m)
 mono:zkS m
theorem zmd {X:Cx} {kws:List Keyword} {t t':TA} (h:PK X kws t) (i:∀ σ H Q,t' σ H Q->t σ H Q):PK X kws t':=⟨fun pos pins s σ H Q I q=>h.run pos pins s σ H Q I (i σ H Q q)⟩
section
variable {X:Cx} {B:Hp}
theorem zmp:MK X B [] zan:=by
 refine ⟨zmd pk_nil fun σ H Q q=>?_,fun env S Q Q' i q=>i _ _ q⟩
 obtain ⟨lB,env,S,r0,z0,q⟩:=q
 exact q [] H (Le.refl H) z0 .nil
theorem zn1 {y:Str} {e:Expr} {kpos:Pos} {kws:List Keyword} {me:EM} {ms:AM} (h:ME X B e me) (h2:MK X B kws ms):MK X B (⟨some y,e,kpos⟩ :: kws) (zac me ms):=by
 refine ⟨zmd (pk_cons h.pe h2.pk) fun σ H Q q=>?_,zi6 h.mono h2.mono⟩
 obtain ⟨lB,env,S,r0,z0,q⟩:=q
 refine ⟨lB,env,S,r0,z0,h.mono env S _ _ (fun d S1 q v H1 l1 z1 d1=>?_) q⟩
 refine ⟨lB.trans l1,env,S1,r0.le l1,z1,h2.mono env S1 _ _ (fun ds S2 q vs H2 l2 z2 d2=>?_) q⟩
 exact q (v :: vs) H2 (l1.trans l2) z2 (.cons (d1.le l2) d2)
end
structure FdL (P:Program) (w:World) (K:PySem.W.Frag) (mg:Str->Option Value) (base:Heap) (k:Nat) (f:Addr) (sp:SpD) (n:Nat) (ks:List Str) (gD:List D->List D->List D):Prop where
 ex:∃ (fd:FuncData) (ps:List Str) (g:List Value->List Value->List Value) (gV:List V->List V->List V),FnOk P w K mg base (L2.CX P w) k f fd ps (zhv K P w sp)∧KBn K fd ps n ks g gV∧∀ (H:Hp) (ds ws:List D) (vs zs:List V),DVs K H ds vs->DVs K H ws zs->DVs K H (gD ds ws) (gV vs zs)
 kp:PySem.W.keepIn K (.ref f)=true
 mono:zd4 sp
section
variable {P:Program} {w:World} {K:PySem.W.Frag} {mg:Str->Option Value} {base:Heap}
theorem zkc {x qual:Str} {params:Arguments} {body:List Stmt} {scope:Scope} {f:Addr} {fd:FuncData} {N ps:List Str} {k n m np:Nat} {b:XW->SM} {kws:List (Str×V)} (F:FunD K x qual params body scope [] kws f fd) (S:FnScope N ps scope) (ks:List Str) (ms:List (Str×V)) (mD:List D) (bs:List Bool)
  (hk0:kws≠[]) (hms:∀ q∈ms,q∈kws) (hmd:∀ H,DVs K H mD (ms.map (·.2)))
  (hk:∀ (D:Addr) (doc pm:Value) (an:Option Addr) (cdv ct:Value) (us mv ws:List Value),us.length=n->mv.length=ms.length->ws.length=ks.length->KwChain D ((ms.map (·.1)).zip mv) (bindArgs (PySem.W.fnOf x qual params body scope .none (.ref D) doc pm an cdv ct) ⟨us,ks.zip ws⟩) (ps.zip (us++weave bs mv ws)))
  (hn:ps.length=np) (hN:N.length=np+m)
  (hb:∀ (cdv:Value) (A:Around) (outer:List Env) (s:Shared) (H:Hp) (E:XK),Room k (A.deeper (envOfC qual scope s.heap.objs.size f cdv))->∀ (X:Cx) (eX:X=cxOf (L2.CX P w) P w K mg base N qual scope f cdv A outer s H E) (W:XW),Tk X H W->PassesOwn (model X.prog X.w) X.A X.env X.xe->MSs X H body (b W)):FdL P w K mg base (k+1) f (spB np m b) n ks (fun ds ws=>ds++weave bs mD ws):=by
 obtain ⟨mv,kb⟩:=F.kbinds0 n ks ms (fun us mv ws=>us++weave bs mv ws) hk0 hms (fun r1 r2 r3=>r1.append (zfK r2 r3)) hk
 refine ⟨⟨fd,ps,_,_,F.ok S (fun vs H Q E h=>?_) (fun cdv A outer s H vs Q E hr h=>?_),kb,fun H ds ws vs zs h1 h2=>h1.append (zgE (hmd H) h2)⟩,F.kp,zki⟩
 ·obtain ⟨ds,S0,h1,h2,Q0,E0,_,_,h3,_⟩:=h
  rw [← h1.length,h3,hn]
 ·obtain ⟨ds,S0,h1,h2,Q0,E0,i1,i2,h3,h4⟩:=h
  have tk0:Takes (cxOf (L2.CX P w) P w K mg base N qual scope f cdv A outer s H E) (fun cls d _ H=>E cls d H):=takes_of rfl rfl rfl rfl
  have tk:Tk (cxOf (L2.CX P w) P w K mg base N qual scope f cdv A outer s H E) H (fun c fs _ S'=>E0 c fs S'):=tk0.imp fun c d σ H' z=>by
   obtain ⟨l,env,S',fs,_,z1,z2,z3⟩:=z
   exact i2 _ _ _ z3 d H' l z1 z2
  have Z:=hb cdv A outer s H E hr _ rfl _ tk (passes_of rfl)
  refine ⟨_,Z.ps,Le.refl H,_,S0,zgR h1 (by rw [h3];exact hN),h2,Z.mono.go h4 ⟨fun e S' q σ H' l r z=>?_,fun d S' q v H' l z dv=>i1 _ _ q v H' l z dv,fun _ _ q=>q.elim,fun _ _ q=>q.elim⟩⟩
  exact i1 _ _ q _ H' l z .non
end
section
variable {X:Cx} {B:Hp} {W:XW} {k n nk:Nat} {f C:Addr} {sp:SpD} {x:Str} {p pos:Pos} {e:Expr} {es:List Expr} {ma mk:AM} {gD:List D->List D->List D} {ks:List Str} {kws:List Keyword}
def zil (sp:SpD) (W:XW) (n nk:Nat) (gD:List D->List D->List D) (m mk:AM):EM:=fun env S Q=>m env S fun ds S1=>mk env S1 fun ws S2=>ds.length=n∧ws.length=nk∧sp (gD ds ws) S2 Q fun c fs S'=>W c fs env S'
def zmv (C:Addr) (sp:SpD) (W:XW) (n nk:Nat) (gD:List D->List D->List D) (m mk:AM):EM:=fun env S Q=>m env S fun ds S1=>mk env S1 fun ws S2=>ds.length=n∧ws.length=nk∧∀ p,S2 p=none->sp (gD (.ref p :: ds) ws) (put S2 p (.ins C [])) (fun v S4=>v = .non∧Q (.ref p) S4) fun c fs S'=>W c fs env S'
theorem zmr (F:FdL X.prog X.w X.K X.mg X.base k f sp n ks gD) (hr:Room k X.A) (tk:Tk X B W) (hm:X.mg x=some (.ref f)) (ha:MA X B (e :: es) ma) (h2:MK X B kws mk) (hg:Gl X x:=by rfl) (hnk:ks.length=nk:=by rfl)
  (hall:(backToKw pos (keywordEach kws X.env)).all (·.1.isSome)=true:=by rfl) (hks:(backToKw pos (keywordEach kws X.env)).filterMap (·.1)=ks:=by rfl)
  (hdb:(x == ("__debug__" : Str))=false:=by decide) (he:starEach (e :: es) X.env=(false,eval e X.env) :: starEach es X.env:=by rfl)
  (hpl:((backTo pos (starEach (e :: es) X.env)).any (·.1) || (backToKw pos (keywordEach kws X.env)).any (·.1.isNone))=false:=by rfl) :
  ME X B (.Call (.Name x p) (e :: es) kws pos) (zil sp W n nk gD ma mk):=by
 obtain ⟨fd,ps,g,gV,F1,kb,hgv⟩:=F.ex
 refine ⟨zbl (zj6 F1 hr hg hm F.kp kb (fun σ=>passAt tk σ) ha.pa h2.pk hall hks hdb he hpl) fun σ H Q q=>?_,fun env S Q Q' i q=>ha.mono env S _ _ (fun ds S1 q=>h2.mono env S1 _ _ (fun d S2 q=>⟨q.1,q.2.1,F.mono _ _ _ _ _ _ i (fun _ _ _ h=>h) q.2.2⟩) q) q⟩
 obtain ⟨lB,env,S,r0,z0,q⟩:=q
 refine ⟨lB,env,S,r0,z0,ha.mono env S _ _ (fun ds S1 q vs H1 l1 z1 d1=>?_) q⟩
 refine ⟨lB.trans l1,env,S1,r0.le l1,z1,h2.mono env S1 _ _ (fun ws S2 q zs H2 l2 z2 d2=>?_) q⟩
 refine ⟨by rw [← d1.length];exact q.1,by rw [← d2.length,hnk];exact q.2.1,?_⟩
 exact zjP F.mono lB r0 (l1.trans l2) z2 (hgv _ _ _ _ _ (d1.le l2) d2) q.2.2
end
section
variable {env:Slo} {S:Sto} {Q:DQ} {ma mk:AM} {C:Addr} {W:XW} {n nk:Nat} {sp:SpD} {gD:List D->List D->List D} {xs ys:List D}
def zsr (sp:SpD) (W:XW) (n nk:Nat) (gD:List D->List D->List D) (ds:List D) (env:Slo) (Q:DQ):List D->Sto->Prop:=fun ws S2=>ds.length=n∧ws.length=nk∧sp (gD ds ws) S2 Q fun c fs S'=>W c fs env S'
def zss (sp:SpD) (W:XW) (n nk:Nat) (gD:List D->List D->List D) (mk:AM) (env:Slo) (Q:DQ):List D->Sto->Prop:=fun ds S1=>mk env S1 (zsr sp W n nk gD ds env Q)
theorem znB (h:ma env S (zss sp W n nk gD mk env Q)):zil sp W n nk gD ma mk env S Q:=h
theorem zp5 (h:mk env S (zsr sp W n nk gD xs env Q)):zss sp W n nk gD mk env Q xs S:=h
theorem zl6 (h1:xs.length=n) (h2:ys.length=nk) (h:sp (gD xs ys) S Q fun c fs S'=>W c fs env S'):zsr sp W n nk gD xs env Q ys S:=⟨h1,h2,h⟩
def zuq (C:Addr) (sp:SpD) (W:XW) (n nk:Nat) (gD:List D->List D->List D) (ds:List D) (env:Slo) (Q:DQ):List D->Sto->Prop:=fun ws S2=>ds.length=n∧ws.length=nk∧∀ p,S2 p=none->sp (gD (.ref p :: ds) ws) (put S2 p (.ins C [])) (fun v S4=>v = .non∧Q (.ref p) S4) fun c fs S'=>W c fs env S'
def zst (C:Addr) (sp:SpD) (W:XW) (n nk:Nat) (gD:List D->List D->List D) (mk:AM) (env:Slo) (Q:DQ):List D->Sto->Prop:=fun ds S1=>mk env S1 (zuq C sp W n nk gD ds env Q)
theorem zm0 (h:ma env S (zst C sp W n nk gD mk env Q)):zmv C sp W n nk gD ma mk env S Q:=h
theorem zp6 (h:mk env S (zuq C sp W n nk gD xs env Q)):zst C sp W n nk gD mk env Q xs S:=h
instance zu0:St (zil sp W n nk gD ma mk env S Q) (ma env S (zss sp W n nk gD mk env Q)):=⟨fun h=>znB h⟩
instance zwh:St (zss sp W n nk gD mk env Q xs S) (mk env S (zsr sp W n nk gD xs env Q)):=⟨fun h=>zp5 h⟩
instance zux:St (zmv C sp W n nk gD ma mk env S Q) (ma env S (zst C sp W n nk gD mk env Q)):=⟨fun h=>zm0 h⟩
instance zwi:St (zst C sp W n nk gD mk env Q xs S) (mk env S (zuq C sp W n nk gD xs env Q)):=⟨fun h=>zp6 h⟩
end
section
variable {prog:Program} {w:World} {A:Around} {E:Value->Shared->Prop} {s:Shared} {K:PySem.W.Frag} {x C f:Addr} {ox:Obj} {od:Option Obj} {y:Value}
end
def zyC (C:Addr) (sp:SpD) (g:Bool->Bool):BM:=fun d e S Q=>match e with
 | .ref a=>(∃ fs,S a=some (.ins C fs))∧sp [.ref a,d] S (fun v S'=>∃ b:Bool,v = .bl b∧Q (.bl (g b)) S') (fun _ _ _=>False)
 | _=>False
section
variable {X:Cx} {k:Nat} {C f:Addr} {sp:SpD}
end
section
variable {S:Sto} {Q:DQ} {C a:Addr} {fs:List (Str×D)} {sp:SpD} {d:D} {g:Bool->Bool}
end
section
variable {X:Cx} {B:Hp}
def zxr:MM:=fun d ds S Q=>match d,ds with
 | .ref a,[y]=>∃ (p:PyData) (ps:List PyData) (j:Nat) (z:PyData),rs S 40 y=some p∧rs S 40 (.ref a)=some (.list ps)∧ps[j]? = some z∧PyData.eqv z p=true∧(∀ (m:Nat) (z':PyData),m < j->ps[m]? = some z'->PyData.eqv z' p=false)∧Q (.int (j:Nat)) S
 | _,_=>False
end
section
variable {S:Sto} {Q:DQ} {a:Addr} {d:D}
end
section
variable {X:Cx} {B:Hp}
def kG1 (d:D) (Q:DQ):DQ:=fun k S2=>match d with
 | .ref a=>match S2 a,keyD k with
  | some (.dic kvs),some kk=>Q ((valD kvs kk).getD .non) S2
  | _,_=>False
 | _=>False
def zrg (mo mk:EM):EM:=fun env S Q=>mo env S fun d S1=>zqU d S1∧mk env S1 (kG1 d Q)
def kGN (d:D) (Q:DQ):DQ:=fun k S2=>match d,nk8 k with
 | .ref a,some kk=>match S2 a with
  | some (.din ks kvs)=>Q ((valD kvs kk).getD .non) S2
  | _=>False
 | _,_=>False
def zre (mo mk:EM):EM:=fun env S Q=>mo env S fun d S1=>okN d S1∧mk env S1 (kGN d Q)
def tGN (X:Cx) (to ty:TE):TE:=fun σ H Q=>to σ H fun x H1=>(∃ a zs,x = .ref a∧H1 a=some (dN X.prog X.w a zs))∧ty σ H1 fun y H2=>∃ d k S,DV X.K H2 d x∧DV X.K H2 k y∧Rp X.K X.prog X.w S H2∧kGN d (dnE X.K X.prog X.w H2 Q) k S
end
section
variable {env:Slo} {S:Sto} {Q:DQ} {a:Addr} {ks:List D} {kvs:List (NestedKey×D)} {d k:D} {kk:NestedKey} {mo mk:EM}
def zvA (mk:EM) (env:Slo) (Q:DQ):DQ:=fun d S1=>zqU d S1∧mk env S1 (kG1 d Q)
def zvz (mk:EM) (env:Slo) (Q:DQ):DQ:=fun d S1=>okN d S1∧mk env S1 (kGN d Q)
theorem zqx (h:mo env S (zvA mk env Q)):zrg mo mk env S Q:=h
theorem zqv (h:mo env S (zvz mk env Q)):zre mo mk env S Q:=h
instance zwy:St (zrg mo mk env S Q) (mo env S (zvA mk env Q)):=⟨fun h=>zqx h⟩
instance zww:St (zre mo mk env S Q) (mo env S (zvz mk env Q)):=⟨fun h=>zqv h⟩
end
structure LoX (H H':Hp):Prop where
 tup:∀ a xs,H a=some (.tup xs)->H' a=some (.tup xs)
 frz:∀ a o u,(∀ φ,u≠.ext φ)->H a=some (.frz o u)->H' a=some (.frz o u)
theorem LoX.sqt {K:PySem.W.Frag} {H H':Hp} {a:Addr} {xs:List V} (l:LoX H H') (h:SqT K H a xs):SqT K H' a xs:=by
 rcases h with (h | ⟨o,h⟩) | h
 ·exact .inl (.inl (l.tup a xs h))
 ·exact .inl (.inr ⟨o,l.frz a o _ (fun _ z=>nomatch z) h⟩)
 ·exact .inr h
theorem LoX.rol {K:PySem.W.Frag} {H H':Hp} {a:Addr} {xs:List V} (l:LoX H H') (h:RoL K H a xs):RoL K H' a xs:=by
 rcases h with ⟨o,h⟩ | h
 ·exact .inl ⟨o,l.frz a o _ (fun _ z=>nomatch z) h⟩
 ·exact .inr h
theorem LoX.tf {H H':Hp} {a:Addr} {vs:List V} {f:Bool} (l:LoX H H') (h:TF H a vs f):TF H' a vs f:=by
 cases f with
 | false=>exact l.tup _ _ h
 | true=>
  obtain ⟨o,e,z⟩:=h
  exact ⟨o,l.frz _ _ _ (fun _ z=>nomatch z) e,z⟩
section
variable {K:PySem.W.Frag} {H H':Hp}
mutual
theorem DV.lx (l:LoX H H'):∀ (d:D) (v:V),DV K H d v->DV K H' d v
 | .non,_,h=>by cases h;exact .non
 | .bl b,_,h=>by cases h;exact .bl b
 | .int b,_,h=>by cases h;exact .int b
 | .str b,_,h=>by
  cases h with
  | str _ ok=>exact .str b ok
 | .ty b,_,h=>by cases h;exact .ty b
 | .ref b,_,h=>by cases h;exact .ref b
 | .tp f ds,_,h=>by
  cases h with
  | tup hs hd ht=>exact .tup (l.sqt hs) (DVs.lx l ds _ hd) (l.tf ht)
 | .rol ds,_,h=>by
  cases h with
  | rol hs hd=>exact .rol (l.rol hs) (DVs.lx l ds _ hd)
 | .rod ks ds,_,h=>by
  cases h with
  | rod hs hl hk hd=>
   obtain ⟨o,hs⟩:=hs
   exact .rod ⟨o,l.frz _ _ _ (fun _ z=>nomatch z) hs⟩ hl hk (DVs.lx l ds _ hd)
theorem DVs.lx (l:LoX H H'):∀ (ds:List D) (vs:List V),DVs K H ds vs->DVs K H' ds vs
 | [],_,h=>by cases h;exact .nil
 | d :: ds,_,h=>by
  cases h with
  | cons h1 h2=>exact .cons (DV.lx l d _ h1) (DVs.lx l ds _ h2)
end
theorem KVs.lx {κ:Type} {ds:List (κ×D)} {vs:List (κ×V)} (l:LoX H H') (h:KVs K H ds vs):KVs K H' ds vs:=by
 induction h with
 | nil=>exact .nil
 | cons h1 _ ih=>exact .cons (DV.lx l _ _ h1) ih
theorem KN.lx {ds:List D} {kvs:List (NestedKey×D)} {zs:List (NestedKey×Addr×V)} (l:LoX H H') (h:KN K H ds kvs zs):KN K H' ds kvs zs:=by
 induction h with
 | nil=>exact .nil
 | cons h1 h2 h3 h4 _ ih=>exact .cons h1 h2 (DV.lx l _ _ h3) (DV.lx l _ _ h4) ih
theorem zcz.lx {env:Slo} {σ:L2.St} (r:zcz K H env σ) (l:LoX H H'):zcz K H' env σ:=⟨r.len,fun i d e=>by
 obtain ⟨v,q,z⟩:=r.at_ i d e
 exact ⟨v,q,DV.lx l _ _ z⟩⟩
theorem OOk.lx {P:Program} {w:World} {a:Addr} {o:O} (h:OOk K P w H a o) (l:LoX H H') (e:H' a=H a):OOk K P w H' a o:=by
 cases o with
 | lst=>obtain ⟨vs,q,z⟩:=h;exact ⟨vs,e.trans q,DVs.lx l _ _ z⟩
 | dic=>obtain ⟨vs,q,z⟩:=h;exact ⟨vs,e.trans q,z.lx l⟩
 | dit=>obtain ⟨vs,q,z⟩:=h;exact ⟨vs,e.trans q,z.lx l⟩
 | set=>exact e.trans h
 | ins=>obtain ⟨dx,vs,q,z⟩:=h;exact ⟨dx,vs,e.trans q,z.lx l⟩
 | din=>obtain ⟨zs,q,z⟩:=h;exact ⟨zs,e.trans q,z.lx l⟩
theorem KN.get {ds:List D} {kvs:List (NestedKey×D)} {zs:List (NestedKey×Addr×V)} (h:KN K H ds kvs zs):∀ {i:Nat} {k:NestedKey} {b:Addr} {v:V},zs[i]? = some (k,b,v)->∃ d,ds[i]? = some d∧DV K H d (.ref b):=by
 induction h with
 | nil=>intro i k b v e;simp at e
 | cons h1 h2 h3 h4 _ ih=>
  intro i k b v e
  cases i with
  | zero=>
   simp only [List.getElem?_cons_zero,Option.some.injEq,Prod.mk.injEq] at e
   obtain ⟨rfl,rfl,rfl⟩:=e
   exact ⟨_,rfl,h3⟩
  | succ i=>
   simp only [List.getElem?_cons_succ] at e ⊢
   exact ih e
end
def FzN (X:Cx) (H:Hp) (a:Addr) (ks:List D) (kvs:List (NestedKey×D)):Prop:=∃ o zs,H a=some (.frz o (dN X.prog X.w a zs))∧KN X.K H ks kvs zs
theorem FzN.le {X:Cx} {H H':Hp} {a:Addr} {ks:List D} {kvs:List (NestedKey×D)} (h:FzN X H a ks kvs) (l:Le H H'):FzN X H' a ks kvs:=by
 obtain ⟨o,zs,e,z⟩:=h
 exact ⟨o,zs,l.frz _ _ _ e,z.le l⟩
def zxv (m:Addr->List D->List (NestedKey×D)->SM):SM:=fun A env S=>∃ a ks kvs,S a=some (.din ks kvs)∧∃ A0:Fin,zd5 A0 ⟨fun e S1=>A.nx e (put S1 a (.din ks kvs)),fun d S1=>A.rt d (put S1 a (.din ks kvs)),fun e S1=>A.bk e (put S1 a (.din ks kvs)),fun e S1=>A.ct e (put S1 a (.din ks kvs))⟩∧m a ks kvs A0 env (zoP S a)
section
variable {X:Cx} {B:Hp} {st:Stmt} {m:Addr->List D->List (NestedKey×D)->SM}
end
def Itn (P:Program) (w:World) (d:Addr) (o:Obj) (zs:List (NestedKey×Addr×V)):It:=
 ⟨fun i H=>H d=some (.frz o (dN P w d zs))∧i < zs.length,fun i H x H'=>H'=H∧∃ k b v,zs[i]? = some (k,b,v)∧x = .ref b,fun i H=>H d=some (.frz o (dN P w d zs))∧zs.length≤i⟩
section
variable {X:Cx} {pins:List (Addr×Obj)} {σ:L2.St} {H:Hp} {s:Shared} {d:Addr} {o:Obj}
end
section
variable {P:Program} {w:World} {K:PySem.W.Frag} {tg:Expr} {d:Addr} {o:Obj} {es:Array DictEntry} {ep:Nat}
def zwK (P:Program) (w:World) (td:TE):TI:=fun σ H R=>td σ H fun x H1=>∃ d o zs,x = .ref d∧H1 d=some (.frz o (dN P w d zs))∧R (Itn P w d o zs) H1
end
section
variable {X:Cx} {tg e:Expr} {td:TE}
end
def zrM (a:Addr) (ks:List D) (m:EM):IM:=fun env S R=>m env S fun d S1=>d = .ref a∧R ks (fun _=>True) S1
def zsM (a:Addr) (kvs:List (NestedKey×D)) (g:Bool->Bool):BM:=fun d e S Q=>match nk8 d with
 | some k=>e = .ref a∧Q (.bl (g (valD kvs k).isSome)) S
 | none=>False
section
variable {X:Cx} {B:Hp} {a:Addr} {ks:List D} {kvs:List (NestedKey×D)} {tg:Expr} {pos:Pos}
def zxp (X:Cx) (a:Addr) (ks:List D) (kvs:List (NestedKey×D)) (g:Bool->Bool):R2:=fun x y H Q=>FzN X H a ks kvs∧∃ d e S,DV X.K H d x∧DV X.K H e y∧Rp X.K X.prog X.w S H∧zsM a kvs g d e S (dnE X.K X.prog X.w H Q)
end
def zuf (mk mv:EM):EM:=fun env S Q=>∀ p,S p=none->mk env (put S p (.din [] [])) fun k S1=>mv env S1 fun v S2=>match nk8 k with
 | some kk=>S2 p=some (.din [] [])∧Q (.ref p) (put S2 p (.din [k] [(kk,v)]))
 | none=>False
section
variable {X:Cx} {B:Hp} {pos:Pos} {k v:Expr} {mk mv:EM}
def zsR (X:Cx) (tk tv:TE):TE:=fun σ H Q=>∀ p,H p=none->tk σ (upd H p (dN X.prog X.w p [])) fun x H1=>tv σ H1 fun y H2=>∃ d kk b,DV X.K H2 d x∧nk8 d=some kk∧x = .ref b∧H2 p=some (dN X.prog X.w p [])∧Q (.ref p) (upd H2 p (dN X.prog X.w p [(kk,b,y)]))
end
section
variable {env:Slo} {S:Sto} {Q:DQ} {a:Addr} {ks:List D} {kvs:List (NestedKey×D)} {me mk mv:EM} {R:List D->(Sto->Prop)->Sto->Prop} {d x:D} {k:NestedKey} {A:Fin} {m:Addr->List D->List (NestedKey×D)->SM} {g:Bool->Bool}
def zlD (a:Addr) (ks:List D) (R:List D->(Sto->Prop)->Sto->Prop):DQ:=fun d S1=>d = .ref a∧R ks (fun _=>True) S1
theorem znw (h:me env S (zlD a ks R)):zrM a ks me env S R:=h
theorem znj (h:R ks (fun _=>True) S):zlD a ks R (.ref a) S:=⟨rfl,h⟩
def zut (p:Addr) (k:D) (Q:DQ):DQ:=fun v S2=>match nk8 k with
 | some kk=>S2 p=some (.din [] [])∧Q (.ref p) (put S2 p (.din [k] [(kk,v)]))
 | none=>False
def zvB (p:Addr) (mv:EM) (env:Slo) (Q:DQ):DQ:=fun k S1=>mv env S1 (zut p k Q)
theorem zqe {p:Addr} (h:mv env S (zut p d Q)):zvB p mv env Q d S:=h
instance zuV:St (zrM a ks me env S R) (me env S (zlD a ks R)):=⟨fun h=>znw h⟩
instance zuM:St (zlD a ks R (.ref a) S) (R ks (fun _=>True) S):=⟨fun h=>znj h⟩
instance zwn {p:Addr}:St (zvB p mv env Q d S) (mv env S (zut p d Q)):=⟨fun h=>zqe h⟩
end
def ztZ:V->List V->Hp->VK->Prop:=fun x vs H Q=>∃ (l:Addr) (xs:List V) (i:Int) (y:V),x = .ref l∧vs=[.int i,y]∧H l=some (.lst xs)∧0≤i∧i.toNat≤xs.length∧xs.length < sizeLine∧Q .non (upd H l (.lst (xs.take i.toNat++y :: xs.drop i.toNat)))
section
variable {X:Cx} {B:Hp} {o e e2:Expr} {mo:EM} {ma:AM} {apos cpos:Pos}
def zyL:MM:=fun d ds S Q=>match d,ds with
 | .ref a,[.int i,y]=>match S a with
  | some (.lst xs)=>0≤i∧i.toNat≤xs.length∧xs.length < sizeLine∧Q .non (put S a (.lst (xs.take i.toNat++y :: xs.drop i.toNat)))
  | _=>False
 | _,_=>False
end
def zvs (m:Addr->List D->List (NestedKey×D)->EM):EM:=fun env S Q=>∃ a ks kvs,S a=some (.din ks kvs)∧∃ Q0:DQ,(∀ d S1,Q0 d S1->Q d (put S1 a (.din ks kvs)))∧m a ks kvs env (zoP S a) Q0
section
variable {X:Cx} {B:Hp} {e:Expr} {m:Addr->List D->List (NestedKey×D)->EM}
end
def zkt (m:EM):EM:=fun env S Q=>m env S fun d S1=>match d with
 | .int n=>RgOk 0 n∧∀ a,S1 a=none->Q (.ref a) (put S1 a (.lst (ziz 0 n.toNat)))
 | _=>False
section
variable {X:Cx} {B:Hp} {e:Expr} {p p2 pos pos2:Pos}
end
section
variable {env:Slo} {S:Sto} {Q:DQ} {me:EM} {n:Int}
def zvy (Q:DQ):DQ:=fun d S1=>match d with
 | .int n=>RgOk 0 n∧∀ a,S1 a=none->Q (.ref a) (put S1 a (.lst (ziz 0 n.toNat)))
 | _=>False
theorem zla (h:me env S (zvy Q)):zkt me env S Q:=h
instance zsF:St (zkt me env S Q) (me env S (zvy Q)):=⟨fun h=>zla h⟩
end
def zwX:CM:=fun ds S Q=>match ds with
 | [.ref a]=>match S a with
  | some (.din _ kvs)=>Q (.int kvs.length) S
  | _=>False
 | _=>False
section
variable {X:Cx}
end
def zsL:CM:=fun ds S Q=>match ds with
 | [.ref a]=>∃ zs:List Int,S a=some (.lst (zs.map D.int))∧zs.length < 64∧∀ ys:List Int,ys.Perm zs->ys.Pairwise (·≤·)->∀ p,S p=none->Q (.ref p) (put S p (.lst (ys.map D.int)))
 | _=>False
section
variable {X:Cx}
end
def zjm (elt:Expr) (acc:Value) (env:Env) (k:Sem PySem.Fin):Sem PySem.Fin:=do
 (do let _ ← call (.builtin "list.append") [acc,← eval elt env])
 k
section
variable {elt t0 i0 t1 i1 t2 i2:Expr} {f0 f1 f2:List Expr} {scope:Scope} {pos:Pos} {it acc:Value} {env:Env}
theorem zmW:compTurn (.ListComp elt [⟨t0,i0,f0,0⟩,⟨t1,i1,f1,0⟩,⟨t2,i2,f2,0⟩] scope pos) 0 it acc env
  = zgF t0 f0 i0.pos it env (zfc (.ListComp elt [⟨t0,i0,f0,0⟩,⟨t1,i1,f1,0⟩,⟨t2,i2,f2,0⟩] scope pos) 1 i1 acc env) (.compLoop (.ListComp elt [⟨t0,i0,f0,0⟩,⟨t1,i1,f1,0⟩,⟨t2,i2,f2,0⟩] scope pos) 0 it acc env):=by rfl
theorem zmV:compTurn (.ListComp elt [⟨t0,i0,f0,0⟩,⟨t1,i1,f1,0⟩,⟨t2,i2,f2,0⟩] scope pos) 1 it acc env
  = zgF t1 f1 i1.pos it env (zfc (.ListComp elt [⟨t0,i0,f0,0⟩,⟨t1,i1,f1,0⟩,⟨t2,i2,f2,0⟩] scope pos) 2 i2 acc env) (.compLoop (.ListComp elt [⟨t0,i0,f0,0⟩,⟨t1,i1,f1,0⟩,⟨t2,i2,f2,0⟩] scope pos) 1 it acc env):=by rfl
theorem zmU:compTurn (.ListComp elt [⟨t0,i0,f0,0⟩,⟨t1,i1,f1,0⟩,⟨t2,i2,f2,0⟩] scope pos) 2 it acc env
  = zgF t2 f2 i2.pos it env (zjm elt acc env) (.compLoop (.ListComp elt [⟨t0,i0,f0,0⟩,⟨t1,i1,f1,0⟩,⟨t2,i2,f2,0⟩] scope pos) 2 it acc env):=by rfl
end
section
variable {prog:Program} {w:World} {A:Around} {R:Result->Shared->Prop} {s:Shared} {e0 t i:Expr} {gs:List Comprehension} {sc:Scope} {ps:Pos} {fs:List Expr} {d:Nat} {it acc:Value} {env:Env} {body:Sem PySem.Fin->Sem PySem.Fin}
theorem zkP {elt:Expr} {Nx:Shared->Prop} (h:wpAny (model prog w) A (eval elt env) (fun x z1=>wpAny (model prog w) A (call (.builtin "list.append") [acc,x]) (fun _ z2=>Nx z2) NoE z1) NoE s):BodyOk prog w A (zjm elt acc env) Nx s:=by
 intro k Q hk
 unfold zjm
 exact wpAny_bind (wpAny_bind (thnF h fun x z1 g1=>wpAny_bind (thnF g1 fun _ z2 g2=>wpAny_pure (hk z2 g2))))
end
def bqI (te:TE) (D:Addr):L2.St->Hp->(Hp->Prop)->Prop:=fun σ H Nx=>te σ H fun y H7=>∃ ys,H7 D=some (.lst ys)∧ys.length < sizeLine∧Nx (upd H7 D (.lst (ys++[y])))
def bqO (wi:TI) (g:TG) (tt:TT) (vs:List Nat) (Bq:L2.St->Hp->(Hp->Prop)->Prop):L2.St->Hp->(Hp->Prop)->Prop:=fun σ H Nx=>wi σ H fun J H4=>zr0 J H4 Nx g tt vs σ Bq
def zw3 (wi:TI) (g:TG) (tt:TT) (wi1:TI) (g1:TG) (tt1:TT) (wi2:TI) (g2:TG) (tt2:TT) (te:TE) (vs vs1 vs2:List Nat):TE:=fun σ H Q=>wi σ H fun J H1=>∀ D,H1 D=none ->
 zr0 J (upd H1 D (.lst [])) (Q (.ref D)) g tt vs σ (bqO wi1 g1 tt1 vs1 (bqO wi2 g2 tt2 vs2 (bqI te D)))
section
variable {X:Cx} {elt tg iter tg1 iter1 tg2 iter2:Expr} {ifs ifs1 ifs2:List Expr} {scope:Scope} {own:List (Str×Nat)} {pos:Pos} {wi wi1 wi2:TI} {g g1 g2:TG} {tt tt1 tt2:TT} {te:TE} {vs1 vs2:List Nat}
theorem zqQ (hc:X.calm=true) (hN:X.N.Nodup) (hi:PI X tg iter wi) (ok:BlkOk X.N X.env.scope scope own) (hv:∀ i∈vs1,i∈own.map (·.2)) (hv2:∀ i∈vs2,i∈vs1)
  (hg:Blk X scope fun Y=>PG Y tg g) (ht:Blk X scope fun Y=>PTs Y ifs tt) (hi1:Blk X scope fun Y=>PI Y tg1 iter1 wi1) (hg1:Blk X scope fun Y=>PG Y tg1 g1) (ht1:Blk X scope fun Y=>PTs Y ifs1 tt1)
  (hi2:Blk X scope fun Y=>PI Y tg2 iter2 wi2) (hg2:Blk X scope fun Y=>PG Y tg2 g2) (ht2:Blk X scope fun Y=>PTs Y ifs2 tt2) (he:Blk X scope fun Y=>PE Y elt te)
  (hs:∀ x,foldedSetIterable iter X.env x=pure x:=by intro _;rfl) (hs1:∀ env x,foldedSetIterable iter1 env x=pure x:=by intro _ _;rfl) (hs2:∀ env x,foldedSetIterable iter2 env x=pure x:=by intro _ _;rfl) :
  PE X (.ListComp elt [⟨tg,iter,ifs,0⟩,⟨tg1,iter1,ifs1,0⟩,⟨tg2,iter2,ifs2,0⟩] scope pos) (zw3 wi g tt wi1 g1 tt1 wi2 g2 tt2 te (own.map (·.2)) vs1 vs2):=by
 refine ⟨fun pins s σ H Q I q0=>?_⟩
 rw [eval_ListComp]
 have hfr:∀ y∈scope.names,y.2 = .free->∃ c,X.env.cells.lookup y.1=some c:=fun y hy e=>by
  rcases ok.free y hy e with z | z
  ·exact I.ok.has _ (.inl z)
  ·exact I.ok.has _ (.inr z)
 refine wpAny_comprehension_free (use:=none) rfl hs (closure_ok hfr) ok.kind (fun y hy e=>by rw [ok.uniq y hy,e]) (thn (hi.run pins s σ H _ I q0) fun _ z1 hx=>thn hx fun _ z2 h2=>?_)
 obtain ⟨it,fp,tn,J,H2,rfl,I2,T,st2,f2,q⟩:=h2
 refine wpAny_newObj_type (newEnv_comp ?_) (by show 0≤sizeLine;decide)
 generalize hD:z2.heap.objs.size=D
 have hDn:H2 D=none:=I2.hok.fresh (Nat.le_of_eq hD)
 have q:=q D hDn
 generalize hz3:({ z2 with heap:=z2.heap.push { cls:=.type "list", data:=.seq ([]:List Value).toArray } }:Shared)=z3
 have I3:Inv X pins σ (upd H2 D (.lst [])) z3:=by
  rw [← hz3]
  refine I2.laid (t':=z2.toks) (fun _ _ e=>Heap.get?_push_of_some _ e) (Nat.le_of_eq hD) ⟨Nat.zero_le _,[],0,.nil,?_⟩
  rw [← hD]
  exact Heap.get?_push_size _ rfl
 have g3:z3.heap=z2.heap.push { cls:=.type "list", data:=.seq ([]:List Value).toArray }:=by rw [← hz3]
 have f3:∀ b∈fp,FpOk X pins (upd H2 D (.lst [])) b∧b < z3.heap.objs.size:=fun b hb=>by
  obtain ⟨o,e,_⟩:=T.obj _ _ st2 b hb
  have lt:=Heap.lt_size e
  refine ⟨⟨?_,(f2 b hb).2⟩,by rw [g3,Heap.size_push];exact Nat.lt_succ_of_lt lt⟩
  rw [upd_ne (by rw [← hD];exact Nat.ne_of_lt lt)]
  exact (f2 b hb).1
 have st3:tn 0 z3.heap:=T.keep _ _ _ st2 fun b _ o e=>by rw [g3];exact Heap.get?_push_of_some _ e
 have I4:=block_start I3 ok hN f3
 show codeAny _ _ (.compStart (.ListComp elt [⟨tg,iter,ifs,0⟩,⟨tg1,iter1,ifs1,0⟩,⟨tg2,iter2,ifs2,0⟩] scope pos) 0 (.ref it) (.ref D) (compEnvC scope (cellsFrom (z3.heap.objs.size+1) scope.names (cloFrom X.env.cells scope.names [])) z3.heap.objs.size X.env)) (compPost (model X.prog X.w) X.A X.xe none (EP X pins σ Q) (.ref D) z3.heap.objs.size) { z3 with heap:=pushCells (z3.heap.push { cls:=.type "dict", data:=.dict #[] }) scope.names }
 have blk:∀ {R:Cx->Prop},Blk X scope R->R (X.blk z3 (upd H2 D (.lst [])) scope (compEnvC scope (cellsFrom (z3.heap.objs.size+1) scope.names (cloFrom X.env.cells scope.names [])) z3.heap.objs.size X.env) fp):=fun h=>h _ _ _ _ _
 generalize hce:compEnvC scope (cellsFrom (z3.heap.objs.size+1) scope.names (cloFrom X.env.cells scope.names [])) z3.heap.objs.size X.env=ce at I4 blk ⊢
 have cL:ce.locals=z3.heap.objs.size:=by subst hce;rfl
 generalize hz4:({ z3 with heap:=pushCells (z3.heap.push { cls:=.type "dict", data:=.dict #[] }) scope.names }:Shared)=z4 at I4 ⊢
 have st4:tn 0 z4.heap:=T.keep _ _ _ st3 fun b _ o e=>by rw [← hz4];exact pushCells_keeps _ _ _ _ (Heap.get?_push_of_some _ e)
 have fpo:∀ b∈fp,FpOk (X.blk z3 (upd H2 D (.lst [])) scope ce fp) [] (upd H2 D (.lst [])) b:=fun b hb=>
  ⟨(f3 b hb).1.1,(I4.ok.exf b hb).1,I4.ok.exfs b hb,.inl hb,fun x c e=>(I4.ok.exf b hb).2 x c e,fun p hp=>absurd (show p∈([]:List (Addr×Obj))++[] from hp) (by simp)⟩
 have inn:∀ pins' σ3 H6 s6 Nx,Inv (X.blk z3 (upd H2 D (.lst [])) scope ce fp) pins' σ3 H6 s6->bqI te D σ3 H6 Nx->BodyOk X.prog X.w X.A (zjm elt (.ref D) ce) (zoH (X.blk z3 (upd H2 D (.lst [])) scope ce fp) pins' [] σ3 Nx) s6:=fun pins' σ3 H6 s6 Nx I6 q6=>
  zkP (thnF ((blk he).run _ s6 σ3 H6 _ I6 q6) fun v s7 ⟨y,H7,I7,r7,ys,e7,l7,n7⟩=>app_ok (X:=X.blk z3 (upd H2 D (.lst [])) scope ce fp) I7 e7 l7 r7 fun s8 I8=>⟨σ3,_,I8,⟨rfl,fun _ _ e _=>e⟩,n7⟩)
 have mid:∀ pins' σ3 H6 s6 Nx,Inv (X.blk z3 (upd H2 D (.lst [])) scope ce fp) pins' σ3 H6 s6->bqO wi2 g2 tt2 vs2 (bqI te D) σ3 H6 Nx->BodyOk X.prog X.w X.A (zfc (.ListComp elt [⟨tg,iter,ifs,0⟩,⟨tg1,iter1,ifs1,0⟩,⟨tg2,iter2,ifs2,0⟩] scope pos) 2 iter2 (.ref D) ce) (zoH (X.blk z3 (upd H2 D (.lst [])) scope ce fp) pins' vs2 σ3 Nx) s6:=fun pins' σ3 H6 s6 Nx I6 q6=>
  zrk (Y:=X.blk z3 (upd H2 D (.lst [])) scope ce fp) hc rfl (fun _=>zmU) rfl (blk hi2) (blk hg2) (blk ht2) (us:=[]) (by simp) (hs2 _) inn I6 q6
 have out:∀ pins' σ3 H6 s6 Nx,Inv (X.blk z3 (upd H2 D (.lst [])) scope ce fp) pins' σ3 H6 s6->bqO wi1 g1 tt1 vs1 (bqO wi2 g2 tt2 vs2 (bqI te D)) σ3 H6 Nx->BodyOk X.prog X.w X.A (zfc (.ListComp elt [⟨tg,iter,ifs,0⟩,⟨tg1,iter1,ifs1,0⟩,⟨tg2,iter2,ifs2,0⟩] scope pos) 1 iter1 (.ref D) ce) (zoH (X.blk z3 (upd H2 D (.lst [])) scope ce fp) pins' vs1 σ3 Nx) s6:=fun pins' σ3 H6 s6 Nx I6 q6=>
  zrk (Y:=X.blk z3 (upd H2 D (.lst [])) scope ce fp) hc rfl (fun _=>zmV) rfl (blk hi1) (blk hg1) (blk ht1) hv2 (hs1 _) mid I6 q6
 have loop:=zhh (Y:=X.blk z3 (upd H2 D (.lst [])) scope ce fp) (R:=compPost (model X.prog X.w) X.A X.xe none (EP X pins σ Q) (.ref D) z3.heap.objs.size) hc rfl zmW (blk hg) (blk ht) hv out I4 T st4 fpo q fun H' s' I' n' qq=>by
  have I7:Inv X pins σ H' s':=I3.call' (ch:=fp) I'.os I'.base I'.hok I'.bare fun b hb=>⟨(f3 b hb).1.2.2.2.1,(f3 b hb).1.2.1,(f3 b hb).1.2.2.2.2.1,(f3 b hb).1.2.2.2.2.2⟩
  have nC:H' z3.heap.objs.size=none:=by
   have z:H' ce.locals=none:=I'.free
   rw [cL] at z
   exact z
  obtain ⟨m,hn,_⟩:=I'.loc
  have hn:s'.heap.Ns ce.locals m:=hn
  rw [cL] at hn
  obtain ⟨f0,f1,f2,f3,f4,f5⟩:=I3.fpOk (Nat.le_refl _) nC
  exact ⟨m,hn,fun h'' sb=>⟨.ref D,H',I7.turned (t':=s'.toks) (fun b o hb e=>(sb.2 b hb).trans e) f0 f1 f3 f4 f5,rfl,qq⟩⟩
 exact codeAny_compStart_list loop (T.self X.A 0 _ _ _ st4 loop)
end
def lcM (g:GM) (t:TM) (bd:Slo->(Sto->Prop)->Sto->Prop) (G N:Sto->Prop) (env:Slo):List D->Sto->Prop
 | [],S=>G S∧N S
 | x :: xs,S=>G S∧g x env S fun env2 S2=>t env2 S2 fun b S3=>match b with
  | true=>bd env2 (lcM g t bd G N env xs) S3
  | false=>lcM g t bd G N env xs S3
def bdI (m:EM) (p:Addr):Slo->(Sto->Prop)->Sto->Prop:=fun env Nx S=>m env S fun d S4=>match S4 p with
 | some (.lst ys)=>ys.length < sizeLine∧Nx (put S4 p (.lst (ys++[d])))
 | _=>False
def bdO (mi:IM) (g:GM) (t:TM) (vs:List Nat) (bd:Slo->(Sto->Prop)->Sto->Prop):Slo->(Sto->Prop)->Sto->Prop:=fun env Nx S=>mi env S fun xs G S1=>lcM g t bd G Nx (zbM env vs) xs S1
def zr7 (mi:IM) (g:GM) (t:TM) (mi1:IM) (g1:GM) (t1:TM) (mi2:IM) (g2:GM) (t2:TM) (m:EM) (vs vs1 vs2:List Nat):EM:=fun env S Q=>mi env S fun xs G S1=>∀ p,S1 p=none ->
 lcM g t (bdO mi1 g1 t1 vs1 (bdO mi2 g2 t2 vs2 (bdI m p))) G (Q (.ref p)) (zbM env vs) xs (put S1 p (.lst []))
abbrev zsJ (bd:Slo->(Sto->Prop)->Sto->Prop):Prop:=∀ env (N N':Sto->Prop) S,(∀ S,N S->N' S)->bd env N S->bd env N' S
theorem zgy {g:GM} {t:TM} {bd:Slo->(Sto->Prop)->Sto->Prop} {G N N':Sto->Prop} {env:Slo} (hg:zkV g) (ht:zeU t) (hb:zsJ bd) (i:∀ S,N S->N' S):∀ xs S,lcM g t bd G N env xs S->lcM g t bd G N' env xs S
 | [],S,h=>⟨h.1,i _ h.2⟩
 | x :: xs,S,h=>⟨h.1,hg _ _ _ _ _ (fun e s q=>ht _ _ _ _ (fun b S3 q=>by
   cases b with
   | true=>exact hb _ _ _ _ (fun S=>zgy hg ht hb i xs S) q
   | false=>exact zgy hg ht hb i xs _ q) q) h.2⟩
theorem zn0 {m:EM} {p:Addr} (hm:zci m):zsJ (bdI m p):=fun env N N' S i q=>hm _ _ _ _ (fun d S4 q=>by
 split at q
 ·exact ⟨q.1,i _ q.2⟩
 ·exact q.elim) q
theorem zi8 {mi:IM} {g:GM} {t:TM} {vs:List Nat} {bd:Slo->(Sto->Prop)->Sto->Prop} (hi:zjI mi) (hg:zkV g) (ht:zeU t) (hb:zsJ bd):zsJ (bdO mi g t vs bd):=fun env N N' S i q=>hi _ _ _ _ (fun xs G S1 q=>zgy hg ht hb i xs S1 q) q
theorem znT {mi mi1 mi2:IM} {g g1 g2:GM} {t t1 t2:TM} {m:EM} {vs vs1 vs2:List Nat} (hmi:zjI mi) (hg:zkV g) (ht:zeU t) (hi1:zjI mi1) (hg1:zkV g1) (ht1:zeU t1) (hi2:zjI mi2) (hg2:zkV g2) (ht2:zeU t2) (hm:zci m):zci (zr7 mi g t mi1 g1 t1 mi2 g2 t2 m vs vs1 vs2):=fun env S Q Q' i q=>
 hmi _ _ _ _ (fun xs G S1 q p hp=>zgy hg ht (zi8 hi1 hg1 ht1 (zi8 hi2 hg2 ht2 (zn0 hm))) (i _) _ _ (q p hp)) q
section
variable {K:PySem.W.Frag} {P:Program} {w:World} {B:Hp}
def Ab (K:PySem.W.Frag) (P:Program) (w:World) (H0:Hp) (M:Sto->Prop):Hp->Prop:=fun H=>Le H0 H∧∃ S,Rp K P w S H∧M S
abbrev UpB (K:PySem.W.Frag) (P:Program) (w:World) (B:Hp) (bd:Slo->(Sto->Prop)->Sto->Prop) (Bq:L2.St->Hp->(Hp->Prop)->Prop):Prop:=
 ∀ env σ H H0 (Nx:Sto->Prop) S,Le B H->Le H0 H->zcz K H env σ->Rp K P w S H->bd env Nx S->Bq σ H (Ab K P w H0 Nx)
theorem zl2 {J:It} {H0 H1 H4:Hp} {xs:List D} {G N:Sto->Prop} {g:GM} {t:TM} {tg:TG} {bd:Slo->(Sto->Prop)->Sto->Prop} {Bq:L2.St->Hp->(Hp->Prop)->Prop} {vs:List Nat} {env:Slo} {σ:L2.St} {S0:Sto}
  (lB:Le B H1) (l0:Le H0 H4) (l1:Le H1 H4) (wk:WkD K P w H1 J xs G) (bt:BT K vs tg g) (ht:zeU t) (r0:zcz K H4 env σ) (z0:Rp K P w S0 H4) (ub:UpB K P w B bd Bq) (q:lcM g t bd G N (zbM env vs) xs S0) :
  zr0 J H4 (Ab K P w H0 N) tg (upT K P w B t) vs σ Bq:=by
 refine ⟨fun i k H'=>i≤xs.length∧k=xs.length - i∧Ab K P w H4 (lcM g t bd G N (zbM env vs) (xs.drop i)) H',⟨xs.length,Nat.zero_le _,rfl,Le.refl _,S0,z0,q⟩,fun i k H' h=>?_⟩
 obtain ⟨hi,rfl,l3,S,z3,q⟩:=h
 by_cases hlt:i < xs.length
 ·rw [List.drop_eq_getElem_cons hlt] at q
  refine .inr ⟨wk.go i S H' hlt (l1.trans l3) z3 q.1,Ab K P w H4 (lcM g t bd G N (zbM env vs) (xs.drop (i+1))),fun H5 h5=>⟨xs.length - (i+1),by omega,hlt,rfl,h5⟩,fun x H5 hy=>?_⟩
  obtain ⟨l5,z5,d,ex,dv⟩:=wk.yld i S H' x H5 hlt (l1.trans l3) z3 q.1 hy
  rw [List.getElem?_eq_getElem hlt] at ex
  cases ex
  have l45:=l3.trans l5
  refine bt.mt _ _ _ _ _ (fun σ2 H6 z=>?_) (bt.td _ x _ _ S H5 _ dv ((r0.le l45).wipe vs) q.2)
  obtain ⟨e2,rfl,env2,r2,q2⟩:=z
  refine ⟨e2.trans zel,(lB.trans l1).trans l45,env2,S,r2,z5,ht _ _ _ _ (fun b S3 q H7 l7 z7=>?_) q2⟩
  cases b with
  | false=>exact ⟨l45.trans l7,S3,z7,q⟩
  | true=>exact ub _ _ _ _ _ _ (((lB.trans l1).trans l45).trans l7) (l45.trans l7) (r2.le l7) z7 q
 ·obtain rfl:i=xs.length:=by omega
  rw [List.drop_length] at q
  exact .inl ⟨wk.stop S H' (l1.trans l3) z3 q.1,l0.trans l3,S,z3,q.2⟩
abbrev zr2 (K:PySem.W.Frag) (P:Program) (w:World) (B:Hp) (mi:IM):TI:=fun σ H R=>Le B H∧∃ env S,zcz K H env σ∧Rp K P w S H∧mi env S fun xs G S1=>∀ J H1,Le H H1->Rp K P w S1 H1->WkD K P w H1 J xs G->R J H1
theorem zsN {m:EM} {p:Addr} (hm:zci m):UpB K P w B (bdI m p) (bqI (up K P w B m) p):=fun env σ H H0 Nx S lB l0 r z q=>by
 refine ⟨lB,env,S,r,z,hm _ _ _ _ (fun d S4 q v H5 l5 z5 dv=>?_) q⟩
 split at q
 ·rename_i us0 ey
  obtain ⟨us,y1,y2⟩:=z5 _ _ ey
  have hmut:Mut (H5 p):=by rw [y1];exact trivial
  have l6:=Le.mut (o:=.lst (us++[v])) hmut
  exact ⟨us,y1,by rw [← y2.length];exact q.1,l0.trans (l5.trans l6),_,z5.wr (o:=.lst (us0++[d])) hmut ⟨_,upd_same,(y2.append (.cons dv .nil)).le l6⟩,q.2⟩
 ·exact q.elim
theorem zl1 {mi:IM} {g:GM} {t:TM} {tg:TG} {vs:List Nat} {bd:Slo->(Sto->Prop)->Sto->Prop} {Bq:L2.St->Hp->(Hp->Prop)->Prop} (hmi:zjI mi) (bt:BT K vs tg g) (ht:zeU t) (ub:UpB K P w B bd Bq):UpB K P w B (bdO mi g t vs bd) (bqO (zr2 K P w B mi) tg (upT K P w B t) vs Bq):=fun env σ H H0 Nx S lB l0 r z q=>
 ⟨lB,env,S,r,z,hmi _ _ _ _ (fun xs G S1 q J H1 l1 z1 wk=>zl2 (lB.trans l1) (l0.trans l1) (Le.refl _) wk bt ht (r.le l1) z1 ub q) q⟩
end
section
variable {X:Cx} {B:Hp} {elt tg iter tg1 iter1 tg2 iter2:Expr} {ifs ifs1 ifs2:List Expr} {scope:Scope} {own:List (Str×Nat)} {pos:Pos} {mi mi1 mi2:IM} {g g1 g2:GM} {t t1 t2:TM} {m:EM} {vs1 vs2:List Nat}
theorem zq5 {tt tt1 tt2:TG} (hc:X.calm=true) (hN:X.N.Nodup) (hi:MI X B tg iter mi) (ok:BlkOk X.N X.env.scope scope own) (bt:BT X.K (own.map (·.2)) tt g) (bt1:BT X.K vs1 tt1 g1) (bt2:BT X.K vs2 tt2 g2)
  (hg:Blk X scope fun Y=>PG Y tg tt) (hm:Blk X scope fun Y=>MTs Y B ifs t) (hi1:Blk X scope fun Y=>MI Y B tg1 iter1 mi1) (hg1:Blk X scope fun Y=>PG Y tg1 tt1) (hm1:Blk X scope fun Y=>MTs Y B ifs1 t1) (hi2:Blk X scope fun Y=>MI Y B tg2 iter2 mi2) (hg2:Blk X scope fun Y=>PG Y tg2 tt2) (hm2:Blk X scope fun Y=>MTs Y B ifs2 t2) (he:Blk X scope fun Y=>ME Y B elt m)
  (hv:∀ i∈vs1,i∈own.map (·.2):=by decide) (hv2:∀ i∈vs2,i∈vs1:=by decide) (hs:∀ x,foldedSetIterable iter X.env x=pure x:=by intro _;rfl) (hs1:∀ env x,foldedSetIterable iter1 env x=pure x:=by intro _ _;rfl) (hs2:∀ env x,foldedSetIterable iter2 env x=pure x:=by intro _ _;rfl) :
  ME X B (.ListComp elt [⟨tg,iter,ifs,0⟩,⟨tg1,iter1,ifs1,0⟩,⟨tg2,iter2,ifs2,0⟩] scope pos) (zr7 mi g t mi1 g1 t1 mi2 g2 t2 m (own.map (·.2)) vs1 vs2):=by
 have a1:zeU t:=(hm X.s_0 (fun _=>none) 0 [] []).mono
 have a2:zci m:=(he X.s_0 (fun _=>none) 0 [] []).mono
 have a3:zeU t1:=(hm1 X.s_0 (fun _=>none) 0 [] []).mono
 have a4:zjI mi1:=(hi1 X.s_0 (fun _=>none) 0 [] []).mono
 have a5:zeU t2:=(hm2 X.s_0 (fun _=>none) 0 [] []).mono
 have a6:zjI mi2:=(hi2 X.s_0 (fun _=>none) 0 [] []).mono
 refine ⟨zbl (zqQ (te:=up X.K X.prog X.w B m) (tt:=upT X.K X.prog X.w B t) (tt1:=upT X.K X.prog X.w B t1) (tt2:=upT X.K X.prog X.w B t2) (wi:=zr2 X.K X.prog X.w B mi) (wi1:=zr2 X.K X.prog X.w B mi1) (wi2:=zr2 X.K X.prog X.w B mi2) hc hN hi.pi ok hv hv2 hg (fun s H C cl fp=>(hm s H C cl fp).pts) (fun s H C cl fp=>(hi1 s H C cl fp).pi) hg1 (fun s H C cl fp=>(hm1 s H C cl fp).pts) (fun s H C cl fp=>(hi2 s H C cl fp).pi) hg2 (fun s H C cl fp=>(hm2 s H C cl fp).pts) (fun s H C cl fp=>(he s H C cl fp).pe) hs hs1 hs2)
  fun σ H Q q=>?_,znT hi.mono bt.mg a1 a4 bt1.mg a3 a6 bt2.mg a5 a2⟩
 obtain ⟨lB,env,S,r0,z0,q⟩:=q
 refine ⟨lB,env,S,r0,z0,hi.mono _ _ _ _ (fun xs G S1 q J H1 l1 z1 wk p hp=>?_) q⟩
 have l2:Le H1 (upd H1 p (.lst [])):=Le.new hp
 have z2:Rp X.K X.prog X.w (put S1 p (.lst [])) (upd H1 p (.lst [])):=z1.new hp ⟨[],upd_same,.nil⟩
 have h:=zl2 (H0:=H) (N:=dnE X.K X.prog X.w H Q (.ref p)) (lB.trans l1) (l1.trans l2) l2 wk bt a1 (r0.le (l1.trans l2)) z2 (zl1 a4 bt1 a3 (zl1 a6 bt2 a5 (zsN a2))) (q p (z1.free hp))
 obtain ⟨W,w0,turn⟩:=h
 refine ⟨W,w0,fun j k H' hw=>?_⟩
 rcases turn j k H' hw with ⟨h1,l3,S3,z3,qq⟩ | h2
 ·exact .inl ⟨h1,qq _ H' l3 z3 (.ref p)⟩
 ·exact .inr h2
end
section
variable {env:Slo} {S:Sto} {Q:DQ}
end
def zxw (m:Addr->List D->List (NestedKey×D)->EM):EM:=fun env S Q=>∃ a ks kvs,S a=some (.din ks kvs)∧∃ Q0:DQ,(∀ d S1,S1 a=none->Q0 d S1->Q d (put S1 a (.din ks kvs)))∧m a ks kvs env (zoP S a) Q0
section
variable {X:Cx} {B:Hp} {e:Expr} {m:Addr->List D->List (NestedKey×D)->EM}
end
def zvx (g:GM) (t:TM) (mi1:IM) (g1:GM) (t1:TM) (mi2:IM) (g2:GM) (t2:TM) (m:EM) (vs vs1 vs2:List Nat) (env:Slo) (Q:DQ):List D->(Sto->Prop)->Sto->Prop:=fun xs G S1=>∀ p,S1 p=none->lcM g t (bdO mi1 g1 t1 vs1 (bdO mi2 g2 t2 vs2 (bdI m p))) G (Q (.ref p)) (zbM env vs) xs (put S1 p (.lst []))
instance zxT {env:Slo} {S:Sto} {Q:DQ} {mi mi1 mi2:IM} {g g1 g2:GM} {t t1 t2:TM} {m:EM} {vs vs1 vs2:List Nat}:St (zr7 mi g t mi1 g1 t1 mi2 g2 t2 m vs vs1 vs2 env S Q) (mi env S (zvx g t mi1 g1 t1 mi2 g2 t2 m vs vs1 vs2 env Q)):=⟨fun h=>h⟩
section
variable {X:Cx} {B:Hp}
def zw0:BM:=fun d e S Q=>match d,e with
 | .tp _ xs,.tp _ ys=>xs≠[]∧ys≠[]∧xs.length+ys.length≤sizeLine∧Q (.tp true (xs++ys)) S
 | _,_=>False
end
section
variable {S:Sto} {Q:DQ} {xs ys:List D} {f f':Bool}
end
def zrd (zs:List Str) (g:Bool->Bool) (m:EM):EM:=fun env S Q=>m env S fun d S1=>∃ ds:List Str,d = .tup (ds.map D.str)∧Q (.bl (g (decide (zs=ds)))) S1
section
variable {X:Cx} {B:Hp} {e:Expr} {m:EM} {x:Str} {a:Addr} {zs:List Str} {p pos:Pos}
end
section
variable {env:Slo} {S:Sto} {Q:DQ} {zs ds:List Str} {g:Bool->Bool} {m:EM}
def zrz (zs:List Str) (g:Bool->Bool) (Q:DQ):DQ:=fun d S1=>∃ ds:List Str,d = .tup (ds.map D.str)∧Q (.bl (g (decide (zs=ds)))) S1
theorem zps (h:m env S (zrz zs g Q)):zrd zs g m env S Q:=h
instance zvK:St (zrd zs g m env S Q) (m env S (zrz zs g Q)):=⟨fun h=>zps h⟩
end
def zyO (d:D) (_:Sto):Prop:=match d with
 | .str _=>True
 | _=>False
def zxq:MM:=fun d ds S Q=>match d,ds with
 | .str a,[.str b]=>∃ i rest,Builtin.Str.occurrences a b 0 a.length 1=i :: rest∧Q (.int (i:Nat)) S
 | _,_=>False
section
variable {X:Cx} {B:Hp}
def zyH (x:V) (_:Hp):Prop:=∃ a,x = .str a
end
open PySem PySem.Spec PyProof.Rows
end DL
namespace K09
open PySem PySem.Spec PyProof.Rows L2 DL
local macro_rules | `(tactic| walk_at "dp") => `(tactic| (first | with_reducible assumption | with_reducible exact zai | (with_reducible refine (zaz (by first | with_reducible assumption | exact Ne.symm (by with_reducible assumption))).trans ?_; first | with_reducible assumption | with_reducible exact zai | (with_reducible refine (zaz (by first | with_reducible assumption | exact Ne.symm (by with_reducible assumption))).trans ?_; first | with_reducible assumption | with_reducible exact zai | (with_reducible refine (zaz (by first | with_reducible assumption | exact Ne.symm (by with_reducible assumption))).trans ?_; first | with_reducible assumption | with_reducible exact zai | (with_reducible refine (zaz (by first | with_reducible assumption | exact Ne.symm (by with_reducible assumption))).trans ?_; first | with_reducible assumption | with_reducible exact zai))))))
local macro_rules | `(tactic| walk_at "q") => `(tactic| (first | exact .inl rfl | exact .inr rfl))
local macro_rules | `(tactic| nofun) => `(tactic| walk_at "q")
section
variable {w:World} {K:PySem.W.Frag} {mg:Str->Option Value} {base:Heap}
theorem zdI:FnScope ["self", "part", "path"] ["self", "part", "path"] (defScope za1):=⟨rfl,rfl,rfl,by decide +kernel,rfl,by decide +kernel,by decide +kernel⟩
theorem zaU (T:Tu fac fns zcW PG_.main.file zc4 tabs eqs gts prs sqs nos isl w K mg):zoG PG_ w K mg base "InvalidProgram" "part" "path" := by
 obtain ⟨fd,F⟩:=T.df 38 (d:=zb2)
 have bi:Binds K fd ["self", "part", "path"] []:=FunD.bindsN F fun _ _ _ _ _ _ us hl=>match us,hl with | [_,_,_],_=>by kernel_rfl
 refine T.exc2 0 63 64 65 66 rfl rfl rfl rfl rfl ⟨fd,_,zon F zdI rfl (fun X h1 h2=>⟨pe_var (by rw [h1];rfl) (.inl (by rw [h2];rfl)),pe_var (by rw [h1];rfl) (.inl (by rw [h2];rfl)),rfl,pe_var (by rw [h1];rfl) (.inl (by rw [h2];rfl)),pe_var (by rw [h1];rfl) (.inl (by rw [h2];rfl)),rfl⟩),bi⟩
theorem zev:FnScope ["self", "part"] ["self", "part"] (defScope zbe):=⟨rfl,rfl,rfl,by decide +kernel,rfl,by decide +kernel,by decide +kernel⟩
theorem zbR (T:Tu fac fns zcW PG_.main.file zc4 tabs eqs gts prs sqs nos isl w K mg):ExOk PG_ w K mg base "InvalidRule" "part" := by
 obtain ⟨fd,F⟩:=T.df 39 (d:=zcy)
 have bi:Binds K fd ["self", "part"] []:=FunD.bindsN F fun _ _ _ _ _ _ us hl=>match us,hl with | [_,_],_=>by kernel_rfl
 refine T.exc 1 55 67 68 rfl rfl rfl rfl ⟨fd,_,zrR F zev rfl (fun X h1 h2=>⟨pe_var (by rw [h1];rfl) (.inl (by rw [h2];rfl)),pe_var (by rw [h1];rfl) (.inl (by rw [h2];rfl)),rfl⟩),bi⟩
def zeJ (K:PySem.W.Frag) (W:XW):SM:=
 (zaZ (zfs (zac (mCB zem (zac (mSl (zah 0) zks (mP (mC (.int 63)))) zan)) (zac (mC (.int 0)) (zac (mC (.int 0)) (zac (mC (.int 0)) (zac (mC (.int 1)) zan)))))))
theorem zhw:FnScope ["_law_script"] ["_law_script"] (defScope zcP):=⟨rfl,rfl,rfl,by decide +kernel,rfl,by decide +kernel,by decide +kernel⟩
def zcU (K:PySem.W.Frag):SpD:=spB 1 0 (zeJ K)
theorem zfw (T:Tu fac fns zcW PG_.main.file zc4 tabs eqs gts prs sqs nos isl w K mg):Fd PG_ w K mg base 2 (He.ga K "_law_state") (zcU K):=by
 obtain ⟨fd,F⟩:=T.df 0 (d:=zfE)
 have bi:Binds K fd ["_law_script"] []:=FunD.bindsN F fun _ _ _ _ _ _ us hl=>match us,hl with | [_],_=>by kernel_rfl
 refine zaV (k:=1) F zhw bi rfl rfl fun cdv A outer s H E hr X eX W tk po=>?_
 subst eX
 unfold zeJ
 exact (zag (zar (zbo (zaa (zaN zdF (zaa (zii (zab 0 (pv 0)) zeD (zeC zaf)) zae) fun h1 h2=>pe_callTy h1 rfl (T.free 0) boot_list h2) (zaa zaf (zaa zaf (zaa zaf (zaa zaf zae))))))))
def zfn (K:PySem.W.Frag) (W:XW):SM:=
 (zav (zjD (zah 0) (mC (.int 3)) (mC (.int 1)) zix) (zav (mIf (zhX (mB (mOp vEq (mOp vIx (zah 0) (mC (.int 2))) (mC (.int 0)))) (mB (mOp vLt (mOp vIx (zah 0) (mC (.int 1))) (mCB zcJ (zac (mOp vIx (zah 0) (mC (.int 0))) zan)))))
  (zav (zaP (mOp vIx (mOp vIx (zah 0) (mC (.int 0))) (mOp vIx (zah 0) (mC (.int 1)))) (gNm 2)) (zav (zjD (zah 0) (mC (.int 1)) (mC (.int 1)) zix) (mIf (mB (mOp vGe (mCB zr5 (zac (zah 2) zan)) (mOp zoZ (mC (.int 10)) (mC (.int 18)))))
  (zaP (mCB zr5 (zac (zah 2) zan)) (gIx (zah 0) (mC (.int 2))))
  (zaP (mOp zkT (mCB vInt (zac (mOp zb6 (mOp zb6 (mOp zjq (mOp vIx (zah 0) (mC (.int 4))) (mC (.int 69621))) (zah 2)) (mC (.int 7919))) zan)) (mC (.int 2147483647))) (gIx (zah 0) (mC (.int 4)))))))
  mNx) (zav (mIf (mB (mOp vGt (mOp vIx (zah 0) (mC (.int 2))) (mC (.int 0))))
  (zav (zaP (mOp zkT (mCB vInt (zac (mOp vIx (zah 0) (mC (.int 2))) zan)) (zah 1)) (gNm 3)) (zav (zaP (mOp zhu (mOp vIx (zah 0) (mC (.int 2))) (zah 1)) (gIx (zah 0) (mC (.int 2)))) (zaZ (zah 3))))
  mNx) (zav (zaP (mOp zkT (mCB vInt (zac (mOp zjq (mOp zb6 (mOp zb6 (mOp vIx (zah 0) (mC (.int 4))) (mOp zjq (mC (.int 7919)) (mOp vIx (zah 0) (mC (.int 3))))) (mC (.int 1))) (mC (.int 48271))) zan)) (mC (.int 2147483647))) (gNm 4)) (zav (zaP (mOp zkT (mCB vInt (zac (mOp zjq (zah 4) (mOp zb6 (mOp zhu (zah 4) (mC (.int 1009))) (mC (.int 69621)))) zan)) (mC (.int 2147483647))) (gNm 5)) (zav (zaP (mOp zkT (mCB vInt (zac (mOp zjq (zah 5) (mOp zb6 (mOp zhu (zah 5) (mC (.int 2003))) (mC (.int 40692)))) zan)) (mC (.int 2147483399))) (gNm 6)) (zaZ (mOp zkT (mCB vInt (zac (mOp zhu (zah 6) (mC (.int 16))) zan)) (zah 1)))))))))
theorem zbZ:FnScope ["_law_state_here", "_law_many_here", "_law_cell", "_law_digit", "_law_one", "_law_two", "_law_three"] ["_law_state_here", "_law_many_here"] (defScope zdl):=⟨rfl,rfl,rfl,by decide +kernel,rfl,by decide +kernel,by decide +kernel⟩
def zaj (K:PySem.W.Frag):SpD:=spB 2 5 (zfn K)
theorem zam (T:Tu fac fns zcW PG_.main.file zc4 tabs eqs gts prs sqs nos isl w K mg):Fd PG_ w K mg base 2 (He.ga K "_law_draw") (zaj K):=by
 obtain ⟨fd,F⟩:=T.df 1 (d:=zgm)
 have bi:Binds K fd ["_law_state_here", "_law_many_here"] []:=FunD.bindsN F fun _ _ _ _ _ _ us hl=>match us,hl with | [_,_],_=>by kernel_rfl
 refine zaV (k:=1) F zbZ bi rfl rfl fun cdv A outer s H E hr X eX W tk po=>?_
 subst eX
 unfold zfn
 exact (zad (zkg (hu1 hr) (zab 0 (pv 0)) zaf zaf ziZ)
  (zad (zaB (MW.mt (zd9 (zat (zbh (zb5 hr)) (zal (hu1 hr) (zab 0 (pv 0)) zaf) zaf) (zc2 (zat zhI (zal (hu1 hr) (zab 0 (pv 0)) zaf) (zao za8 (zaa (zal (hu1 hr) (zab 0 (pv 0)) zaf) zae) fun h1 h2=>pe_callB h1 rfl (T.free 1) boot_len h2)))))
  (zad (zas (i:=2) (zal (hu1 hr) (zal (hu1 hr) (zab 0 (pv 0)) zaf) (zal (hu1 hr) (zab 0 (pv 0)) zaf)) fun h=>ps_set zbZ.nd rfl (by nofun) h)
  (zad (zkg (hu1 hr) (zab 0 (pv 0)) zaf zaf ziZ)
  (zag (zaB (zat zli (zao zmL (zaa (zab 2 (pv 2)) zae) fun h1 h2=>pe_callB h1 rfl (T.free 2) boot_abs h2) (zaF zke zaf zaf))
  (zag (zea (zao zmL (zaa (zab 2 (pv 2)) zae) fun h1 h2=>pe_callB h1 rfl (T.free 2) boot_abs h2) (zeb (hu1 hr) (zab 0 (pv 0)) zaf)))
  (zag (zea (zaF zf7 (zaN zgp (zaa (zaF zaK (zaF zaK (zaF zhe (zal (hu1 hr) (zab 0 (pv 0)) zaf) zaf) (zab 2 (pv 2))) zaf) zae) fun h1 h2=>pe_callTy h1 rfl (T.free 3) boot_int h2) zaf) (zeb (hu1 hr) (zab 0 (pv 0)) zaf)))))))
  zap)
  (zad (zaB (zat ziC (zal (hu1 hr) (zab 0 (pv 0)) zaf) zaf)
  (zad (zas (i:=3) (zaF zf7 (zaN zgp (zaa (zal (hu1 hr) (zab 0 (pv 0)) zaf) zae) fun h1 h2=>pe_callTy h1 rfl (T.free 3) boot_int h2) (zab 1 (pv 1))) fun h=>ps_set zbZ.nd rfl (by nofun) h)
  (zad (zea (zaF ze8 (zal (hu1 hr) (zab 0 (pv 0)) zaf) (zab 1 (pv 1))) (zeb (hu1 hr) (zab 0 (pv 0)) zaf))
  (zag (zar (zab 3 (pv 3))))))
  zap)
  (zad (zas (i:=4) (zaF zf7 (zaN zgp (zaa (zaF zhe (zaF zaK (zaF zaK (zal (hu1 hr) (zab 0 (pv 0)) zaf) (zaF zhe zaf (zal (hu1 hr) (zab 0 (pv 0)) zaf))) zaf) zaf) zae) fun h1 h2=>pe_callTy h1 rfl (T.free 3) boot_int h2) zaf) fun h=>ps_set zbZ.nd rfl (by nofun) h)
  (zad (zas (i:=5) (zaF zf7 (zaN zgp (zaa (zaF zhe (zab 4 (pv 4)) (zaF zaK (zaF ze8 (zab 4 (pv 4)) zaf) zaf)) zae) fun h1 h2=>pe_callTy h1 rfl (T.free 3) boot_int h2) zaf) fun h=>ps_set zbZ.nd rfl (by nofun) h)
  (zad (zas (i:=6) (zaF zf7 (zaN zgp (zaa (zaF zhe (zab 5 (pv 5)) (zaF zaK (zaF ze8 (zab 5 (pv 5)) zaf) zaf)) zae) fun h1 h2=>pe_callTy h1 rfl (T.free 3) boot_int h2) zaf) fun h=>ps_set zbZ.nd rfl (by nofun) h)
  (zag (zar (zaF zf7 (zaN zgp (zaa (zaF ze8 (zab 6 (pv 6)) zaf) zae) fun h1 h2=>pe_callTy h1 rfl (T.free 3) boot_int h2) (zab 1 (pv 1)))))))))))
def zeL (K:PySem.W.Frag) (W:XW):SM:=
 (zav (zaP (zaw (zaj K) W (zac (zah 0) (zac (mC (.int 8)) zan))) (gNm 2)) (zav (zaP (zaw (zaj K) W (zac (zah 0) (zac (mC (.int 26)) zan))) (gNm 3)) (zav (zaP (zaw (zaj K) W (zac (zah 0) (zac (mC (.int 2)) zan))) (gNm 4)) (zav (zaP (zaw (zaj K) W (zac (zah 0) (zac (mOp zoZ (mC (.int 26)) (mC (.int 7))) zan))) (gNm 5)) (zav (zaP (mC (.str "abcdefghijklmnopqrstuvwxyz")) (gNm 6)) (zav (zaP (zfs zan) (gNm 7)) (zav (zej (zce (zac (zah 1) zan)) (gNm 8)
  (zav (zaP (zah 5) (gNm 9)) (zav (zaP (mOp zb6 (zah 2) (mC (.int 1))) (gNm 10)) (zav (mIf (mB (mOp vEq (zah 4) (mC (.int 0))))
  (zav (zaP (zaw (zaj K) W (zac (zah 0) (zac (mOp zoZ (mC (.int 26)) (mC (.int 7))) zan))) (gNm 9)) (zaP (mOp zb6 (mOp zb6 (zah 2) (mC (.int 1))) (zaw (zaj K) W (zac (zah 0) (zac (mOp zjN (mC (.int 8)) (zah 2)) zan)))) (gNm 10)))
  mNx) (zav (zaP (mC (.str "")) (gNm 11)) (zav (zej (zce (zac (zah 10) zan)) (gNm 12)
  (mIf (mB (mOp vEq (zah 12) (zah 2)))
  (zaP (mOp zb6 (zah 11) (mOp vIx (zah 6) (mOp zkT (mCB vInt (zac (mOp zb6 (zah 3) (mOp zjq (mC (.int 7)) (zah 8))) zan)) (mC (.int 26))))) (gNm 11))
  (zav (zaP (mOp zb6 (zah 11) (mOp vIx (zah 6) (mOp zkT (mCB vInt (zac (zah 9) zan)) (mC (.int 26))))) (gNm 11)) (zaP (mOp zhu (zah 9) (mC (.int 26))) (gNm 9))))) (zcF (zfO okL zgv (zah 7) (zac (zah 11) zan))))))))) (zaZ (zah 7)))))))))
theorem zaD:FnScope ["_law_state_here", "_law_many_here", "_law_place", "_law_first", "_law_shared", "_law_base", "_law_letters", "_law_names_here", "_law_k", "_law_other", "_law_size", "_law_name", "_law_at"] ["_law_state_here", "_law_many_here"] (defScope zcR):=⟨rfl,rfl,rfl,by decide +kernel,rfl,by decide +kernel,by decide +kernel⟩
def zca (K:PySem.W.Frag):SpD:=spB 2 11 (zeL K)
theorem zdY (T:Tu fac fns zcW PG_.main.file zc4 tabs eqs gts prs sqs nos isl w K mg):Fd PG_ w K mg base 4 (He.ga K "_law_names") (zca K):=by
 obtain ⟨fd,F⟩:=T.df 2 (d:=zfG)
 have bi:Binds K fd ["_law_state_here", "_law_many_here"] []:=FunD.bindsN F fun _ _ _ _ _ _ us hl=>match us,hl with | [_,_],_=>by kernel_rfl
 refine zaV (k:=3) F zaD bi rfl rfl fun cdv A outer s H E hr X eX W tk po=>?_
 subst eX
 unfold zeL
 exact (zad (zas (i:=2) (zaA (zam T) (hr.mono (by omega)) tk (T.glo 4) (zaa (zab 0 (pv 0)) (zaa zaf zae))) fun h=>ps_set zaD.nd rfl (by nofun) h)
  (zad (zas (i:=3) (zaA (zam T) (hr.mono (by omega)) tk (T.glo 4) (zaa (zab 0 (pv 0)) (zaa zaf zae))) fun h=>ps_set zaD.nd rfl (by nofun) h)
  (zad (zas (i:=4) (zaA (zam T) (hr.mono (by omega)) tk (T.glo 4) (zaa (zab 0 (pv 0)) (zaa zaf zae))) fun h=>ps_set zaD.nd rfl (by nofun) h)
  (zad (zas (i:=5) (zaA (zam T) (hr.mono (by omega)) tk (T.glo 4) (zaa (zab 0 (pv 0)) (zaa (zaF zke zaf zaf) zae))) fun h=>ps_set zaD.nd rfl (by nofun) h)
  (zad (zas (i:=6) zak fun h=>ps_set zaD.nd rfl (by nofun) h)
  (zad (zas (i:=7) (zbo zae) fun h=>ps_set zaD.nd rfl (by nofun) h)
  (zad (zaW po rfl (zbF (zaa (zab 1 (pv 1)) zae) fun h=>pi_range1 rfl (T.free 5) h) (zaG (pg_name zaD.nd rfl (by nofun)))
  (zad (zas (i:=9) (zab 5 (pv 5)) fun h=>ps_set zaD.nd rfl (by nofun) h)
  (zad (zas (i:=10) (zaF zaK (zab 2 (pv 2)) zaf) fun h=>ps_set zaD.nd rfl (by nofun) h)
  (zad (zaB (zat (zbh (zb5 hr)) (zab 4 (pv 4)) zaf)
  (zad (zas (i:=9) (zaA (zam T) (hr.mono (by omega)) tk (T.glo 4) (zaa (zab 0 (pv 0)) (zaa (zaF zke zaf zaf) zae))) fun h=>ps_set zaD.nd rfl (by nofun) h)
  (zag (zas (i:=10) (zaF zaK (zaF zaK (zab 2 (pv 2)) zaf) (zaA (zam T) (hr.mono (by omega)) tk (T.glo 4) (zaa (zab 0 (pv 0)) (zaa (zaF zf6 zaf (zab 2 (pv 2))) zae)))) fun h=>ps_set zaD.nd rfl (by nofun) h)))
  zap)
  (zad (zas (i:=11) zak fun h=>ps_set zaD.nd rfl (by nofun) h)
  (zad (zaW po rfl (zbF (zaa (zab 10 (pv 10)) zae) fun h=>pi_range1 rfl (T.free 5) h) (zaG (pg_name zaD.nd rfl (by nofun)))
  (zag (zaB (zat (zbh (zb5 hr)) (zab 12 (pv 12)) (zab 2 (pv 2)))
  (zag (zas (i:=11) (zaF zaK (zab 11 (pv 11)) (zal (hu1 hr) (zab 6 (pv 6)) (zaF zf7 (zaN zgp (zaa (zaF zaK (zab 3 (pv 3)) (zaF zhe zaf (zab 8 (pv 8)))) zae) fun h1 h2=>pe_callTy h1 rfl (T.free 3) boot_int h2) zaf))) fun h=>ps_set zaD.nd rfl (by nofun) h))
  (zad (zas (i:=11) (zaF zaK (zab 11 (pv 11)) (zal (hu1 hr) (zab 6 (pv 6)) (zaF zf7 (zaN zgp (zaa (zab 9 (pv 9)) zae) fun h1 h2=>pe_callTy h1 rfl (T.free 3) boot_int h2) zaf))) fun h=>ps_set zaD.nd rfl (by nofun) h)
  (zag (zas (i:=9) (zaF ze8 (zab 9 (pv 9)) zaf) fun h=>ps_set zaD.nd rfl (by nofun) h))))) (fun h1 h2 h3=>ps_for po rfl h1 h2 h3))
  (zag (zba (zaR (zab 7 (pv 7)) (zaa (zab 11 (pv 11)) zae))))))))) (fun h1 h2 h3=>ps_for po rfl h1 h2 h3))
  (zag (zar (zab 7 (pv 7)))))))))))
def zfk (K:PySem.W.Frag) (rec:SpD) (W:XW):SM:=
 (zav (zaP (mCB zcJ (zac (zah 0) zan)) (gNm 1)) (zav (zej (zek (zah 0)) (gNm 2)
  (mIf (mB (mOp vEq (mOp vIx (zah 2) (mC (.int 0))) (mC (.str "if"))))
  (zmC 1 (mOp zb6 (zaw rec W (zac (mOp vIx (zah 2) (mC (.int 3))) zan)) (zaw rec W (zac (mOp vIx (zah 2) (mC (.int 4))) zan))) zix)
  mNx)) (zaZ (zah 1))))
theorem zdu:FnScope ["_law_rows_here", "_law_total", "_law_row_here"] ["_law_rows_here"] (defScope zdi):=⟨rfl,rfl,rfl,by decide +kernel,rfl,by decide +kernel,by decide +kernel⟩
def zcv (K:PySem.W.Frag):Nat->SpD
 | 0=>fun _ _ _ _=>False
 | n+1=>spB 1 2 (zfk K (zcv K n))
theorem zf3 (T:Tu fac fns zcW PG_.main.file zc4 tabs eqs gts prs sqs nos isl w K mg):∀ n,Fd PG_ w K mg base (2+n) (He.ga K "_law_many") (zcv K n):=by
 obtain ⟨fd,F⟩:=T.df 3 (d:=zgj)
 have bi:Binds K fd ["_law_rows_here"] []:=FunD.bindsN F fun _ _ _ _ _ _ us hl=>match us,hl with | [_],_=>by kernel_rfl
 intro n
 induction n with
 | zero=>exact zlO bi F.kp
 | succ n RC=>
 refine zaV (k:=2+n) F zdu bi rfl rfl fun cdv A outer s H E hr X eX W tk po=>?_
 subst eX
 unfold zfk
 exact (zad (zas (i:=1) (zao za8 (zaa (zab 0 (pv 0)) zae) fun h1 h2=>pe_callB h1 rfl (T.free 1) boot_len h2) fun h=>ps_set zdu.nd rfl (by nofun) h)
  (zad (zaW po rfl (zaX (zab 0 (pv 0))) (zaG (pg_name zdu.nd rfl (by nofun)))
  (zag (zaB (zat (zbh (zb5 hr)) (zal (hu1 hr) (zab 2 (pv 2)) zaf) zak)
  (zag (zml (i:=1) (zaF zaK (zaA RC (hr.mono (by omega)) tk (T.glo 6) (zaa (zal (hu1 hr) (zab 2 (pv 2)) zaf) zae)) (zaA RC (hr.mono (by omega)) tk (T.glo 6) (zaa (zal (hu1 hr) (zab 2 (pv 2)) zaf) zae))) ziZ fun h1 h2=>ps_aug zdu.nd rfl (by nofun) h1 h2))
  zap)) (fun h1 h2 h3=>ps_for po rfl h1 h2 h3))
  (zag (zar (zab 1 (pv 1))))))
def zfU (K:PySem.W.Frag) (W:XW):SM:=
 (zav (zaP (zaw (zaj K) W (zac (zah 0) (zac (mC (.int 6)) zan))) (gNm 2)) (zav (zaP (mOp vIx (mOp vIx (zah 1) (mC (.str "slots"))) (zaw (zaj K) W (zac (zah 0) (zac (mCB zcJ (zac (mOp vIx (zah 1) (mC (.str "slots"))) zan)) zan)))) (gNm 3)) (zav (mIf (mB (mOp vEq (zah 2) (mC (.int 0))))
  (zaZ (zbu (zac (mC (.str "put")) (zac (zah 3) (zac (mOp vIx (mOp vIx (zah 1) (mC (.str "words"))) (zaw (zaj K) W (zac (zah 0) (zac (mCB zcJ (zac (mOp vIx (zah 1) (mC (.str "words"))) zan)) zan)))) zan)))))
  mNx) (zav (mIf (zhX (mB (mOp vEq (zah 2) (mC (.int 1)))) (mB (mOp vEq (mOp vIx (zah 1) (mC (.str "kind"))) (mC (.str "derived")))))
  (zaZ (zbu (zac (mC (.str "give")) (zac (zah 3) zan))))
  mNx) (zav (mIf (mB (mOp vEq (zah 2) (mC (.int 1))))
  (zaZ (zbu (zac (mC (.str "say")) (zac (zah 3) zan))))
  mNx) (zav (mIf (zhX (mB (mOp vEq (zah 2) (mC (.int 2)))) (zct (mOp vIx (zah 1) (mC (.str "writes")))))
  (zaZ (zbu (zac (mC (.str "write")) (zac (mOp vIx (mOp vIx (zah 1) (mC (.str "sources"))) (zaw (zaj K) W (zac (zah 0) (zac (mCB zcJ (zac (mOp vIx (zah 1) (mC (.str "sources"))) zan)) zan)))) (zac (zah 3) zan)))))
  mNx) (zav (zaP (mOp vIx (mOp vIx (zah 1) (mC (.str "cells"))) (zaw (zaj K) W (zac (zah 0) (zac (mCB zcJ (zac (mOp vIx (zah 1) (mC (.str "cells"))) zan)) zan)))) (gNm 4)) (zav (mIf (zhX (mB (mOp vEq (zah 2) (mC (.int 3)))) (zct (mOp vIx (zah 1) (mC (.str "peeks")))))
  (zaZ (zbu (zac (mC (.str "peek")) (zac (zah 4) (zac (zah 3) zan)))))
  mNx) (zaZ (zbu (zac (mC (.str "read")) (zac (zah 4) (zac (zah 3) zan)))))))))))))
theorem zdV:FnScope ["_law_state_here", "_law_shape", "_law_kind", "_law_slot", "_law_cell"] ["_law_state_here", "_law_shape"] (defScope zdP):=⟨rfl,rfl,rfl,by decide +kernel,rfl,by decide +kernel,by decide +kernel⟩
def zdS (K:PySem.W.Frag):SpD:=spB 2 3 (zfU K)
theorem ziA (T:Tu fac fns zcW PG_.main.file zc4 tabs eqs gts prs sqs nos isl w K mg):Fd PG_ w K mg base 4 (He.ga K "_law_row") (zdS K):=by
 obtain ⟨fd,F⟩:=T.df 4 (d:=zgT)
 have bi:Binds K fd ["_law_state_here", "_law_shape"] []:=FunD.bindsN F fun _ _ _ _ _ _ us hl=>match us,hl with | [_,_],_=>by kernel_rfl
 refine zaV (k:=3) F zdV bi rfl rfl fun cdv A outer s H E hr X eX W tk po=>?_
 subst eX
 unfold zfU
 exact (zad (zas (i:=2) (zaA (zam T) (hr.mono (by omega)) tk (T.glo 4) (zaa (zab 0 (pv 0)) (zaa zaf zae))) fun h=>ps_set zdV.nd rfl (by nofun) h)
  (zad (zas (i:=3) (zal (hu1 hr) (zal (hu1 hr) (zab 1 (pv 1)) zak) (zaA (zam T) (hr.mono (by omega)) tk (T.glo 4) (zaa (zab 0 (pv 0)) (zaa (zao za8 (zaa (zal (hu1 hr) (zab 1 (pv 1)) zak) zae) fun h1 h2=>pe_callB h1 rfl (T.free 1) boot_len h2) zae)))) fun h=>ps_set zdV.nd rfl (by nofun) h)
  (zad (zaB (zat (zbh (zb5 hr)) (zab 2 (pv 2)) zaf)
  (zag (zar (zau (zaa zak (zaa (zab 3 (pv 3)) (zaa (zal (hu1 hr) (zal (hu1 hr) (zab 1 (pv 1)) zak) (zaA (zam T) (hr.mono (by omega)) tk (T.glo 4) (zaa (zab 0 (pv 0)) (zaa (zao za8 (zaa (zal (hu1 hr) (zab 1 (pv 1)) zak) zae) fun h1 h2=>pe_callB h1 rfl (T.free 1) boot_len h2) zae)))) zae))))))
  zap)
  (zad (zaB (MW.mt (zd9 (zat (zbh (zb5 hr)) (zab 2 (pv 2)) zaf) (zc2 (zat (zbh (zb5 hr)) (zal (hu1 hr) (zab 1 (pv 1)) zak) zak))))
  (zag (zar (zau (zaa zak (zaa (zab 3 (pv 3)) zae)))))
  zap)
  (zad (zaB (zat (zbh (zb5 hr)) (zab 2 (pv 2)) zaf)
  (zag (zar (zau (zaa zak (zaa (zab 3 (pv 3)) zae)))))
  zap)
  (zad (zaB (MW.mt (zd9 (zat (zbh (zb5 hr)) (zab 2 (pv 2)) zaf) (zc2 (zaJ (zal (hu1 hr) (zab 1 (pv 1)) zak)))))
  (zag (zar (zau (zaa zak (zaa (zal (hu1 hr) (zal (hu1 hr) (zab 1 (pv 1)) zak) (zaA (zam T) (hr.mono (by omega)) tk (T.glo 4) (zaa (zab 0 (pv 0)) (zaa (zao za8 (zaa (zal (hu1 hr) (zab 1 (pv 1)) zak) zae) fun h1 h2=>pe_callB h1 rfl (T.free 1) boot_len h2) zae)))) (zaa (zab 3 (pv 3)) zae))))))
  zap)
  (zad (zas (i:=4) (zal (hu1 hr) (zal (hu1 hr) (zab 1 (pv 1)) zak) (zaA (zam T) (hr.mono (by omega)) tk (T.glo 4) (zaa (zab 0 (pv 0)) (zaa (zao za8 (zaa (zal (hu1 hr) (zab 1 (pv 1)) zak) zae) fun h1 h2=>pe_callB h1 rfl (T.free 1) boot_len h2) zae)))) fun h=>ps_set zdV.nd rfl (by nofun) h)
  (zad (zaB (MW.mt (zd9 (zat (zbh (zb5 hr)) (zab 2 (pv 2)) zaf) (zc2 (zaJ (zal (hu1 hr) (zab 1 (pv 1)) zak)))))
  (zag (zar (zau (zaa zak (zaa (zab 4 (pv 4)) (zaa (zab 3 (pv 3)) zae))))))
  zap)
  (zag (zar (zau (zaa zak (zaa (zab 4 (pv 4)) (zaa (zab 3 (pv 3)) zae))))))))))))))
def zfi (K:PySem.W.Frag) (rec:SpD) (W:XW):SM:=
 (zav (zaP (zfs zan) (gNm 4)) (zav (zaP (zah 3) (gNm 5)) (zav (zej (zce (zac (mOp zb6 (mC (.int 1)) (zaw (zaj K) W (zac (zah 0) (zac (mC (.int 4)) zan)))) zan)) (gNm 6)
  (mIf (zhX (mB (mOp vGe (zah 5) (mC (.int 2)))) (zhX (mB (mOp vLt (zah 2) (mC (.int 4)))) (mB (mOp vEq (zaw (zaj K) W (zac (zah 0) (zac (mC (.int 3)) zan))) (mC (.int 0))))))
  (zav (zaP (mOp vIx (mOp vIx (zah 1) (mC (.str "slots"))) (zaw (zaj K) W (zac (zah 0) (zac (mCB zcJ (zac (mOp vIx (zah 1) (mC (.str "slots"))) zan)) zan)))) (gNm 7)) (zav (zaP (mOp vIx (mOp vIx (zah 1) (mC (.str "cells"))) (zaw (zaj K) W (zac (zah 0) (zac (mCB zcJ (zac (mOp vIx (zah 1) (mC (.str "cells"))) zan)) zan)))) (gNm 8)) (zav (zaP (mOp vIx (mOp vIx (zah 1) (mC (.str "words"))) (zaw (zaj K) W (zac (zah 0) (zac (mCB zcJ (zac (mOp vIx (zah 1) (mC (.str "words"))) zan)) zan)))) (gNm 9)) (zav (zcF (zfO okL zgv (zah 4) (zac (zbu (zac (mC (.str "read")) (zac (zah 8) (zac (zah 7) zan)))) zan))) (zav (zaP (zaw rec W (zac (zah 0) (zac (zah 1) (zac (mOp zb6 (zah 2) (mC (.int 1))) (zac (mOp zhu (mOp zjN (zah 5) (mC (.int 2))) (mC (.int 2))) zan))))) (gNm 10)) (zav (zaP (zaw rec W (zac (zah 0) (zac (zah 1) (zac (mOp zb6 (zah 2) (mC (.int 1))) (zac (mOp zhu (mOp zjN (zah 5) (mC (.int 2))) (mC (.int 2))) zan))))) (gNm 11)) (zav (zcF (zfO okL zgv (zah 4) (zac (zbu (zac (mC (.str "if")) (zac (zah 7) (zac (zah 9) (zac (zah 10) (zac (zah 11) zan)))))) zan))) (zaP (mOp zjN (mOp zjN (mOp zjN (zah 5) (mC (.int 2))) (zaw (zcv K 6) W (zac (zah 10) zan))) (zaw (zcv K 6) W (zac (zah 11) zan))) (gNm 5)))))))))
  (mIf (mB (mOp vGe (zah 5) (mC (.int 1))))
  (zav (zcF (zfO okL zgv (zah 4) (zac (zaw (zdS K) W (zac (zah 0) (zac (zah 1) zan))) zan))) (zaP (mOp zjN (zah 5) (mC (.int 1))) (gNm 5)))
  mNx))) (zaZ (mCB zcI (zac (zah 4) zan))))))
theorem zaY:FnScope ["_law_state_here", "_law_shape", "_law_depth", "_law_room", "_law_rows_here", "_law_left", "_law_turn", "_law_slot", "_law_cell", "_law_word", "_law_yes", "_law_no"] ["_law_state_here", "_law_shape", "_law_depth", "_law_room"] (defScope zdg):=⟨rfl,rfl,rfl,by decide +kernel,rfl,by decide +kernel,by decide +kernel⟩
def zcu (K:PySem.W.Frag):Nat->SpD
 | 0=>fun _ _ _ _=>False
 | n+1=>spB 4 8 (zfi K (zcu K n))
theorem zf1 (T:Tu fac fns zcW PG_.main.file zc4 tabs eqs gts prs sqs nos isl w K mg):∀ n,Fd PG_ w K mg base (10+n) (He.ga K "_law_rows") (zcu K n):=by
 obtain ⟨fd,F⟩:=T.df 5 (d:=zgh)
 have bi:Binds K fd ["_law_state_here", "_law_shape", "_law_depth", "_law_room"] []:=FunD.bindsN F fun _ _ _ _ _ _ us hl=>match us,hl with | [_,_,_,_],_=>by kernel_rfl
 intro n
 induction n with
 | zero=>exact zlO bi F.kp
 | succ n RC=>
 refine zaV (k:=10+n) F zaY bi rfl rfl fun cdv A outer s H E hr X eX W tk po=>?_
 subst eX
 unfold zfi
 exact (zad (zas (i:=4) (zbo zae) fun h=>ps_set zaY.nd rfl (by nofun) h)
  (zad (zas (i:=5) (zab 3 (pv 3)) fun h=>ps_set zaY.nd rfl (by nofun) h)
  (zad (zaW po rfl (zbF (zaa (zaF zaK zaf (zaA (zam T) (hr.mono (by omega)) tk (T.glo 4) (zaa (zab 0 (pv 0)) (zaa zaf zae)))) zae) fun h=>pi_range1 rfl (T.free 5) h) (zaG (pg_name zaY.nd rfl (by nofun)))
  (zag (zaB (MW.mt (zd9 (zat zli (zab 5 (pv 5)) zaf) (zd9 (zat zhI (zab 2 (pv 2)) zaf) (zc2 (zat (zbh (zb5 hr)) (zaA (zam T) (hr.mono (by omega)) tk (T.glo 4) (zaa (zab 0 (pv 0)) (zaa zaf zae))) zaf)))))
  (zad (zas (i:=7) (zal (hu1 hr) (zal (hu1 hr) (zab 1 (pv 1)) zak) (zaA (zam T) (hr.mono (by omega)) tk (T.glo 4) (zaa (zab 0 (pv 0)) (zaa (zao za8 (zaa (zal (hu1 hr) (zab 1 (pv 1)) zak) zae) fun h1 h2=>pe_callB h1 rfl (T.free 1) boot_len h2) zae)))) fun h=>ps_set zaY.nd rfl (by nofun) h)
  (zad (zas (i:=8) (zal (hu1 hr) (zal (hu1 hr) (zab 1 (pv 1)) zak) (zaA (zam T) (hr.mono (by omega)) tk (T.glo 4) (zaa (zab 0 (pv 0)) (zaa (zao za8 (zaa (zal (hu1 hr) (zab 1 (pv 1)) zak) zae) fun h1 h2=>pe_callB h1 rfl (T.free 1) boot_len h2) zae)))) fun h=>ps_set zaY.nd rfl (by nofun) h)
  (zad (zas (i:=9) (zal (hu1 hr) (zal (hu1 hr) (zab 1 (pv 1)) zak) (zaA (zam T) (hr.mono (by omega)) tk (T.glo 4) (zaa (zab 0 (pv 0)) (zaa (zao za8 (zaa (zal (hu1 hr) (zab 1 (pv 1)) zak) zae) fun h1 h2=>pe_callB h1 rfl (T.free 1) boot_len h2) zae)))) fun h=>ps_set zaY.nd rfl (by nofun) h)
  (zad (zba (zaR (zab 4 (pv 4)) (zaa (zau (zaa zak (zaa (zab 8 (pv 8)) (zaa (zab 7 (pv 7)) zae)))) zae)))
  (zad (zas (i:=10) (zaA RC (hr.mono (by omega)) tk (T.glo 7) (zaa (zab 0 (pv 0)) (zaa (zab 1 (pv 1)) (zaa (zaF zaK (zab 2 (pv 2)) zaf) (zaa (zaF ze8 (zaF zf6 (zab 5 (pv 5)) zaf) zaf) zae))))) fun h=>ps_set zaY.nd rfl (by nofun) h)
  (zad (zas (i:=11) (zaA RC (hr.mono (by omega)) tk (T.glo 7) (zaa (zab 0 (pv 0)) (zaa (zab 1 (pv 1)) (zaa (zaF zaK (zab 2 (pv 2)) zaf) (zaa (zaF ze8 (zaF zf6 (zab 5 (pv 5)) zaf) zaf) zae))))) fun h=>ps_set zaY.nd rfl (by nofun) h)
  (zad (zba (zaR (zab 4 (pv 4)) (zaa (zau (zaa zak (zaa (zab 7 (pv 7)) (zaa (zab 9 (pv 9)) (zaa (zab 10 (pv 10)) (zaa (zab 11 (pv 11)) zae)))))) zae)))
  (zag (zas (i:=5) (zaF zf6 (zaF zf6 (zaF zf6 (zab 5 (pv 5)) zaf) (zaA (zf3 T 6) (hr.mono (by omega)) tk (T.glo 6) (zaa (zab 10 (pv 10)) zae))) (zaA (zf3 T 6) (hr.mono (by omega)) tk (T.glo 6) (zaa (zab 11 (pv 11)) zae))) fun h=>ps_set zaY.nd rfl (by nofun) h)))))))))
  (zag (zaB (zat zli (zab 5 (pv 5)) zaf)
  (zad (zba (zaR (zab 4 (pv 4)) (zaa (zaA (ziA T) (hr.mono (by omega)) tk (T.glo 8) (zaa (zab 0 (pv 0)) (zaa (zab 1 (pv 1)) zae))) zae)))
  (zag (zas (i:=5) (zaF zf6 (zab 5 (pv 5)) zaf) fun h=>ps_set zaY.nd rfl (by nofun) h)))
  zap)))) (fun h1 h2 h3=>ps_for po rfl h1 h2 h3))
  (zag (zar (zaN zeR (zaa (zab 4 (pv 4)) zae) fun h1 h2=>pe_callTy h1 rfl (T.free 9) boot_tuple h2))))))
def zeK (K:PySem.W.Frag) (W:XW):SM:=
 (zav (zaP (mOp zb6 (mC (.int 2)) (zaw (zaj K) W (zac (zah 0) (zac (mOp vIx (zah 1) (mC (.int 0))) zan)))) (gNm 4)) (zav (zaP (mOp zb6 (mC (.int 1)) (zaw (zaj K) W (zac (zah 0) (zac (mOp vIx (zah 1) (mC (.int 1))) zan)))) (gNm 5)) (zav (zaP (mCB zr4 (zac (zaw (zaj K) W (zac (zah 0) (zac (mOp zb6 (mOp vIx (zah 1) (mC (.int 2))) (mC (.int 1))) zan))) (zac (zaw (zaj K) W (zac (zah 0) (zac (mOp zb6 (mOp vIx (zah 1) (mC (.int 2))) (mC (.int 1))) zan))) zan))) (gNm 6)) (zav (zaP (mCB zr4 (zac (zaw (zaj K) W (zac (zah 0) (zac (mOp zb6 (mOp vIx (zah 1) (mC (.int 3))) (mC (.int 1))) zan))) (zac (zaw (zaj K) W (zac (zah 0) (zac (mOp zb6 (mOp vIx (zah 1) (mC (.int 3))) (mC (.int 1))) zan))) zan))) (gNm 7)) (zav (zaP (mCB zcI (zac (zaw (zca K) W (zac (zah 0) (zac (zah 4) zan))) zan)) (gNm 8)) (zav (zaP (zaw (zca K) W (zac (zah 0) (zac (mOp zb6 (mOp zb6 (zah 5) (zah 6)) (zah 7)) zan))) (gNm 9)) (zav (mIf (zhX (mB (mOp vEq (zaw (zaj K) W (zac (zah 0) (zac (mC (.int 4)) zan))) (mC (.int 0)))) (mB (mOp zhZ (mOp vIx (zah 9) (mC (.int 0))) (zah 8))))
  (zaP (mOp zb6 (mSl (zah 8) (mP (mC (.int 1))) zks) (zbu (zac (mOp vIx (zah 9) (mC (.int 0))) zan))) (gNm 8))
  mNx) (zav (zaP (mOp zb6 (zaw (zca K) W (zac (zah 0) (zac (mC (.int 2)) zan))) (zfs (zac (mOp vIx (zah 9) (mC (.int 0))) zan))) (gNm 10)) (zav (zaP (mCB zjp (zac (mSl (zah 9) zks (mP (zah 5))) zan)) (gNm 11)) (zav (zaP (zn8 [((mC (.str "kind")),(mC (.str "derived"))),((mC (.str "cells")),(mCB zem (zac (zah 11) zan))),((mC (.str "sources")),(zah 11)),((mC (.str "slots")),(zah 10)),((mC (.str "words")),(zah 8))]) (gNm 12)) (zav (zaP (mC (.bl false)) (gIx (zah 12) (mC (.str "peeks")))) (zav (zaP (mC (.bl false)) (gIx (zah 12) (mC (.str "writes")))) (zav (zaP (zfs zan) (gNm 13)) (zav (zej (zce (zac (zah 6) zan)) (gNm 14)
  (zav (zaP (mOp vIx (zah 9) (mOp zb6 (zah 5) (zah 14))) (gNm 15)) (zav (zaP (zaw (zcu K 5) W (zac (zah 0) (zac (zah 12) (zac (mC (.int 1)) (zac (mOp vIx (zah 1) (mC (.int 4))) zan))))) (gNm 16)) (zav (mIf (mB (mOp vGt (zaw (zaj K) W (zac (zah 0) (zac (mC (.int 4)) zan))) (mC (.int 0))))
  (zaP (mOp zb6 (zah 16) (zbu (zac (zbu (zac (mC (.str "give")) (zac (mOp vIx (zah 10) (zaw (zaj K) W (zac (zah 0) (zac (mC (.int 3)) zan)))) zan))) zan))) (gNm 16))
  mNx) (zav (zcF (zfO okL zgv (zah 13) (zac (zbu (zac (zah 15) (zac (zah 16) zan))) zan))) (zaP (mOp zb6 (mOp vIx (zah 12) (mC (.str "cells"))) (zfs (zac (zah 15) zan))) (gIx (zah 12) (mC (.str "cells"))))))))) (zav (zaP (mC (.str "effects")) (gIx (zah 12) (mC (.str "kind")))) (zav (zaP (zah 2) (gIx (zah 12) (mC (.str "peeks")))) (zav (zaP (zah 3) (gIx (zah 12) (mC (.str "writes")))) (zav (zaP (zfs zan) (gNm 17)) (zav (zej (zce (zac (zah 7) zan)) (gNm 14)
  (zav (zaP (zaw (zcu K 5) W (zac (zah 0) (zac (zah 12) (zac (mC (.int 1)) (zac (mOp vIx (zah 1) (mC (.int 4))) zan))))) (gNm 16)) (zav (mIf (mB (mOp vGt (zaw (zaj K) W (zac (zah 0) (zac (mC (.int 4)) zan))) (mC (.int 0))))
  (zaP (mOp zb6 (zah 16) (zbu (zac (zbu (zac (mC (.str "say")) (zac (mOp vIx (zah 10) (zaw (zaj K) W (zac (zah 0) (zac (mC (.int 3)) zan)))) zan))) zan))) (gNm 16))
  mNx) (zcF (zfO okL zgv (zah 17) (zac (zbu (zac (mOp vIx (zah 9) (mOp zb6 (mOp zb6 (zah 5) (zah 6)) (zah 14))) (zac (zah 16) zan))) zan)))))) (zaZ (zbu (zac (zah 8) (zac (zah 11) (zac (mCB zcI (zac (zah 13) zan)) (zac (mCB zcI (zac (zah 17) zan)) zan)))))))))))))))))))))))))
theorem zax:FnScope ["_law_state_here", "_law_sizes", "_law_peeks", "_law_writes", "_law_many_words", "_law_many_sources", "_law_many_derived", "_law_many_effects", "_law_words", "_law_names_here", "_law_slots", "_law_sources", "_law_shape", "_law_derived", "_law_k", "_law_name", "_law_rows_here", "_law_effects"] ["_law_state_here", "_law_sizes", "_law_peeks", "_law_writes"] (defScope zcQ):=⟨rfl,rfl,rfl,by decide +kernel,rfl,by decide +kernel,by decide +kernel⟩
def zdT (K:PySem.W.Frag):SpD:=spB 4 14 (zeK K)
theorem zhG (T:Tu fac fns zcW PG_.main.file zc4 tabs eqs gts prs sqs nos isl w K mg):Fd PG_ w K mg base 17 (He.ga K "_law_parts") (zdT K):=by
 obtain ⟨fd,F⟩:=T.df 6 (d:=zfF)
 have bi:Binds K fd ["_law_state_here", "_law_sizes", "_law_peeks", "_law_writes"] []:=FunD.bindsN F fun _ _ _ _ _ _ us hl=>match us,hl with | [_,_,_,_],_=>by kernel_rfl
 refine zaV (k:=16) F zax bi rfl rfl fun cdv A outer s H E hr X eX W tk po=>?_
 subst eX
 unfold zeK
 exact (zad (zas (i:=4) (zaF zaK zaf (zaA (zam T) (hr.mono (by omega)) tk (T.glo 4) (zaa (zab 0 (pv 0)) (zaa (zal (hu1 hr) (zab 1 (pv 1)) zaf) zae)))) fun h=>ps_set zax.nd rfl (by nofun) h)
  (zad (zas (i:=5) (zaF zaK zaf (zaA (zam T) (hr.mono (by omega)) tk (T.glo 4) (zaa (zab 0 (pv 0)) (zaa (zal (hu1 hr) (zab 1 (pv 1)) zaf) zae)))) fun h=>ps_set zax.nd rfl (by nofun) h)
  (zad (zas (i:=6) (zao (zmK rfl) (zaa (zaA (zam T) (hr.mono (by omega)) tk (T.glo 4) (zaa (zab 0 (pv 0)) (zaa (zaF zaK (zal (hu1 hr) (zab 1 (pv 1)) zaf) zaf) zae))) (zaa (zaA (zam T) (hr.mono (by omega)) tk (T.glo 4) (zaa (zab 0 (pv 0)) (zaa (zaF zaK (zal (hu1 hr) (zab 1 (pv 1)) zaf) zaf) zae))) zae)) fun h1 h2=>pe_callB h1 rfl (T.free 10) boot_max h2) fun h=>ps_set zax.nd rfl (by nofun) h)
  (zad (zas (i:=7) (zao (zmK rfl) (zaa (zaA (zam T) (hr.mono (by omega)) tk (T.glo 4) (zaa (zab 0 (pv 0)) (zaa (zaF zaK (zal (hu1 hr) (zab 1 (pv 1)) zaf) zaf) zae))) (zaa (zaA (zam T) (hr.mono (by omega)) tk (T.glo 4) (zaa (zab 0 (pv 0)) (zaa (zaF zaK (zal (hu1 hr) (zab 1 (pv 1)) zaf) zaf) zae))) zae)) fun h1 h2=>pe_callB h1 rfl (T.free 10) boot_max h2) fun h=>ps_set zax.nd rfl (by nofun) h)
  (zad (zas (i:=8) (zaN zeR (zaa (zaA (zdY T) (hr.mono (by omega)) tk (T.glo 11) (zaa (zab 0 (pv 0)) (zaa (zab 4 (pv 4)) zae))) zae) fun h1 h2=>pe_callTy h1 rfl (T.free 9) boot_tuple h2) fun h=>ps_set zax.nd rfl (by nofun) h)
  (zad (zas (i:=9) (zaA (zdY T) (hr.mono (by omega)) tk (T.glo 11) (zaa (zab 0 (pv 0)) (zaa (zaF zaK (zaF zaK (zab 5 (pv 5)) (zab 6 (pv 6))) (zab 7 (pv 7))) zae))) fun h=>ps_set zax.nd rfl (by nofun) h)
  (zad (zaB (MW.mt (zd9 (zat (zbh (zb5 hr)) (zaA (zam T) (hr.mono (by omega)) tk (T.glo 4) (zaa (zab 0 (pv 0)) (zaa zaf zae))) zaf) (zc2 (zat (zgw (zhn hr)) (zal (hu1 hr) (zab 9 (pv 9)) zaf) (zab 8 (pv 8))))))
  (zag (zas (i:=8) (zaF zaK (zii (zab 8 (pv 8)) (zeC zaf) zeD) (zau (zaa (zal (hu1 hr) (zab 9 (pv 9)) zaf) zae))) fun h=>ps_set zax.nd rfl (by nofun) h))
  zap)
  (zad (zas (i:=10) (zaF zaK (zaA (zdY T) (hr.mono (by omega)) tk (T.glo 11) (zaa (zab 0 (pv 0)) (zaa zaf zae))) (zbo (zaa (zal (hu1 hr) (zab 9 (pv 9)) zaf) zae))) fun h=>ps_set zax.nd rfl (by nofun) h)
  (zad (zas (i:=11) (zaN zoB (zaa (zii (zab 9 (pv 9)) zeD (zeC (zab 5 (pv 5)))) zae) fun h1 h2=>pe_callTy h1 rfl (T.free 9) boot_tuple h2) fun h=>ps_set zax.nd rfl (by nofun) h)
  (zad (zas (i:=12) (zn5 (zfB zak zak (zfB zak (zaN zdF (zaa (zab 11 (pv 11)) zae) fun h1 h2=>pe_callTy h1 rfl (T.free 0) boot_list h2) (zfB zak (zab 11 (pv 11)) (zfB zak (zab 10 (pv 10)) (zfB zak (zab 8 (pv 8)) znN)))))) fun h=>ps_set zax.nd rfl (by nofun) h)
  (zad (zea zaO (zeb (hu1 hr) (zab 12 (pv 12)) zak))
  (zad (zea zaO (zeb (hu1 hr) (zab 12 (pv 12)) zak))
  (zad (zas (i:=13) (zbo zae) fun h=>ps_set zax.nd rfl (by nofun) h)
  (zad (zaW po rfl (zbF (zaa (zab 6 (pv 6)) zae) fun h=>pi_range1 rfl (T.free 5) h) (zaG (pg_name zax.nd rfl (by nofun)))
  (zad (zas (i:=15) (zal (hu1 hr) (zab 9 (pv 9)) (zaF zaK (zab 5 (pv 5)) (zab 14 (pv 14)))) fun h=>ps_set zax.nd rfl (by nofun) h)
  (zad (zas (i:=16) (zaA (zf1 T 5) (hr.mono (by omega)) tk (T.glo 7) (zaa (zab 0 (pv 0)) (zaa (zab 12 (pv 12)) (zaa zaf (zaa (zal (hu1 hr) (zab 1 (pv 1)) zaf) zae))))) fun h=>ps_set zax.nd rfl (by nofun) h)
  (zad (zaB (zat ziC (zaA (zam T) (hr.mono (by omega)) tk (T.glo 4) (zaa (zab 0 (pv 0)) (zaa zaf zae))) zaf)
  (zag (zas (i:=16) (zaF zaK (zab 16 (pv 16)) (zau (zaa (zau (zaa zak (zaa (zal (hu1 hr) (zab 10 (pv 10)) (zaA (zam T) (hr.mono (by omega)) tk (T.glo 4) (zaa (zab 0 (pv 0)) (zaa zaf zae)))) zae))) zae))) fun h=>ps_set zax.nd rfl (by nofun) h))
  zap)
  (zad (zba (zaR (zab 13 (pv 13)) (zaa (zau (zaa (zab 15 (pv 15)) (zaa (zab 16 (pv 16)) zae))) zae)))
  (zag (zea (zaF zaK (zal (hu1 hr) (zab 12 (pv 12)) zak) (zbo (zaa (zab 15 (pv 15)) zae))) (zeb (hu1 hr) (zab 12 (pv 12)) zak))))))) (fun h1 h2 h3=>ps_for po rfl h1 h2 h3))
  (zad (zea zak (zeb (hu1 hr) (zab 12 (pv 12)) zak))
  (zad (zea (zab 2 (pv 2)) (zeb (hu1 hr) (zab 12 (pv 12)) zak))
  (zad (zea (zab 3 (pv 3)) (zeb (hu1 hr) (zab 12 (pv 12)) zak))
  (zad (zas (i:=17) (zbo zae) fun h=>ps_set zax.nd rfl (by nofun) h)
  (zad (zaW po rfl (zbF (zaa (zab 7 (pv 7)) zae) fun h=>pi_range1 rfl (T.free 5) h) (zaG (pg_name zax.nd rfl (by nofun)))
  (zad (zas (i:=16) (zaA (zf1 T 5) (hr.mono (by omega)) tk (T.glo 7) (zaa (zab 0 (pv 0)) (zaa (zab 12 (pv 12)) (zaa zaf (zaa (zal (hu1 hr) (zab 1 (pv 1)) zaf) zae))))) fun h=>ps_set zax.nd rfl (by nofun) h)
  (zad (zaB (zat ziC (zaA (zam T) (hr.mono (by omega)) tk (T.glo 4) (zaa (zab 0 (pv 0)) (zaa zaf zae))) zaf)
  (zag (zas (i:=16) (zaF zaK (zab 16 (pv 16)) (zau (zaa (zau (zaa zak (zaa (zal (hu1 hr) (zab 10 (pv 10)) (zaA (zam T) (hr.mono (by omega)) tk (T.glo 4) (zaa (zab 0 (pv 0)) (zaa zaf zae)))) zae))) zae))) fun h=>ps_set zax.nd rfl (by nofun) h))
  zap)
  (zag (zba (zaR (zab 17 (pv 17)) (zaa (zau (zaa (zal (hu1 hr) (zab 9 (pv 9)) (zaF zaK (zaF zaK (zab 5 (pv 5)) (zab 6 (pv 6))) (zab 14 (pv 14)))) (zaa (zab 16 (pv 16)) zae))) zae)))))) (fun h1 h2 h3=>ps_for po rfl h1 h2 h3))
  (zag (zar (zau (zaa (zab 8 (pv 8)) (zaa (zab 11 (pv 11)) (zaa (zaN zeR (zaa (zab 13 (pv 13)) zae) fun h1 h2=>pe_callTy h1 rfl (T.free 9) boot_tuple h2) (zaa (zaN zeR (zaa (zab 17 (pv 17)) zae) fun h1 h2=>pe_callTy h1 rfl (T.free 9) boot_tuple h2) zae))))))))))))))))))))))))))
def zgX (K:PySem.W.Frag) (W:XW):SM:=
 (zav (mIf (mOr (zcL (zct (mCB zda (zac (zah 0) (zac (mC (.ty "str")) zan))))) (zcL (mB (zf8 vLe vLe (mC (.int 1)) (mCB zcJ (zac (zah 0) zan)) (mC (.int 8))))))
  (zaZ (mC (.bl false)))
  mNx) (zav (zej (zek (zah 0)) (gNm 1)
  (mIf (zcL (mB (zf8 vLe vLe (mC (.str "a")) (zah 1) (mC (.str "z")))))
  (zaZ (mC (.bl false)))
  mNx)) (zaZ (mC (.bl true)))))
theorem zhc:FnScope ["value", "letter"] ["value"] (defScope zeN):=⟨rfl,rfl,rfl,by decide +kernel,rfl,by decide +kernel,by decide +kernel⟩
def zbJ (K:PySem.W.Frag):SpD:=spB 1 1 (zgX K)
theorem zcl (T:Tu fac fns zcW PG_.main.file zc4 tabs eqs gts prs sqs nos isl w K mg):Fd PG_ w K mg base 2 (He.ga K "is_name") (zbJ K):=by
 obtain ⟨fd,F⟩:=T.df 7 (d:=zhp)
 have bi:Binds K fd ["value"] []:=FunD.bindsN F fun _ _ _ _ _ _ us hl=>match us,hl with | [_],_=>by kernel_rfl
 refine zaV (k:=1) F zhc bi rfl rfl fun cdv A outer s H E hr X eX W tk po=>?_
 subst eX
 unfold zgX
 exact (zad (zaB (MW.mt (zbN (zaL (zaJ (zao za6 (zaa (zab 0 (pv 0)) (zaa (zbK (T.free 12) boot_str) zae)) fun h1 h2=>pe_callB h1 rfl (T.free 13) boot_isinstance h2))) (zbn (zaL (zhK zjB zjB zaf (zao za8 (zaa (zab 0 (pv 0)) zae) fun h1 h2=>pe_callB h1 rfl (T.free 1) boot_len h2) zaf)))))
  (zag (zar zaO))
  zap)
  (zad (zaW po rfl (zaX (zab 0 (pv 0))) (zaG (pg_name zhc.nd rfl (by nofun)))
  (zag (zaB (zaL (zhK zjB zjB zak (zab 1 (pv 1)) zak))
  (zag (zar zaO))
  zap)) (fun h1 h2 h3=>ps_for po rfl h1 h2 h3))
  (zag (zar zaO))))
def zff (K:PySem.W.Frag) (W:XW):SM:=
 (zav (mIf (mOr (zcL (zct (mCB zda (zac (zah 0) (zac (mC (.ty "tuple")) zan))))) (zcL (mB (zf8 vLe vLe (zah 1) (mCB zcJ (zac (zah 0) zan)) (zah 2)))))
  (zaZ (mC (.bl false)))
  mNx) (zav (zaP (mCB zkZ zan) (gNm 3)) (zav (zej (zek (zah 0)) (gNm 4)
  (zav (mIf (mOr (zcL (zct (zaw (zbJ K) W (zac (zah 4) zan)))) (mB (mOp vIn (zah 4) (zah 3))))
  (zaZ (mC (.bl false)))
  mNx) (zcF (zrj (zah 3) (zac (zah 4) zan))))) (zaZ (mC (.bl true))))))
theorem zet:FnScope ["value", "least", "most", "seen", "name"] ["value", "least", "most"] (defScope zdd):=⟨rfl,rfl,rfl,by decide +kernel,rfl,by decide +kernel,by decide +kernel⟩
def zdp (K:PySem.W.Frag):SpD:=spB 3 2 (zff K)
theorem zfZ (T:Tu fac fns zcW PG_.main.file zc4 tabs eqs gts prs sqs nos isl w K mg):Fd PG_ w K mg base 4 (He.ga K "are_names") (zdp K):=by
 obtain ⟨fd,F⟩:=T.df 8 (d:=zge)
 have bi:Binds K fd ["value", "least", "most"] []:=FunD.bindsN F fun _ _ _ _ _ _ us hl=>match us,hl with | [_,_,_],_=>by kernel_rfl
 refine zaV (k:=3) F zet bi rfl rfl fun cdv A outer s H E hr X eX W tk po=>?_
 subst eX
 unfold zff
 exact (zad (zaB (MW.mt (zbN (zaL (zaJ (zao za6 (zaa (zab 0 (pv 0)) (zaa (zbK (T.free 9) boot_tuple) zae)) fun h1 h2=>pe_callB h1 rfl (T.free 13) boot_isinstance h2))) (zbn (zaL (zhK zjB zjB (zab 1 (pv 1)) (zao za8 (zaa (zab 0 (pv 0)) zae) fun h1 h2=>pe_callB h1 rfl (T.free 1) boot_len h2) (zab 2 (pv 2)))))))
  (zag (zar zaO))
  zap)
  (zad (zas (i:=3) (zik zkL fun h1=>pe_callTy0 h1 rfl (T.free 14) boot_set) fun h=>ps_set zet.nd rfl (by nofun) h)
  (zad (zaW po rfl (zaX (zab 0 (pv 0))) (zaG (pg_name zet.nd rfl (by nofun)))
  (zad (zaB (MW.mt (zbN (zaL (zaJ (zaA (zcl T) (hr.mono (by omega)) tk (T.glo 15) (zaa (zab 4 (pv 4)) zae)))) (zbn (zat (zfz (zhn hr)) (zab 4 (pv 4)) (zab 3 (pv 3))))))
  (zag (zar zaO))
  zap)
  (zag (zba (zms (zab 3 (pv 3)) (zaa (zab 4 (pv 4)) zae))))) (fun h1 h2 h3=>ps_for po rfl h1 h2 h3))
  (zag (zar zaO)))))
def zfd (K:PySem.W.Frag) (W:XW):SM:=
 (zav (mIf (mOr (zcL (zct (mCB zda (zac (zah 0) (zac (mC (.ty "tuple")) zan))))) (mB (mOp vGt (mCB zcJ (zac (zah 0) zan)) (zah 1))))
  (zaZ (mC (.bl false)))
  mNx) (zav (zaP (mCB zjr (zac (zah 2) zan)) (gNm 3)) (zav (zej (zek (zah 0)) (gNm 4)
  (zav (mIf (mOr (zcL (zct (mCB zda (zac (zah 4) (zac (mC (.ty "tuple")) zan))))) (mB (mOp vNe (mCB zcJ (zac (zah 4) zan)) (mC (.int 2)))))
  (zaZ (mC (.bl false)))
  mNx) (zav (mIf (mOr (zcL (zct (zaw (zbJ K) W (zac (mOp vIx (zah 4) (mC (.int 0))) zan)))) (mB (mOp vIn (mOp vIx (zah 4) (mC (.int 0))) (zah 3))))
  (zaZ (mC (.bl false)))
  mNx) (zaP (mC (.bl true)) (gIx (zah 3) (mOp vIx (zah 4) (mC (.int 0)))))))) (zaZ (mC (.bl true))))))
theorem zer:FnScope ["value", "most", "taken", "seen", "pair"] ["value", "most", "taken"] (defScope zdb):=⟨rfl,rfl,rfl,by decide +kernel,rfl,by decide +kernel,by decide +kernel⟩
def zdo (K:PySem.W.Frag):SpD:=spB 3 2 (zfd K)
theorem zfY (T:Tu fac fns zcW PG_.main.file zc4 tabs eqs gts prs sqs nos isl w K mg):Fd PG_ w K mg base 4 (He.ga K "are_pairs") (zdo K):=by
 obtain ⟨fd,F⟩:=T.df 9 (d:=zgc)
 have bi:Binds K fd ["value", "most", "taken"] []:=FunD.bindsN F fun _ _ _ _ _ _ us hl=>match us,hl with | [_,_,_],_=>by kernel_rfl
 refine zaV (k:=3) F zer bi rfl rfl fun cdv A outer s H E hr X eX W tk po=>?_
 subst eX
 unfold zfd
 exact (zad (zaB (MW.mt (zbN (zaL (zaJ (zao za6 (zaa (zab 0 (pv 0)) (zaa (zbK (T.free 9) boot_tuple) zae)) fun h1 h2=>pe_callB h1 rfl (T.free 13) boot_isinstance h2))) (zbn (zat ziC (zao za8 (zaa (zab 0 (pv 0)) zae) fun h1 h2=>pe_callB h1 rfl (T.free 1) boot_len h2) (zab 1 (pv 1))))))
  (zag (zar zaO))
  zap)
  (zad (zas (i:=3) (zaN zoC (zaa (zab 2 (pv 2)) zae) fun h1 h2=>pe_callTy h1 rfl (T.free 16) boot_dict h2) fun h=>ps_set zer.nd rfl (by nofun) h)
  (zad (zaW po rfl (zaX (zab 0 (pv 0))) (zaG (pg_name zer.nd rfl (by nofun)))
  (zad (zaB (MW.mt (zbN (zaL (zaJ (zao za6 (zaa (zab 4 (pv 4)) (zaa (zbK (T.free 9) boot_tuple) zae)) fun h1 h2=>pe_callB h1 rfl (T.free 13) boot_isinstance h2))) (zbn (zat (zei (zb5 hr)) (zao za8 (zaa (zab 4 (pv 4)) zae) fun h1 h2=>pe_callB h1 rfl (T.free 1) boot_len h2) zaf))))
  (zag (zar zaO))
  zap)
  (zad (zaB (MW.mt (zbN (zaL (zaJ (zaA (zcl T) (hr.mono (by omega)) tk (T.glo 15) (zaa (zal (hu1 hr) (zab 4 (pv 4)) zaf) zae)))) (zbn (zat (zfz (zhn hr)) (zal (hu1 hr) (zab 4 (pv 4)) zaf) (zab 3 (pv 3))))))
  (zag (zar zaO))
  zap)
  (zag (zea zaO (zeb (hu1 hr) (zab 3 (pv 3)) (zal (hu1 hr) (zab 4 (pv 4)) zaf)))))) (fun h1 h2 h3=>ps_for po rfl h1 h2 h3))
  (zag (zar zaO)))))
def zbW (K:PySem.W.Frag) (W:XW):SM:=
 (zaZ (zeG (mCB zda (zac (zah 1) (zac (mC (.ty "str")) zan))) (mOp vIn (zah 1) (zfa K (zah 0) "words"))))
theorem zeT:FnScope ["self", "value"] ["self", "value"] (defScope zbi):=⟨rfl,rfl,rfl,by decide +kernel,rfl,by decide +kernel,by decide +kernel⟩
def zbj (K:PySem.W.Frag):SpD:=spB 2 0 (zbW K)
theorem zcK (T:Tu fac fns zcW PG_.main.file zc4 tabs eqs gts prs sqs nos isl w K mg):Fd PG_ w K mg base 2 (He.ma K (He.ga K "BodyCheck") "is_word") (zbj K):=by
 obtain ⟨fd,F⟩:=T.df 10 (d:=zcM)
 have bi:Binds K fd ["self", "value"] []:=FunD.bindsN F fun _ _ _ _ _ _ us hl=>match us,hl with | [_,_],_=>by kernel_rfl
 refine zaV (k:=1) F zeT bi rfl rfl fun cdv A outer s H E hr X eX W tk po=>?_
 subst eX
 unfold zbW
 exact (zag (zar (zdy (zao za6 (zaa (zab 1 (pv 1)) (zaa (zbK (T.free 12) boot_str) zae)) fun h1 h2=>pe_callB h1 rfl (T.free 13) boot_isinstance h2) (zeE (zb0 (zfz (zhn hr)) (zab 1 (pv 1)) (zbb (zab 0 (pv 0))))))))
def zbH (K:PySem.W.Frag) (W:XW):SM:=
 (zav (mIf (mOr (mB (mOp vNe (mCB zcJ (zac (zah 1) zan)) (mC (.int 5)))) (mB (mOp vGe (zah 2) (mC (.int 4)))))
  (zaZ (mC (.bl false)))
  mNx) (zav (mIf (mOr (zcL (zct (zaw (zbJ K) W (zac (mOp vIx (zah 1) (mC (.int 1))) zan)))) (zcL (zct (zdZ (He.ga K "BodyCheck") "is_word" (zbj K) W (zah 0) (zac (mOp vIx (zah 1) (mC (.int 2))) zan)))))
  (zaZ (mC (.bl false)))
  mNx) (zaZ (zeG (mCB zda (zac (mOp vIx (zah 1) (mC (.int 3))) (zac (mC (.ty "tuple")) zan))) (mCB zda (zac (mOp vIx (zah 1) (mC (.int 4))) (zac (mC (.ty "tuple")) zan)))))))
theorem zee:FnScope ["self", "row", "depth"] ["self", "row", "depth"] (defScope zbc):=⟨rfl,rfl,rfl,by decide +kernel,rfl,by decide +kernel,by decide +kernel⟩
def zby (K:PySem.W.Frag):SpD:=spB 3 0 (zbH K)
theorem zeh (T:Tu fac fns zcW PG_.main.file zc4 tabs eqs gts prs sqs nos isl w K mg):Fd PG_ w K mg base 4 (He.ma K (He.ga K "BodyCheck") "is_choice") (zby K):=by
 obtain ⟨fd,F⟩:=T.df 11 (d:=zcj)
 have bi:Binds K fd ["self", "row", "depth"] []:=FunD.bindsN F fun _ _ _ _ _ _ us hl=>match us,hl with | [_,_,_],_=>by kernel_rfl
 refine zaV (k:=3) F zee bi rfl rfl fun cdv A outer s H E hr X eX W tk po=>?_
 subst eX
 unfold zbH
 exact (zad (zaB (MW.mt (zbN (zat (zei (zb5 hr)) (zao za8 (zaa (zab 1 (pv 1)) zae) fun h1 h2=>pe_callB h1 rfl (T.free 1) boot_len h2) zaf) (zbn (zat zli (zab 2 (pv 2)) (zkp (T.int 17))))))
  (zag (zar zaO))
  zap)
  (zad (zaB (MW.mt (zbN (zaL (zaJ (zaA (zcl T) (hr.mono (by omega)) tk (T.glo 15) (zaa (zal (hu1 hr) (zab 1 (pv 1)) zaf) zae)))) (zbn (zaL (zaJ (zij (zab 0 (pv 0)) (T.cls 18) (T.meth 19) (zcK T) (hr.mono (by omega)) tk (zaa (zal (hu1 hr) (zab 1 (pv 1)) zaf) zae)))))))
  (zag (zar zaO))
  zap)
  (zag (zar (zdy (zao za6 (zaa (zal (hu1 hr) (zab 1 (pv 1)) zaf) (zaa (zbK (T.free 9) boot_tuple) zae)) fun h1 h2=>pe_callB h1 rfl (T.free 13) boot_isinstance h2) (zeE (zao za6 (zaa (zal (hu1 hr) (zab 1 (pv 1)) zaf) (zaa (zbK (T.free 9) boot_tuple) zae)) fun h1 h2=>pe_callB h1 rfl (T.free 13) boot_isinstance h2)))))))
def zcg (K:PySem.W.Frag) (W:XW):SM:=
 (zav (mIf (mOr (zcL (zct (mCB zda (zac (zah 1) (zac (mC (.ty "tuple")) zan))))) (mOr (mB (mOp vLt (mCB zcJ (zac (zah 1) zan)) (mC (.int 2)))) (zcL (zct (mCB zda (zac (mOp vIx (zah 1) (mC (.int 0))) (zac (mC (.ty "str")) zan)))))))
  (zaZ (mC (.bl false)))
  mNx) (zav (mIf (mB (mOp vEq (mOp vIx (zah 1) (mC (.int 0))) (mC (.str "if"))))
  (zaZ (zdZ (He.ga K "BodyCheck") "is_choice" (zby K) W (zah 0) (zac (zah 1) (zac (zah 2) zan))))
  mNx) (zav (mIf (mB (mOp vIn (mOp vIx (zah 1) (mC (.int 0))) (zbu (zac (mC (.str "give")) (zac (mC (.str "say")) zan)))))
  (zav (zaP (zr8 (mB (mOp vEq (mOp vIx (zah 1) (mC (.int 0))) (mC (.str "give")))) (mC (.str "derived")) (mC (.str "effects"))) (gNm 3)) (zaZ (zeG (mOp vEq (zfa K (zah 0) "kind") (zah 3)) (zeG (mOp vEq (mCB zcJ (zac (zah 1) zan)) (mC (.int 2))) (zaw (zbJ K) W (zac (mOp vIx (zah 1) (mC (.int 1))) zan))))))
  mNx) (zav (mIf (mB (mOp vNe (mCB zcJ (zac (zah 1) zan)) (mC (.int 3))))
  (zaZ (mC (.bl false)))
  mNx) (zav (mIf (mB (mOp vEq (mOp vIx (zah 1) (mC (.int 0))) (mC (.str "put"))))
  (zaZ (zeG (zaw (zbJ K) W (zac (mOp vIx (zah 1) (mC (.int 1))) zan)) (zdZ (He.ga K "BodyCheck") "is_word" (zbj K) W (zah 0) (zac (mOp vIx (zah 1) (mC (.int 2))) zan))))
  mNx) (zav (mIf (mOr (zcL (zct (zaw (zbJ K) W (zac (mOp vIx (zah 1) (mC (.int 1))) zan)))) (zcL (zct (zaw (zbJ K) W (zac (mOp vIx (zah 1) (mC (.int 2))) zan)))))
  (zaZ (mC (.bl false)))
  mNx) (zav (mIf (mB (mOp vEq (mOp vIx (zah 1) (mC (.int 0))) (mC (.str "read"))))
  (zaZ (mOp vIn (mOp vIx (zah 1) (mC (.int 1))) (zfa K (zah 0) "readable")))
  mNx) (zav (mIf (mB (mOp vNe (zfa K (zah 0) "kind") (mC (.str "effects"))))
  (zaZ (mC (.bl false)))
  mNx) (zav (mIf (mB (mOp vEq (mOp vIx (zah 1) (mC (.int 0))) (mC (.str "peek"))))
  (zaZ (mOp vIn (mOp vIx (zah 1) (mC (.int 1))) (zfa K (zah 0) "readable")))
  mNx) (zaZ (zeG (mOp vEq (mOp vIx (zah 1) (mC (.int 0))) (mC (.str "write"))) (mOp vIn (mOp vIx (zah 1) (mC (.int 1))) (zfa K (zah 0) "sources")))))))))))))
theorem zcY:FnScope ["self", "row", "depth", "wanted"] ["self", "row", "depth"] (defScope zbq):=⟨rfl,rfl,rfl,by decide +kernel,rfl,by decide +kernel,by decide +kernel⟩
def zbV (K:PySem.W.Frag):SpD:=spB 3 1 (zcg K)
theorem ze7 (T:Tu fac fns zcW PG_.main.file zc4 tabs eqs gts prs sqs nos isl w K mg):Fd PG_ w K mg base 6 (He.ma K (He.ga K "BodyCheck") "is_row") (zbV K):=by
 obtain ⟨fd,F⟩:=T.df 12 (d:=zc7)
 have bi:Binds K fd ["self", "row", "depth"] []:=FunD.bindsN F fun _ _ _ _ _ _ us hl=>match us,hl with | [_,_,_],_=>by kernel_rfl
 refine zaV (k:=5) F zcY bi rfl rfl fun cdv A outer s H E hr X eX W tk po=>?_
 subst eX
 unfold zcg
 exact (zad (zaB (MW.mt (zbN (zaL (zaJ (zao za6 (zaa (zab 1 (pv 1)) (zaa (zbK (T.free 9) boot_tuple) zae)) fun h1 h2=>pe_callB h1 rfl (T.free 13) boot_isinstance h2))) (zbN (zat zhI (zao za8 (zaa (zab 1 (pv 1)) zae) fun h1 h2=>pe_callB h1 rfl (T.free 1) boot_len h2) zaf) (zbn (zaL (zaJ (zao za6 (zaa (zal (hu1 hr) (zab 1 (pv 1)) zaf) (zaa (zbK (T.free 12) boot_str) zae)) fun h1 h2=>pe_callB h1 rfl (T.free 13) boot_isinstance h2)))))))
  (zag (zar zaO))
  zap)
  (zad (zaB (zat (zbh (zb5 hr)) (zal (hu1 hr) (zab 1 (pv 1)) zaf) zak)
  (zag (zar (zij (zab 0 (pv 0)) (T.cls 18) (T.meth 20) (zeh T) (hr.mono (by omega)) tk (zaa (zab 1 (pv 1)) (zaa (zab 2 (pv 2)) zae)))))
  zap)
  (zad (zaB (zat (zfz (zhn hr)) (zal (hu1 hr) (zab 1 (pv 1)) zaf) (zau (zaa zak (zaa zak zae))))
  (zad (zas (i:=3) (zud (zat (zbh (zb5 hr)) (zal (hu1 hr) (zab 1 (pv 1)) zaf) zak) zak zak) fun h=>ps_set zcY.nd rfl (by nofun) h)
  (zag (zar (zdy (zb0 (zbh (zb5 hr)) (zbb (zab 0 (pv 0))) (zab 3 (pv 3))) (zdy (zb0 (zbh (zb5 hr)) (zao za8 (zaa (zab 1 (pv 1)) zae) fun h1 h2=>pe_callB h1 rfl (T.free 1) boot_len h2) zaf) (zeE (zaA (zcl T) (hr.mono (by omega)) tk (T.glo 15) (zaa (zal (hu1 hr) (zab 1 (pv 1)) zaf) zae))))))))
  zap)
  (zad (zaB (zat (zei (zb5 hr)) (zao za8 (zaa (zab 1 (pv 1)) zae) fun h1 h2=>pe_callB h1 rfl (T.free 1) boot_len h2) zaf)
  (zag (zar zaO))
  zap)
  (zad (zaB (zat (zbh (zb5 hr)) (zal (hu1 hr) (zab 1 (pv 1)) zaf) zak)
  (zag (zar (zdy (zaA (zcl T) (hr.mono (by omega)) tk (T.glo 15) (zaa (zal (hu1 hr) (zab 1 (pv 1)) zaf) zae)) (zeE (zij (zab 0 (pv 0)) (T.cls 18) (T.meth 19) (zcK T) (hr.mono (by omega)) tk (zaa (zal (hu1 hr) (zab 1 (pv 1)) zaf) zae))))))
  zap)
  (zad (zaB (MW.mt (zbN (zaL (zaJ (zaA (zcl T) (hr.mono (by omega)) tk (T.glo 15) (zaa (zal (hu1 hr) (zab 1 (pv 1)) zaf) zae)))) (zbn (zaL (zaJ (zaA (zcl T) (hr.mono (by omega)) tk (T.glo 15) (zaa (zal (hu1 hr) (zab 1 (pv 1)) zaf) zae)))))))
  (zag (zar zaO))
  zap)
  (zad (zaB (zat (zbh (zb5 hr)) (zal (hu1 hr) (zab 1 (pv 1)) zaf) zak)
  (zag (zar (zb0 (zfz (zhn hr)) (zal (hu1 hr) (zab 1 (pv 1)) zaf) (zbb (zab 0 (pv 0))))))
  zap)
  (zad (zaB (zat (zei (zb5 hr)) (zbb (zab 0 (pv 0))) zak)
  (zag (zar zaO))
  zap)
  (zad (zaB (zat (zbh (zb5 hr)) (zal (hu1 hr) (zab 1 (pv 1)) zaf) zak)
  (zag (zar (zb0 (zfz (zhn hr)) (zal (hu1 hr) (zab 1 (pv 1)) zaf) (zbb (zab 0 (pv 0))))))
  zap)
  (zag (zar (zdy (zb0 (zbh (zb5 hr)) (zal (hu1 hr) (zab 1 (pv 1)) zaf) zak) (zeE (zb0 (zfz (zhn hr)) (zal (hu1 hr) (zab 1 (pv 1)) zaf) (zbb (zab 0 (pv 0)))))))))))))))))
def zbw (K:PySem.W.Frag) (rec:SpD) (W:XW):SM:=
 (zav (zej (zhm (zac (zah 1) zan)) (gT 2 (gC (gNm 4) (gC (gNm 5) gN)))
  (zav (zaP (mOp zb6 (zah 2) (zbu (zac (zah 4) zan))) (gNm 6)) (zav (mIf (zcL (zct (zdZ (He.ga K "BodyCheck") "is_row" (zbV K) W (zah 0) (zac (zah 5) (zac (zah 3) zan)))))
  (zaZ (zah 6))
  mNx) (mIf (mB (mOp vEq (mOp vIx (zah 5) (mC (.int 0))) (mC (.str "if"))))
  (zej (zek (zbu (zac (mC (.int 0)) (zac (mC (.int 1)) zan)))) (gNm 7)
  (zav (zaP (zdZ (He.ga K "BodyCheck") "first_wrong" rec W (zah 0) (zac (mOp vIx (zah 5) (mOp zb6 (mC (.int 3)) (zah 7))) (zac (mOp zb6 (zah 6) (zbu (zac (zah 7) zan))) (zac (mOp zb6 (zah 3) (mC (.int 1))) zan)))) (gNm 8)) (mIf (mB (mOp zg7 (zah 8) (mC .non)))
  (zaZ (zah 8))
  mNx)))
  mNx)))) (zaZ (mC .non)))
theorem zaI:FnScope ["self", "rows", "path", "depth", "place", "row", "here", "side", "found"] ["self", "rows", "path", "depth"] (defScope za2):=⟨rfl,rfl,rfl,by decide +kernel,rfl,by decide +kernel,by decide +kernel⟩
def za4 (K:PySem.W.Frag):Nat->SpD
 | 0=>fun _ _ _ _=>False
 | n+1=>spB 4 5 (zbw K (za4 K n))
theorem zdK (T:Tu fac fns zcW PG_.main.file zc4 tabs eqs gts prs sqs nos isl w K mg):∀ n,Fd PG_ w K mg base (8+n) (He.ma K (He.ga K "BodyCheck") "first_wrong") (za4 K n):=by
 obtain ⟨fd,F⟩:=T.df 13 (d:=zb3)
 have bi:Binds K fd ["self", "rows", "path", "depth"] []:=FunD.bindsN F fun _ _ _ _ _ _ us hl=>match us,hl with | [_,_,_,_],_=>by kernel_rfl
 intro n
 induction n with
 | zero=>exact zlO bi F.kp
 | succ n RC=>
 refine zaV (k:=8+n) F zaI bi rfl rfl fun cdv A outer s H E hr X eX W tk po=>?_
 subst eX
 unfold zbw
 exact (zad (zaW po rfl (ziE (zaa (zab 1 (pv 1)) zae) (T.free 21)) (zkm rfl (zeP (zaG (pg_name zaI.nd rfl (by nofun))) (zeP (zaG (pg_name zaI.nd rfl (by nofun))) ziF)))
  (zad (zas (i:=6) (zaF zaK (zab 2 (pv 2)) (zau (zaa (zab 4 (pv 4)) zae))) fun h=>ps_set zaI.nd rfl (by nofun) h)
  (zad (zaB (zaL (zaJ (zij (zab 0 (pv 0)) (T.cls 18) (T.meth 22) (ze7 T) (hr.mono (by omega)) tk (zaa (zab 5 (pv 5)) (zaa (zab 3 (pv 3)) zae)))))
  (zag (zar (zab 6 (pv 6))))
  zap)
  (zag (zaB (zat (zbh (zb5 hr)) (zal (hu1 hr) (zab 5 (pv 5)) zaf) zak)
  (zag (zaW po rfl (zaX (zau (zaa zaf (zaa zaf zae)))) (zaG (pg_name zaI.nd rfl (by nofun)))
  (zad (zas (i:=8) (zij (zab 0 (pv 0)) (T.cls 18) (T.meth 23) RC (hr.mono (by omega)) tk (zaa (zal (hu1 hr) (zab 5 (pv 5)) (zaF zaK zaf (zab 7 (pv 7)))) (zaa (zaF zaK (zab 6 (pv 6)) (zau (zaa (zab 7 (pv 7)) zae))) (zaa (zaF zaK (zab 3 (pv 3)) zaf) zae)))) fun h=>ps_set zaI.nd rfl (by nofun) h)
  (zag (zaB (zat zfy (zab 8 (pv 8)) zec)
  (zag (zar (zab 8 (pv 8))))
  zap))) (fun h1 h2 h3=>ps_for po rfl h1 h2 h3)))
  zap)))) (fun h1 h2 h3=>ps_for po rfl h1 h2 h3))
  (zag (zar zec)))
def zeI (K:PySem.W.Frag) (rec:SpD) (W:XW):SM:=
 (zav (zaP (mCB zcJ (zac (zah 0) zan)) (gNm 1)) (zav (zej (zek (zah 0)) (gNm 2)
  (mIf (mB (mOp vEq (mOp vIx (zah 2) (mC (.int 0))) (mC (.str "if"))))
  (zmC 1 (mOp zb6 (zaw rec W (zac (mOp vIx (zah 2) (mC (.int 3))) zan)) (zaw rec W (zac (mOp vIx (zah 2) (mC (.int 4))) zan))) zix)
  mNx)) (zaZ (zah 1))))
theorem zcV:FnScope ["rows", "total", "row"] ["rows"] (defScope zcO):=⟨rfl,rfl,rfl,by decide +kernel,rfl,by decide +kernel,by decide +kernel⟩
def zcT (K:PySem.W.Frag):Nat->SpD
 | 0=>fun _ _ _ _=>False
 | n+1=>spB 1 2 (zeI K (zcT K n))
theorem zhF (T:Tu fac fns zcW PG_.main.file zc4 tabs eqs gts prs sqs nos isl w K mg):∀ n,Fd PG_ w K mg base (2+n) (He.ga K "count_rows") (zcT K n):=by
 obtain ⟨fd,F⟩:=T.df 14 (d:=zfD)
 have bi:Binds K fd ["rows"] []:=FunD.bindsN F fun _ _ _ _ _ _ us hl=>match us,hl with | [_],_=>by kernel_rfl
 intro n
 induction n with
 | zero=>exact zlO bi F.kp
 | succ n RC=>
 refine zaV (k:=2+n) F zcV bi rfl rfl fun cdv A outer s H E hr X eX W tk po=>?_
 subst eX
 unfold zeI
 exact (zad (zas (i:=1) (zao za8 (zaa (zab 0 (pv 0)) zae) fun h1 h2=>pe_callB h1 rfl (T.free 1) boot_len h2) fun h=>ps_set zcV.nd rfl (by nofun) h)
  (zad (zaW po rfl (zaX (zab 0 (pv 0))) (zaG (pg_name zcV.nd rfl (by nofun)))
  (zag (zaB (zat (zbh (zb5 hr)) (zal (hu1 hr) (zab 2 (pv 2)) zaf) zak)
  (zag (zml (i:=1) (zaF zaK (zaA RC (hr.mono (by omega)) tk (T.glo 24) (zaa (zal (hu1 hr) (zab 2 (pv 2)) zaf) zae)) (zaA RC (hr.mono (by omega)) tk (T.glo 24) (zaa (zal (hu1 hr) (zab 2 (pv 2)) zaf) zae))) ziZ fun h1 h2=>ps_aug zcV.nd rfl (by nofun) h1 h2))
  zap)) (fun h1 h2 h3=>ps_for po rfl h1 h2 h3))
  (zag (zar (zab 1 (pv 1))))))
def zco (K:PySem.W.Frag) (W:XW):SM:=
 (zav (mIf (zcL (zct (mCB zda (zac (zah 1) (zac (mC (.ty "tuple")) zan)))))
  (zdD (He.ga K "InvalidProgram") "part" "path" W (zac (mC (.str "rows")) (zac (zah 2) zan)))
  mNx) (zav (zaP (zdZ (He.ga K "BodyCheck") "first_wrong" (za4 K 6) W (zah 0) (zac (zah 1) (zac (zah 2) (zac (mC (.int 1)) zan)))) (gNm 3)) (zav (mIf (mB (mOp zg7 (zah 3) (mC .non)))
  (zdD (He.ga K "InvalidProgram") "part" "path" W (zac (mC (.str "rows")) (zac (zah 3) zan)))
  mNx) (mIf (mB (mOp vGt (zaw (zcT K 6) W (zac (zah 1) zan)) (mC (.int 16))))
  (zdD (He.ga K "InvalidProgram") "part" "path" W (zac (mC (.str "many")) (zac (zah 2) zan)))
  mNx))))
theorem zdv:FnScope ["self", "rows", "path", "found"] ["self", "rows", "path"] (defScope zbC):=⟨rfl,rfl,rfl,by decide +kernel,rfl,by decide +kernel,by decide +kernel⟩
def zbD (K:PySem.W.Frag):SpD:=spB 3 1 (zco K)
theorem zdw (T:Tu fac fns zcW PG_.main.file zc4 tabs eqs gts prs sqs nos isl w K mg):Fd PG_ w K mg base 16 (He.ma K (He.ga K "BodyCheck") "check") (zbD K):=by
 obtain ⟨fd,F⟩:=T.df 15 (d:=zdA)
 have bi:Binds K fd ["self", "rows", "path"] []:=FunD.bindsN F fun _ _ _ _ _ _ us hl=>match us,hl with | [_,_,_],_=>by kernel_rfl
 refine zaV (k:=15) F zdv bi rfl rfl fun cdv A outer s H E hr X eX W tk po=>?_
 subst eX
 unfold zco
 exact (zad (zaB (zaL (zaJ (zao za6 (zaa (zab 1 (pv 1)) (zaa (zbK (T.free 9) boot_tuple) zae)) fun h1 h2=>pe_callB h1 rfl (T.free 13) boot_isinstance h2)))
  (zag (zc3 rfl tk (hr.mono (by omega)) (zaU T) (zaa zak (zaa (zab 2 (pv 2)) zae))))
  zap)
  (zad (zas (i:=3) (zij (zab 0 (pv 0)) (T.cls 18) (T.meth 23) (zdK T 6) (hr.mono (by omega)) tk (zaa (zab 1 (pv 1)) (zaa (zab 2 (pv 2)) (zaa zaf zae)))) fun h=>ps_set zdv.nd rfl (by nofun) h)
  (zad (zaB (zat zfy (zab 3 (pv 3)) zec)
  (zag (zc3 rfl tk (hr.mono (by omega)) (zaU T) (zaa zak (zaa (zab 3 (pv 3)) zae))))
  zap)
  (zag (zaB (zat ziC (zaA (zhF T 6) (hr.mono (by omega)) tk (T.glo 24) (zaa (zab 1 (pv 1)) zae)) (zkp (T.int 25)))
  (zag (zc3 rfl tk (hr.mono (by omega)) (zaU T) (zaa zak (zaa (zab 2 (pv 2)) zae))))
  zap)))))
def zch (K:PySem.W.Frag) (W:XW):SM:=
 (zav (zfC K (zah 0) (zah 1) "kind") (zav (zfC K (zah 0) (zah 2) "words") (zav (zfC K (zah 0) (zah 3) "sources") (zfC K (zah 0) (zah 4) "readable"))))
theorem ze3:FnScope ["self", "kind", "words", "sources", "readable"] ["self", "kind", "words", "sources", "readable"] (defScope zbr):=⟨rfl,rfl,rfl,by decide +kernel,rfl,by decide +kernel,by decide +kernel⟩
def zbs (K:PySem.W.Frag):SpD:=spB 5 0 (zch K)
theorem zc0 (T:Tu fac fns zcW PG_.main.file zc4 tabs eqs gts prs sqs nos isl w K mg):Fd PG_ w K mg base 2 (He.ma K (He.ga K "BodyCheck") "__init__") (zbs K):=by
 obtain ⟨fd,F⟩:=T.df 16 (d:=zc8)
 have bi:Binds K fd ["self", "kind", "words", "sources", "readable"] []:=FunD.bindsN F fun _ _ _ _ _ _ us hl=>match us,hl with | [_,_,_,_,_],_=>by kernel_rfl
 refine zaV (k:=1) F ze3 bi rfl rfl fun cdv A outer s H E hr X eX W tk po=>?_
 subst eX
 unfold zch
 exact (zad (zeB (zab 0 (pv 0)) (zab 1 (pv 1)))
  (zad (zeB (zab 0 (pv 0)) (zab 2 (pv 2)))
  (zad (zeB (zab 0 (pv 0)) (zab 3 (pv 3)))
  (zag (zeB (zab 0 (pv 0)) (zab 4 (pv 4)))))))
def zcH (K:PySem.W.Frag) (W:XW):SM:=
 (zav (mIf (zcL (zct (zaw (zdp K) W (zac (zah 1) (zac (mC (.int 2)) (zac (mC (.int 4)) zan))))))
  (zdD (He.ga K "InvalidProgram") "part" "path" W (zac (mC (.str "words")) (zac (zbu zan) zan)))
  mNx) (zav (mIf (zcL (zct (zaw (zdp K) W (zac (zah 2) (zac (mC (.int 1)) (zac (mC (.int 4)) zan))))))
  (zdD (He.ga K "InvalidProgram") "part" "path" W (zac (mC (.str "sources")) (zac (zbu zan) zan)))
  mNx) (zav (zaP (mDc (zek (zah 2)) (gNm 6) zgL (zah 6) (mC (.bl true)) [6]) (gNm 5)) (zav (mIf (zcL (zct (zaw (zdo K) W (zac (zah 3) (zac (mC (.int 6)) (zac (zah 5) zan))))))
  (zdD (He.ga K "InvalidProgram") "part" "path" W (zac (mC (.str "derived")) (zac (zbu zan) zan)))
  mNx) (zav (zej (zek (zah 3)) (gNm 7)
  (zaP (mC (.bl true)) (gIx (zah 5) (mOp vIx (zah 7) (mC (.int 0)))))) (zav (mIf (zcL (zct (zaw (zdo K) W (zac (zah 4) (zac (mC (.int 4)) (zac (zah 5) zan))))))
  (zdD (He.ga K "InvalidProgram") "part" "path" W (zac (mC (.str "effects")) (zac (zbu zan) zan)))
  mNx) (zav (zaP (mCB zem (zac (zah 2) zan)) (gNm 8)) (zav (zej (zhm (zac (zah 3) zan)) (gT 2 (gC (gNm 9) (gC (gNm 7) gN)))
  (zav (zcF (zdZ (He.ga K "BodyCheck") "check" (zbD K) W (zgM (He.ga K "BodyCheck") (zbs K) W (zac (mC (.str "derived")) (zac (zah 1) (zac (zah 2) (zac (mCB zem (zac (zah 8) zan)) zan))))) (zac (mOp vIx (zah 7) (mC (.int 1))) (zac (zbu (zac (mC (.str "derived")) (zac (zah 9) zan))) zan)))) (zcF (zfO okL zgv (zah 8) (zac (mOp vIx (zah 7) (mC (.int 0))) zan))))) (zav (zej (zhm (zac (zah 4) zan)) (gT 2 (gC (gNm 9) (gC (gNm 7) gN)))
  (zcF (zdZ (He.ga K "BodyCheck") "check" (zbD K) W (zgM (He.ga K "BodyCheck") (zbs K) W (zac (mC (.str "effects")) (zac (zah 1) (zac (zah 2) (zac (zah 8) zan))))) (zac (mOp vIx (zah 7) (mC (.int 1))) (zac (zbu (zac (mC (.str "effects")) (zac (zah 9) zan))) zan))))) (zav (zfC K (zah 0) (zah 1) "words") (zav (zfC K (zah 0) (zah 2) "sources") (zav (zfC K (zah 0) (zah 3) "derived") (zfC K (zah 0) (zah 4) "effects")))))))))))))
theorem zaM:FnScope ["self", "words", "sources", "derived", "effects", "taken", "name", "pair", "readable", "index"] ["self", "words", "sources", "derived", "effects"] (defScope zbI):=⟨rfl,rfl,rfl,by decide +kernel,rfl,by decide +kernel,by decide +kernel⟩
def zck (K:PySem.W.Frag):SpD:=spB 5 5 (zcH K)
theorem zfN (T:Tu fac fns zcW PG_.main.file zc4 tabs eqs gts prs sqs nos isl w K mg):Fd PG_ w K mg base 18 (He.ma K (He.ga K "Program") "__init__") (zck K):=by
 obtain ⟨fd,F⟩:=T.df 17 (d:=zdO)
 have bi:Binds K fd ["self", "words", "sources", "derived", "effects"] []:=FunD.bindsN F fun _ _ _ _ _ _ us hl=>match us,hl with | [_,_,_,_,_],_=>by kernel_rfl
 refine zaV (k:=17) F zaM bi rfl rfl fun cdv A outer s H E hr X eX W tk po=>?_
 subst eX
 unfold zcH
 exact (zad (zaB (zaL (zaJ (zaA (zfZ T) (hr.mono (by omega)) tk (T.glo 26) (zaa (zab 1 (pv 1)) (zaa zaf (zaa zaf zae))))))
  (zag (zc3 rfl tk (hr.mono (by omega)) (zaU T) (zaa zak (zaa (zau zae) zae))))
  zap)
  (zad (zaB (zaL (zaJ (zaA (zfZ T) (hr.mono (by omega)) tk (T.glo 26) (zaa (zab 2 (pv 2)) (zaa zaf (zaa zaf zae))))))
  (zag (zc3 rfl tk (hr.mono (by omega)) (zaU T) (zaa zak (zaa (zau zae) zae))))
  zap)
  (zad (zll (i:=5) rfl zaM.nd (zaX (zab 2 (pv 2))) (own:=[("name", 6)]) (blkOk_by (by kernel_rfl)) zfJ (fun _ _ _ _ _=>pg_name zaM.nd rfl (by nofun)) (fun _ _ _ _ _=>zbO) (fun _ _ _ _ _=>(zab 6 (pv 6))) (fun _ _ _ _ _=>zaO))
  (zad (zaB (zaL (zaJ (zaA (zfY T) (hr.mono (by omega)) tk (T.glo 27) (zaa (zab 3 (pv 3)) (zaa zaf (zaa (zab 5 (pv 5)) zae))))))
  (zag (zc3 rfl tk (hr.mono (by omega)) (zaU T) (zaa zak (zaa (zau zae) zae))))
  zap)
  (zad (zaW po rfl (zaX (zab 3 (pv 3))) (zaG (pg_name zaM.nd rfl (by nofun)))
  (zag (zea zaO (zeb (hu1 hr) (zab 5 (pv 5)) (zal (hu1 hr) (zab 7 (pv 7)) zaf)))) (fun h1 h2 h3=>ps_for po rfl h1 h2 h3))
  (zad (zaB (zaL (zaJ (zaA (zfY T) (hr.mono (by omega)) tk (T.glo 27) (zaa (zab 4 (pv 4)) (zaa zaf (zaa (zab 5 (pv 5)) zae))))))
  (zag (zc3 rfl tk (hr.mono (by omega)) (zaU T) (zaa zak (zaa (zau zae) zae))))
  zap)
  (zad (zas (i:=8) (zaN zdF (zaa (zab 2 (pv 2)) zae) fun h1 h2=>pe_callTy h1 rfl (T.free 0) boot_list h2) fun h=>ps_set zaM.nd rfl (by nofun) h)
  (zad (zaW po rfl (ziE (zaa (zab 3 (pv 3)) zae) (T.free 21)) (zkm rfl (zeP (zaG (pg_name zaM.nd rfl (by nofun))) (zeP (zaG (pg_name zaM.nd rfl (by nofun))) ziF)))
  (zad (zba (zij (ze9 (T.mkr 28) (zc0 T) (hr.mono (by omega)) tk (T.glo 29) (zaa zak (zaa (zab 1 (pv 1)) (zaa (zab 2 (pv 2)) (zaa (zaN zdF (zaa (zab 8 (pv 8)) zae) fun h1 h2=>pe_callTy h1 rfl (T.free 0) boot_list h2) zae))))) (T.cls 18) (T.meth 30) (zdw T) (hr.mono (by omega)) tk (zaa (zal (hu1 hr) (zab 7 (pv 7)) zaf) (zaa (zau (zaa zak (zaa (zab 9 (pv 9)) zae))) zae))))
  (zag (zba (zaR (zab 8 (pv 8)) (zaa (zal (hu1 hr) (zab 7 (pv 7)) zaf) zae))))) (fun h1 h2 h3=>ps_for po rfl h1 h2 h3))
  (zad (zaW po rfl (ziE (zaa (zab 4 (pv 4)) zae) (T.free 21)) (zkm rfl (zeP (zaG (pg_name zaM.nd rfl (by nofun))) (zeP (zaG (pg_name zaM.nd rfl (by nofun))) ziF)))
  (zag (zba (zij (ze9 (T.mkr 28) (zc0 T) (hr.mono (by omega)) tk (T.glo 29) (zaa zak (zaa (zab 1 (pv 1)) (zaa (zab 2 (pv 2)) (zaa (zab 8 (pv 8)) zae))))) (T.cls 18) (T.meth 30) (zdw T) (hr.mono (by omega)) tk (zaa (zal (hu1 hr) (zab 7 (pv 7)) zaf) (zaa (zau (zaa zak (zaa (zab 9 (pv 9)) zae))) zae))))) (fun h1 h2 h3=>ps_for po rfl h1 h2 h3))
  (zad (zeB (zab 0 (pv 0)) (zab 1 (pv 1)))
  (zad (zeB (zab 0 (pv 0)) (zab 2 (pv 2)))
  (zad (zeB (zab 0 (pv 0)) (zab 3 (pv 3)))
  (zag (zeB (zab 0 (pv 0)) (zab 4 (pv 4))))))))))))))))
def zd2 (K:PySem.W.Frag) (W:XW):SM:=
 (zav (zaP (zfs zan) (gNm 2)) (zav (zaP (zfs zan) (gNm 3)) (zav (zej (zce (zac (mCB zcJ (zac (mOp vIx (zah 0) (mC (.int 1))) zan)) zan)) (gNm 4)
  (zej (zek (mOp vIx (zah 0) (mC (.int 0)))) (gNm 5)
  (zav (zcF (zfO okL zgv (zah 3) (zac (zbu (zac (zah 4) (zac (zah 5) zan))) zan))) (zcF (zfO okL zgv (zah 2) (zac (zbu (zac (mC (.str "write")) (zac (mOp vIx (mOp vIx (zah 0) (mC (.int 1))) (zah 4)) (zac (zah 5) zan)))) zan)))))) (zav (mIf (zct (zah 1))
  (zej (zek (zah 3)) (gNm 6)
  (zej (zek (zah 3)) (gNm 7)
  (mIf (mB (mOp vLt (mOp vIx (zah 6) (mC (.int 0))) (mOp vIx (zah 7) (mC (.int 0)))))
  (zav (zaP (zbu (zac (mOp vIx (mOp vIx (zah 0) (mC (.int 1))) (mOp vIx (zah 6) (mC (.int 0)))) (zac (mOp vIx (zah 6) (mC (.int 1))) zan))) (gNm 8)) (zcF (zfO okL zgv (zah 2) (zac (zbu (zac (mC (.str "batch")) (zac (zbu (zac (zah 8) (zac (zbu (zac (mOp vIx (mOp vIx (zah 0) (mC (.int 1))) (mOp vIx (zah 7) (mC (.int 0)))) (zac (mOp vIx (zah 7) (mC (.int 1))) zan))) zan))) zan))) zan))))
  mNx)))
  mNx) (zaZ (mOp zb6 (zah 2) (mLc (zek (mOp vIx (zah 0) (mC (.int 2)))) (gNm 8) zgL (zbu (zac (mC (.str "read")) (zac (mOp vIx (zah 8) (mC (.int 0))) zan))) [8])))))))
theorem zaQ:FnScope ["_law_parts_here", "_law_both", "_law_found", "_law_writes", "_law_k", "_law_word", "_law_one", "_law_two", "_law_pair_here"] ["_law_parts_here", "_law_both"] (defScope zcp):=⟨rfl,rfl,rfl,by decide +kernel,rfl,by decide +kernel,by decide +kernel⟩
def zbP (K:PySem.W.Frag):SpD:=spB 2 7 (zd2 K)
theorem zdC (T:Tu fac fns zcW PG_.main.file zc4 tabs eqs gts prs sqs nos isl w K mg):Fd PG_ w K mg base 2 (He.ga K "_law_listed") (zbP K):=by
 obtain ⟨fd,F⟩:=T.df 18 (d:=zeY)
 have bi:Binds K fd ["_law_parts_here", "_law_both"] []:=FunD.bindsN F fun _ _ _ _ _ _ us hl=>match us,hl with | [_,_],_=>by kernel_rfl
 refine zaV (k:=1) F zaQ bi rfl rfl fun cdv A outer s H E hr X eX W tk po=>?_
 subst eX
 unfold zd2
 exact (zad (zas (i:=2) (zbo zae) fun h=>ps_set zaQ.nd rfl (by nofun) h)
  (zad (zas (i:=3) (zbo zae) fun h=>ps_set zaQ.nd rfl (by nofun) h)
  (zad (zaW po rfl (zbF (zaa (zao za8 (zaa (zal (hu1 hr) (zab 0 (pv 0)) zaf) zae) fun h1 h2=>pe_callB h1 rfl (T.free 1) boot_len h2) zae) fun h=>pi_range1 rfl (T.free 5) h) (zaG (pg_name zaQ.nd rfl (by nofun)))
  (zag (zaW po rfl (zaX (zal (hu1 hr) (zab 0 (pv 0)) zaf)) (zaG (pg_name zaQ.nd rfl (by nofun)))
  (zad (zba (zaR (zab 3 (pv 3)) (zaa (zau (zaa (zab 4 (pv 4)) (zaa (zab 5 (pv 5)) zae))) zae)))
  (zag (zba (zaR (zab 2 (pv 2)) (zaa (zau (zaa zak (zaa (zal (hu1 hr) (zal (hu1 hr) (zab 0 (pv 0)) zaf) (zab 4 (pv 4))) (zaa (zab 5 (pv 5)) zae)))) zae))))) (fun h1 h2 h3=>ps_for po rfl h1 h2 h3))) (fun h1 h2 h3=>ps_for po rfl h1 h2 h3))
  (zad (zaB (zaJ (zab 1 (pv 1)))
  (zag (zaW po rfl (zaX (zab 3 (pv 3))) (zaG (pg_name zaQ.nd rfl (by nofun)))
  (zag (zaW po rfl (zaX (zab 3 (pv 3))) (zaG (pg_name zaQ.nd rfl (by nofun)))
  (zag (zaB (zat zhI (zal (hu1 hr) (zab 6 (pv 6)) zaf) (zal (hu1 hr) (zab 7 (pv 7)) zaf))
  (zad (zas (i:=8) (zau (zaa (zal (hu1 hr) (zal (hu1 hr) (zab 0 (pv 0)) zaf) (zal (hu1 hr) (zab 6 (pv 6)) zaf)) (zaa (zal (hu1 hr) (zab 6 (pv 6)) zaf) zae))) fun h=>ps_set zaQ.nd rfl (by nofun) h)
  (zag (zba (zaR (zab 2 (pv 2)) (zaa (zau (zaa zak (zaa (zau (zaa (zab 8 (pv 8)) (zaa (zau (zaa (zal (hu1 hr) (zal (hu1 hr) (zab 0 (pv 0)) zaf) (zal (hu1 hr) (zab 7 (pv 7)) zaf)) (zaa (zal (hu1 hr) (zab 7 (pv 7)) zaf) zae))) zae))) zae))) zae)))))
  zap)) (fun h1 h2 h3=>ps_for po rfl h1 h2 h3))) (fun h1 h2 h3=>ps_for po rfl h1 h2 h3)))
  zap)
  (zag (zar (zaF zaK (zab 2 (pv 2)) (zko rfl zaQ.nd (zaX (zal (hu1 hr) (zab 0 (pv 0)) zaf)) (own:=[("_law_pair_here", 8)]) (blkOk_by (by kernel_rfl)) zfJ (fun _ _ _ _ _=>pg_name zaQ.nd rfl (by nofun)) (fun _ _ _ _ _=>zbO) (fun _ _ _ _ _=>(zau (zaa zak (zaa (zal (hu1 hr) (zab 8 (pv 8)) zaf) zae))))))))))))
def zbv (K:PySem.W.Frag) (W:XW):SM:=
 (zaZ (mCB zcI (zac (mLc (zek (zfa K (zah 0) "derived")) (gNm 1) zgL (mOp vIx (zah 1) (mC (.int 0))) [1]) zan)))
theorem zbk:FnScope ["self", "pair"] ["self"] (defScope za0):=⟨rfl,rfl,rfl,by decide +kernel,rfl,by decide +kernel,by decide +kernel⟩
def za3 (K:PySem.W.Frag):SpD:=spB 1 1 (zbv K)
theorem zbm (T:Tu fac fns zcW PG_.main.file zc4 tabs eqs gts prs sqs nos isl w K mg):Fd PG_ w K mg base 2 (He.ma K (He.ga K "Program") "derived_names") (za3 K):=by
 obtain ⟨fd,F⟩:=T.df 19 (d:=zb1)
 have bi:Binds K fd ["self"] []:=FunD.bindsN F fun _ _ _ _ _ _ us hl=>match us,hl with | [_],_=>by kernel_rfl
 refine zaV (k:=1) F zbk bi rfl rfl fun cdv A outer s H E hr X eX W tk po=>?_
 subst eX
 unfold zbv
 exact (zag (zar (zaN zeR (zaa (zko rfl zbk.nd (zaX (zbb (zab 0 (pv 0)))) (own:=[("pair", 1)]) (blkOk_by (by kernel_rfl)) zfJ (fun _ _ _ _ _=>pg_name zbk.nd rfl (by nofun)) (fun _ _ _ _ _=>zbO) (fun _ _ _ _ _=>(zal (hu1 hr) (zab 1 (pv 1)) zaf))) zae) fun h1 h2=>pe_callTy h1 rfl (T.free 9) boot_tuple h2)))
def zhV (K:PySem.W.Frag) (W:XW):SM:=
 (zav (zaP (zoL (zek (zfa K (zah 0) "sources")) (gNm 3) zgL (zek (zfa K (zah 0) "words")) (gNm 4) zgL (zbu (zac (zah 3) (zac (zah 4) zan))) [3,4] [4]) (gNm 2)) (zav (zaP (mLc (zek (zah 2)) (gT 2 (gC (gNm 3) (gC (gNm 4) gN))) zgL (zbu (zac (mC (.str "write")) (zac (zah 3) (zac (zah 4) zan)))) [3,4]) (gNm 5)) (zav (mIf (zct (zah 1))
  (zej (zek (zah 2)) (gNm 6)
  (zej (zek (zah 2)) (gNm 7)
  (mIf (mB (mOp vLt (zfO okT znF (zfa K (zah 0) "sources") (zac (mOp vIx (zah 6) (mC (.int 0))) zan)) (zfO okT znF (zfa K (zah 0) "sources") (zac (mOp vIx (zah 7) (mC (.int 0))) zan))))
  (zcF (zfO okL zgv (zah 5) (zac (zbu (zac (mC (.str "batch")) (zac (zbu (zac (zah 6) (zac (zah 7) zan))) zan))) zan)))
  mNx)))
  mNx) (zav (zej (zek (zdZ (He.ga K "Program") "derived_names" (za3 K) W (zah 0) zan)) (gNm 8)
  (zcF (zfO okL zgv (zah 5) (zac (zbu (zac (mC (.str "read")) (zac (zah 8) zan))) zan)))) (zaZ (zah 5))))))
theorem za5:FnScope ["program", "batches", "writes", "source", "word", "found", "first", "second", "name"] ["program", "batches"] (defScope zgu):=⟨rfl,rfl,rfl,by decide +kernel,rfl,by decide +kernel,by decide +kernel⟩
def zdR (K:PySem.W.Frag):SpD:=spB 2 7 (zhV K)
theorem zjA (T:Tu fac fns zcW PG_.main.file zc4 tabs eqs gts prs sqs nos isl w K mg):FdL PG_ w K mg base 4 (He.ga K "deeds") (zdR K) 1 [] (fun ds ws=>ds++weave [false] [.bl true] ws):=by
 obtain ⟨fd,F⟩:=T.df 20 (d:=zd1)
 refine zkc (k:=3) (ps:=["program", "batches"]) F za5 [] [("batches", .bl true)] [.bl true] [false] (by simp [zd1,He.DefD.kws]) (by simp [zd1,He.DefD.kws,He.Dv.v]) (fun H=>(.cons (.bl _) DVs.nil)) (fun D doc pm an cdv ct us mv ws l1 l2 l3=>match us,mv,ws,l1,l2,l3 with | [_],[_],[],_,_,_=>⟨_,_,_,_,_,_,rfl,rfl,rfl⟩) rfl rfl fun cdv A outer s H E hr X eX W tk po=>?_
 subst eX
 unfold zhV
 exact (zad (zig (i:=2) rfl za5.nd (zaX (zbb (zab 0 (pv 0)))) (own:=[("source", 3),("word", 4)]) (vs1:=[4]) (blkOk_by (by kernel_rfl)) zfJ zfJ (fun _ _ _ _ _=>pg_name za5.nd rfl (by nofun)) (fun _ _ _ _ _=>zbO) (fun _ _ _ _ _=>(zaX (zbb (zab 0 (pv 0))))) (fun _ _ _ _ _=>pg_name za5.nd rfl (by nofun)) (fun _ _ _ _ _=>zbO) (fun _ _ _ _ _=>(zau (zaa (zab 3 (pv 3)) (zaa (zab 4 (pv 4)) zae)))))
  (zad (zhL (i:=5) rfl za5.nd (zaX (zab 2 (pv 2))) (own:=[("source", 3),("word", 4)]) (blkOk_by (by kernel_rfl)) (zmM (zgB (zgB zkN))) (fun _ _ _ _ _=>pg_tup rfl (pgs_cons (pg_name za5.nd rfl (by nofun)) (pgs_cons (pg_name za5.nd rfl (by nofun)) pgs_nil))) (fun _ _ _ _ _=>zbO) (fun _ _ _ _ _=>(zau (zaa zak (zaa (zab 3 (pv 3)) (zaa (zab 4 (pv 4)) zae))))))
  (zad (zaB (zaJ (zab 1 (pv 1)))
  (zag (zaW po rfl (zaX (zab 2 (pv 2))) (zaG (pg_name za5.nd rfl (by nofun)))
  (zag (zaW po rfl (zaX (zab 2 (pv 2))) (zaG (pg_name za5.nd rfl (by nofun)))
  (zag (zaB (zat zhI (zgx (zbb (zab 0 (pv 0))) (zaa (zal (hu1 hr) (zab 6 (pv 6)) zaf) zae)) (zgx (zbb (zab 0 (pv 0))) (zaa (zal (hu1 hr) (zab 7 (pv 7)) zaf) zae)))
  (zag (zba (zaR (zab 5 (pv 5)) (zaa (zau (zaa zak (zaa (zau (zaa (zab 6 (pv 6)) (zaa (zab 7 (pv 7)) zae))) zae))) zae))))
  zap)) (fun h1 h2 h3=>ps_for po rfl h1 h2 h3))) (fun h1 h2 h3=>ps_for po rfl h1 h2 h3)))
  zap)
  (zad (zaW po rfl (zaX (zi9 (zab 0 (pv 0)) (T.cls 31) (T.meth 32) (zbm T) (hr.mono (by omega)) tk)) (zaG (pg_name za5.nd rfl (by nofun)))
  (zag (zba (zaR (zab 5 (pv 5)) (zaa (zau (zaa zak (zaa (zab 8 (pv 8)) zae))) zae)))) (fun h1 h2 h3=>ps_for po rfl h1 h2 h3))
  (zag (zar (zab 5 (pv 5))))))))
theorem zjz (T:Tu fac fns zcW PG_.main.file zc4 tabs eqs gts prs sqs nos isl w K mg):FdL PG_ w K mg base 4 (He.ga K "deeds") (zdR K) 1 ["batches"] (fun ds ws=>ds++weave [true] [] ws):=by
 obtain ⟨fd,F⟩:=T.df 20 (d:=zd1)
 refine zkc (k:=3) (ps:=["program", "batches"]) F za5 ["batches"] [] [] [true] (by simp [zd1,He.DefD.kws]) (by simp [zd1,He.DefD.kws,He.Dv.v]) (fun H=>DVs.nil) (fun D doc pm an cdv ct us mv ws l1 l2 l3=>match us,mv,ws,l1,l2,l3 with | [_],[],[_],_,_,_=>rfl) rfl rfl fun cdv A outer s H E hr X eX W tk po=>?_
 subst eX
 unfold zhV
 exact (zad (zig (i:=2) rfl za5.nd (zaX (zbb (zab 0 (pv 0)))) (own:=[("source", 3),("word", 4)]) (vs1:=[4]) (blkOk_by (by kernel_rfl)) zfJ zfJ (fun _ _ _ _ _=>pg_name za5.nd rfl (by nofun)) (fun _ _ _ _ _=>zbO) (fun _ _ _ _ _=>(zaX (zbb (zab 0 (pv 0))))) (fun _ _ _ _ _=>pg_name za5.nd rfl (by nofun)) (fun _ _ _ _ _=>zbO) (fun _ _ _ _ _=>(zau (zaa (zab 3 (pv 3)) (zaa (zab 4 (pv 4)) zae)))))
  (zad (zhL (i:=5) rfl za5.nd (zaX (zab 2 (pv 2))) (own:=[("source", 3),("word", 4)]) (blkOk_by (by kernel_rfl)) (zmM (zgB (zgB zkN))) (fun _ _ _ _ _=>pg_tup rfl (pgs_cons (pg_name za5.nd rfl (by nofun)) (pgs_cons (pg_name za5.nd rfl (by nofun)) pgs_nil))) (fun _ _ _ _ _=>zbO) (fun _ _ _ _ _=>(zau (zaa zak (zaa (zab 3 (pv 3)) (zaa (zab 4 (pv 4)) zae))))))
  (zad (zaB (zaJ (zab 1 (pv 1)))
  (zag (zaW po rfl (zaX (zab 2 (pv 2))) (zaG (pg_name za5.nd rfl (by nofun)))
  (zag (zaW po rfl (zaX (zab 2 (pv 2))) (zaG (pg_name za5.nd rfl (by nofun)))
  (zag (zaB (zat zhI (zgx (zbb (zab 0 (pv 0))) (zaa (zal (hu1 hr) (zab 6 (pv 6)) zaf) zae)) (zgx (zbb (zab 0 (pv 0))) (zaa (zal (hu1 hr) (zab 7 (pv 7)) zaf) zae)))
  (zag (zba (zaR (zab 5 (pv 5)) (zaa (zau (zaa zak (zaa (zau (zaa (zab 6 (pv 6)) (zaa (zab 7 (pv 7)) zae))) zae))) zae))))
  zap)) (fun h1 h2 h3=>ps_for po rfl h1 h2 h3))) (fun h1 h2 h3=>ps_for po rfl h1 h2 h3)))
  zap)
  (zad (zaW po rfl (zaX (zi9 (zab 0 (pv 0)) (T.cls 31) (T.meth 32) (zbm T) (hr.mono (by omega)) tk)) (zaG (pg_name za5.nd rfl (by nofun)))
  (zag (zba (zaR (zab 5 (pv 5)) (zaa (zau (zaa zak (zaa (zab 8 (pv 8)) zae))) zae)))) (fun h1 h2 h3=>ps_for po rfl h1 h2 h3))
  (zag (zar (zab 5 (pv 5))))))))
def zfo (K:PySem.W.Frag) (W:XW):SM:=
 (zav (zaP (zaw (zaj K) W (zac (zah 0) (zac (mC (.int 6)) zan))) (gNm 2)) (zav (zaP (mOp zb6 (mCB zem (zac (mOp vIx (zah 1) (mC (.int 1))) zan)) (mLc (zek (mOp vIx (zah 1) (mC (.int 2)))) (gNm 4) zgL (mOp vIx (zah 4) (mC (.int 0))) [4])) (gNm 3)) (zav (mIf (mB (mOp vEq (zah 2) (mC (.int 0))))
  (zaZ (zbu (zac (mC (.str "read")) (zac (mOp vIx (zah 3) (zaw (zaj K) W (zac (zah 0) (zac (mCB zcJ (zac (zah 3) zan)) zan)))) zan))))
  mNx) (zav (mIf (mB (mOp vGt (zah 2) (mC (.int 2))))
  (zav (zaP (mOp vIx (mOp vIx (zah 1) (mC (.int 1))) (zaw (zaj K) W (zac (zah 0) (zac (mCB zcJ (zac (mOp vIx (zah 1) (mC (.int 1))) zan)) zan)))) (gNm 5)) (zaZ (zbu (zac (mC (.str "write")) (zac (zah 5) (zac (mOp vIx (mOp vIx (zah 1) (mC (.int 0))) (zaw (zaj K) W (zac (zah 0) (zac (mCB zcJ (zac (mOp vIx (zah 1) (mC (.int 0))) zan)) zan)))) zan))))))
  mNx) (zav (zaP (mCB zem (zac (mOp vIx (zah 1) (mC (.int 1))) zan)) (gNm 6)) (zav (zaP (zfs zan) (gNm 7)) (zav (zej (zce (zac (mOp zb6 (mC (.int 1)) (zaw (zaj K) W (zac (zah 0) (zac (mCB zcJ (zac (zah 6) zan)) zan)))) zan)) (gNm 8)
  (zav (zaP (zfO okL rPa (zah 6) (zac (zaw (zaj K) W (zac (zah 0) (zac (mCB zcJ (zac (zah 6) zan)) zan))) zan)) (gNm 5)) (zcF (zfO okL zgv (zah 7) (zac (zbu (zac (zah 5) (zac (mOp vIx (mOp vIx (zah 1) (mC (.int 0))) (zaw (zaj K) W (zac (zah 0) (zac (mCB zcJ (zac (mOp vIx (zah 1) (mC (.int 0))) zan)) zan)))) zan))) zan))))) (zaZ (zbu (zac (mC (.str "batch")) (zac (mCB zcI (zac (zah 7) zan)) zan)))))))))))
theorem za9:FnScope ["_law_state_here", "_law_parts_here", "_law_kind", "_law_cells", "_law_pair_here", "_law_source", "_law_rest", "_law_writes", "_law_turn"] ["_law_state_here", "_law_parts_here"] (defScope zdm):=⟨rfl,rfl,rfl,by decide +kernel,rfl,by decide +kernel,by decide +kernel⟩
def zeq (K:PySem.W.Frag):SpD:=spB 2 7 (zfo K)
theorem zif (T:Tu fac fns zcW PG_.main.file zc4 tabs eqs gts prs sqs nos isl w K mg):Fd PG_ w K mg base 4 (He.ga K "_law_deed") (zeq K):=by
 obtain ⟨fd,F⟩:=T.df 21 (d:=zgn)
 have bi:Binds K fd ["_law_state_here", "_law_parts_here"] []:=FunD.bindsN F fun _ _ _ _ _ _ us hl=>match us,hl with | [_,_],_=>by kernel_rfl
 refine zaV (k:=3) F za9 bi rfl rfl fun cdv A outer s H E hr X eX W tk po=>?_
 subst eX
 unfold zfo
 exact (zad (zas (i:=2) (zaA (zam T) (hr.mono (by omega)) tk (T.glo 4) (zaa (zab 0 (pv 0)) (zaa zaf zae))) fun h=>ps_set za9.nd rfl (by nofun) h)
  (zad (zas (i:=3) (zaF zaK (zaN zdF (zaa (zal (hu1 hr) (zab 1 (pv 1)) zaf) zae) fun h1 h2=>pe_callTy h1 rfl (T.free 0) boot_list h2) (zko rfl za9.nd (zaX (zal (hu1 hr) (zab 1 (pv 1)) zaf)) (own:=[("_law_pair_here", 4)]) (blkOk_by (by kernel_rfl)) zfJ (fun _ _ _ _ _=>pg_name za9.nd rfl (by nofun)) (fun _ _ _ _ _=>zbO) (fun _ _ _ _ _=>(zal (hu1 hr) (zab 4 (pv 4)) zaf)))) fun h=>ps_set za9.nd rfl (by nofun) h)
  (zad (zaB (zat (zbh (zb5 hr)) (zab 2 (pv 2)) zaf)
  (zag (zar (zau (zaa zak (zaa (zal (hu1 hr) (zab 3 (pv 3)) (zaA (zam T) (hr.mono (by omega)) tk (T.glo 4) (zaa (zab 0 (pv 0)) (zaa (zao za8 (zaa (zab 3 (pv 3)) zae) fun h1 h2=>pe_callB h1 rfl (T.free 1) boot_len h2) zae)))) zae)))))
  zap)
  (zad (zaB (zat ziC (zab 2 (pv 2)) zaf)
  (zad (zas (i:=5) (zal (hu1 hr) (zal (hu1 hr) (zab 1 (pv 1)) zaf) (zaA (zam T) (hr.mono (by omega)) tk (T.glo 4) (zaa (zab 0 (pv 0)) (zaa (zao za8 (zaa (zal (hu1 hr) (zab 1 (pv 1)) zaf) zae) fun h1 h2=>pe_callB h1 rfl (T.free 1) boot_len h2) zae)))) fun h=>ps_set za9.nd rfl (by nofun) h)
  (zag (zar (zau (zaa zak (zaa (zab 5 (pv 5)) (zaa (zal (hu1 hr) (zal (hu1 hr) (zab 1 (pv 1)) zaf) (zaA (zam T) (hr.mono (by omega)) tk (T.glo 4) (zaa (zab 0 (pv 0)) (zaa (zao za8 (zaa (zal (hu1 hr) (zab 1 (pv 1)) zaf) zae) fun h1 h2=>pe_callB h1 rfl (T.free 1) boot_len h2) zae)))) zae)))))))
  zap)
  (zad (zas (i:=6) (zaN zdF (zaa (zal (hu1 hr) (zab 1 (pv 1)) zaf) zae) fun h1 h2=>pe_callTy h1 rfl (T.free 0) boot_list h2) fun h=>ps_set za9.nd rfl (by nofun) h)
  (zad (zas (i:=7) (zbo zae) fun h=>ps_set za9.nd rfl (by nofun) h)
  (zad (zaW po rfl (zbF (zaa (zaF zaK zaf (zaA (zam T) (hr.mono (by omega)) tk (T.glo 4) (zaa (zab 0 (pv 0)) (zaa (zao za8 (zaa (zab 6 (pv 6)) zae) fun h1 h2=>pe_callB h1 rfl (T.free 1) boot_len h2) zae)))) zae) fun h=>pi_range1 rfl (T.free 5) h) (zaG (pg_name za9.nd rfl (by nofun)))
  (zad (zas (i:=5) (zlp (zab 6 (pv 6)) (zaa (zaA (zam T) (hr.mono (by omega)) tk (T.glo 4) (zaa (zab 0 (pv 0)) (zaa (zao za8 (zaa (zab 6 (pv 6)) zae) fun h1 h2=>pe_callB h1 rfl (T.free 1) boot_len h2) zae))) zae)) fun h=>ps_set za9.nd rfl (by nofun) h)
  (zag (zba (zaR (zab 7 (pv 7)) (zaa (zau (zaa (zab 5 (pv 5)) (zaa (zal (hu1 hr) (zal (hu1 hr) (zab 1 (pv 1)) zaf) (zaA (zam T) (hr.mono (by omega)) tk (T.glo 4) (zaa (zab 0 (pv 0)) (zaa (zao za8 (zaa (zal (hu1 hr) (zab 1 (pv 1)) zaf) zae) fun h1 h2=>pe_callB h1 rfl (T.free 1) boot_len h2) zae)))) zae))) zae))))) (fun h1 h2 h3=>ps_for po rfl h1 h2 h3))
  (zag (zar (zau (zaa zak (zaa (zaN zeR (zaa (zab 7 (pv 7)) zae) fun h1 h2=>pe_callTy h1 rfl (T.free 9) boot_tuple h2) zae))))))))))))
def zfV (K:PySem.W.Frag) (W:XW):SM:=
 (zav (zaP (zaw (zaj K) W (zac (zah 0) (zac (mC (.int 12)) zan))) (gNm 3)) (zav (zaP (mOp zb6 (mOp vIx (mOp vIx (zah 1) (mC (.int 1))) (mC (.int 0))) (mC (.str "A"))) (gNm 4)) (zav (mIf (mB (mOp vLt (zah 3) (mC (.int 4))))
  (zaZ (mOp vIx (zfs (zac (mCB zem (zac (zah 2) zan)) (zac (mOp zb6 (zah 2) (zbu (zac (zah 4) zan))) (zac (mSl (zah 2) zks (mP (mC (.int 1)))) (zac (mOp zb6 (zbu (zac (mC (.str "look")) zan)) (mSl (zah 2) (mP (mC (.int 1))) zks)) zan))))) (zah 3)))
  mNx) (zav (mIf (mB (mOp vLt (zah 3) (mC (.int 7))))
  (zaZ (mOp vIx (zfs (zac (zbu (zac (mC (.str "write")) (zac (zah 4) (zac (mOp vIx (mOp vIx (zah 1) (mC (.int 0))) (mC (.int 0))) zan)))) (zac (zbu (zac (mC (.str "read")) (zac (zah 4) zan))) (zac (zbu (zac (mC (.str "batch")) (zac (zbu zan) zan))) zan)))) (mOp zjN (zah 3) (mC (.int 4)))))
  mNx) (zav (mIf (zhX (mB (mOp vEq (zah 3) (mC (.int 7)))) (mB (mOp vEq (mOp vIx (zah 2) (mC (.int 0))) (mC (.str "batch")))))
  (zaZ (zbu (zac (mC (.str "batch")) (zac (mOp zb6 (mOp vIx (zah 2) (mC (.int 1))) (mSl (mOp vIx (zah 2) (mC (.int 1))) zks (mP (mC (.int 1))))) zan))))
  mNx) (zav (mIf (zhX (mB (mOp vEq (zah 3) (mC (.int 8)))) (mB (mOp vEq (mOp vIx (zah 2) (mC (.int 0))) (mC (.str "batch")))))
  (zaZ (zbu (zac (mC (.str "batch")) (zac (mCB zem (zac (mOp vIx (zah 2) (mC (.int 1))) zan)) zan))))
  mNx) (zav (mIf (zhX (mB (mOp vEq (zah 3) (mC (.int 9)))) (mB (mOp vGt (mCB zcJ (zac (mOp vIx (zah 1) (mC (.int 2))) zan)) (mC (.int 0)))))
  (zav (zaP (zbu (zac (mOp vIx (mOp vIx (mOp vIx (zah 1) (mC (.int 2))) (mC (.int 0))) (mC (.int 0))) (zac (mOp vIx (mOp vIx (zah 1) (mC (.int 0))) (mC (.int 0))) zan))) (gNm 5)) (zaZ (mOp vIx (zfs (zac (mOp zb6 (zbu (zac (mC (.str "write")) zan)) (zah 5)) (zac (zbu (zac (mC (.str "batch")) (zac (zbu (zac (zah 5) zan)) zan))) zan))) (zaw (zaj K) W (zac (zah 0) (zac (mC (.int 2)) zan))))))
  mNx) (zav (mIf (mB (mOp vEq (zah 3) (mC (.int 10))))
  (zaZ (zbu (zac (mC (.str "write")) (zac (mOp vIx (mOp vIx (zah 1) (mC (.int 1))) (mC (.int 0))) (zac (mOp vIx (zfs (zac (mOp zb6 (mOp vIx (mOp vIx (zah 1) (mC (.int 0))) (mC (.int 0))) (mC (.str "A"))) (zac (mC .non) (zac (mC (.bl true)) (zac (zbu (zac (mOp vIx (mOp vIx (zah 1) (mC (.int 0))) (mC (.int 0))) zan)) zan))))) (zaw (zaj K) W (zac (zah 0) (zac (mC (.int 4)) zan)))) zan)))))
  mNx) (zaZ (mOp vIx (zfs (zac (mC .non) (zac (mC (.bl true)) (zac (mC (.int 3)) (zac (mC (.str "write")) (zac (zbu zan) (zac (zbu (zac (mC (.int 1)) (zac (mC (.int 2)) zan))) (zac (zbu (zac (mC (.str "batch")) (zac (mC .non) zan))) (zac (zbu (zac (mC (.str "read")) (zac (mC .non) zan))) (zac zn9 zan)))))))))) (zaw (zaj K) W (zac (zah 0) (zac (mC (.int 9)) zan)))))))))))))
theorem zdW:FnScope ["_law_state_here", "_law_parts_here", "_law_deed_here", "_law_kind", "_law_name", "_law_pair_here"] ["_law_state_here", "_law_parts_here", "_law_deed_here"] (defScope zdQ):=⟨rfl,rfl,rfl,by decide +kernel,rfl,by decide +kernel,by decide +kernel⟩
def ze2 (K:PySem.W.Frag):SpD:=spB 3 3 (zfV K)
theorem ziB (T:Tu fac fns zcW PG_.main.file zc4 tabs eqs gts prs sqs nos isl w K mg):Fd PG_ w K mg base 4 (He.ga K "_law_bad") (ze2 K):=by
 obtain ⟨fd,F⟩:=T.df 22 (d:=zgU)
 have bi:Binds K fd ["_law_state_here", "_law_parts_here", "_law_deed_here"] []:=FunD.bindsN F fun _ _ _ _ _ _ us hl=>match us,hl with | [_,_,_],_=>by kernel_rfl
 refine zaV (k:=3) F zdW bi rfl rfl fun cdv A outer s H E hr X eX W tk po=>?_
 subst eX
 unfold zfV
 exact (zad (zas (i:=3) (zaA (zam T) (hr.mono (by omega)) tk (T.glo 4) (zaa (zab 0 (pv 0)) (zaa zaf zae))) fun h=>ps_set zdW.nd rfl (by nofun) h)
  (zad (zas (i:=4) (zaF zaK (zal (hu1 hr) (zal (hu1 hr) (zab 1 (pv 1)) zaf) zaf) zak) fun h=>ps_set zdW.nd rfl (by nofun) h)
  (zad (zaB (zat zhI (zab 3 (pv 3)) zaf)
  (zag (zar (zal (hu1 hr) (zbo (zaa (zaN zdF (zaa (zab 2 (pv 2)) zae) fun h1 h2=>pe_callTy h1 rfl (T.free 0) boot_list h2) (zaa (zaF zaK (zab 2 (pv 2)) (zau (zaa (zab 4 (pv 4)) zae))) (zaa (zii (zab 2 (pv 2)) zeD (zeC zaf)) (zaa (zaF zaK (zau (zaa zak zae)) (zii (zab 2 (pv 2)) (zeC zaf) zeD)) zae))))) (zab 3 (pv 3)))))
  zap)
  (zad (zaB (zat zhI (zab 3 (pv 3)) zaf)
  (zag (zar (zal (hu1 hr) (zbo (zaa (zau (zaa zak (zaa (zab 4 (pv 4)) (zaa (zal (hu1 hr) (zal (hu1 hr) (zab 1 (pv 1)) zaf) zaf) zae)))) (zaa (zau (zaa zak (zaa (zab 4 (pv 4)) zae))) (zaa (zau (zaa zak (zaa (zau zae) zae))) zae)))) (zaF zf6 (zab 3 (pv 3)) zaf))))
  zap)
  (zad (zaB (MW.mt (zd9 (zat (zbh (zb5 hr)) (zab 3 (pv 3)) zaf) (zc2 (zat (zbh (zb5 hr)) (zal (hu1 hr) (zab 2 (pv 2)) zaf) zak))))
  (zag (zar (zau (zaa zak (zaa (zaF zaK (zal (hu1 hr) (zab 2 (pv 2)) zaf) (zii (zal (hu1 hr) (zab 2 (pv 2)) zaf) zeD (zeC zaf))) zae)))))
  zap)
  (zad (zaB (MW.mt (zd9 (zat (zbh (zb5 hr)) (zab 3 (pv 3)) zaf) (zc2 (zat (zbh (zb5 hr)) (zal (hu1 hr) (zab 2 (pv 2)) zaf) zak))))
  (zag (zar (zau (zaa zak (zaa (zaN zdF (zaa (zal (hu1 hr) (zab 2 (pv 2)) zaf) zae) fun h1 h2=>pe_callTy h1 rfl (T.free 0) boot_list h2) zae)))))
  zap)
  (zad (zaB (MW.mt (zd9 (zat (zbh (zb5 hr)) (zab 3 (pv 3)) zaf) (zc2 (zat ziC (zao za8 (zaa (zal (hu1 hr) (zab 1 (pv 1)) zaf) zae) fun h1 h2=>pe_callB h1 rfl (T.free 1) boot_len h2) zaf))))
  (zad (zas (i:=5) (zau (zaa (zal (hu1 hr) (zal (hu1 hr) (zal (hu1 hr) (zab 1 (pv 1)) zaf) zaf) zaf) (zaa (zal (hu1 hr) (zal (hu1 hr) (zab 1 (pv 1)) zaf) zaf) zae))) fun h=>ps_set zdW.nd rfl (by nofun) h)
  (zag (zar (zal (hu1 hr) (zbo (zaa (zaF zaK (zau (zaa zak zae)) (zab 5 (pv 5))) (zaa (zau (zaa zak (zaa (zau (zaa (zab 5 (pv 5)) zae)) zae))) zae))) (zaA (zam T) (hr.mono (by omega)) tk (T.glo 4) (zaa (zab 0 (pv 0)) (zaa zaf zae)))))))
  zap)
  (zad (zaB (zat (zbh (zb5 hr)) (zab 3 (pv 3)) zaf)
  (zag (zar (zau (zaa zak (zaa (zal (hu1 hr) (zal (hu1 hr) (zab 1 (pv 1)) zaf) zaf) (zaa (zal (hu1 hr) (zbo (zaa (zaF zaK (zal (hu1 hr) (zal (hu1 hr) (zab 1 (pv 1)) zaf) zaf) zak) (zaa zec (zaa zaO (zaa (zau (zaa (zal (hu1 hr) (zal (hu1 hr) (zab 1 (pv 1)) zaf) zaf) zae)) zae))))) (zaA (zam T) (hr.mono (by omega)) tk (T.glo 4) (zaa (zab 0 (pv 0)) (zaa zaf zae)))) zae))))))
  zap)
  (zag (zar (zal (hu1 hr) (zbo (zaa zec (zaa zaO (zaa zaf (zaa zak (zaa (zau zae) (zaa (zau (zaa zaf (zaa zaf zae))) (zaa (zau (zaa zak (zaa zec zae))) (zaa (zau (zaa zak (zaa zec zae))) (zaa zn4 zae)))))))))) (zaA (zam T) (hr.mono (by omega)) tk (T.glo 4) (zaa (zab 0 (pv 0)) (zaa zaf zae))))))))))))))
def zdG (K:PySem.W.Frag) (W:XW):SM:=
 (zav (mIf (mOr (zcL (zct (mCB zda (zac (zah 1) (zac (mC (.ty "tuple")) zan))))) (mB (mOp vNe (mCB zcJ (zac (zah 1) zan)) (mC (.int 2)))))
  (zaZ (mC (.bl false)))
  mNx) (zav (mIf (mOr (zcL (zct (mCB zda (zac (mOp vIx (zah 1) (mC (.int 0))) (zac (mC (.ty "str")) zan))))) (mB (mOp zhZ (mOp vIx (zah 1) (mC (.int 0))) (zah 2))))
  (zaZ (mC (.bl false)))
  mNx) (zaZ (zeG (mCB zda (zac (mOp vIx (zah 1) (mC (.int 1))) (zac (mC (.ty "str")) zan))) (mOp vIn (mOp vIx (zah 1) (mC (.int 1))) (zfa K (zah 0) "words"))))))
theorem zgG:FnScope ["program", "value", "names"] ["program", "value", "names"] (defScope zb8):=⟨rfl,rfl,rfl,by decide +kernel,rfl,by decide +kernel,by decide +kernel⟩
def zb9 (K:PySem.W.Frag):SpD:=spB 3 0 (zdG K)
theorem zeA (T:Tu fac fns zcW PG_.main.file zc4 tabs eqs gts prs sqs nos isl w K mg):Fd PG_ w K mg base 2 (He.ga K "is_word_pair") (zb9 K):=by
 obtain ⟨fd,F⟩:=T.df 23 (d:=zeH)
 have bi:Binds K fd ["program", "value", "names"] []:=FunD.bindsN F fun _ _ _ _ _ _ us hl=>match us,hl with | [_,_,_],_=>by kernel_rfl
 refine zaV (k:=1) F zgG bi rfl rfl fun cdv A outer s H E hr X eX W tk po=>?_
 subst eX
 unfold zdG
 exact (zad (zaB (MW.mt (zbN (zaL (zaJ (zao za6 (zaa (zab 1 (pv 1)) (zaa (zbK (T.free 9) boot_tuple) zae)) fun h1 h2=>pe_callB h1 rfl (T.free 13) boot_isinstance h2))) (zbn (zat (zei (zb5 hr)) (zao za8 (zaa (zab 1 (pv 1)) zae) fun h1 h2=>pe_callB h1 rfl (T.free 1) boot_len h2) zaf))))
  (zag (zar zaO))
  zap)
  (zad (zaB (MW.mt (zbN (zaL (zaJ (zao za6 (zaa (zal (hu1 hr) (zab 1 (pv 1)) zaf) (zaa (zbK (T.free 12) boot_str) zae)) fun h1 h2=>pe_callB h1 rfl (T.free 13) boot_isinstance h2))) (zbn (zat (zgw (zhn hr)) (zal (hu1 hr) (zab 1 (pv 1)) zaf) (zab 2 (pv 2))))))
  (zag (zar zaO))
  zap)
  (zag (zar (zdy (zao za6 (zaa (zal (hu1 hr) (zab 1 (pv 1)) zaf) (zaa (zbK (T.free 12) boot_str) zae)) fun h1 h2=>pe_callB h1 rfl (T.free 13) boot_isinstance h2) (zeE (zb0 (zfz (zhn hr)) (zal (hu1 hr) (zab 1 (pv 1)) zaf) (zbb (zab 0 (pv 0))))))))))
def zfe (K:PySem.W.Frag) (W:XW):SM:=
 (zav (mIf (zcL (zct (mCB zda (zac (zah 1) (zac (mC (.ty "tuple")) zan)))))
  (zaZ (mC (.bl false)))
  mNx) (zav (zaP (mCB zkZ zan) (gNm 3)) (zav (zej (zek (zah 1)) (gNm 4)
  (zav (mIf (mOr (zcL (zct (zaw (zb9 K) W (zac (zah 0) (zac (zah 4) (zac (zah 2) zan)))))) (mB (mOp vIn (mOp vIx (zah 4) (mC (.int 0))) (zah 3))))
  (zaZ (mC (.bl false)))
  mNx) (zcF (zrj (zah 3) (zac (mOp vIx (zah 4) (mC (.int 0))) zan))))) (zaZ (mC (.bl true))))))
theorem zes:FnScope ["program", "value", "names", "seen", "pair"] ["program", "value", "names"] (defScope zdc):=⟨rfl,rfl,rfl,by decide +kernel,rfl,by decide +kernel,by decide +kernel⟩
def zen (K:PySem.W.Frag):SpD:=spB 3 2 (zfe K)
theorem zib (T:Tu fac fns zcW PG_.main.file zc4 tabs eqs gts prs sqs nos isl w K mg):Fd PG_ w K mg base 4 (He.ga K "are_notes") (zen K):=by
 obtain ⟨fd,F⟩:=T.df 24 (d:=zgd)
 have bi:Binds K fd ["program", "value", "names"] []:=FunD.bindsN F fun _ _ _ _ _ _ us hl=>match us,hl with | [_,_,_],_=>by kernel_rfl
 refine zaV (k:=3) F zes bi rfl rfl fun cdv A outer s H E hr X eX W tk po=>?_
 subst eX
 unfold zfe
 exact (zad (zaB (zaL (zaJ (zao za6 (zaa (zab 1 (pv 1)) (zaa (zbK (T.free 9) boot_tuple) zae)) fun h1 h2=>pe_callB h1 rfl (T.free 13) boot_isinstance h2)))
  (zag (zar zaO))
  zap)
  (zad (zas (i:=3) (zik zkL fun h1=>pe_callTy0 h1 rfl (T.free 14) boot_set) fun h=>ps_set zes.nd rfl (by nofun) h)
  (zad (zaW po rfl (zaX (zab 1 (pv 1))) (zaG (pg_name zes.nd rfl (by nofun)))
  (zad (zaB (MW.mt (zbN (zaL (zaJ (zaA (zeA T) (hr.mono (by omega)) tk (T.glo 33) (zaa (zab 0 (pv 0)) (zaa (zab 4 (pv 4)) (zaa (zab 2 (pv 2)) zae)))))) (zbn (zat (zfz (zhn hr)) (zal (hu1 hr) (zab 4 (pv 4)) zaf) (zab 3 (pv 3))))))
  (zag (zar zaO))
  zap)
  (zag (zba (zms (zab 3 (pv 3)) (zaa (zal (hu1 hr) (zab 4 (pv 4)) zaf) zae))))) (fun h1 h2 h3=>ps_for po rfl h1 h2 h3))
  (zag (zar zaO)))))
def zc9 (K:PySem.W.Frag) (W:XW):SM:=
 (zaZ (mOp ziy (zfa K (zah 0) "sources") (zdZ (He.ga K "Program") "derived_names" (za3 K) W (zah 0) zan)))
theorem zgs:FnScope ["self"] ["self"] (defScope zbS):=⟨rfl,rfl,rfl,by decide +kernel,rfl,by decide +kernel,by decide +kernel⟩
def zcA (K:PySem.W.Frag):SpD:=spB 1 0 (zc9 K)
theorem zgt (T:Tu fac fns zcW PG_.main.file zc4 tabs eqs gts prs sqs nos isl w K mg):Fd PG_ w K mg base 4 (He.ma K (He.ga K "Program") "cells") (zcA K):=by
 obtain ⟨fd,F⟩:=T.df 25 (d:=zed)
 have bi:Binds K fd ["self"] []:=FunD.bindsN F fun _ _ _ _ _ _ us hl=>match us,hl with | [_],_=>by kernel_rfl
 refine zaV (k:=3) F zgs bi rfl rfl fun cdv A outer s H E hr X eX W tk po=>?_
 subst eX
 unfold zc9
 exact (zag (zar (zaF znJ (zbb (zab 0 (pv 0))) (zi9 (zab 0 (pv 0)) (T.cls 31) (T.meth 32) (zbm T) (hr.mono (by omega)) tk))))
def zgY (K:PySem.W.Frag) (W:XW):SM:=
 (zav (mIf (mOr (zcL (zct (mCB zda (zac (zah 1) (zac (mC (.ty "tuple")) zan))))) (mOr (zcL (zct (zah 1))) (zcL (zct (mCB zda (zac (mOp vIx (zah 1) (mC (.int 0))) (zac (mC (.ty "str")) zan)))))))
  (zaZ (mC (.bl false)))
  mNx) (zav (mIf (mB (mOp vEq (mOp vIx (zah 1) (mC (.int 0))) (mC (.str "write"))))
  (zaZ (zaw (zb9 K) W (zac (zah 0) (zac (mSl (zah 1) (mP (mC (.int 1))) zks) (zac (zfa K (zah 0) "sources") zan)))))
  mNx) (zav (mIf (mB (mOp vNe (mCB zcJ (zac (zah 1) zan)) (mC (.int 2))))
  (zaZ (mC (.bl false)))
  mNx) (zav (mIf (mB (mOp vEq (mOp vIx (zah 1) (mC (.int 0))) (mC (.str "read"))))
  (zaZ (zeG (mCB zda (zac (mOp vIx (zah 1) (mC (.int 1))) (zac (mC (.ty "str")) zan))) (mOp vIn (mOp vIx (zah 1) (mC (.int 1))) (zdZ (He.ga K "Program") "cells" (zcA K) W (zah 0) zan))))
  mNx) (zav (mIf (mOr (mB (mOp vNe (mOp vIx (zah 1) (mC (.int 0))) (mC (.str "batch")))) (mOr (zcL (zct (mCB zda (zac (mOp vIx (zah 1) (mC (.int 1))) (zac (mC (.ty "tuple")) zan))))) (zcL (zct (mOp vIx (zah 1) (mC (.int 1)))))))
  (zaZ (mC (.bl false)))
  mNx) (zaZ (zaw (zen K) W (zac (zah 0) (zac (mOp vIx (zah 1) (mC (.int 1))) (zac (zfa K (zah 0) "sources") zan))))))))))
theorem zju:FnScope ["program", "value"] ["program", "value"] (defScope zeO):=⟨rfl,rfl,rfl,by decide +kernel,rfl,by decide +kernel,by decide +kernel⟩
def zcX (K:PySem.W.Frag):SpD:=spB 2 0 (zgY K)
theorem zfM (T:Tu fac fns zcW PG_.main.file zc4 tabs eqs gts prs sqs nos isl w K mg):Fd PG_ w K mg base 6 (He.ga K "is_deed") (zcX K):=by
 obtain ⟨fd,F⟩:=T.df 26 (d:=zhq)
 have bi:Binds K fd ["program", "value"] []:=FunD.bindsN F fun _ _ _ _ _ _ us hl=>match us,hl with | [_,_],_=>by kernel_rfl
 refine zaV (k:=5) F zju bi rfl rfl fun cdv A outer s H E hr X eX W tk po=>?_
 subst eX
 unfold zgY
 exact (zad (zaB (MW.mt (zbN (zaL (zaJ (zao za6 (zaa (zab 1 (pv 1)) (zaa (zbK (T.free 9) boot_tuple) zae)) fun h1 h2=>pe_callB h1 rfl (T.free 13) boot_isinstance h2))) (zbN (zaL (zaJ (zab 1 (pv 1)))) (zbn (zaL (zaJ (zao za6 (zaa (zal (hu1 hr) (zab 1 (pv 1)) zaf) (zaa (zbK (T.free 12) boot_str) zae)) fun h1 h2=>pe_callB h1 rfl (T.free 13) boot_isinstance h2)))))))
  (zag (zar zaO))
  zap)
  (zad (zaB (zat (zbh (zb5 hr)) (zal (hu1 hr) (zab 1 (pv 1)) zaf) zak)
  (zag (zar (zaA (zeA T) (hr.mono (by omega)) tk (T.glo 33) (zaa (zab 0 (pv 0)) (zaa (zii (zab 1 (pv 1)) (zeC zaf) zeD) (zaa (zbb (zab 0 (pv 0))) zae))))))
  zap)
  (zad (zaB (zat (zei (zb5 hr)) (zao za8 (zaa (zab 1 (pv 1)) zae) fun h1 h2=>pe_callB h1 rfl (T.free 1) boot_len h2) zaf)
  (zag (zar zaO))
  zap)
  (zad (zaB (zat (zbh (zb5 hr)) (zal (hu1 hr) (zab 1 (pv 1)) zaf) zak)
  (zag (zar (zdy (zao za6 (zaa (zal (hu1 hr) (zab 1 (pv 1)) zaf) (zaa (zbK (T.free 12) boot_str) zae)) fun h1 h2=>pe_callB h1 rfl (T.free 13) boot_isinstance h2) (zeE (zb0 (zfz (zhn hr)) (zal (hu1 hr) (zab 1 (pv 1)) zaf) (zi9 (zab 0 (pv 0)) (T.cls 31) (T.meth 34) (zgt T) (hr.mono (by omega)) tk))))))
  zap)
  (zad (zaB (MW.mt (zbN (zat (zei (zb5 hr)) (zal (hu1 hr) (zab 1 (pv 1)) zaf) zak) (zbN (zaL (zaJ (zao za6 (zaa (zal (hu1 hr) (zab 1 (pv 1)) zaf) (zaa (zbK (T.free 9) boot_tuple) zae)) fun h1 h2=>pe_callB h1 rfl (T.free 13) boot_isinstance h2))) (zbn (zaL (zaJ (zal (hu1 hr) (zab 1 (pv 1)) zaf)))))))
  (zag (zar zaO))
  zap)
  (zag (zar (zaA (zib T) (hr.mono (by omega)) tk (T.glo 35) (zaa (zab 0 (pv 0)) (zaa (zal (hu1 hr) (zab 1 (pv 1)) zaf) (zaa (zbb (zab 0 (pv 0))) zae)))))))))))
def zfj (K:PySem.W.Frag) (W:XW):SM:=
 (zav (mIf (mOr (zcL (zct (mCB zda (zac (zah 1) (zac (mC (.ty "tuple")) zan))))) (mOr (mB (mOp vNe (mCB zcJ (zac (zah 1) zan)) (mC (.int 2)))) (zcL (zct (mCB zda (zac (mOp vIx (zah 1) (mC (.int 0))) (zac (mC (.ty "str")) zan)))))))
  (zaZ (mC (.bl false)))
  mNx) (zaZ (zeG (mOp vIn (mOp vIx (zah 1) (mC (.int 0))) (mOp vIx (zah 0) (mC (.int 1)))) (zeG (mCB zda (zac (mOp vIx (zah 1) (mC (.int 1))) (zac (mC (.ty "str")) zan))) (mOp vIn (mOp vIx (zah 1) (mC (.int 1))) (mOp vIx (zah 0) (mC (.int 0))))))))
theorem zh3:FnScope ["_law_parts_here", "_law_value"] ["_law_parts_here", "_law_value"] (defScope zdh):=⟨rfl,rfl,rfl,by decide +kernel,rfl,by decide +kernel,by decide +kernel⟩
def zdr (K:PySem.W.Frag):SpD:=spB 2 0 (zfj K)
theorem zf2 (T:Tu fac fns zcW PG_.main.file zc4 tabs eqs gts prs sqs nos isl w K mg):Fd PG_ w K mg base 2 (He.ga K "_law_pair") (zdr K):=by
 obtain ⟨fd,F⟩:=T.df 27 (d:=zgi)
 have bi:Binds K fd ["_law_parts_here", "_law_value"] []:=FunD.bindsN F fun _ _ _ _ _ _ us hl=>match us,hl with | [_,_],_=>by kernel_rfl
 refine zaV (k:=1) F zh3 bi rfl rfl fun cdv A outer s H E hr X eX W tk po=>?_
 subst eX
 unfold zfj
 exact (zad (zaB (MW.mt (zbN (zaL (zaJ (zao za6 (zaa (zab 1 (pv 1)) (zaa (zbK (T.free 9) boot_tuple) zae)) fun h1 h2=>pe_callB h1 rfl (T.free 13) boot_isinstance h2))) (zbN (zat (zei (zb5 hr)) (zao za8 (zaa (zab 1 (pv 1)) zae) fun h1 h2=>pe_callB h1 rfl (T.free 1) boot_len h2) zaf) (zbn (zaL (zaJ (zao za6 (zaa (zal (hu1 hr) (zab 1 (pv 1)) zaf) (zaa (zbK (T.free 12) boot_str) zae)) fun h1 h2=>pe_callB h1 rfl (T.free 13) boot_isinstance h2)))))))
  (zag (zar zaO))
  zap)
  (zag (zar (zdy (zb0 (zfz (zhn hr)) (zal (hu1 hr) (zab 1 (pv 1)) zaf) (zal (hu1 hr) (zab 0 (pv 0)) zaf)) (zdy (zao za6 (zaa (zal (hu1 hr) (zab 1 (pv 1)) zaf) (zaa (zbK (T.free 12) boot_str) zae)) fun h1 h2=>pe_callB h1 rfl (T.free 13) boot_isinstance h2) (zeE (zb0 (zfz (zhn hr)) (zal (hu1 hr) (zab 1 (pv 1)) zaf) (zal (hu1 hr) (zab 0 (pv 0)) zaf))))))))
def zfm (K:PySem.W.Frag) (W:XW):SM:=
 (zav (mIf (mOr (zcL (zct (mCB zda (zac (zah 1) (zac (mC (.ty "tuple")) zan))))) (mOr (mB (mOp vEq (mCB zcJ (zac (zah 1) zan)) (mC (.int 0)))) (zcL (zct (mCB zda (zac (mOp vIx (zah 1) (mC (.int 0))) (zac (mC (.ty "str")) zan)))))))
  (zaZ (mC (.bl false)))
  mNx) (zav (mIf (mB (mOp vEq (mOp vIx (zah 1) (mC (.int 0))) (mC (.str "write"))))
  (zaZ (zaw (zdr K) W (zac (zah 0) (zac (mSl (zah 1) (mP (mC (.int 1))) zks) zan))))
  mNx) (zav (mIf (mB (mOp vNe (mCB zcJ (zac (zah 1) zan)) (mC (.int 2))))
  (zaZ (mC (.bl false)))
  mNx) (zav (mIf (mB (mOp vEq (mOp vIx (zah 1) (mC (.int 0))) (mC (.str "read"))))
  (zav (zaP (mOp zb6 (mCB zem (zac (mOp vIx (zah 0) (mC (.int 1))) zan)) (mLc (zek (mOp vIx (zah 0) (mC (.int 2)))) (gNm 3) zgL (mOp vIx (zah 3) (mC (.int 0))) [3])) (gNm 2)) (zaZ (zeG (mCB zda (zac (mOp vIx (zah 1) (mC (.int 1))) (zac (mC (.ty "str")) zan))) (mOp vIn (mOp vIx (zah 1) (mC (.int 1))) (zah 2)))))
  mNx) (zav (mIf (mOr (mB (mOp vNe (mOp vIx (zah 1) (mC (.int 0))) (mC (.str "batch")))) (mOr (zcL (zct (mCB zda (zac (mOp vIx (zah 1) (mC (.int 1))) (zac (mC (.ty "tuple")) zan))))) (mB (mOp vEq (mCB zcJ (zac (mOp vIx (zah 1) (mC (.int 1))) zan)) (mC (.int 0))))))
  (zaZ (mC (.bl false)))
  mNx) (zav (zaP (zfs zan) (gNm 4)) (zav (zej (zek (mOp vIx (zah 1) (mC (.int 1)))) (gNm 3)
  (zav (mIf (mOr (zcL (zct (zaw (zdr K) W (zac (zah 0) (zac (zah 3) zan))))) (mB (mOp vIn (mOp vIx (zah 3) (mC (.int 0))) (zah 4))))
  (zaZ (mC (.bl false)))
  mNx) (zcF (zfO okL zgv (zah 4) (zac (mOp vIx (zah 3) (mC (.int 0))) zan))))) (zaZ (mC (.bl true))))))))))
theorem zbY:FnScope ["_law_parts_here", "_law_value", "_law_cells", "_law_pair_here", "_law_seen"] ["_law_parts_here", "_law_value"] (defScope zdk):=⟨rfl,rfl,rfl,by decide +kernel,rfl,by decide +kernel,by decide +kernel⟩
def zep (K:PySem.W.Frag):SpD:=spB 2 3 (zfm K)
theorem zie (T:Tu fac fns zcW PG_.main.file zc4 tabs eqs gts prs sqs nos isl w K mg):Fd PG_ w K mg base 4 (He.ga K "_law_good") (zep K):=by
 obtain ⟨fd,F⟩:=T.df 28 (d:=zgl)
 have bi:Binds K fd ["_law_parts_here", "_law_value"] []:=FunD.bindsN F fun _ _ _ _ _ _ us hl=>match us,hl with | [_,_],_=>by kernel_rfl
 refine zaV (k:=3) F zbY bi rfl rfl fun cdv A outer s H E hr X eX W tk po=>?_
 subst eX
 unfold zfm
 exact (zad (zaB (MW.mt (zbN (zaL (zaJ (zao za6 (zaa (zab 1 (pv 1)) (zaa (zbK (T.free 9) boot_tuple) zae)) fun h1 h2=>pe_callB h1 rfl (T.free 13) boot_isinstance h2))) (zbN (zat (zbh (zb5 hr)) (zao za8 (zaa (zab 1 (pv 1)) zae) fun h1 h2=>pe_callB h1 rfl (T.free 1) boot_len h2) zaf) (zbn (zaL (zaJ (zao za6 (zaa (zal (hu1 hr) (zab 1 (pv 1)) zaf) (zaa (zbK (T.free 12) boot_str) zae)) fun h1 h2=>pe_callB h1 rfl (T.free 13) boot_isinstance h2)))))))
  (zag (zar zaO))
  zap)
  (zad (zaB (zat (zbh (zb5 hr)) (zal (hu1 hr) (zab 1 (pv 1)) zaf) zak)
  (zag (zar (zaA (zf2 T) (hr.mono (by omega)) tk (T.glo 36) (zaa (zab 0 (pv 0)) (zaa (zii (zab 1 (pv 1)) (zeC zaf) zeD) zae)))))
  zap)
  (zad (zaB (zat (zei (zb5 hr)) (zao za8 (zaa (zab 1 (pv 1)) zae) fun h1 h2=>pe_callB h1 rfl (T.free 1) boot_len h2) zaf)
  (zag (zar zaO))
  zap)
  (zad (zaB (zat (zbh (zb5 hr)) (zal (hu1 hr) (zab 1 (pv 1)) zaf) zak)
  (zad (zas (i:=2) (zaF zaK (zaN zdF (zaa (zal (hu1 hr) (zab 0 (pv 0)) zaf) zae) fun h1 h2=>pe_callTy h1 rfl (T.free 0) boot_list h2) (zko rfl zbY.nd (zaX (zal (hu1 hr) (zab 0 (pv 0)) zaf)) (own:=[("_law_pair_here", 3)]) (blkOk_by (by kernel_rfl)) zfJ (fun _ _ _ _ _=>pg_name zbY.nd rfl (by nofun)) (fun _ _ _ _ _=>zbO) (fun _ _ _ _ _=>(zal (hu1 hr) (zab 3 (pv 3)) zaf)))) fun h=>ps_set zbY.nd rfl (by nofun) h)
  (zag (zar (zdy (zao za6 (zaa (zal (hu1 hr) (zab 1 (pv 1)) zaf) (zaa (zbK (T.free 12) boot_str) zae)) fun h1 h2=>pe_callB h1 rfl (T.free 13) boot_isinstance h2) (zeE (zb0 (zfz (zhn hr)) (zal (hu1 hr) (zab 1 (pv 1)) zaf) (zab 2 (pv 2))))))))
  zap)
  (zad (zaB (MW.mt (zbN (zat (zei (zb5 hr)) (zal (hu1 hr) (zab 1 (pv 1)) zaf) zak) (zbN (zaL (zaJ (zao za6 (zaa (zal (hu1 hr) (zab 1 (pv 1)) zaf) (zaa (zbK (T.free 9) boot_tuple) zae)) fun h1 h2=>pe_callB h1 rfl (T.free 13) boot_isinstance h2))) (zbn (zat (zbh (zb5 hr)) (zao za8 (zaa (zal (hu1 hr) (zab 1 (pv 1)) zaf) zae) fun h1 h2=>pe_callB h1 rfl (T.free 1) boot_len h2) zaf)))))
  (zag (zar zaO))
  zap)
  (zad (zas (i:=4) (zbo zae) fun h=>ps_set zbY.nd rfl (by nofun) h)
  (zad (zaW po rfl (zaX (zal (hu1 hr) (zab 1 (pv 1)) zaf)) (zaG (pg_name zbY.nd rfl (by nofun)))
  (zad (zaB (MW.mt (zbN (zaL (zaJ (zaA (zf2 T) (hr.mono (by omega)) tk (T.glo 36) (zaa (zab 0 (pv 0)) (zaa (zab 3 (pv 3)) zae))))) (zbn (zat (zfz (zhn hr)) (zal (hu1 hr) (zab 3 (pv 3)) zaf) (zab 4 (pv 4))))))
  (zag (zar zaO))
  zap)
  (zag (zba (zaR (zab 4 (pv 4)) (zaa (zal (hu1 hr) (zab 3 (pv 3)) zaf) zae))))) (fun h1 h2 h3=>ps_for po rfl h1 h2 h3))
  (zag (zar zaO)))))))))
def zcn (K:PySem.W.Frag) (W:XW):SM:=
 (zav (zaP (zaw (zcU K) W (zac (zah 0) zan)) (gNm 1)) (zav (zaP (zaw (zaj K) W (zac (zah 1) (zac (mC (.int 6)) zan))) (gNm 2)) (zav (zaP (zaw (zdT K) W (zac (zah 1) (zac (zfs (zac (mC (.int 3)) (zac (mC (.int 4)) (zac (mC (.int 6)) (zac (mC (.int 4)) (zac (mC (.int 15)) zan)))))) (zac (mC (.bl true)) (zac (mC (.bl true)) zan))))) (gNm 3)) (zav (zaP (zgM (He.ga K "Program") (zck K) W (zac (mOp vIx (zah 3) (mC (.int 0))) (zac (mOp vIx (zah 3) (mC (.int 1))) (zac (mOp vIx (zah 3) (mC (.int 2))) (zac (mOp vIx (zah 3) (mC (.int 3))) zan))))) (gNm 4)) (zav (zej (zce (zac (mC (.int 2)) zan)) (gNm 5)
  (zav (zaP (zil (zdR K) W 1 0 (fun ds ws=>ds++weave [false] [.bl true] ws) (zac (zah 4) zan) zan) (gNm 6)) (zav (mIf (mOr (zcL (zct (mCB zda (zac (zah 6) (zac (mC (.ty "list")) zan))))) (mB (mOp vNe (zah 6) (zaw (zbP K) W (zac (zah 3) (zac (mC (.bl true)) zan))))))
  (zaZ (mC (.bl false)))
  mNx) (zav (zcF (zfO okL zgv (zah 6) (zac (mC .non) zan))) (mIf (mB (mOp vNe (zil (zdR K) W 1 1 (fun ds ws=>ds++weave [true] [] ws) (zac (zah 4) zan) (zac (mOp vEq (zah 5) (mC (.int 1))) zan)) (zaw (zbP K) W (zac (zah 3) (zac (mOp vEq (zah 5) (mC (.int 1))) zan)))))
  (zaZ (mC (.bl false)))
  mNx))))) (zav (zej (zek (zaw (zbP K) W (zac (zah 3) (zac (mC (.bl true)) zan)))) (gNm 7)
  (mIf (mB (mOp zg7 (zaw (zcX K) W (zac (zah 4) (zac (zah 7) zan))) (mC (.bl true))))
  (zaZ (mC (.bl false)))
  mNx)) (zav (zej (zce (zac (zah 2) zan)) (gNm 5)
  (zav (zaP (zaw (zeq K) W (zac (zah 1) (zac (zah 3) zan))) (gNm 7)) (zav (zaP (zaw (ze2 K) W (zac (zah 1) (zac (zah 3) (zac (zah 7) zan)))) (gNm 8)) (zav (zaP (zaw (zcX K) W (zac (zah 4) (zac (zah 8) zan))) (gNm 6)) (zav (mIf (mOr (zcL (zct (mCB zda (zac (zah 6) (zac (mC (.ty "bool")) zan))))) (mB (mOp vNe (zah 6) (zaw (zep K) W (zac (zah 3) (zac (zah 8) zan))))))
  (zaZ (mC (.bl false)))
  mNx) (mIf (mB (mOp zg7 (zaw (zcX K) W (zac (zah 4) (zac (zah 7) zan))) (mC (.bl true))))
  (zaZ (mC (.bl false)))
  mNx)))))) (zaZ (mC (.bl true))))))))))
theorem zay:FnScope ["_law_script", "_law_state_here", "_law_many_here", "_law_parts_here", "_law_program", "_law_turn", "_law_found", "_law_deed_here", "_law_bad_here"] ["_law_script"] (defScope zbB):=⟨rfl,rfl,rfl,by decide +kernel,rfl,by decide +kernel,by decide +kernel⟩
def zcb (K:PySem.W.Frag):SpD:=spB 1 8 (zcn K)
theorem zfx (T:Tu fac fns zcW PG_.main.file zc4 tabs eqs gts prs sqs nos isl w K mg):Fd PG_ w K mg base 20 (He.ga K "_law_first_part") (zcb K):=by
 obtain ⟨fd,F⟩:=T.df 29 (d:=zdz)
 have bi:Binds K fd ["_law_script"] []:=FunD.bindsN F fun _ _ _ _ _ _ us hl=>match us,hl with | [_],_=>by kernel_rfl
 refine zaV (k:=19) F zay bi rfl rfl fun cdv A outer s H E hr X eX W tk po=>?_
 subst eX
 unfold zcn
 exact (zad (zas (i:=1) (zaA (zfw T) (hr.mono (by omega)) tk (T.glo 37) (zaa (zab 0 (pv 0)) zae)) fun h=>ps_set zay.nd rfl (by nofun) h)
  (zad (zas (i:=2) (zaA (zam T) (hr.mono (by omega)) tk (T.glo 4) (zaa (zab 1 (pv 1)) (zaa zaf zae))) fun h=>ps_set zay.nd rfl (by nofun) h)
  (zad (zas (i:=3) (zaA (zhG T) (hr.mono (by omega)) tk (T.glo 38) (zaa (zab 1 (pv 1)) (zaa (zbo (zaa zaf (zaa zaf (zaa zaf (zaa zaf (zaa zaf zae)))))) (zaa zaO (zaa zaO zae))))) fun h=>ps_set zay.nd rfl (by nofun) h)
  (zad (zas (i:=4) (ze9 (T.mkr 39) (zfN T) (hr.mono (by omega)) tk (T.glo 40) (zaa (zal (hu1 hr) (zab 3 (pv 3)) zaf) (zaa (zal (hu1 hr) (zab 3 (pv 3)) zaf) (zaa (zal (hu1 hr) (zab 3 (pv 3)) zaf) (zaa (zal (hu1 hr) (zab 3 (pv 3)) zaf) zae))))) fun h=>ps_set zay.nd rfl (by nofun) h)
  (zad (zaW po rfl (zbF (zaa zaf zae) fun h=>pi_range1 rfl (T.free 5) h) (zaG (pg_name zay.nd rfl (by nofun)))
  (zad (zas (i:=6) (zmr (zjA T) (hr.mono (by omega)) tk (T.glo 41) (zaa (zab 4 (pv 4)) zae) zmp) fun h=>ps_set zay.nd rfl (by nofun) h)
  (zad (zaB (MW.mt (zbN (zaL (zaJ (zao za6 (zaa (zab 6 (pv 6)) (zaa (zbK (T.free 0) boot_list) zae)) fun h1 h2=>pe_callB h1 rfl (T.free 13) boot_isinstance h2))) (zbn (zat (zei (zb5 hr)) (zab 6 (pv 6)) (zaA (zdC T) (hr.mono (by omega)) tk (T.glo 42) (zaa (zab 3 (pv 3)) (zaa zaO zae)))))))
  (zag (zar zaO))
  zap)
  (zad (zba (zaR (zab 6 (pv 6)) (zaa zec zae)))
  (zag (zaB (zat (zei (zb5 hr)) (zmr (zjz T) (hr.mono (by omega)) tk (T.glo 41) (zaa (zab 4 (pv 4)) zae) (zn1 (zb0 (zbh (zb5 hr)) (zab 5 (pv 5)) zaf) zmp)) (zaA (zdC T) (hr.mono (by omega)) tk (T.glo 42) (zaa (zab 3 (pv 3)) (zaa (zb0 (zbh (zb5 hr)) (zab 5 (pv 5)) zaf) zae))))
  (zag (zar zaO))
  zap))))) (fun h1 h2 h3=>ps_for po rfl h1 h2 h3))
  (zad (zaW po rfl (zaX (zaA (zdC T) (hr.mono (by omega)) tk (T.glo 42) (zaa (zab 3 (pv 3)) (zaa zaO zae)))) (zaG (pg_name zay.nd rfl (by nofun)))
  (zag (zaB (zat zfy (zaA (zfM T) (hr.mono (by omega)) tk (T.glo 43) (zaa (zab 4 (pv 4)) (zaa (zab 7 (pv 7)) zae))) zaO)
  (zag (zar zaO))
  zap)) (fun h1 h2 h3=>ps_for po rfl h1 h2 h3))
  (zad (zaW po rfl (zbF (zaa (zab 2 (pv 2)) zae) fun h=>pi_range1 rfl (T.free 5) h) (zaG (pg_name zay.nd rfl (by nofun)))
  (zad (zas (i:=7) (zaA (zif T) (hr.mono (by omega)) tk (T.glo 44) (zaa (zab 1 (pv 1)) (zaa (zab 3 (pv 3)) zae))) fun h=>ps_set zay.nd rfl (by nofun) h)
  (zad (zas (i:=8) (zaA (ziB T) (hr.mono (by omega)) tk (T.glo 45) (zaa (zab 1 (pv 1)) (zaa (zab 3 (pv 3)) (zaa (zab 7 (pv 7)) zae)))) fun h=>ps_set zay.nd rfl (by nofun) h)
  (zad (zas (i:=6) (zaA (zfM T) (hr.mono (by omega)) tk (T.glo 43) (zaa (zab 4 (pv 4)) (zaa (zab 8 (pv 8)) zae))) fun h=>ps_set zay.nd rfl (by nofun) h)
  (zad (zaB (MW.mt (zbN (zaL (zaJ (zao za6 (zaa (zab 6 (pv 6)) (zaa (zbK (T.free 47) boot_bool) zae)) fun h1 h2=>pe_callB h1 rfl (T.free 13) boot_isinstance h2))) (zbn (zat (zei (zb5 hr)) (zab 6 (pv 6)) (zaA (zie T) (hr.mono (by omega)) tk (T.glo 46) (zaa (zab 3 (pv 3)) (zaa (zab 8 (pv 8)) zae)))))))
  (zag (zar zaO))
  zap)
  (zag (zaB (zat zfy (zaA (zfM T) (hr.mono (by omega)) tk (T.glo 43) (zaa (zab 4 (pv 4)) (zaa (zab 7 (pv 7)) zae))) zaO)
  (zag (zar zaO))
  zap)))))) (fun h1 h2 h3=>ps_for po rfl h1 h2 h3))
  (zag (zar zaO)))))))))
def zfh (K:PySem.W.Frag) (W:XW):SM:=
 (zav (zaP (mOp vIx (zfs (zac (mC (.str "push")) (zac (mC (.str "pull")) (zac (mC (.str "level")) zan)))) (zaw (zaj K) W (zac (zah 0) (zac (mC (.int 3)) zan)))) (gNm 1)) (zav (zaP (mOp vEq (zaw (zaj K) W (zac (zah 0) (zac (mC (.int 2)) zan))) (mC (.int 1))) (gNm 2)) (zaZ (zbu (zac (zah 1) (zac (zah 2) (zac (mOp vIx (zfs (zac (mC (.str "once")) (zac (mC (.str "later")) zan))) (zaw (zaj K) W (zac (zah 0) (zac (mC (.int 2)) zan)))) zan)))))))
theorem zeu:FnScope ["_law_state_here", "_law_mode", "_law_cut"] ["_law_state_here"] (defScope zdf):=⟨rfl,rfl,rfl,by decide +kernel,rfl,by decide +kernel,by decide +kernel⟩
def zdq (K:PySem.W.Frag):SpD:=spB 1 2 (zfh K)
theorem zf0 (T:Tu fac fns zcW PG_.main.file zc4 tabs eqs gts prs sqs nos isl w K mg):Fd PG_ w K mg base 4 (He.ga K "_law_rule") (zdq K):=by
 obtain ⟨fd,F⟩:=T.df 30 (d:=zgg)
 have bi:Binds K fd ["_law_state_here"] []:=FunD.bindsN F fun _ _ _ _ _ _ us hl=>match us,hl with | [_],_=>by kernel_rfl
 refine zaV (k:=3) F zeu bi rfl rfl fun cdv A outer s H E hr X eX W tk po=>?_
 subst eX
 unfold zfh
 exact (zad (zas (i:=1) (zal (hu1 hr) (zbo (zaa zak (zaa zak (zaa zak zae)))) (zaA (zam T) (hr.mono (by omega)) tk (T.glo 4) (zaa (zab 0 (pv 0)) (zaa zaf zae)))) fun h=>ps_set zeu.nd rfl (by nofun) h)
  (zad (zas (i:=2) (zb0 (zbh (zb5 hr)) (zaA (zam T) (hr.mono (by omega)) tk (T.glo 4) (zaa (zab 0 (pv 0)) (zaa zaf zae))) zaf) fun h=>ps_set zeu.nd rfl (by nofun) h)
  (zag (zar (zau (zaa (zab 1 (pv 1)) (zaa (zab 2 (pv 2)) (zaa (zal (hu1 hr) (zbo (zaa zak (zaa zak zae))) (zaA (zam T) (hr.mono (by omega)) tk (T.glo 4) (zaa (zab 0 (pv 0)) (zaa zaf zae)))) zae))))))))
def zeM (K:PySem.W.Frag) (W:XW):SM:=
 (zav (mIf (mOr (zcL (zct (mCB zda (zac (mOp vIx (zah 0) (mC (.int 0))) (zac (mC (.ty "str")) zan))))) (mB (mOp zhZ (mOp vIx (zah 0) (mC (.int 0))) (zfs (zac (mC (.str "push")) (zac (mC (.str "pull")) (zac (mC (.str "level")) zan)))))))
  (zaZ (mC (.str "mode")))
  mNx) (zav (mIf (zcL (zct (mCB zda (zac (mOp vIx (zah 0) (mC (.int 1))) (zac (mC (.ty "bool")) zan)))))
  (zaZ (mC (.str "cut")))
  mNx) (zav (mIf (mOr (zcL (zct (mCB zda (zac (mOp vIx (zah 0) (mC (.int 2))) (zac (mC (.ty "str")) zan))))) (mB (mOp zhZ (mOp vIx (zah 0) (mC (.int 2))) (zfs (zac (mC (.str "once")) (zac (mC (.str "later")) zan))))))
  (zaZ (mC (.str "inner")))
  mNx) (zaZ (mC .non)))))
theorem zhx:FnScope ["_law_parts_here"] ["_law_parts_here"] (defScope zcS):=⟨rfl,rfl,rfl,by decide +kernel,rfl,by decide +kernel,by decide +kernel⟩
def zdU (K:PySem.W.Frag):SpD:=spB 1 0 (zeM K)
theorem zhH (T:Tu fac fns zcW PG_.main.file zc4 tabs eqs gts prs sqs nos isl w K mg):Fd PG_ w K mg base 2 (He.ga K "_law_fault") (zdU K):=by
 obtain ⟨fd,F⟩:=T.df 31 (d:=zfH)
 have bi:Binds K fd ["_law_parts_here"] []:=FunD.bindsN F fun _ _ _ _ _ _ us hl=>match us,hl with | [_],_=>by kernel_rfl
 refine zaV (k:=1) F zhx bi rfl rfl fun cdv A outer s H E hr X eX W tk po=>?_
 subst eX
 unfold zeM
 exact (zad (zaB (MW.mt (zbN (zaL (zaJ (zao za6 (zaa (zal (hu1 hr) (zab 0 (pv 0)) zaf) (zaa (zbK (T.free 12) boot_str) zae)) fun h1 h2=>pe_callB h1 rfl (T.free 13) boot_isinstance h2))) (zbn (zat (zgw (zhn hr)) (zal (hu1 hr) (zab 0 (pv 0)) zaf) (zbo (zaa zak (zaa zak (zaa zak zae))))))))
  (zag (zar zak))
  zap)
  (zad (zaB (zaL (zaJ (zao za6 (zaa (zal (hu1 hr) (zab 0 (pv 0)) zaf) (zaa (zbK (T.free 47) boot_bool) zae)) fun h1 h2=>pe_callB h1 rfl (T.free 13) boot_isinstance h2)))
  (zag (zar zak))
  zap)
  (zad (zaB (MW.mt (zbN (zaL (zaJ (zao za6 (zaa (zal (hu1 hr) (zab 0 (pv 0)) zaf) (zaa (zbK (T.free 12) boot_str) zae)) fun h1 h2=>pe_callB h1 rfl (T.free 13) boot_isinstance h2))) (zbn (zat (zgw (zhn hr)) (zal (hu1 hr) (zab 0 (pv 0)) zaf) (zbo (zaa zak (zaa zak zae)))))))
  (zag (zar zak))
  zap)
  (zag (zar zec)))))
def zd3 (K:PySem.W.Frag) (W:XW):SM:=
 (zav (mIf (mOr (zcL (zct (mCB zda (zac (zah 1) (zac (mC (.ty "str")) zan))))) (mB (ziH ["push", "pull", "level"] (fun b=>!b) (zah 1))))
  (zja (He.ga K "InvalidRule") "part" W (zac (mC (.str "mode")) zan))
  mNx) (zav (mIf (zcL (zct (mCB zda (zac (zah 2) (zac (mC (.ty "bool")) zan)))))
  (zja (He.ga K "InvalidRule") "part" W (zac (mC (.str "cut")) zan))
  mNx) (zav (mIf (mOr (zcL (zct (mCB zda (zac (zah 3) (zac (mC (.ty "str")) zan))))) (mB (ziH ["once", "later"] (fun b=>!b) (zah 3))))
  (zja (He.ga K "InvalidRule") "part" W (zac (mC (.str "inner")) zan))
  mNx) (zav (zfC K (zah 0) (zah 1) "mode") (zav (zfC K (zah 0) (zah 2) "cut") (zfC K (zah 0) (zah 3) "inner"))))))
theorem zg2:FnScope ["self", "mode", "cut", "inner"] ["self", "mode", "cut", "inner"] (defScope zcq):=⟨rfl,rfl,rfl,by decide +kernel,rfl,by decide +kernel,by decide +kernel⟩
def zbg (K:PySem.W.Frag):SpD:=spB 4 0 (zd3 K)
theorem zcs (T:Tu fac fns zcW PG_.main.file zc4 tabs eqs gts prs sqs nos isl w K mg):Fd PG_ w K mg base 4 (He.ma K (He.ga K "Rule") "__init__") (zbg K):=by
 obtain ⟨fd,F⟩:=T.df 32 (d:=zeZ)
 have bi:Binds K fd ["self", "mode", "cut", "inner"] []:=FunD.bindsN F fun _ _ _ _ _ _ us hl=>match us,hl with | [_,_,_,_],_=>by kernel_rfl
 refine zaV (k:=3) F zg2 bi rfl rfl fun cdv A outer s H E hr X eX W tk po=>?_
 subst eX
 unfold zd3
 exact (zad (zaB (MW.mt (zbN (zaL (zaJ (zao za6 (zaa (zab 1 (pv 1)) (zaa (zbK (T.free 12) boot_str) zae)) fun h1 h2=>pe_callB h1 rfl (T.free 13) boot_isinstance h2))) (zbn (zhg (zhn hr) (T.gt 0 (x := "MODES")) (T.glo 48) (zab 1 (pv 1))))))
  (zag (zhM rfl tk (hr.mono (by omega)) (zbR T) (zaa zak zae)))
  zap)
  (zad (zaB (zaL (zaJ (zao za6 (zaa (zab 2 (pv 2)) (zaa (zbK (T.free 47) boot_bool) zae)) fun h1 h2=>pe_callB h1 rfl (T.free 13) boot_isinstance h2)))
  (zag (zhM rfl tk (hr.mono (by omega)) (zbR T) (zaa zak zae)))
  zap)
  (zad (zaB (MW.mt (zbN (zaL (zaJ (zao za6 (zaa (zab 3 (pv 3)) (zaa (zbK (T.free 12) boot_str) zae)) fun h1 h2=>pe_callB h1 rfl (T.free 13) boot_isinstance h2))) (zbn (zhg (zhn hr) (T.gt 1 (x := "INNERS")) (T.glo 49) (zab 3 (pv 3))))))
  (zag (zhM rfl tk (hr.mono (by omega)) (zbR T) (zaa zak zae)))
  zap)
  (zad (zeB (zab 0 (pv 0)) (zab 1 (pv 1)))
  (zad (zeB (zab 0 (pv 0)) (zab 2 (pv 2)))
  (zag (zeB (zab 0 (pv 0)) (zab 3 (pv 3)))))))))
def zfp (K:PySem.W.Frag) (W:XW):SM:=
 (zav (mIf (zcL (zct (mCB (zo0 (He.ga K "Rule")) (zac (zah 1) (zac (mC (.ref (He.ga K "Rule"))) zan)))))
  (zaZ (mC (.bl false)))
  mNx) (zaZ (zeG (mOp vEq (zfa K (zah 0) "mode") (zfa K (zah 1) "mode")) (zeG (mOp vEq (zfa K (zah 0) "cut") (zfa K (zah 1) "cut")) (mOp vEq (zfa K (zah 0) "inner") (zfa K (zah 1) "inner"))))))
theorem zh4:FnScope ["self", "other"] ["self", "other"] (defScope zdn):=⟨rfl,rfl,rfl,by decide +kernel,rfl,by decide +kernel,by decide +kernel⟩
def zdt (K:PySem.W.Frag):SpD:=spB 2 0 (zfp K)
theorem zf5 (T:Tu fac fns zcW PG_.main.file zc4 tabs eqs gts prs sqs nos isl w K mg):Fd PG_ w K mg base 2 (He.ma K (He.ga K "Rule") "__eq__") (zdt K):=by
 obtain ⟨fd,F⟩:=T.df 33 (d:=zgo)
 have bi:Binds K fd ["self", "other"] []:=FunD.bindsN F fun _ _ _ _ _ _ us hl=>match us,hl with | [_,_],_=>by kernel_rfl
 refine zaV (k:=1) F zh4 bi rfl rfl fun cdv A outer s H E hr X eX W tk po=>?_
 subst eX
 unfold zfp
 exact (zad (zaB (zaL (zaJ (zao (zrW (T.isc 0 51)) (zaa (zab 1 (pv 1)) (zaa (zn3 (T.glo 50)) zae)) fun h1 h2=>pe_callB h1 rfl (T.free 13) boot_isinstance h2)))
  (zag (zar zaO))
  zap)
  (zag (zar (zdy (zb0 (zbh (zb5 hr)) (zbb (zab 0 (pv 0))) (zbb (zab 1 (pv 1)))) (zdy (zb0 (zbh (zb5 hr)) (zbb (zab 0 (pv 0))) (zbb (zab 1 (pv 1)))) (zeE (zb0 (zbh (zb5 hr)) (zbb (zab 0 (pv 0))) (zbb (zab 1 (pv 1))))))))))
def zfg (K:PySem.W.Frag) (W:XW):SM:=
 (zaZ (zr7 (iGT ["push", "pull", "level"]) (gNm 0) zgL (zek (zbu (zac (mC (.bl false)) (zac (mC (.bl true)) zan)))) (gNm 1) zgL (iGT ["once", "later"]) (gNm 2) zgL (zgM (He.ga K "Rule") (zbg K) WN (zac (zah 0) (zac (zah 1) (zac (zah 2) zan)))) [0,1,2] [1,2] [2]))
theorem zcw:FnScope ["mode", "cut", "inner"] [] (defScope zde):=⟨rfl,rfl,rfl,by decide +kernel,rfl,by decide +kernel,by decide +kernel⟩
def zeo (K:PySem.W.Frag):SpD:=spB 0 3 (zfg K)
theorem zid (T:Tu fac fns zcW PG_.main.file zc4 tabs eqs gts prs sqs nos isl w K mg):Fd PG_ w K mg base 6 (He.ga K "all_rules") (zeo K):=by
 obtain ⟨fd,F⟩:=T.df 34 (d:=zgf)
 have bi:Binds K fd [] []:=FunD.bindsN F fun _ _ _ _ _ _ us hl=>match us,hl with | [],_=>by kernel_rfl
 refine zaV (k:=5) F zcw bi rfl rfl fun cdv A outer s H E hr X eX W tk po=>?_
 subst eX
 unfold zfg
 exact (zag (zar (zq5 rfl zcw.nd (zkl (T.gt 0 (x := "MODES")) (T.glo 48)) (own:=[("mode", 0),("cut", 1),("inner", 2)]) (vs1:=[1,2]) (vs2:=[2]) (blkOk_by (by kernel_rfl)) zfJ zfJ zfJ (fun _ _ _ _ _=>pg_name zcw.nd rfl (by nofun)) (fun _ _ _ _ _=>zbO) (fun _ _ _ _ _=>(zaX (zau (zaa zaO (zaa zaO zae))))) (fun _ _ _ _ _=>pg_name zcw.nd rfl (by nofun)) (fun _ _ _ _ _=>zbO) (fun _ _ _ _ _=>(zkl (T.gt 1 (x := "INNERS")) (T.glo 49))) (fun _ _ _ _ _=>pg_name zcw.nd rfl (by nofun)) (fun _ _ _ _ _=>zbO) (fun _ _ _ _ _=>(ze9 (T.mkr 52) (zcs T) (hr.mono (by omega)) zjO (T.glo 50) (zaa (zab 0 (pv 0)) (zaa (zab 1 (pv 1)) (zaa (zab 2 (pv 2)) zae))))))))
def zfl (K:PySem.W.Frag) (W:XW):SM:=
 (zav (zaP (zbu (zac (mC (.str "none")) zan)) (gNm 1)) (zav (zue K (fun W1=>(zav (zaP (zgM (He.ga K "Rule") (zbg K) W1 (zac (mOp vIx (zah 0) (mC (.int 0))) (zac (mOp vIx (zah 0) (mC (.int 1))) (zac (mOp vIx (zah 0) (mC (.int 2))) zan)))) (gNm 3)) (zaP (zbu (zac (mC (.str "rule")) (zac (zfa K (zah 3) "mode") (zac (zfa K (zah 3) "cut") (zac (zfa K (zah 3) "inner") zan))))) (gNm 1)))) [⟨He.ga K "InvalidRule", 2,fun a cls fs=>(zaP (zbu (zac (mC (.str "wrong")) (zac (mXf 2 (He.ga K "InvalidRule") a cls fs "part") (zac (zoM 2 (He.ga K "InvalidRule") a cls true) (zac (zoM 2 (He.ga K "InvalidRule") a cls false) zan))))) (gNm 1))⟩] W) (zaZ (zah 1))))
theorem zbX:FnScope ["_law_parts_here", "_law_found", "e", "_law_rule_here"] ["_law_parts_here"] (defScope zdj):=⟨rfl,rfl,rfl,by decide +kernel,rfl,by decide +kernel,by decide +kernel⟩
def zds (K:PySem.W.Frag):SpD:=spB 1 3 (zfl K)
theorem zf4 (T:Tu fac fns zcW PG_.main.file zc4 tabs eqs gts prs sqs nos isl w K mg):Fd PG_ w K mg base 6 (He.ga K "_law_made") (zds K):=by
 obtain ⟨fd,F⟩:=T.df 35 (d:=zgk)
 have bi:Binds K fd ["_law_parts_here"] []:=FunD.bindsN F fun _ _ _ _ _ _ us hl=>match us,hl with | [_],_=>by kernel_rfl
 refine zaV (k:=5) F zbX bi rfl rfl fun cdv A outer s H E hr X eX W tk po=>?_
 subst eX
 unfold zfl
 exact (zad (zas (i:=1) (zau (zaa zak zae)) fun h=>ps_set zbX.nd rfl (by nofun) h)
  (zad (zq0 rfl rfl zbX.nd tk (fun B2 W1 pn xe tk po=>(zad (zas (i:=3) (ze9 (T.mkr 52) (zcs T) (hr.mono (by omega)) tk (T.glo 50) (zaa (zal (hu1 hr) (zab 0 (pv 0)) zaf) (zaa (zal (hu1 hr) (zab 0 (pv 0)) zaf) (zaa (zal (hu1 hr) (zab 0 (pv 0)) zaf) zae)))) fun h=>ps_set zbX.nd rfl (by nofun) h)
  (zag (zas (i:=1) (zau (zaa zak (zaa (zbb (zab 3 (pv 3))) (zaa (zbb (zab 3 (pv 3))) (zaa (zbb (zab 3 (pv 3))) zae))))) fun h=>ps_set zbX.nd rfl (by nofun) h)))) (.cons rfl rfl ⟨rfl,by decide,.inl (T.glo 55)⟩ (fun a oe cls d pn hz hf fs B2 xd=>(zag (zas (i:=1) (zau (zaa zak (zaa (zuc (zbR (w:=w) (base:=base) T).xf (zbR (w:=w) (base:=base) T).hno hz hf xd (zab 2 (pv 2))) (zaa (zmq (y := "ToldError") (c:=.ref (He.ga K "ToldError")) (T.isi 1 (x := "InvalidRule") (y := "ToldError") (b:=true)).1 (T.isi 1 (x := "InvalidRule") (y := "ToldError") (b:=true)).2 (fun u r=>r) hz hf xd (zab 2 (pv 2)) (pe_glob (v:=.ref (He.ga K "ToldError")) rfl (T.glo 54) rfl (by decide)) rfl (T.free 13)) (zaa (zmq (y := "InvalidStart") (c:=.ref (He.ga K "InvalidStart")) (T.isi 0 (x := "InvalidRule") (y := "InvalidStart") (b:=false)).1 (T.isi 0 (x := "InvalidRule") (y := "InvalidStart") (b:=false)).2 (fun u r=>r) hz hf xd (zab 2 (pv 2)) (pe_glob (v:=.ref (He.ga K "InvalidStart")) rfl (T.glo 53) rfl (by decide)) rfl (T.free 13)) zae))))) fun h=>ps_set zbX.nd rfl (by nofun) h))) .nil))
  (zag (zar (zab 1 (pv 1))))))
def zcf (K:PySem.W.Frag) (W:XW):SM:=
 (zav (zaP (zaw (zcU K) W (zac (zah 0) zan)) (gNm 1)) (zav (zaP (mLc (zce (zac (mC (.int 2)) zan)) (gNm 3) zgL (zaw (zaj K) WN (zac (zah 1) (zac (mC (.int 6)) zan))) [3]) (gNm 2)) (zav (zaP (zaw (zdq K) W (zac (zah 1) zan)) (gNm 4)) (zav (zaP (zaw (zdq K) W (zac (zah 1) zan)) (gNm 5)) (zav (zaP (mCB zem (zac (zah 4) zan)) (gNm 6)) (zav (zej (zek (zah 2)) (gNm 7)
  (mIf (mB (mOp vLt (zah 7) (mC (.int 3))))
  (zav (zaP (zfs (zac (mC (.str "push")) (zac (mC (.str "pull")) (zac (mC (.str "level")) (zac (mC (.str "once")) (zac (mC (.str "later")) (zac (mC (.str "Push")) (zac (mC (.str "")) (zac (mC .non) (zac (mC (.int 0)) (zac (mC (.int 1)) (zac (mC (.bl true)) (zac (mC (.bl false)) (zac (zfs (zac (mC (.str "once")) zan)) zan)))))))))))))) (gNm 8)) (zaP (mOp vIx (zah 8) (zaw (zaj K) W (zac (zah 1) (zac (mC (.int 13)) zan)))) (gIx (zah 6) (zah 7))))
  mNx)) (zav (zaP (zaw (zdU K) W (zac (zah 6) zan)) (gNm 9)) (zav (mIf (zhX (mB (mOp vIs (zah 9) (mC .non))) (mB (mOp vNe (zaw (zds K) W (zac (zah 6) zan)) (zbu (zac (mC (.str "rule")) (zac (mOp vIx (zah 6) (mC (.int 0))) (zac (mOp vIx (zah 6) (mC (.int 1))) (zac (mOp vIx (zah 6) (mC (.int 2))) zan))))))))
  (zaZ (mC (.bl false)))
  mNx) (zav (mIf (zhX (mB (mOp zg7 (zah 9) (mC .non))) (mB (mOp vNe (zaw (zds K) W (zac (zah 6) zan)) (zbu (zac (mC (.str "wrong")) (zac (zah 9) (zac (mC (.bl true)) (zac (mC (.bl false)) zan))))))))
  (zaZ (mC (.bl false)))
  mNx) (zav (zaP (zgM (He.ga K "Rule") (zbg K) W (zac (mOp vIx (zah 4) (mC (.int 0))) (zac (mOp vIx (zah 4) (mC (.int 1))) (zac (mOp vIx (zah 4) (mC (.int 2))) zan)))) (gNm 10)) (zav (zaP (zgM (He.ga K "Rule") (zbg K) W (zac (mOp vIx (zah 5) (mC (.int 0))) (zac (mOp vIx (zah 5) (mC (.int 1))) (zac (mOp vIx (zah 5) (mC (.int 2))) zan)))) (gNm 11)) (zav (mIf (mOr (mB (mOp vNe (mOp (zlZ (He.ga K "Rule") (zdt K) fun b=>b) (zah 10) (zah 11)) (mOp vEq (zah 4) (zah 5)))) (zcL (mB (mOp (zlZ (He.ga K "Rule") (zdt K) fun b=>b) (zah 10) (zah 10)))))
  (zaZ (mC (.bl false)))
  mNx) (zav (zej (zce (zac (mC (.int 2)) zan)) (gNm 3)
  (zav (zaP (zaw (zeo K) W zan) (gNm 12)) (zav (mIf (mOr (zcL (zct (mCB zda (zac (zah 12) (zac (mC (.ty "list")) zan))))) (mB (mOp vNe (mCB zcJ (zac (zah 12) zan)) (mC (.int 12)))))
  (zaZ (mC (.bl false)))
  mNx) (zav (zaP (zfs zan) (gNm 13)) (zav (zej (zek (zfs (zac (mC (.str "push")) (zac (mC (.str "pull")) (zac (mC (.str "level")) zan))))) (gNm 14)
  (zej (zek (zfs (zac (mC (.bl false)) (zac (mC (.bl true)) zan)))) (gNm 15)
  (zej (zek (zfs (zac (mC (.str "once")) (zac (mC (.str "later")) zan)))) (gNm 16)
  (zcF (zfO okL zgv (zah 13) (zac (zbu (zac (zah 14) (zac (zah 15) (zac (zah 16) zan)))) zan)))))) (zav (mIf (mB (mOp vNe (mLc (zek (zah 12)) (gNm 17) zgL (zbu (zac (zfa K (zah 17) "mode") (zac (zfa K (zah 17) "cut") (zac (zfa K (zah 17) "inner") zan)))) [17]) (zah 13)))
  (zaZ (mC (.bl false)))
  mNx) (zcF (zfO okL zgv (zah 12) (zac (zah 10) zan))))))))) (zaZ (mC (.bl true))))))))))))))))
theorem zaq:FnScope ["_law_script", "_law_state_here", "_law_spoils", "_law_turn", "_law_first", "_law_second", "_law_bad_here", "_law_place", "_law_values", "_law_fault_here", "_law_one", "_law_two", "_law_rules", "_law_parts_here", "_law_mode", "_law_cut", "_law_inner", "_law_rule_here"] ["_law_script"] (defScope zbp):=⟨rfl,rfl,rfl,by decide +kernel,rfl,by decide +kernel,by decide +kernel⟩
def zbU (K:PySem.W.Frag):SpD:=spB 1 17 (zcf K)
theorem ze6 (T:Tu fac fns zcW PG_.main.file zc4 tabs eqs gts prs sqs nos isl w K mg):Fd PG_ w K mg base 8 (He.ga K "_law_second_part") (zbU K):=by
 obtain ⟨fd,F⟩:=T.df 36 (d:=zc6)
 have bi:Binds K fd ["_law_script"] []:=FunD.bindsN F fun _ _ _ _ _ _ us hl=>match us,hl with | [_],_=>by kernel_rfl
 refine zaV (k:=7) F zaq bi rfl rfl fun cdv A outer s H E hr X eX W tk po=>?_
 subst eX
 unfold zcf
 exact (zad (zas (i:=1) (zaA (zfw T) (hr.mono (by omega)) tk (T.glo 37) (zaa (zab 0 (pv 0)) zae)) fun h=>ps_set zaq.nd rfl (by nofun) h)
  (zad (zhL (i:=2) rfl zaq.nd (zbF (zaa zaf zae) fun h=>pi_range1 rfl (T.free 5) h) (own:=[("_law_turn", 3)]) (blkOk_by (by kernel_rfl)) zfJ (fun _ _ _ _ _=>pg_name zaq.nd rfl (by nofun)) (fun _ _ _ _ _=>zbO) (fun _ _ _ _ _=>(zaA (zam T) (hr.mono (by omega)) zjO (T.glo 4) (zaa (zab 1 (pv 1)) (zaa zaf zae)))))
  (zad (zas (i:=4) (zaA (zf0 T) (hr.mono (by omega)) tk (T.glo 56) (zaa (zab 1 (pv 1)) zae)) fun h=>ps_set zaq.nd rfl (by nofun) h)
  (zad (zas (i:=5) (zaA (zf0 T) (hr.mono (by omega)) tk (T.glo 56) (zaa (zab 1 (pv 1)) zae)) fun h=>ps_set zaq.nd rfl (by nofun) h)
  (zad (zas (i:=6) (zaN zdF (zaa (zab 4 (pv 4)) zae) fun h1 h2=>pe_callTy h1 rfl (T.free 0) boot_list h2) fun h=>ps_set zaq.nd rfl (by nofun) h)
  (zad (zaW po rfl (zaX (zab 2 (pv 2))) (zaG (pg_name zaq.nd rfl (by nofun)))
  (zag (zaB (zat zhI (zab 7 (pv 7)) zaf)
  (zad (zas (i:=8) (zbo (zaa zak (zaa zak (zaa zak (zaa zak (zaa zak (zaa zak (zaa zak (zaa zec (zaa zaf (zaa zaf (zaa zaO (zaa zaO (zaa (zbo (zaa zak zae)) zae)))))))))))))) fun h=>ps_set zaq.nd rfl (by nofun) h)
  (zag (zea (zal (hu1 hr) (zab 8 (pv 8)) (zaA (zam T) (hr.mono (by omega)) tk (T.glo 4) (zaa (zab 1 (pv 1)) (zaa zaf zae)))) (zeb (hu1 hr) (zab 6 (pv 6)) (zab 7 (pv 7))))))
  zap)) (fun h1 h2 h3=>ps_for po rfl h1 h2 h3))
  (zad (zas (i:=9) (zaA (zhH T) (hr.mono (by omega)) tk (T.glo 57) (zaa (zab 6 (pv 6)) zae)) fun h=>ps_set zaq.nd rfl (by nofun) h)
  (zad (zaB (MW.mt (zd9 (zat zt4 (zab 9 (pv 9)) zec) (zc2 (zat (zei (zb5 hr)) (zaA (zf4 T) (hr.mono (by omega)) tk (T.glo 58) (zaa (zab 6 (pv 6)) zae)) (zau (zaa zak (zaa (zal (hu1 hr) (zab 6 (pv 6)) zaf) (zaa (zal (hu1 hr) (zab 6 (pv 6)) zaf) (zaa (zal (hu1 hr) (zab 6 (pv 6)) zaf) zae)))))))))
  (zag (zar zaO))
  zap)
  (zad (zaB (MW.mt (zd9 (zat zfy (zab 9 (pv 9)) zec) (zc2 (zat (zei (zb5 hr)) (zaA (zf4 T) (hr.mono (by omega)) tk (T.glo 58) (zaa (zab 6 (pv 6)) zae)) (zau (zaa zak (zaa (zab 9 (pv 9)) (zaa zaO (zaa zaO zae)))))))))
  (zag (zar zaO))
  zap)
  (zad (zas (i:=10) (ze9 (T.mkr 52) (zcs T) (hr.mono (by omega)) tk (T.glo 50) (zaa (zal (hu1 hr) (zab 4 (pv 4)) zaf) (zaa (zal (hu1 hr) (zab 4 (pv 4)) zaf) (zaa (zal (hu1 hr) (zab 4 (pv 4)) zaf) zae)))) fun h=>ps_set zaq.nd rfl (by nofun) h)
  (zad (zas (i:=11) (ze9 (T.mkr 52) (zcs T) (hr.mono (by omega)) tk (T.glo 50) (zaa (zal (hu1 hr) (zab 5 (pv 5)) zaf) (zaa (zal (hu1 hr) (zab 5 (pv 5)) zaf) (zaa (zal (hu1 hr) (zab 5 (pv 5)) zaf) zae)))) fun h=>ps_set zaq.nd rfl (by nofun) h)
  (zad (zaB (MW.mt (zbN (zat (zei (zb5 hr)) (zb0 (ziX (zf5 T) (hr.mono (by omega)) (T.eqc 0 59)) (zab 10 (pv 10)) (zab 11 (pv 11))) (zb0 (zbh (zb5 hr)) (zab 4 (pv 4)) (zab 5 (pv 5)))) (zbn (zaL (zat (ziX (zf5 T) (hr.mono (by omega)) (T.eqc 0 59)) (zab 10 (pv 10)) (zab 10 (pv 10)))))))
  (zag (zar zaO))
  zap)
  (zad (zaW po rfl (zbF (zaa zaf zae) fun h=>pi_range1 rfl (T.free 5) h) (zaG (pg_name zaq.nd rfl (by nofun)))
  (zad (zas (i:=12) (zq6 (zid T) (hr.mono (by omega)) tk (T.glo 60)) fun h=>ps_set zaq.nd rfl (by nofun) h)
  (zad (zaB (MW.mt (zbN (zaL (zaJ (zao za6 (zaa (zab 12 (pv 12)) (zaa (zbK (T.free 0) boot_list) zae)) fun h1 h2=>pe_callB h1 rfl (T.free 13) boot_isinstance h2))) (zbn (zat (zei (zb5 hr)) (zao za8 (zaa (zab 12 (pv 12)) zae) fun h1 h2=>pe_callB h1 rfl (T.free 1) boot_len h2) zaf))))
  (zag (zar zaO))
  zap)
  (zad (zas (i:=13) (zbo zae) fun h=>ps_set zaq.nd rfl (by nofun) h)
  (zad (zaW po rfl (zaX (zbo (zaa zak (zaa zak (zaa zak zae))))) (zaG (pg_name zaq.nd rfl (by nofun)))
  (zag (zaW po rfl (zaX (zbo (zaa zaO (zaa zaO zae)))) (zaG (pg_name zaq.nd rfl (by nofun)))
  (zag (zaW po rfl (zaX (zbo (zaa zak (zaa zak zae)))) (zaG (pg_name zaq.nd rfl (by nofun)))
  (zag (zba (zaR (zab 13 (pv 13)) (zaa (zau (zaa (zab 14 (pv 14)) (zaa (zab 15 (pv 15)) (zaa (zab 16 (pv 16)) zae)))) zae)))) (fun h1 h2 h3=>ps_for po rfl h1 h2 h3))) (fun h1 h2 h3=>ps_for po rfl h1 h2 h3))) (fun h1 h2 h3=>ps_for po rfl h1 h2 h3))
  (zad (zaB (zat (zei (zb5 hr)) (zko rfl zaq.nd (zaX (zab 12 (pv 12))) (own:=[("_law_rule_here", 17)]) (blkOk_by (by kernel_rfl)) zfJ (fun _ _ _ _ _=>pg_name zaq.nd rfl (by nofun)) (fun _ _ _ _ _=>zbO) (fun _ _ _ _ _=>(zau (zaa (zbb (zab 17 (pv 17))) (zaa (zbb (zab 17 (pv 17))) (zaa (zbb (zab 17 (pv 17))) zae)))))) (zab 13 (pv 13)))
  (zag (zar zaO))
  zap)
  (zag (zba (zaR (zab 12 (pv 12)) (zaa (zab 10 (pv 10)) zae))))))))) (fun h1 h2 h3=>ps_for po rfl h1 h2 h3))
  (zag (zar zaO)))))))))))))))
def zoD (K:PySem.W.Frag) (W:XW):SM:=
 (zaZ (zeG (zaw (zcb K) W (zac (zah 0) zan)) (zaw (zbU K) W (zac (zah 0) zan))))
theorem zpf:FnScope ["_law_script"] ["_law_script"] (defScope ziN):=⟨rfl,rfl,rfl,by decide +kernel,rfl,by decide +kernel,by decide +kernel⟩
def sp_law (K:PySem.W.Frag):SpD:=spB 1 0 (zoD K)
theorem zrQ (T:Tu fac fns zcW PG_.main.file zc4 tabs eqs gts prs sqs nos isl w K mg) {fd:FuncData} (F:FunD K zeX.name zeX.qual zeX.params zeX.body zeX.scope (zeX.dvs K) (zeX.kws K) (He.fAd K zeX.at_) fd) :
  FnOk PG_ w K mg base (L2.CX PG_ w) 22 (He.ga K "law") fd ["_law_script"] (zhv K PG_ w (sp_law K)):=by
 refine znH (k:=21) F zpf rfl rfl fun cdv A outer s H E hr X eX W tk po=>?_
 subst eX
 unfold zoD
 exact (zag (zar (zdy (zaA (zfx T) (hr.mono (by omega)) tk (T.glo 62) (zaa (zab 0 (pv 0)) zae)) (zeE (zaA (ze6 T) (hr.mono (by omega)) tk (T.glo 61) (zaa (zab 0 (pv 0)) zae))))))
theorem facts {h:Heap} {f:Addr} (X:K.In h) (G:h.Ns mainGlobals mg) (hfa:mg ("law" : Str)=some (.ref f)) (c:zmj fac fns zcW PG_.main.file zc4 tabs eqs gts prs sqs nos isl K=zoJ fns zcW tabs prs w) :
  Tu fac fns zcW PG_.main.file zc4 tabs eqs gts prs sqs nos isl w K mg∧∃ fd:FuncData,(∀ (s:Shared) (v:Value),BindsTo s fd ⟨[v],[]⟩ [("_law_script", v)])∧∀ base:Heap,FnOk PG_ w K mg base (L2.CX PG_ w) 22 f fd ["_law_script"] (zhv K PG_ w (sp_law K)):=by
 have T:Tu fac fns zcW PG_.main.file zc4 tabs eqs gts prs sqs nos isl w K mg:=Tu.mk' X G c
 obtain ⟨fd,F⟩:=T.df 37 (d:=zeX)
 have e:=hfa.symm.trans (T.glo 84 (x := "law"))
 cases e
 have b:=FunD.bindsA (ps:=["_law_script"]) F fun _ _ _ _ _ _ us hl=>match us,hl with | [_],_=>by kernel_rfl
 exact ⟨T,fd,fun s v=>b s [v] rfl,fun base=>zrQ T F⟩
end
set_option maxHeartbeats 1000000
local macro_rules | `(tactic| walk_at "dx") => `(tactic| (first | ((with_reducible refine zdL 0 ?_); first | ((with_reducible refine znq (env' := ?_) ?_ ?_); rotate_left 1; (first | (simp only [zoy, zox, zoz, zow, zov, zou, zot, zos, zor, zoq]; rfl) | rfl)) | ((with_reducible refine zqz (env' := ?_) ?_ ?_); rotate_left 1; (first | (simp only [zoy, zox, zoz, zow, zov, zou, zot, zos, zor, zoq]; rfl) | rfl)) | ((with_reducible refine zlb (env' := ?_) ?_ ?_); rotate_left 1; (first | (simp only [zoy, zox, zoz, zow, zov, zou, zot, zos, zor, zoq]; rfl) | rfl)) | with_reducible refine znp ?_ | with_reducible refine zeg ?_ | with_reducible refine znn ?_) | ((with_reducible refine zdL 1 ?_); first | ((with_reducible refine zsU (d := ?_) ?_ ?_); rotate_left 1; (first | with_reducible assumption | rfl)) | ((with_reducible refine zqb (C := ?_) (fs := ?_) (d := ?_) ?_ ?_ ?_ ?_); rotate_left 3; (walk_at "dp"); (first | with_reducible assumption | rfl); (first | with_reducible assumption | (apply_assumption)))) | ((with_reducible refine zdL 2 ?_); first | ((with_reducible refine ztu (d := ?_) ?_ ?_); rotate_left 1; (first | with_reducible assumption | rfl)) | ((with_reducible refine zbx (xs := ?_) (d := ?_) ?_ ?_ ?_); rotate_left 2; (walk_at "dp"); (first | with_reducible assumption | rfl)) | ((with_reducible refine ztx (kvs := ?_) (kk := ?_) (d := ?_) ?_ ?_ ?_ ?_); rotate_left 3; (walk_at "dp"); (first | with_reducible assumption | rfl); (first | with_reducible assumption | rfl)) | ((with_reducible refine ztw (d := ?_) ?_ ?_); rotate_left 1; (first | with_reducible assumption | rfl)) | ((with_reducible refine ztv (c := ?_) ?_ ?_); rotate_left 1; (first | with_reducible assumption | rfl))) | ((with_reducible refine zdL 3 ?_); first | ((with_reducible refine zp4 (fs := ?_) ?_ ?_ ?_); rotate_left 1; (walk_at "dp"); (first | with_reducible assumption | rfl)) | ((with_reducible refine ziP (xs := ?_) (j := ?_) ?_ ?_ ?_); rotate_left 2; (walk_at "dp"); (first | with_reducible assumption | rfl)) | ((with_reducible refine s_aug (d := ?_) ?_ ?_); rotate_left 1; (first | with_reducible assumption | rfl)) | ((with_reducible refine zp9 (kvs := ?_) ?_ ?_); rotate_left 1; (walk_at "dp")) | ((with_reducible refine zp7 (kvs := ?_) (kk := ?_) ?_ ?_ ?_); rotate_left 2; (walk_at "dp"); (first | with_reducible assumption | rfl))) | ((with_reducible refine zdL 4 ?_); first | ((with_reducible refine zpz (xs := ?_) ?_ ?_); rotate_left 1; (walk_at "dp")) | ((with_reducible refine zpA (kvs := ?_) ?_ ?_); rotate_left 1; (walk_at "dp")) | ((with_reducible refine zqn (c := ?_) ?_ ?_); rotate_left 1; (first | with_reducible assumption | rfl)) | ((with_reducible refine zqo (c := ?_) ?_ ?_); rotate_left 1; (first | with_reducible assumption | rfl)) | ((with_reducible refine zqp (xs := ?_) (c := ?_) ?_ ?_ ?_); rotate_left 2; (walk_at "dp"); (first | with_reducible assumption | rfl))) | ((with_reducible refine zdL 5 ?_); first | ((with_reducible refine znd (xs := ?_) ?_ ?_); rotate_left 1; (walk_at "dp")) | ((with_reducible refine zxe ?_ ?_); (first | with_reducible assumption | rfl)) | ((with_reducible refine zqj (xs := ?_) (j := ?_) ?_ ?_ ?_); rotate_left 2; (walk_at "dp"); (first | with_reducible assumption | rfl)) | ((with_reducible refine zm7 (xs := ?_) ?_ ?_); rotate_left 1; (walk_at "dp")) | with_reducible refine zqi ?_) | ((with_reducible refine zdL 6 ?_); first | ((with_reducible refine zta ?_ ?_); (first | assumption | omega | exact .inr ⟨by decide, by decide⟩ | exact .inl ⟨by decide, by decide⟩ | exact .inr ⟨by omega, by omega⟩ | exact .inl ⟨by omega, by omega⟩ | exact ⟨by decide, by decide +kernel⟩ | exact ⟨by decide, by decide, by decide⟩ | exact ⟨by assumption, by assumption⟩)) | ((with_reducible refine zqD ?_ ?_); (first | assumption | omega | exact .inr ⟨by decide, by decide⟩ | exact .inl ⟨by decide, by decide⟩ | exact .inr ⟨by omega, by omega⟩ | exact .inl ⟨by omega, by omega⟩ | exact ⟨by decide, by decide +kernel⟩ | exact ⟨by decide, by decide, by decide⟩ | exact ⟨by assumption, by assumption⟩)) | ((with_reducible refine zs5 ?_ ?_); (first | assumption | omega | exact .inr ⟨by decide, by decide⟩ | exact .inl ⟨by decide, by decide⟩ | exact .inr ⟨by omega, by omega⟩ | exact .inl ⟨by omega, by omega⟩ | exact ⟨by decide, by decide +kernel⟩ | exact ⟨by decide, by decide, by decide⟩ | exact ⟨by assumption, by assumption⟩)) | ((with_reducible refine zpt ?_ ?_); (first | assumption | omega | exact .inr ⟨by decide, by decide⟩ | exact .inl ⟨by decide, by decide⟩ | exact .inr ⟨by omega, by omega⟩ | exact .inl ⟨by omega, by omega⟩ | exact ⟨by decide, by decide +kernel⟩ | exact ⟨by decide, by decide, by decide⟩ | exact ⟨by assumption, by assumption⟩)) | ((with_reducible refine znE (a := ?_) ?_ ?_ ?_); rotate_left 1; rfl; decide)) | ((with_reducible refine zdL 7 ?_); first | ((with_reducible refine zqd (xs := ?_) ?_ ?_); rotate_left 1; (walk_at "dp")) | ((with_reducible refine zqm (fu := ?_) (n := ?_) ?_ ?_); rotate_left 2; (walk_at "dp")) | ((with_reducible refine zk7 (xs := ?_) ?_ ?_); rotate_left 1; (walk_at "dp")) | ((with_reducible refine zph (xs := ?_) ?_ ?_); rotate_left 1; (walk_at "dp")) | ((with_reducible refine ztk (xs := ?_) (ys := ?_) ?_ ?_ ?_); rotate_left 2; (walk_at "dp"); (walk_at "dp")))))
local macro_rules | `(tactic| walk_at "dl") => `(tactic| (repeat (first | with_reducible refine zk3 ?_ | with_reducible refine ze4 ?_ | walk_at "dx" | ((with_reducible refine zdL 8 ?_); first | with_reducible refine zef (fun h => absurd h (by decide +kernel)) (fun _ => ?_) | with_reducible refine zef (fun _ => ?_) (fun h => absurd h (by decide +kernel)) | with_reducible refine zcC (fun h => absurd h (by decide +kernel)) (fun _ => ?_) | with_reducible refine zcC (fun _ => ?_) (fun h => absurd h (by decide +kernel))) | ((with_reducible refine zdL 9 ?_); first | with_reducible refine zbt (fun h => absurd h (by decide +kernel)) (fun _ => ?_) | with_reducible refine zbt (fun _ => ?_) (fun h => absurd h (by decide +kernel)) | with_reducible refine zd7 (fun h => absurd h (by decide +kernel)) (fun _ => ?_) | with_reducible refine zd7 (fun _ => ?_) (fun h => absurd h (by decide +kernel))) | ((with_reducible refine zdL 10 ?_); first | with_reducible refine zbT (fun h => absurd h (by decide +kernel)) (fun _ => ?_) | with_reducible refine zbT (fun _ => ?_) (fun h => absurd h (by decide +kernel)) | with_reducible refine zcB (fun h => absurd h (by decide +kernel)) (fun _ => ?_) | with_reducible refine zcB (fun _ => ?_) (fun h => absurd h (by decide +kernel)) | with_reducible refine zcD (fun h => absurd h (by decide +kernel)) (fun _ => ?_) | with_reducible refine zcD (fun _ => ?_) (fun h => absurd h (by decide +kernel))))))
local macro_rules | `(tactic| walk_at "dln") => `(tactic| (repeat (first | with_reducible refine zk3 ?_ | walk_at "dx" | ((with_reducible refine zdL 8 ?_); first | with_reducible refine zef (fun h => absurd h (by decide +kernel)) (fun _ => ?_) | with_reducible refine zef (fun _ => ?_) (fun h => absurd h (by decide +kernel)) | with_reducible refine zcC (fun h => absurd h (by decide +kernel)) (fun _ => ?_) | with_reducible refine zcC (fun _ => ?_) (fun h => absurd h (by decide +kernel))) | ((with_reducible refine zdL 9 ?_); first | with_reducible refine zbt (fun h => absurd h (by decide +kernel)) (fun _ => ?_) | with_reducible refine zbt (fun _ => ?_) (fun h => absurd h (by decide +kernel)) | with_reducible refine zd7 (fun h => absurd h (by decide +kernel)) (fun _ => ?_) | with_reducible refine zd7 (fun _ => ?_) (fun h => absurd h (by decide +kernel))) | ((with_reducible refine zdL 10 ?_); first | with_reducible refine zbT (fun h => absurd h (by decide +kernel)) (fun _ => ?_) | with_reducible refine zbT (fun _ => ?_) (fun h => absurd h (by decide +kernel)) | with_reducible refine zcB (fun h => absurd h (by decide +kernel)) (fun _ => ?_) | with_reducible refine zcB (fun _ => ?_) (fun h => absurd h (by decide +kernel)) | with_reducible refine zcD (fun h => absurd h (by decide +kernel)) (fun _ => ?_) | with_reducible refine zcD (fun _ => ?_) (fun h => absurd h (by decide +kernel))))))
local macro_rules | `(tactic| walk_at "dm") => `(tactic| (repeat (first | with_reducible refine zk3 ?_ | with_reducible refine ze4 ?_ | walk_at "dx" | ((with_reducible refine zdL 8 ?_); first | with_reducible refine zef (fun h => absurd h (by decide +kernel)) (fun _ => ?_) | with_reducible refine zef (fun _ => ?_) (fun h => absurd h (by decide +kernel)) | with_reducible refine zef (fun h => absurd h (by first | (simp; done) | (simp; omega))) (fun _ => ?_) | with_reducible refine zef (fun _ => ?_) (fun h => absurd h (by first | (simp; done) | (simp; omega))) | with_reducible refine zcC (fun h => absurd h (by decide +kernel)) (fun _ => ?_) | with_reducible refine zcC (fun _ => ?_) (fun h => absurd h (by decide +kernel)) | with_reducible refine zcC (fun h => absurd h (by first | (simp; done) | (simp; omega))) (fun _ => ?_) | with_reducible refine zcC (fun _ => ?_) (fun h => absurd h (by first | (simp; done) | (simp; omega)))) | ((with_reducible refine zdL 9 ?_); first | with_reducible refine zbt (fun h => absurd h (by decide +kernel)) (fun _ => ?_) | with_reducible refine zbt (fun _ => ?_) (fun h => absurd h (by decide +kernel)) | with_reducible refine zbt (fun h => absurd h (by first | (simp; done) | (simp; omega))) (fun _ => ?_) | with_reducible refine zbt (fun _ => ?_) (fun h => absurd h (by first | (simp; done) | (simp; omega))) | with_reducible refine zd7 (fun h => absurd h (by decide +kernel)) (fun _ => ?_) | with_reducible refine zd7 (fun _ => ?_) (fun h => absurd h (by decide +kernel)) | with_reducible refine zd7 (fun h => absurd h (by first | (simp; done) | (simp; omega))) (fun _ => ?_) | with_reducible refine zd7 (fun _ => ?_) (fun h => absurd h (by first | (simp; done) | (simp; omega)))) | ((with_reducible refine zdL 10 ?_); first | with_reducible refine zbT (fun h => absurd h (by decide +kernel)) (fun _ => ?_) | with_reducible refine zbT (fun _ => ?_) (fun h => absurd h (by decide +kernel)) | with_reducible refine zbT (fun h => absurd h (by first | (simp; done) | (simp; omega))) (fun _ => ?_) | with_reducible refine zbT (fun _ => ?_) (fun h => absurd h (by first | (simp; done) | (simp; omega))) | with_reducible refine zcB (fun h => absurd h (by decide +kernel)) (fun _ => ?_) | with_reducible refine zcB (fun _ => ?_) (fun h => absurd h (by decide +kernel)) | with_reducible refine zcB (fun h => absurd h (by first | (simp; done) | (simp; omega))) (fun _ => ?_) | with_reducible refine zcB (fun _ => ?_) (fun h => absurd h (by first | (simp; done) | (simp; omega))) | with_reducible refine zcD (fun h => absurd h (by decide +kernel)) (fun _ => ?_) | with_reducible refine zcD (fun _ => ?_) (fun h => absurd h (by decide +kernel)) | with_reducible refine zcD (fun h => absurd h (by first | (simp; done) | (simp; omega))) (fun _ => ?_) | with_reducible refine zcD (fun _ => ?_) (fun h => absurd h (by first | (simp; done) | (simp; omega)))))))
local macro_rules | `(tactic| ext) => `(tactic| walk_at "dm")
local macro_rules | `(tactic| walk_at "dmn") => `(tactic| (repeat (first | with_reducible refine zk3 ?_ | walk_at "dx" | ((with_reducible refine zdL 8 ?_); first | with_reducible refine zef (fun h => absurd h (by decide +kernel)) (fun _ => ?_) | with_reducible refine zef (fun _ => ?_) (fun h => absurd h (by decide +kernel)) | with_reducible refine zef (fun h => absurd h (by first | (simp; done) | (simp; omega))) (fun _ => ?_) | with_reducible refine zef (fun _ => ?_) (fun h => absurd h (by first | (simp; done) | (simp; omega))) | with_reducible refine zcC (fun h => absurd h (by decide +kernel)) (fun _ => ?_) | with_reducible refine zcC (fun _ => ?_) (fun h => absurd h (by decide +kernel)) | with_reducible refine zcC (fun h => absurd h (by first | (simp; done) | (simp; omega))) (fun _ => ?_) | with_reducible refine zcC (fun _ => ?_) (fun h => absurd h (by first | (simp; done) | (simp; omega)))) | ((with_reducible refine zdL 9 ?_); first | with_reducible refine zbt (fun h => absurd h (by decide +kernel)) (fun _ => ?_) | with_reducible refine zbt (fun _ => ?_) (fun h => absurd h (by decide +kernel)) | with_reducible refine zbt (fun h => absurd h (by first | (simp; done) | (simp; omega))) (fun _ => ?_) | with_reducible refine zbt (fun _ => ?_) (fun h => absurd h (by first | (simp; done) | (simp; omega))) | with_reducible refine zd7 (fun h => absurd h (by decide +kernel)) (fun _ => ?_) | with_reducible refine zd7 (fun _ => ?_) (fun h => absurd h (by decide +kernel)) | with_reducible refine zd7 (fun h => absurd h (by first | (simp; done) | (simp; omega))) (fun _ => ?_) | with_reducible refine zd7 (fun _ => ?_) (fun h => absurd h (by first | (simp; done) | (simp; omega)))) | ((with_reducible refine zdL 10 ?_); first | with_reducible refine zbT (fun h => absurd h (by decide +kernel)) (fun _ => ?_) | with_reducible refine zbT (fun _ => ?_) (fun h => absurd h (by decide +kernel)) | with_reducible refine zbT (fun h => absurd h (by first | (simp; done) | (simp; omega))) (fun _ => ?_) | with_reducible refine zbT (fun _ => ?_) (fun h => absurd h (by first | (simp; done) | (simp; omega))) | with_reducible refine zcB (fun h => absurd h (by decide +kernel)) (fun _ => ?_) | with_reducible refine zcB (fun _ => ?_) (fun h => absurd h (by decide +kernel)) | with_reducible refine zcB (fun h => absurd h (by first | (simp; done) | (simp; omega))) (fun _ => ?_) | with_reducible refine zcB (fun _ => ?_) (fun h => absurd h (by first | (simp; done) | (simp; omega))) | with_reducible refine zcD (fun h => absurd h (by decide +kernel)) (fun _ => ?_) | with_reducible refine zcD (fun _ => ?_) (fun h => absurd h (by decide +kernel)) | with_reducible refine zcD (fun h => absurd h (by first | (simp; done) | (simp; omega))) (fun _ => ?_) | with_reducible refine zcD (fun _ => ?_) (fun h => absurd h (by first | (simp; done) | (simp; omega)))))))
theorem zcE {S:Sto} {a:Addr} {o o':O}:put (put S a o) a o'=put S a o':=by
 funext b
 unfold put
 by_cases h:b=a <;> simp [h]
theorem zgI {m n:SM} {A:DL.Fin} {env:Slo} {S:Sto} (I:Slo->Sto->Prop) (h2:∀ env S,I env S->n A env S) (h1:∀ nx:Slo->Sto->Prop,(∀ env S,I env S->nx env S)->m { A with nx:=nx } env S):zav m n A env S:=h1 (n A) h2
theorem zbf {g:GM} {m:SM} {G:Sto->Prop} {A:DL.Fin} (I:Nat->Slo->Sto->Prop):∀ (xs:List D) (i0:Nat) {env:Slo} {S:Sto},I i0 env S ->
  (∀ i x env S,xs[i]? = some x->I (i0+i) env S->∀ nx:Slo->Sto->Prop,(∀ e s,I (i0+i+1) e s->nx e s)->G S∧g x env S fun env2 S2=>m { A with nx:=nx,ct:=nx,bk:=A.nx } env2 S2) ->
  (∀ env S,I (i0+xs.length) env S->G S∧A.nx env S)->forL g m G A xs env S
 | [],i0,env,S,h0,_,done=>done env S h0
 | x :: xs,i0,env,S,h0,step,done=>by
  refine step 0 x env S rfl h0 (forL g m G A xs) fun e s h=>?_
  refine zbf I xs (i0+1) h (fun i y e s hy hi nx hnx=>step (i+1) y e s hy (by rw [show i0+(i+1)=i0+1+i by omega];exact hi) nx fun e s h=>hnx e s (by rw [show i0+1+i+1=i0+(i+1)+1 by omega];exact h)) fun e s h=>?_
  exact done e s (by rw [List.length_cons,show i0+(xs.length+1)=i0+1+xs.length by omega];exact h)
theorem zfv {n i:Nat} {x:D} (h:(ziz 0 n)[i]? = some x):x = .int i∧i < n:=by
 unfold ziz at h
 rw [List.getElem?_map] at h
 cases e:(List.range n)[i]? with
 | none=>rw [e] at h;cases h
 | some j=>
  rw [e] at h
  have hj:=List.getElem?_eq_some_iff.mp e
  obtain ⟨h1,h2⟩:=hj
  rw [List.getElem_range] at h2
  subst h2
  cases h
  exact ⟨by simp,by simpa using h1⟩
theorem ze5 {lo:Int} {n:Nat}:(ziz lo n).length=n:=by simp [ziz]
theorem zob {g:GM} {t:TM} {m:EM} {G:Sto->Prop} {p:Addr} {Q:DQ} {env:Slo} (I:Nat->List D->Sto->Prop):∀ (xs:List D) (i0:Nat) {S:Sto} {ys:List D},S p=some (.lst ys)->I i0 ys S ->
  (∀ i x S ys,xs[i]? = some x->S p=some (.lst ys)->I (i0+i) ys S->∀ nx:Sto->Prop,(∀ s zs,s p=some (.lst zs)->I (i0+i+1) zs s->nx s)->G S∧g x env S fun env2 S2=>t env2 S2 fun b S3=>match b with
   | true=>m env2 S3 fun d S4=>match S4 p with
    | some (.lst ys)=>ys.length < sizeLine∧nx (DL.put S4 p (.lst (ys++[d])))
    | _=>False
   | false=>nx S3) ->
  (∀ S ys,S p=some (.lst ys)->I (i0+xs.length) ys S->G S∧Q (.ref p) S)->lcL g t m G p Q env xs S
 | [],i0,S,ys,hp,h0,_,done=>done S ys hp h0
 | x :: xs,i0,S,ys,hp,h0,step,done=>by
  refine step 0 x S ys rfl hp h0 (lcL g t m G p Q env xs) fun s zs hz h=>?_
  refine zob I xs (i0+1) hz h (fun i y s zs hy hz hi nx hnx=>step (i+1) y s zs hy hz (by rw [show i0+(i+1)=i0+1+i by omega];exact hi) nx fun s zs hz h=>hnx s zs hz (by rw [show i0+1+i+1=i0+(i+1)+1 by omega];exact h)) fun s zs hz h=>?_
  exact done s zs hz (by rw [List.length_cons,show i0+(xs.length+1)=i0+1+xs.length by omega];exact h)
theorem szl {n:Nat} (h:n≤1000):n≤sizeLine:=Nat.le_trans h (by decide)
theorem zfr {n:Nat} (h:n≤1000):n < sizeLine:=Nat.lt_of_le_of_lt h (by decide)
theorem zbQ {n:Int} (h0:0≤n) (h:n < 9000):n.natAbs.log2 < 9000:=by
 have:=Nat.log2_le_self n.natAbs
 omega
def Fr (a:Addr) (S S':Sto):Prop:=∀ b o,b≠a->S b=some o->S' b=some o
theorem Fr.refl {a:Addr} {S:Sto}:Fr a S S:=fun _ _ _ h=>h
theorem Fr.trans {a:Addr} {S S1 S2:Sto} (h:Fr a S S1) (h':Fr a S1 S2):Fr a S S2:=fun b o hb e=>h' b o hb (h b o hb e)
theorem Fr.put {a:Addr} {S S':Sto} {o:O} (h:Fr a S S'):Fr a S (put S' a o):=fun b o' hb e=>by rw [zaz hb];exact h b o' hb e
theorem Fr.new {a p:Addr} {S S':Sto} {o:O} (h:Fr a S S') (hp:S' p=none):Fr a S (DL.put S' p o):=fun b o' hb e=>by
 have e':=h b o' hb e
 rw [zaz (fun z=>by subst z;rw [hp] at e';cases e')]
 exact e'
structure StA (ns:List Int) (a l:Addr) (S:Sto):Prop where
 ex:∃ (p:Nat) (big cnt seed:Int),S a=some (.lst [.ref l,.int p,.int big,.int cnt,.int seed])∧p≤ns.length∧0≤big
 sl:S l=some (.lst (ns.map D.int))
 ne:l≠a
theorem atI_nat {xs:List D} {p:Nat} {d:D} (h:xs[p]? = some d):L2.atI xs (p:Int)=some d:=by
 have hl:p < xs.length:=(List.getElem?_eq_some_iff.mp h).1
 unfold L2.atI
 rw [show L2.ixN xs.length (p:Int)=some p by unfold L2.ixN;rw [if_pos (by omega),if_pos (by omega)];simp]
 exact h
theorem zaH {K:PySem.W.Frag} {ns:List Int} {a l:Addr} {S:Sto} {n:Int} {Q:DQ} {E:XQ} (h:StA ns a l S) (hn:0 < n) (hb:n.natAbs.log2 < 9000)
  (hQ:∀ r S',0≤r->r < n->StA ns a l S'->Fr a S S'->Q (.int r) S'):zaj K [.ref a,.int n] S Q E:=by
 refine zaT rfl ?_
 obtain ⟨⟨p,big,cnt,seed,e1,hp,hbig⟩,e2,ne⟩:=h
 unfold zfn
 refine ze4 ?_
 walk_at "dln"
 with_reducible refine zgI (fun env1 S1=>∃ (c:Option D) (p:Nat) (big cnt seed:Int),env1=[some (.ref a),some (.int n),c,none,none,none,none]∧S1 a=some (.lst [.ref l,.int p,.int big,.int cnt,.int seed])∧Fr a S S1∧p≤ns.length∧0≤big) ?_ ?_
 ·rintro _ S1 ⟨c,p,big,cnt,seed,rfl,e3,fr,hp,hbig⟩
  have e4:=fr l _ ne e2
  walk_at "dl"
  with_reducible refine zdJ (fun hpos=>?_) (fun hneg=>?_)
  ·walk_at "dl"
   refine hQ _ _ (Int.emod_nonneg _ (by omega)) (Int.emod_lt_of_pos _ hn) ⟨⟨p,big / n,cnt,seed,zai,hp,Int.ediv_nonneg hbig (by omega)⟩,?_,ne⟩ fr.put
   rw [zaz ne]
   exact e4
  ·walk_at "dl"
   exact hQ _ _ (Int.emod_nonneg _ (by omega)) (Int.emod_lt_of_pos _ hn) ⟨⟨p,big,cnt,seed,e3,hp,hbig⟩,e4,ne⟩ fr
 ·intro nx hnx
  walk_at "dl"
  with_reducible refine zbt (fun hz=>?_) (fun hz=>?_)
  ·walk_at "dl"
   with_reducible refine zdJ (fun hlt=>?_) (fun hge=>?_)
   ·have hp2:p < ns.length:=by simpa using hlt
    have hc:L2.atI (ns.map D.int) (p:Int)=some (.int ns[p]):=atI_nat (by simp [hp2])
    walk_at "dl"
    with_reducible refine zdJ (fun hbg=>?_) (fun hsm=>?_)
    ·walk_at "dl"
     refine hnx _ _ ⟨_,p+1,_,_,_,rfl,zai,?_,hp2,?_⟩
     ·exact ((Fr.refl.put).put).put
     ·split <;> omega
    ·walk_at "dl"
     refine hnx _ _ ⟨_,p+1,big,_,_,rfl,zai,?_,hp2,hbig⟩
     exact ((Fr.refl.put).put).put
   ·walk_at "dl"
    exact hnx _ _ ⟨_,p,big,_,_,rfl,zai,Fr.refl.put,hp,hbig⟩
  ·walk_at "dl"
   exact hnx _ _ ⟨_,p,big,_,_,rfl,zai,Fr.refl.put,hp,hbig⟩
theorem ziM {K:PySem.W.Frag} {ns:List Int} (hn:ns.length≤63) {S:Sto} {Q:DQ} {E:XQ} (hQ:∀ a l S',StA ns a l S'->Q (.ref a) S'):zcU K [.rol (ns.map D.int)] S Q E:=by
 refine zaT rfl ?_
 unfold zeJ
 walk_at "dl"
 refine zs0 fun l0 hl0=>?_
 walk_at "dl"
 refine zjU zai fun l hl=>?_
 walk_at "dl"
 with_reducible refine zb4 (szl (by simp)) fun a ha=>?_
 have hc:DL.cutD (ns.map D.int) none (some 63)=ns.map D.int:=by
  unfold DL.cutD
  have e1:HT.sIx (ns.map D.int).length 0 none=0:=rfl
  have e2:HT.sIx (ns.map D.int).length (ns.map D.int).length (some 63)=(ns.map D.int).length:=by
   rw [List.length_map]
   simp [HT.sIx]
   omega
  rw [e1,e2,List.drop_zero,Nat.sub_zero,List.take_length]
 rw [hc] at ha ⊢
 have ne:l≠a:=fun z=>by
  subst z
  rw [zai] at ha
  cases ha
 exact hQ _ _ _ ⟨⟨0,0,0,1,zai,Nat.zero_le _,by decide⟩,by rw [zaz ne];exact zai,ne⟩
theorem zkG:(Str.ofString "").cps.toList=[]:=by decide +kernel
theorem len1 {c:Nat}:Str.length ⟨#[c]⟩=1:=by unfold Str.length;rfl
structure zlV (z:Str):Prop where
 one:1≤z.cps.size
 eight:z.cps.size≤8
 az:∀ c∈z.cps.toList,97≤c∧c≤122
def Nms (zs:List Str):Prop:=(∀ z∈zs,zlV z)∧zs.Nodup
theorem zhi {i:Int} (h0:0≤i) (h1:i < 26):L2.atI (Str.cps "abcdefghijklmnopqrstuvwxyz").toList i=some (97+i.toNat):=by
 have:∀ k:Fin 26,L2.atI (Str.cps "abcdefghijklmnopqrstuvwxyz").toList (k.val:Int)=some (97+k.val):=by decide +kernel
 have h:=this ⟨i.toNat,by omega⟩
 simp only [Int.toNat_of_nonneg h0] at h
 exact h
structure Way (n place x:Nat) (z:Str):Prop where
 len:z.cps.size=n
 az:∀ c∈z.cps.toList,97≤c∧c≤122
 at_:place < n->z.cps[place]? = some x
theorem Way.add {n place x y:Nat} {z:Str} (h:Way n place x z) (hy:97≤y∧y≤122) (hx:n=place->y=x):Way (n+1) place x (z++(⟨#[y]⟩:Str)) where
 len:=by
  show (z.cps++#[y]).size=n+1
  rw [Array.size_append,h.len]
  rfl
 az:=fun c hc=>by
  have hc':c∈(z.cps++#[y]).toList:=hc
  rw [Array.toList_append] at hc'
  rcases List.mem_append.mp hc' with q | q
  ·exact h.az c q
  ·have:c=y:=by simpa using q
   rw [this]
   exact hy
 at_:=fun hp=>by
  show (z.cps++#[y])[place]? = some x
  by_cases q:place < n
  ·rw [Array.getElem?_append_left (by rw [h.len];exact q)]
   exact h.at_ q
  ·have e:n=place:=by omega
   rw [Array.getElem?_append_right (by rw [h.len];omega),h.len,e,Nat.sub_self]
   simp [hx e]
theorem zhJ {K:PySem.W.Frag} {ns:List Int} {a l:Addr} {S:Sto} {many:Nat} {Q:DQ} {E:XQ} (h:StA ns a l S) (hm:many≤26)
  (hQ:∀ p S' zs,zs.length=many->Nms zs->S' p=some (.lst (zs.map D.str))->S p=none->StA ns a l S'->Fr a S S'->Q (.ref p) S'):zca K [.ref a,.int many] S Q E:=by
 refine zaT rfl ?_
 unfold zeL
 walk_at "dl"
 refine zaH h (by decide) (by decide +kernel) fun place S1 p0 p1 h1 f1=>?_
 walk_at "dl"
 refine zaH h1 (by decide) (by decide +kernel) fun first S2 q0 q1 h2 f2=>?_
 walk_at "dl"
 refine zaH h2 (by decide) (by decide +kernel) fun shared S3 _ _ h3 f3=>?_
 walk_at "dl"
 refine zaH h3 (by decide) (by decide +kernel) fun bas S4 b0 b1 h4 f4=>?_
 walk_at "dl"
 with_reducible refine zb4 (szl (by simp)) fun p hp=>?_
 have fr4:Fr a S S4:=((f1.trans f2).trans f3).trans f4
 walk_at "dl"
 with_reducible refine zgH (by omega) (by omega) ?_
 walk_at "dl"
 have pa:p≠a:=fun z=>by
  obtain ⟨⟨_,_,_,_,e,_⟩,_,_⟩:=h4
  rw [← z,hp] at e
  cases e
 have pl:l≠p:=fun z=>by
  have e:=h4.sl
  rw [z,hp] at e
  cases e
 let Gd:List Str->Prop:=fun zs=>∀ (j:Nat) z,zs[j]? = some z->zlV z∧z.cps[place.toNat]? = some (97+((first+7 * (j:Int)) % 26).toNat)
 refine zbf (fun i env S5=>∃ (k o sz nm at_:Option D) (zs:List Str),env=[some (.ref a),some (.int many),some (.int place),some (.int first),some (.int shared),some (.int bas),some (.str "abcdefghijklmnopqrstuvwxyz"),some (.ref p),k,o,sz,nm,at_]∧
   zs.length=i∧Gd zs∧S5 p=some (.lst (zs.map D.str))∧StA ns a l S5∧Fr a S4 S5) _ 0 ?_ ?_ ?_
 ·refine ⟨_,_,_,_,_,[],rfl,rfl,fun j z hz=>by simp at hz,zai,⟨?_,?_,h4.ne⟩,Fr.refl.new hp⟩
  ·obtain ⟨p',big,cnt,seed,e,r⟩:=h4.ex
   exact ⟨p',big,cnt,seed,by rw [zaz (Ne.symm pa)];exact e,r⟩
  ·rw [zaz pl];exact h4.sl
 ·rintro i x _ S5 hx ⟨k,o,sz,nm,at_,zs,rfl,hl,hg,ep,h5,f5⟩ nx hnx
  obtain ⟨rfl,hi⟩:=zfv hx
  rw [Nat.zero_add] at hl hnx
  have hi26:i < 26:=by omega
  refine ⟨trivial,?_⟩
  refine zeg ?_
  with_reducible refine ze4 ?_
  walk_at "dln"
  with_reducible refine ze4 ?_
  walk_at "dln"
  with_reducible refine zgI (fun env S6=>∃ (ot sz:Int) (nm at_:Option D),env=[some (.ref a),some (.int many),some (.int place),some (.int first),some (.int shared),some (.int bas),some (.str "abcdefghijklmnopqrstuvwxyz"),some (.ref p),some (.int i),some (.int ot),some (.int sz),nm,at_]∧
   0≤ot∧place+1≤sz∧sz≤8∧S6 p=some (.lst (zs.map D.str))∧StA ns a l S6∧Fr a S4 S6) ?_ ?_
  ·rintro _ S6 ⟨ot,sz,nm,at_,rfl,ho,hs1,hs2,ep6,h6,f6⟩
   with_reducible refine ze4 ?_
   walk_at "dln"
   with_reducible refine ze4 ?_
   with_reducible refine zqC ?_
   walk_at "dln"
   with_reducible refine zgH (by omega) (by omega) ?_
   with_reducible refine zl7 ?_
   refine zbf (fun t env S7=>∃ (ot:Int) (z:Str) (at_:Option D),env=[some (.ref a),some (.int many),some (.int place),some (.int first),some (.int shared),some (.int bas),some (.str "abcdefghijklmnopqrstuvwxyz"),some (.ref p),some (.int i),some (.int ot),some (.int sz),some (.str z),at_]∧
    0≤ot∧Way t place.toNat (97+((first+7 * (i:Int)) % 26).toNat) z∧S7=S6) _ 0 ?_ ?_ ?_
   ·exact ⟨ot,_,_,rfl,ho,⟨rfl,fun c hc=>(by rw [zkG] at hc;cases hc),fun hp=>by omega⟩,rfl⟩
   ·rintro t x _ S7 hx ⟨ot,z,at_,rfl,ho,hw,rfl⟩ nx2 hnx2
    obtain ⟨rfl,ht⟩:=zfv hx
    rw [Nat.zero_add] at hw hnx2
    refine ⟨trivial,?_⟩
    refine zeg ?_
    have l1:=zhi (i:=(first+7 * (i:Int)) % 26) (Int.emod_nonneg _ (by decide)) (Int.emod_lt_of_pos _ (by decide))
    have l2:=zhi (i:=ot % 26) (Int.emod_nonneg _ (by decide)) (Int.emod_lt_of_pos _ (by decide))
    have zl:z.length=t:=hw.len
    walk_at "dl"
    with_reducible refine zdJ (fun he=>?_) (fun hne=>?_)
    ·walk_at "dl"
     with_reducible refine ziS (by rw [zl,len1];exact szl (by omega)) ?_
     walk_at "dl"
     exact hnx2 _ _ ⟨ot,_,_,rfl,ho,hw.add (by omega) (fun _=>rfl),rfl⟩
    ·walk_at "dl"
     with_reducible refine ziS (by rw [zl,len1];exact szl (by omega)) ?_
     walk_at "dl"
     exact hnx2 _ _ ⟨ot / 26,_,_,rfl,Int.ediv_nonneg ho (by decide),hw.add (by omega) (fun e=>absurd (by omega) hne),rfl⟩
   ·rintro _ S7 ⟨ot,z,at_,rfl,ho,hw,rfl⟩
    refine ⟨trivial,?_⟩
    rw [Nat.zero_add,ze5] at hw
    have zl:zs.length≤26:=by omega
    walk_at "dl"
    with_reducible refine s_app ep6 (by rw [List.length_map];exact zfr (by omega)) ?_
    walk_at "dl"
    have nb:place.toNat < sz.toNat:=by omega
    refine hnx _ _ ⟨_,_,_,_,_,zs++[z],rfl,by simp [hl],?_,by rw [zai];simp,⟨?_,?_,h6.ne⟩,?_⟩
    ·intro j y hy
     by_cases hj:j < zs.length
     ·rw [List.getElem?_append_left hj] at hy
      exact hg j y hy
     ·rw [List.getElem?_append_right (by omega)] at hy
      have ej:j=i:=by
       have:=(List.getElem?_eq_some_iff.mp hy).1
       simp at this
       omega
      subst ej
      rw [hl,Nat.sub_self] at hy
      cases hy
      exact ⟨⟨by rw [hw.len];omega,by rw [hw.len];omega,hw.az⟩,hw.at_ nb⟩
    ·obtain ⟨p',big,cnt,seed,e,r⟩:=h6.ex
     exact ⟨p',big,cnt,seed,by rw [zaz (Ne.symm pa)];exact e,r⟩
    ·rw [zaz pl];exact h6.sl
    ·intro b o hb e
     have e':=f6 b o hb e
     rw [zaz (fun z=>by subst z;rw [hp] at e;cases e)]
     exact e'
  ·intro nx3 hnx3
   walk_at "dl"
   with_reducible refine zdJ (fun he=>?_) (fun hne=>?_)
   ·walk_at "dl"
    refine zaH h5 (by decide) (by decide +kernel) fun ot S6 o0 o1 h6 g6=>?_
    walk_at "dl"
    refine zaH h6 (by omega) (zbQ (by omega) (by omega)) fun more S7 m0 m1 h7 g7=>?_
    walk_at "dl"
    exact hnx3 _ _ ⟨ot,_,_,_,rfl,o0,by omega,by omega,g7 p _ pa (g6 p _ pa ep),h7,(f5.trans g6).trans g7⟩
   ·walk_at "dl"
    exact hnx3 _ _ ⟨bas,_,_,_,rfl,b0,by omega,by omega,ep,h5,f5⟩
 ·rintro _ S5 ⟨k,o,sz,nm,at_,zs,rfl,hl,hg,ep,h5,f5⟩
  rw [Nat.zero_add,ze5] at hl
  refine ⟨trivial,?_⟩
  walk_at "dl"
  have sp:S p=none:=by
   cases e:S p with
   | none=>rfl
   | some o'=>rw [fr4 p o' pa e] at hp;cases hp
  refine hQ p S5 zs (by simpa using hl) ⟨fun z hz=>?_,?_⟩ ep sp h5 (fr4.trans f5)
  ·obtain ⟨j,hj,e⟩:=List.getElem_of_mem hz
   exact (hg j z (by rw [List.getElem?_eq_getElem hj,e])).1
  ·refine List.pairwise_iff_getElem.mpr fun i j hi hj hij e=>?_
   have e1:=(hg i _ (List.getElem?_eq_getElem hi)).2
   have e2:=(hg j _ (List.getElem?_eq_getElem hj)).2
   rw [e,e2] at e1
   have e3:=Option.some.inj e1
   have:zs.length≤26:=by
    rw [hl]
    simpa using hm
   omega
inductive Row where
 | read (c s:Str) | peek (c s:Str) | put (s w:Str) | give (s:Str) | say (s:Str) | write (c s:Str)
 | ite (s w:Str) (y n:List Row)
mutual
def Row.d:Row->D
 | .read c s=>.tup [.str "read", .str c,.str s]
 | .peek c s=>.tup [.str "peek", .str c,.str s]
 | .put s w=>.tup [.str "put", .str s,.str w]
 | .give s=>.tup [.str "give", .str s]
 | .say s=>.tup [.str "say", .str s]
 | .write c s=>.tup [.str "write", .str c,.str s]
 | .ite s w y n=>.tup [.str "if", .str s,.str w,.tup (za7 y),.tup (za7 n)]
def za7:List Row->List D
 | []=>[]
 | r :: rs=>r.d :: za7 rs
end
mutual
def Row.ex:Row->Nat
 | .ite _ _ y n=>zbE y+zbE n
 | .read _ _=>0
 | .peek _ _=>0
 | .put _ _=>0
 | .give _=>0
 | .say _=>0
 | .write _ _=>0
def zbE:List Row->Nat
 | []=>0
 | r :: rs=>1+r.ex+zbE rs
end
mutual
def Row.dep:Row->Nat
 | .ite _ _ y n=>1+max (zbz y) (zbz n)
 | .read _ _=>0
 | .peek _ _=>0
 | .put _ _=>0
 | .give _=>0
 | .say _=>0
 | .write _ _=>0
def zbz:List Row->Nat
 | []=>0
 | r :: rs=>max r.dep (zbz rs)
end
theorem zey:∀ rs:List Row,za7 rs=rs.map Row.d
 | []=>by simp [za7]
 | r :: rs=>by simp [za7,zey rs]
theorem zcx {rs:List Row}:(za7 rs).length=rs.length:=by rw [zey,List.length_map]
theorem zhA {rs:List Row} {i:Nat} {x:D} (h:(za7 rs)[i]? = some x):∃ r,rs[i]? = some r∧x=r.d:=by
 rw [zey,List.getElem?_map] at h
 cases e:rs[i]? with
 | none=>rw [e] at h;cases h
 | some r=>rw [e] at h;exact ⟨r,rfl,(Option.some.inj h).symm⟩
theorem zhS:∀ {rs:List Row} {r:Row},r∈rs->r.dep≤zbz rs
 | x :: rs,r,h=>by
  rw [zbz]
  rcases List.mem_cons.mp h with e | h
  ·subst e;omega
  ·have:=zhS h;omega
def zdM (rs:List Row):Nat:=(rs.map Row.ex).sum
theorem zfI:∀ rs:List Row,zbE rs=rs.length+zdM rs
 | []=>rfl
 | r :: rs=>by
  rw [zbE,zfI rs]
  simp [zdM]
  omega
theorem zho {rs:List Row} {i:Nat} {r:Row} (h:rs[i]? = some r):zdM (rs.take (i+1))=zdM (rs.take i)+r.ex:=by
 obtain ⟨hi,e⟩:=List.getElem?_eq_some_iff.mp h
 rw [List.take_succ,h]
 simp [zdM]
theorem zhN {K:PySem.W.Frag}:∀ (n:Nat) (rs:List Row) {S:Sto} {Q:DQ} {E:XQ},zbz rs < n->Q (.int (zbE rs)) S->zcv K n [.tup (za7 rs)] S Q E
 | 0,rs,S,Q,E,h,_=>absurd h (Nat.not_lt_zero _)
 | n+1,rs,S,Q,E,h,hQ=>by
  refine zaT rfl ?_
  unfold zfk
  walk_at "dl"
  refine zbf (fun i env S'=>∃ x:Option D,env=[some (.tup (za7 rs)),some (.int ((rs.length+zdM (rs.take i):Nat):Int)),x]∧S'=S) _ 0 ?_ ?_ ?_
  ·have e0:((za7 rs).length:Int)=((rs.length+zdM (rs.take 0):Nat):Int):=by
    rw [zcx]
    simp [zdM]
   rw [e0]
   exact ⟨_,rfl,rfl⟩
  ·rintro i x _ _ hx ⟨y,rfl,rfl⟩ nx hnx
   rw [Nat.zero_add] at hnx ⊢
   obtain ⟨r,hr,rfl⟩:=zhA hx
   have hd:=zhS (List.mem_of_getElem? hr)
   have et:=zho hr
   refine ⟨trivial,?_⟩
   refine zeg ?_
   cases r with
   | ite s w y n'=>
    rw [Row.d]
    rw [Row.dep] at hd
    rw [Row.ex] at et
    walk_at "dl"
    refine zhN n y (by omega) ?_
    walk_at "dl"
    refine zhN n n' (by omega) ?_
    walk_at "dl"
    have e1:((rs.length+zdM (rs.take i):Nat):Int)+((zbE y:Int)+(zbE n':Int))=((rs.length+zdM (rs.take (i+1)):Nat):Int):=by
     rw [et]
     omega
    rw [e1]
    exact hnx _ _ ⟨_,rfl,rfl⟩
   | _=>
    rw [Row.d]
    rw [Row.ex] at et
    walk_at "dl"
    replace et:zdM (rs.take (i+1))=zdM (rs.take i):=et
    rw [← et]
    exact hnx _ _ ⟨_,rfl,rfl⟩
  ·rintro _ _ ⟨y,rfl,rfl⟩
   refine ⟨trivial,?_⟩
   walk_at "dl"
   rw [zcx,Nat.zero_add,List.take_length,← zfI]
   exact hQ
structure Shp where
 der:Bool
 pk:Bool
 wr:Bool
 words:List Str
 sources:List Str
 cells:List Str
 slots:List Str
mutual
def Row.ok (h:Shp):Row->Prop
 | .read c s=>c∈h.cells∧s∈h.slots
 | .peek c s=>(h.der=false∧h.pk=true)∧c∈h.cells∧s∈h.slots
 | .put s w=>s∈h.slots∧w∈h.words
 | .give s=>h.der=true∧s∈h.slots
 | .say s=>h.der=false∧s∈h.slots
 | .write c s=>(h.der=false∧h.wr=true)∧c∈h.sources∧s∈h.slots
 | .ite s w y n=>s∈h.slots∧w∈h.words∧zd8 h y∧zd8 h n
def zd8 (h:Shp):List Row->Prop
 | []=>True
 | r :: rs=>r.ok h∧zd8 h rs
end
theorem zfL {h:Shp}:∀ {rs:List Row},zd8 h rs ↔ ∀ r∈rs,r.ok h
 | []=>by simp [zd8]
 | r :: rs=>by rw [zd8,zfL];simp
def kindS (b:Bool):Str:=match b with
 | true => "derived"
 | false => "effects"
theorem zlv {b:Bool} (h:kindS b = "derived"):b=true:=by
 cases b
 ·exact absurd h (by decide +kernel)
 ·rfl
theorem zlu {b:Bool} (h:¬ kindS b = "derived"):b=false:=by
 cases b
 ·rfl
 ·exact absurd rfl h
structure ShD (h:Shp) (sl ce:Addr) (kvs:List (Key×D)):Prop where
 kind:valD kvs (.inr "kind")=some (.str (kindS h.der))
 cells:valD kvs (.inr "cells")=some (.ref ce)
 sources:valD kvs (.inr "sources")=some (.tp true (h.sources.map D.str))
 slots:valD kvs (.inr "slots")=some (.ref sl)
 words:valD kvs (.inr "words")=some (.tup (h.words.map D.str))
 peeks:valD kvs (.inr "peeks")=some (.bl h.pk)
 writes:valD kvs (.inr "writes")=some (.bl h.wr)
structure ShS (h:Shp) (a sh sl ce:Addr) (S:Sto):Prop where
 ex:∃ kvs,S sh=some (.dic kvs)∧ShD h sl ce kvs
 sl_:S sl=some (.lst (h.slots.map D.str))
 ce_:S ce=some (.lst (h.cells.map D.str))
 nsh:sh≠a
 nsl:sl≠a
 nce:ce≠a
theorem ShS.fr {h:Shp} {a sh sl ce:Addr} {S S':Sto} (x:ShS h a sh sl ce S) (f:Fr a S S'):ShS h a sh sl ce S':=by
 obtain ⟨⟨kvs,e,d⟩,e1,e2,n1,n2,n3⟩:=x
 exact ⟨⟨kvs,f _ _ n1 e,d⟩,f _ _ n2 e1,f _ _ n3 e2,n1,n2,n3⟩
structure ShW (h:Shp):Prop where
 w0:0 < h.words.length
 w1:h.words.length≤100
 s0:0 < h.sources.length
 s1:h.sources.length≤100
 c0:0 < h.cells.length
 c1:h.cells.length≤100
 l0:0 < h.slots.length
 l1:h.slots.length≤100
 flags:h.der=true->h.pk=false∧h.wr=false
theorem zir {zs:List Str} {r:Int} (h0:0≤r) (h1:r < (zs.map D.str).length):∃ z∈zs,L2.atI (zs.map D.str) r=some (.str z):=by
 obtain ⟨n,rfl⟩:=Int.eq_ofNat_of_zero_le h0
 have hn:n < zs.length:=by simpa using h1
 exact ⟨zs[n],List.getElem_mem hn,atI_nat (by simp [hn])⟩
theorem zc5 {K:PySem.W.Frag} {ns:List Int} {a l:Addr} {S:Sto} {zs:List Str} {Q:DQ} {E:XQ} (h:StA ns a l S) (h0:0 < zs.length) (h1:zs.length≤100)
  (hQ:∀ r S' z,z∈zs->L2.atI (zs.map D.str) r=some (.str z)->StA ns a l S'->Fr a S S'->Q (.int r) S'):zaj K [.ref a,.int ((zs.map D.str).length:Nat)] S Q E:=by
 refine zaH h (by simpa using h0) (zbQ (by omega) (by simp;omega)) fun r S' r0 r1 h' f'=>?_
 obtain ⟨z,hz,ez⟩:=zir r0 r1
 exact hQ r S' z hz ez h' f'
theorem zqN {K:PySem.W.Frag} {ns:List Int} {a l sh sl ce:Addr} {S:Sto} {h:Shp} {Q:DQ} {E:XQ} (hS:StA ns a l S) (hh:ShS h a sh sl ce S) (hw:ShW h)
  (hQ:∀ (r:Row) S',r.ok h->r.dep=0->r.ex=0->StA ns a l S'->Fr a S S'->Q r.d S'):zdS K [.ref a,.ref sh] S Q E:=by
 refine zaT rfl ?_
 unfold zfU
 walk_at "dl"
 refine zaH hS (by decide) (by decide +kernel) fun k S1 k0 k1 h1 f1=>?_
 obtain ⟨⟨kvs,e1,d⟩,e2,e3,_,_,_⟩:=hh.fr f1
 have dk:=d.kind
 have dc:=d.cells
 have ds:=d.sources
 have dl:=d.slots
 have dw:=d.words
 have dp:=d.peeks
 have dr:=d.writes
 walk_at "dl"
 refine zc5 h1 hw.l0 hw.l1 fun r2 S2 s hs es h2 f2=>?_
 obtain ⟨⟨kvs',e1',d'⟩,e2',e3',n1,n2,n3⟩:=hh.fr (f1.trans f2)
 have ek:kvs'=kvs:=by
  have z:=f2 _ _ n1 e1
  rw [e1'] at z
  cases z
  rfl
 subst ek
 walk_at "dl"
 have rest:∀ (env:Slo),env=[some (.ref a),some (.ref sh),some (.int k),some (.str s),none]->¬ k=0->¬ k=1->(zav (mIf (zhX (mB (mOp vEq (zah 2) (mC (.int 2)))) (zct (mOp vIx (zah 1) (mC (.str "writes")))))
   (zaZ (zbu (zac (mC (.str "write")) (zac (mOp vIx (mOp vIx (zah 1) (mC (.str "sources"))) (zaw (zaj K) (fun c fs _ S'=>E c fs S') (zac (zah 0) (zac (mCB zcJ (zac (mOp vIx (zah 1) (mC (.str "sources"))) zan)) zan)))) (zac (zah 3) zan))))) mNx)
   (zav (zaP (mOp vIx (mOp vIx (zah 1) (mC (.str "cells"))) (zaw (zaj K) (fun c fs _ S'=>E c fs S') (zac (zah 0) (zac (mCB zcJ (zac (mOp vIx (zah 1) (mC (.str "cells"))) zan)) zan)))) (gNm 4))
    (zav (mIf (zhX (mB (mOp vEq (zah 2) (mC (.int 3)))) (zct (mOp vIx (zah 1) (mC (.str "peeks"))))) (zaZ (zbu (zac (mC (.str "peek")) (zac (zah 4) (zac (zah 3) zan))))) mNx)
     (zaZ (zbu (zac (mC (.str "read")) (zac (zah 4) (zac (zah 3) zan)))))))) { nx:=fun _ S'=>Q .non S',rt:=Q } env S2:=by
  rintro _ rfl hk0 hk1
  have last:∀ (env:Slo),env=[some (.ref a),some (.ref sh),some (.int k),some (.str s),none]->(zav (zaP (mOp vIx (mOp vIx (zah 1) (mC (.str "cells"))) (zaw (zaj K) (fun c fs _ S'=>E c fs S') (zac (zah 0) (zac (mCB zcJ (zac (mOp vIx (zah 1) (mC (.str "cells"))) zan)) zan)))) (gNm 4))
    (zav (mIf (zhX (mB (mOp vEq (zah 2) (mC (.int 3)))) (zct (mOp vIx (zah 1) (mC (.str "peeks"))))) (zaZ (zbu (zac (mC (.str "peek")) (zac (zah 4) (zac (zah 3) zan))))) mNx)
     (zaZ (zbu (zac (mC (.str "read")) (zac (zah 4) (zac (zah 3) zan))))))) { nx:=fun _ S'=>Q .non S',rt:=Q } env S2:=by
   rintro _ rfl
   walk_at "dl"
   refine zc5 h2 hw.c0 hw.c1 fun r3 S3 c hc ec h3 f3=>?_
   have e1s:=f3 _ _ n1 e1'
   have e3s:=f3 _ _ n3 e3'
   have f03:Fr a S S3:=(f1.trans f2).trans f3
   walk_at "dl"
   with_reducible refine zbt (fun hk3=>?_) (fun hk3=>?_)
   ·walk_at "dl"
    with_reducible refine zef (fun hp=>?_) (fun hp=>?_)
    ·walk_at "dl"
     with_reducible refine zaE (szl (by simp)) ?_
     refine hQ (.peek c s) S3 ⟨⟨?_,hp⟩,hc,hs⟩ rfl rfl h3 f03
     cases hd:h.der
     ·rfl
     ·rw [(hw.flags hd).1] at hp
      cases hp
    ·walk_at "dl"
     with_reducible refine zaE (szl (by simp)) ?_
     exact hQ (.read c s) S3 ⟨hc,hs⟩ rfl rfl h3 f03
   ·walk_at "dl"
    with_reducible refine zaE (szl (by simp)) ?_
    exact hQ (.read c s) S3 ⟨hc,hs⟩ rfl rfl h3 f03
  with_reducible refine ze4 ?_
  walk_at "dln"
  with_reducible refine zbt (fun hk2=>?_) (fun hk2=>?_)
  ·walk_at "dln"
   with_reducible refine zef (fun hp=>?_) (fun hp=>?_)
   ·walk_at "dln"
    refine zc5 h2 hw.s0 hw.s1 fun r3 S3 c hc ec h3 f3=>?_
    walk_at "dln"
    with_reducible refine zaE (szl (by simp)) ?_
    refine hQ (.write c s) S3 ⟨⟨?_,hp⟩,hc,hs⟩ rfl rfl h3 ((f1.trans f2).trans f3)
    cases hd:h.der
    ·rfl
    ·rw [(hw.flags hd).2] at hp
     cases hp
   ·walk_at "dln"
    exact last _ rfl
  ·walk_at "dln"
   exact last _ rfl
 with_reducible refine zdJ (fun hk=>?_) (fun hk=>?_)
 ·walk_at "dl"
  refine zc5 h2 hw.w0 hw.w1 fun r3 S3 w hww ew h3 f3=>?_
  walk_at "dl"
  with_reducible refine zaE (szl (by simp)) ?_
  exact hQ (.put s w) S3 ⟨hs,hww⟩ rfl rfl h3 ((f1.trans f2).trans f3)
 ·with_reducible refine zvn ?_
  with_reducible refine ze4 ?_
  walk_at "dln"
  with_reducible refine zbt (fun hk1=>?_) (fun hk1=>?_)
  ·walk_at "dln"
   with_reducible refine zdJ (fun hd=>?_) (fun hd=>?_)
   ·walk_at "dln"
    with_reducible refine zaE (szl (by simp)) ?_
    exact hQ (.give s) S2 ⟨zlv hd,hs⟩ rfl rfl h2 (f1.trans f2)
   ·walk_at "dln"
    with_reducible refine ze4 ?_
    walk_at "dln"
    with_reducible refine zdJ (fun hk'=>?_) (fun hk'=>?_)
    ·walk_at "dln"
     with_reducible refine zaE (szl (by simp)) ?_
     exact hQ (.say s) S2 ⟨zlu hd,hs⟩ rfl rfl h2 (f1.trans f2)
    ·exact absurd (of_decide_eq_true hk1) hk'
  ·walk_at "dln"
   with_reducible refine ze4 ?_
   walk_at "dln"
   with_reducible refine zdJ (fun hk'=>?_) (fun hk'=>?_)
   ·rw [decide_eq_true hk'] at hk1
    cases hk1
   ·walk_at "dln"
    exact rest _ rfl hk hk'
theorem zez (rs:List Row) (r:Row):za7 rs++[r.d]=za7 (rs++[r]):=by
 rw [zey,zey,List.map_append]
 rfl
theorem zgV (rs:List Row) (r:Row):zbE (rs++[r])=zbE rs+1+r.ex:=by
 rw [zfI,zfI]
 simp [zdM]
 omega
theorem zfT:∀ (rs:List Row) (r:Row),zbz (rs++[r])=max (zbz rs) r.dep
 | [],r=>by simp [zbz]
 | x :: rs,r=>by
  rw [List.cons_append,zbz,zbz,zfT rs r]
  omega
theorem zic {h:Shp} {rs:List Row} {r:Row} (h1:zd8 h rs) (h2:r.ok h):zd8 h (rs++[r]):=by
 rw [zfL] at h1 ⊢
 intro x hx
 rcases List.mem_append.mp hx with q | q
 ·exact h1 x q
 ·rw [List.mem_singleton.mp q];exact h2
theorem Fr.wr {a p:Addr} {S S':Sto} {o:O} (h:Fr a S S') (hp:S p=none):Fr a S (DL.put S' p o):=fun b o' hb e=>by
 rw [zaz (fun z=>by subst z;rw [hp] at e;cases e)]
 exact h b o' hb e
theorem StA.wr {ns:List Int} {a l p:Addr} {S:Sto} {o:O} (h:StA ns a l S) (pa:p≠a) (pl:l≠p):StA ns a l (DL.put S p o):=by
 obtain ⟨⟨p',big,cnt,seed,e,r⟩,e2,ne⟩:=h
 exact ⟨⟨p',big,cnt,seed,by rw [zaz (Ne.symm pa)];exact e,r⟩,by rw [zaz pl];exact e2,ne⟩
theorem StA.fresh {ns:List Int} {a l p:Addr} {S:Sto} (h:StA ns a l S) (hp:S p=none):p≠a∧l≠p:=by
 obtain ⟨⟨p',big,cnt,seed,e,r⟩,e2,ne⟩:=h
 refine ⟨fun z=>?_,fun z=>?_⟩
 ·rw [← z,hp] at e;cases e
 ·rw [z,hp] at e2;cases e2
theorem zhz {K:PySem.W.Frag} {ns:List Int} {a l sh sl ce:Addr} {h:Shp} (hw:ShW h):∀ (n:Nat) {S:Sto} {d room:Int} {Q:DQ} {E:XQ},StA ns a l S->ShS h a sh sl ce S->1≤d->d≤4->4 - d < n->0≤room->room≤900 ->
  (∀ (rs:List Row) S',zd8 h rs->(zbE rs:Int)≤room->(zbz rs:Int)≤4 - d->StA ns a l S'->Fr a S S'->Q (.tup (za7 rs)) S')->zcu K n [.ref a,.ref sh,.int d,.int room] S Q E
 | 0,S,d,room,Q,E,hS,hh,d1,d4,hn,r0,r1,hQ=>by omega
 | n+1,S,d,room,Q,E,hS,hh,d1,d4,hn,r0,r1,hQ=>by
  refine zaT rfl ?_
  unfold zfi
  walk_at "dl"
  with_reducible refine zb4 (szl (by simp)) fun p hp=>?_
  obtain ⟨pa,pl⟩:=hS.fresh hp
  have f0:Fr a S (put S p (.lst [])):=Fr.refl.new hp
  have hS0:StA ns a l (put S p (.lst [])):=hS.wr pa pl
  walk_at "dl"
  refine zaH hS0 (by decide) (by decide +kernel) fun t S1 t0 t1 h1 f1=>?_
  have ep1:S1 p=some (.lst []):=f1 _ _ pa zai
  walk_at "dl"
  with_reducible refine zgH (by omega) (by omega) ?_
  walk_at "dl"
  refine zbf (fun i env S'=>∃ (rs:List Row) (left:Int) (x1 x2 x3 x4 x5 x6:Option D),env=[some (.ref a),some (.ref sh),some (.int d),some (.int room),some (.ref p),some (.int left),x1,x2,x3,x4,x5,x6]∧zd8 h rs∧(zbE rs:Int)+left=room∧0≤left∧
   (zbz rs:Int)≤4 - d∧S' p=some (.lst (za7 rs))∧StA ns a l S'∧Fr a S S') _ 0 ?_ ?_ ?_
  ·refine ⟨[],room,_,_,_,_,_,_,rfl,trivial,by simp [zbE],r0,by simp [zbz];omega,by rw [za7];exact ep1,h1,f0.trans f1⟩
  ·rintro i x _ S2 hx ⟨rs,left,x1,x2,x3,x4,x5,x6,rfl,hok,hcnt,hl0,hdep,ep,h2,f2⟩ nx hnx
   have hlen:(za7 rs).length < sizeLine:=by
    rw [zcx]
    have:=zfI rs
    exact zfr (by omega)
   have hlen':∀ r:Row,(za7 (rs++[r])).length < sizeLine:=fun r=>by
    rw [zcx]
    have:=zfI rs
    exact zfr (by simp;omega)
   refine ⟨trivial,?_⟩
   refine zeg ?_
   have other:∀ (x:Option D) (S3:Sto),StA ns a l S3->Fr a S2 S3->(mIf (mB (mOp vGe (zah 5) (mC (.int 1))))
     (zav (zcF (zfO okL zgv (zah 4) (zac (zaw (zdS K) (fun c fs _ S'=>E c fs S') (zac (zah 0) (zac (zah 1) zan))) zan))) (zaP (mOp zjN (zah 5) (mC (.int 1))) (gNm 5)))
     mNx) { nx:=nx,rt:=Q,bk:=fun e s=>(zaZ (mCB zcI (zac (zah 4) zan))) { nx:=fun _ S'=>Q .non S',rt:=Q } e s,ct:=nx } [some (.ref a),some (.ref sh),some (.int d),some (.int room),some (.ref p),some (.int left),x,x2,x3,x4,x5,x6] S3:=by
    intro x S3 h3 f3
    have ep3:=f3 _ _ pa ep
    walk_at "dl"
    with_reducible refine zdJ (fun hl=>?_) (fun hl=>?_)
    ·walk_at "dl"
     refine zqN h3 (hh.fr (f2.trans f3)) hw fun r S4 rok rdep rex h4 f4=>?_
     have ep4:=f4 _ _ pa ep3
     walk_at "dl"
     with_reducible refine s_app ep4 hlen ?_
     walk_at "dl"
     rw [zez]
     refine hnx _ _ ⟨rs++[r],left - 1,_,_,_,_,_,_,rfl,zic hok rok,by rw [zgV,rex];omega,by omega,by rw [zfT,rdep];omega,zai,h4.wr pa pl,((f2.trans f3).trans f4).wr hp⟩
    ·walk_at "dl"
     exact hnx _ _ ⟨rs,left,_,_,_,_,_,_,rfl,hok,hcnt,hl0,hdep,ep3,h3,f2.trans f3⟩
   walk_at "dln"
   with_reducible refine zbt (fun hl2=>?_) (fun hl2=>?_)
   ·have hl2:=of_decide_eq_true hl2
    walk_at "dln"
    with_reducible refine zbt (fun hd4=>?_) (fun hd4=>?_)
    ·have hd4:=of_decide_eq_true hd4
     walk_at "dln"
     refine zaH h2 (by decide) (by decide +kernel) fun r S3 _ _ h3 f3=>?_
     walk_at "dln"
     with_reducible refine zdJ (fun hr=>?_) (fun hr=>?_)
     ·obtain ⟨⟨kvs,e1,dd⟩,e2,e3,n1,n2,n3⟩:=hh.fr (f2.trans f3)
      have dc:=dd.cells
      have dl:=dd.slots
      have dw:=dd.words
      walk_at "dl"
      refine zc5 h3 hw.l0 hw.l1 fun r4 S4 s hs es h4 f4=>?_
      have e14:=f4 _ _ n1 e1
      have e24:=f4 _ _ n2 e2
      have e34:=f4 _ _ n3 e3
      walk_at "dl"
      refine zc5 h4 hw.c0 hw.c1 fun r5 S5 c hc ec h5 f5=>?_
      have e15:=f5 _ _ n1 e14
      have e35:=f5 _ _ n3 e34
      walk_at "dl"
      refine zc5 h5 hw.w0 hw.w1 fun r6 S6 w hww ew h6 f6=>?_
      have ep6:=f6 _ _ pa (f5 _ _ pa (f4 _ _ pa (f3 _ _ pa ep)))
      have f06:Fr a S S6:=(((f2.trans f3).trans f4).trans f5).trans f6
      walk_at "dl"
      with_reducible refine zaE (szl (by simp)) ?_
      walk_at "dl"
      with_reducible refine s_app ep6 hlen ?_
      walk_at "dl"
      have h7:StA ns a l (put S6 p (.lst (za7 rs++[.tup [.str "read", .str c,.str s]]))):=h6.wr pa pl
      have f07:Fr a S (put S6 p (.lst (za7 rs++[.tup [.str "read", .str c,.str s]]))):=f06.wr hp
      refine zhz hw n h7 (hh.fr f07) (by omega) (by omega) (by omega) (by omega) (by omega) fun ys S8 yok ycnt ydep h8 f8=>?_
      walk_at "dl"
      refine zhz hw n h8 (hh.fr (f07.trans f8)) (by omega) (by omega) (by omega) (by omega) (by omega) fun zs S9 zok zcnt zdep h9 f9=>?_
      have ep9:=f9 _ _ pa (f8 _ _ pa zai)
      have f09:Fr a S S9:=(f07.trans f8).trans f9
      walk_at "dl"
      with_reducible refine zaE (szl (by simp)) ?_
      walk_at "dl"
      have e9:za7 rs++[.tup [.str "read", .str c,.str s]]=za7 (rs++[.read c s]):=by rw [← zez,Row.d]
      rw [e9] at ep9
      with_reducible refine s_app ep9 (hlen' _) ?_
      walk_at "dl"
      refine zhN 6 ys (by omega) ?_
      walk_at "dl"
      refine zhN 6 zs (by omega) ?_
      walk_at "dl"
      have ea:za7 (rs++[.read c s])++[.tup [.str "if", .str s,.str w,.tup (za7 ys),.tup (za7 zs)]]=za7 (rs++[.read c s]++[.ite s w ys zs]):=by
       have z:=zez (rs++[Row.read c s]) (Row.ite s w ys zs)
       rw [Row.d] at z
       exact z
      rw [ea]
      refine hnx _ _ ⟨rs++[.read c s]++[.ite s w ys zs],_,_,_,_,_,_,_,rfl,zic (r:=.ite s w ys zs) (zic (r:=.read c s) hok (by rw [Row.ok];exact ⟨hc,hs⟩)) (by rw [Row.ok];exact ⟨hs,hww,yok,zok⟩),?_,by omega,?_,zai,h9.wr pa pl,f09.wr hp⟩
      ·rw [zgV,zgV,Row.ex,Row.ex]
       omega
      ·rw [zfT,zfT,Row.dep,Row.dep]
       omega
     ·exact other _ S3 h3 f3
    ·with_reducible refine zto ?_
     exact other _ S2 h2 Fr.refl
   ·with_reducible refine zto ?_
    exact other _ S2 h2 Fr.refl
  ·rintro _ S2 ⟨rs,left,x1,x2,x3,x4,x5,x6,rfl,hok,hcnt,hl0,hdep,ep,h2,f2⟩
   refine ⟨trivial,?_⟩
   walk_at "dl"
   exact hQ rs S2 hok (by omega) hdep h2 f2
set_option maxHeartbeats 2000000
theorem zcN {κ:Type} [DecidableEq κ] {kvs:List (κ×D)} {k k':κ} {v:D}:valD (putD kvs k v) k'=if k'=k then some v else valD kvs k':=by
 unfold putD
 by_cases h:(kvs.any fun kv=>decide (kv.1=k))=true
 ·rw [if_pos h]
  induction kvs with
  | nil=>simp at h
  | cons p kvs ih=>
   obtain ⟨q,u⟩:=p
   unfold valD at ih ⊢
   by_cases e:q=k
   ·subst e
    by_cases e':k'=q
    ·subst e';simp
    ·have e2:¬ q=k':=fun z=>e' z.symm
     simp only [List.map_cons,if_true,List.find?_cons,decide_eq_false e2,if_neg e']
     clear ih h
     induction kvs with
     | nil=>rfl
     | cons p kvs ih2=>
      obtain ⟨q2,u2⟩:=p
      by_cases e3:q2=q
      ·subst e3
       simp only [List.map_cons,if_true,List.find?_cons,decide_eq_false e2]
       exact ih2
      ·by_cases e4:q2=k'
       ·subst e4
        simp [e3]
       ·simp only [List.map_cons,if_neg e3,List.find?_cons,decide_eq_false e4]
        exact ih2
   ·have h2:(kvs.any fun kv=>decide (kv.1=k))=true:=by simpa [e] using h
    by_cases e4:q=k'
    ·subst e4
     simp [e]
    ·simp only [List.map_cons,if_neg e,List.find?_cons,decide_eq_false e4]
     exact ih h2
 ·rw [if_neg h]
  unfold valD
  rw [List.find?_append]
  by_cases e:k'=k
  ·subst e
   have:kvs.find? (fun kv=>decide (kv.1=k'))=none:=by
    rw [List.find?_eq_none]
    intro x hx hd
    exact h (List.any_eq_true.mpr ⟨x,hx,hd⟩)
   rw [this]
   simp
  ·have e2:¬ k=k':=fun z=>e z.symm
   rw [if_neg e]
   cases q:kvs.find? (fun kv=>decide (kv.1=k')) with
   | none=>simp [e2]
   | some x=>simp
theorem Fr.none_ {a p:Addr} {S S':Sto} (f:Fr a S S') (h:S' p=none) (pa:p≠a):S p=none:=by
 cases e:S p with
 | none=>rfl
 | some o=>rw [f p o pa e] at h;cases h
theorem zjY {S:Sto} {n:Nat} (zs:List Str):(zs.map D.str).mapM (rs S n)=some (zs.map PyData.str):=by
 induction zs with
 | nil=>rfl
 | cons z zs ih=>
  rw [List.map_cons,List.mapM_cons,ih]
  cases n <;> rfl
theorem zhy {S:Sto} {fl:Bool} (zs:List Str):rs S 40 (.tp fl (zs.map D.str))=some (.tuple (zs.map PyData.str)):=by
 show (List.mapM (rs S 39) (zs.map D.str)).map PyData.tuple=_
 rw [zjY]
 rfl
theorem zgZ (zs:List Str) (x:Str):((zs.map PyData.str).any fun z=>PyData.eqv z (.str x))=decide (x∈zs):=by
 induction zs with
 | nil=>rfl
 | cons z zs ih=>
  rw [List.map_cons,List.any_cons,ih]
  have e:PyData.eqv (.str z) (.str x)=decide (z=x):=(zfb z x).symm
  rw [e]
  by_cases h:z=x
  ·subst h;simp
  ·have h2:¬ x=z:=fun q=>h q.symm
   simp [h,h2]
structure Parts where
 words:List Str
 sources:List Str
 derived:List (Str×List Row)
 effects:List (Str×List Row)
 fl:Bool
def pairD (p:Str×List Row):D:=.tup [.str p.1,.tup (za7 p.2)]
def Parts.d (x:Parts):D:=.tup [.tup (x.words.map D.str),.tp x.fl (x.sources.map D.str),.tup (x.derived.map pairD),.tup (x.effects.map pairD)]
structure BodyOk (h:Shp) (rs:List Row):Prop where
 ok:zd8 h rs
 cnt:zbE rs≤16
 dep:zbz rs≤3
structure zbA (x:Parts) (slots:List Str) (pk wr:Bool):Prop where
 ww:Nms x.words
 w2:2≤x.words.length
 w4:x.words.length≤4
 nn:Nms (x.sources++x.derived.map (·.1)++x.effects.map (·.1))
 s1:1≤x.sources.length
 s4:x.sources.length≤4
 d6:x.derived.length≤6
 e4:x.effects.length≤4
 sl:∀ z∈slots,zlV z
 der:∀ i p,x.derived[i]? = some p->BodyOk ⟨true,false,false,x.words,x.sources,x.sources++(x.derived.take i).map (·.1),slots⟩ p.2
 eff:∀ p∈x.effects,BodyOk ⟨false,pk,wr,x.words,x.sources,x.sources++x.derived.map (·.1),slots⟩ p.2
theorem zbL {ns:List Int} {a l p:Addr} {S S':Sto} {o:O} (h:StA ns a l S') (f:Fr a S S') (hp:S' p=none) :
  StA ns a l (DL.put S' p o)∧Fr a S (DL.put S' p o)∧p≠a∧S p=none∧(∀ b x,S' b=some x->DL.put S' p o b=some x)∧DL.put S' p o p=some o:=by
 obtain ⟨pa,pl⟩:=h.fresh hp
 refine ⟨h.wr pa pl,f.new hp,pa,f.none_ hp pa,fun b x e=>?_,zai⟩
 rw [zaz (fun z=>by subst z;rw [hp] at e;cases e)]
 exact e
theorem ziv {ns:List Int} {a l p:Addr} {S S':Sto} {o o':O} (h:StA ns a l S') (f:Fr a S S') (pa:p≠a) (pl:l≠p) (hp:S p=none) :
  StA ns a l (DL.put S' p o)∧Fr a S (DL.put S' p o)∧(∀ b x,b≠p->S' b=some x->DL.put S' p o b=some x)∧DL.put S' p o p=some o:=
 ⟨h.wr pa pl,f.wr hp,fun b x hb e=>by rw [zaz hb];exact e,zai⟩
theorem zkK (zs:List Str):DL.cutD (zs.map D.str) (some 1) none=(zs.drop 1).map D.str:=by
 unfold DL.cutD
 have e1:HT.sIx (zs.map D.str).length 0 (some 1)=min 1 zs.length:=by rw [List.length_map];rfl
 have e2:HT.sIx (zs.map D.str).length (zs.map D.str).length none=zs.length:=by rw [List.length_map];rfl
 rw [e1,e2]
 cases zs with
 | nil=>rfl
 | cons z zs=>
  have:min 1 (z :: zs).length=1:=by simp
  rw [this,List.map_cons,List.drop_one,List.drop_one,List.tail_cons,List.tail_cons]
  rw [List.take_of_length_le (by simp)]
theorem zlQ (zs:List Str) (k:Nat):DL.cutD (zs.map D.str) none (some (k:Int))=(zs.take k).map D.str:=by
 unfold DL.cutD
 have e1:HT.sIx (zs.map D.str).length 0 none=0:=rfl
 have e2:HT.sIx (zs.map D.str).length (zs.map D.str).length (some (k:Int))=min k zs.length:=by
  rw [List.length_map]
  exact HT.sIx_nat _ _ _
 rw [e1,e2,List.drop_zero,Nat.sub_zero,List.map_take]
 by_cases h:k≤zs.length
 ·rw [Nat.min_eq_left h]
 ·rw [Nat.min_eq_right (by omega),List.take_of_length_le (by simp),List.take_of_length_le (by simp;omega)]
theorem zlj {ws:List Str} {n:Str} (h:Nms ws) (hn:zlV n) (hx:n∉ws):Nms (ws.drop 1++[n]):=by
 refine ⟨fun z hz=>?_,?_⟩
 ·rcases List.mem_append.mp hz with q | q
  ·exact h.1 z (List.mem_of_mem_drop q)
  ·rw [List.mem_singleton.mp q];exact hn
 ·refine List.nodup_append.mpr ⟨h.2.sublist (List.drop_sublist _ _),by simp,fun x hx1 y hy=>?_⟩
  rw [List.mem_singleton.mp hy]
  intro e
  subst e
  exact hx (List.mem_of_mem_drop hx1)
theorem zcr {κ:Type} [DecidableEq κ] {kvs:List (κ×D)} {k:κ} {v:D}:(putD kvs k v).length≤kvs.length+1:=by
 unfold putD
 split
 ·simp
 ·simp
theorem zeQ:∀ (more kvs:List (Key×D)),(zdx kvs more).length≤kvs.length+more.length
 | [],kvs=>by simp [zdx]
 | p :: more,kvs=>by
  have h:=zeQ more (putD kvs p.1 p.2)
  have h2:=zcr (kvs:=kvs) (k:=p.1) (v:=p.2)
  have e:zdx kvs (p :: more)=zdx (putD kvs p.1 p.2) more:=rfl
  rw [e,List.length_cons]
  omega
abbrev kv0 (ce sl:Addr) (so wo:List Str):List (Key×D):=[(.inr "kind", .str "derived"),(.inr "cells", .ref ce),(.inr "sources", .tp true (so.map D.str)),(.inr "slots", .ref sl),(.inr "words", .tup (wo.map D.str))]
abbrev kv1 (ce sl:Addr) (so wo:List Str):List (Key×D):=putD (putD (zdx [] (kv0 ce sl so wo)) (.inr "peeks") (.bl false)) (.inr "writes") (.bl false)
theorem zoc {ce sl:Addr} {so wo:List Str}:(kv1 ce sl so wo).length≤7:=by
 have h:=zeQ (kv0 ce sl so wo) []
 have h1:=zcr (kvs:=zdx [] (kv0 ce sl so wo)) (k:=(.inr "peeks" : Key)) (v:=.bl false)
 have h2:=zcr (kvs:=putD (zdx [] (kv0 ce sl so wo)) (.inr "peeks") (.bl false)) (k:=(.inr "writes" : Key)) (v:=.bl false)
 simp at h
 show (putD (putD (zdx [] (kv0 ce sl so wo)) (.inr "peeks") (.bl false)) (.inr "writes") (.bl false)).length≤7
 omega
theorem zro {ce sl:Addr} {so wo slots:List Str}:ShD ⟨true,false,false,wo,so,so,slots⟩ sl ce (kv1 ce sl so wo):=by
 refine ⟨?_,?_,?_,?_,?_,?_,?_⟩ <;> (simp only [kv1,kv0,zdx,List.foldl_cons,List.foldl_nil];repeat (first | rw [zcN,if_pos (by with_reducible rfl)] | rw [zcN,if_neg (by decide +kernel)])) <;> rfl
theorem ShD.cells_put {h:Shp} {sl ce ce':Addr} {kvs:List (Key×D)} {cs:List Str} (x:ShD h sl ce kvs):ShD { h with cells:=cs } sl ce' (putD kvs (.inr "cells") (.ref ce')):=by
 obtain ⟨k1,k2,k3,k4,k5,k6,k7⟩:=x
 refine ⟨?_,?_,?_,?_,?_,?_,?_⟩ <;> (first | rw [zcN,if_pos (by with_reducible rfl)] | rw [zcN,if_neg (by decide +kernel)]) <;> assumption
theorem ShD.eff_put {h:Shp} {sl ce:Addr} {kvs:List (Key×D)} {pk wr:Bool} (x:ShD h sl ce kvs):ShD { h with der:=false,pk:=pk,wr:=wr } sl ce (putD (putD (putD kvs (.inr "kind") (.str "effects")) (.inr "peeks") (.bl pk)) (.inr "writes") (.bl wr)):=by
 obtain ⟨k1,k2,k3,k4,k5,k6,k7⟩:=x
 refine ⟨?_,?_,?_,?_,?_,?_,?_⟩ <;> (repeat (first | rw [zcN,if_pos (by with_reducible rfl)] | rw [zcN,if_neg (by decide +kernel)])) <;> first | assumption | rfl
theorem zlh {K:PySem.W.Frag} {ns:List Int} {a l z:Addr} {S:Sto} {w s d e r:Int} {pk wr:Bool} {Q:DQ} {E:XQ} (hS:StA ns a l S) (ez:S z=some (.lst [.int w,.int s,.int d,.int e,.int r])) (za:z≠a)
  (w0:0 < w) (w3:w≤3) (s0:0 < s) (s4:s≤4) (d0:0≤d) (d6:d≤6) (e0:0≤e) (e4:e≤4) (r0:0≤r) (r15:r≤15)
  (hQ:∀ x slots S',x.fl=true->zbA x slots pk wr->StA ns a l S'->Fr a S S'->Q x.d S'):zdT K [.ref a,.ref z,.bl pk,.bl wr] S Q E:=by
 refine zaT rfl ?_
 unfold zeK
 walk_at "dl"
 refine zaH hS w0 (zbQ (by omega) (by omega)) fun mw S1 mw0 mw1 h1 f1=>?_
 have z1:=f1 _ _ za ez
 walk_at "dl"
 refine zaH h1 s0 (zbQ (by omega) (by omega)) fun ms S2 ms0 ms1 h2 f2=>?_
 have z2:=f2 _ _ za z1
 walk_at "dl"
 refine zaH h2 (by omega) (zbQ (by omega) (by omega)) fun md1 S3 a0 a1 h3 f3=>?_
 have z3:=f3 _ _ za z2
 walk_at "dl"
 refine zaH h3 (by omega) (zbQ (by omega) (by omega)) fun md2 S4 b0 b1 h4 f4=>?_
 have z4:=f4 _ _ za z3
 walk_at "dl"
 refine zaH h4 (by omega) (zbQ (by omega) (by omega)) fun me1 S5 c0 c1 h5 f5=>?_
 have z5:=f5 _ _ za z4
 walk_at "dl"
 refine zaH h5 (by omega) (zbQ (by omega) (by omega)) fun me2 S6 g0 g1 h6 f6=>?_
 have z6:=f6 _ _ za z5
 walk_at "dl"
 obtain ⟨kw,ekw⟩:∃ k:Nat,2+mw=k:=⟨(2+mw).toNat,by omega⟩
 obtain ⟨ks,eks⟩:∃ k:Nat,1+ms=k:=⟨(1+ms).toNat,by omega⟩
 obtain ⟨kd,ekd⟩:∃ k:Nat,(if md2 > md1 then md2 else md1)=k:=⟨(if md2 > md1 then md2 else md1).toNat,by split <;> omega⟩
 obtain ⟨ke,eke⟩:∃ k:Nat,(if me2 > me1 then me2 else me1)=k:=⟨(if me2 > me1 then me2 else me1).toNat,by split <;> omega⟩
 have bd:kd≤6:=by
  have:(if md2 > md1 then md2 else md1)≤6:=by split <;> omega
  omega
 have be:ke≤4:=by
  have:(if me2 > me1 then me2 else me1)≤4:=by split <;> omega
  omega
 rw [ekw,eks,ekd,eke]
 refine zhJ h6 (by omega) fun p1 S7 ws wl wok ep1 sp1 h7 f7=>?_
 have z7:=f7 _ _ za z6
 walk_at "dln"
 with_reducible refine ze4 ?_
 walk_at "dln"
 have ekn:(ks:Int)+(kd:Int)+(ke:Int)=((ks+kd+ke:Nat):Int):=by omega
 rw [ekn]
 refine zhJ h7 (by omega) fun nm S8 nms nl nok enm snm h8 f8=>?_
 have z8:=f8 _ _ za z7
 obtain ⟨nma,nml⟩:=h7.fresh snm
 have f08:Fr a S S8:=((((((f1.trans f2).trans f3).trans f4).trans f5).trans f6).trans f7).trans f8
 have n0:0 < nms.length:=by omega
 have en0:L2.atI (nms.map D.str) 0=some (.str nms[0]):=atI_nat (p:=0) (by simp [n0])
 walk_at "dln"
 with_reducible refine zgI (fun env S9=>∃ ws':List Str,env=[some (.ref a),some (.ref z),some (.bl pk),some (.bl wr),some (.int kw),some (.int ks),some (.int kd),some (.int ke),some (.tup (ws'.map D.str)),some (.ref nm),none,none,none,none,none,none,none,none]∧
  Nms ws'∧ws'.length=kw∧StA ns a l S9∧Fr a S8 S9) ?_ ?_
 rotate_left
 ·intro nx hnx
  walk_at "dln"
  refine zaH h8 (by decide) (by decide +kernel) fun r9 S9 _ _ h9 f9=>?_
  have en9:=f9 _ _ nma enm
  walk_at "dln"
  with_reducible refine zbt (fun hr=>?_) (fun hr=>?_)
  ·walk_at "dln"
   refine zg3 (p:=.str nms[0]) rfl (zhy ws) ?_
   rw [zgZ]
   walk_at "dln"
   with_reducible refine zef (fun hin=>?_) (fun hin=>?_)
   ·walk_at "dln"
    rw [zkK]
    with_reducible refine zaE (szl (by simp)) ?_
    walk_at "dln"
    with_reducible refine zeW (szl (by simp;omega)) ?_
    walk_at "dln"
    have e:(ws.drop 1).map D.str++[.str nms[0]]=(ws.drop 1++[nms[0]]).map D.str:=by simp
    rw [e]
    refine hnx _ _ ⟨ws.drop 1++[nms[0]],rfl,zlj wok (nok.1 _ (List.getElem_mem n0)) (by simpa using hin),by simp;omega,h9,f9⟩
   ·walk_at "dln"
    exact hnx _ _ ⟨ws,rfl,wok,wl,h9,f9⟩
  ·walk_at "dln"
   exact hnx _ _ ⟨ws,rfl,wok,wl,h9,f9⟩
 rintro _ S9 ⟨ws',rfl,wok',wl',h9,f9⟩
 have z9:=f9 _ _ za z8
 have en9:=f9 _ _ nma enm
 have f09:Fr a S S9:=f08.trans f9
 clear z1 z2 z3 z4 z5 z6 z7 z8 f08 ekn
 walk_at "dl"
 refine zhJ (many:=2) h9 (by decide) fun p3 S10 zs zl zok ep3 sp3 h10 f10=>?_
 have z10:=f10 _ _ za z9
 have en10:=f10 _ _ nma en9
 have f010:Fr a S S10:=f09.trans f10
 walk_at "dl"
 with_reducible refine zb4 (szl (by simp)) fun p4 hp4=>?_
 obtain ⟨h11,f11,p4a,p4S,k11,t11⟩:=zbL (o:=.lst [.str nms[0]]) h10 f010 hp4
 have z11:=k11 _ _ z10
 have en11:=k11 _ _ en10
 have e311:=k11 _ _ ep3
 generalize DL.put S10 p4 (.lst [.str nms[0]])=S11 at h11 f11 k11 t11 z11 en11 e311 ⊢
 walk_at "dl"
 refine ziT e311 t11 (szl (by simp;omega)) fun sl hsl=>?_
 have esl:zs.map D.str++[.str nms[0]]=(zs++[nms[0]]).map D.str:=by simp
 rw [esl]
 obtain ⟨h12,f12,sla,slS,k12,t12⟩:=zbL (o:=.lst ((zs++[nms[0]]).map D.str)) h11 f11 hsl
 have z12:=k12 _ _ z11
 have en12:=k12 _ _ en11
 generalize DL.put S11 sl (.lst ((zs++[nms[0]]).map D.str))=S12 at h12 f12 k12 t12 z12 en12 ⊢
 walk_at "dl"
 refine zs1 en12 fun q hq=>?_
 rw [zlQ]
 obtain ⟨h13,f13,qa,qS,k13,t13⟩:=zbL (o:=.lst ((nms.take ks).map D.str)) h12 f12 hq
 have z13:=k13 _ _ z12
 have en13:=k13 _ _ en12
 have t12_13:=k13 _ _ t12
 generalize DL.put S12 q (.lst ((nms.take ks).map D.str))=S13 at h13 f13 k13 t13 z13 en13 t12_13 ⊢
 walk_at "dl"
 refine zqE fun sh hsh=>?_
 obtain ⟨h14,f14,sha,shS,k14,t14⟩:=zbL (o:=.dic []) h13 f13 hsh
 have shl:=(h13.fresh hsh).2
 have z14:=k14 _ _ z13
 have en14:=k14 _ _ en13
 have t12_14:=k14 _ _ t12_13
 have nsl:sl≠sh:=fun x=>by rw [x,hsh] at t12_13;cases t12_13
 have nnm:nm≠sh:=fun x=>by rw [x,hsh] at en13;cases en13
 have nz:z≠sh:=fun x=>by rw [x,hsh] at z13;cases z13
 generalize DL.put S13 sh (.dic [])=S14 at h14 f14 k14 t14 z14 en14 t12_14 ⊢
 walk_at "dl"
 refine zjT fun ce hce=>?_
 obtain ⟨h15,f15,cea,ceS,k15,t15⟩:=zbL (o:=.lst ((nms.take ks).map D.str)) h14 f14 hce
 have z15:=k15 _ _ z14
 have en15:=k15 _ _ en14
 have t12_15:=k15 _ _ t12_14
 have t14_15:=k15 _ _ t14
 have nce:ce≠sh:=fun x=>by rw [x,t14] at hce;cases hce
 generalize DL.put S14 ce (.lst ((nms.take ks).map D.str))=S15 at h15 f15 k15 t15 z15 en15 t12_15 t14_15 ⊢
 walk_at "dl"
 refine ztp (kvs:=kv0 ce sl (nms.take ks) ws') rfl t14_15 (by simp) ?_
 walk_at "dl"
 refine zfX zai rfl (Nat.lt_of_le_of_lt (zeQ _ _) (by simp;exact zfr (by decide))) ?_
 walk_at "dl"
 refine zfX zai rfl (Nat.lt_of_le_of_lt zcr (Nat.lt_of_le_of_lt (Nat.succ_le_succ (zeQ _ _)) (by simp;exact zfr (by decide)))) ?_
 rw [zcE,zcE]
 obtain ⟨h16,f16,k16,t16⟩:=ziv (o:=.dic (kv1 ce sl (nms.take ks) ws')) (o':=.dic []) h15 f15 sha shl shS
 have z16:=k16 _ _ nz z15
 have en16:=k16 _ _ nnm en15
 have t12_16:=k16 _ _ nsl t12_15
 have t15_16:=k16 _ _ nce t15
 have shd:=zro (ce:=ce) (sl:=sl) (so:=nms.take ks) (wo:=ws') (slots:=zs++[nms[0]])
 have shn:=zoc (ce:=ce) (sl:=sl) (so:=nms.take ks) (wo:=ws')
 generalize DL.put S15 sh (.dic (kv1 ce sl (nms.take ks) ws'))=S16 at h16 f16 k16 t16 z16 en16 t12_16 t15_16 ⊢
 generalize kv1 ce sl (nms.take ks) ws'=kvs1 at shd shn t16
 clear k11 k12 k13 k14 k15 k16 f15 h15 z15 en15 t12_15 t14_15 h14 f14 z14 en14 t12_14 t14 h13 f13 z13 en13 t12_13 t13 h12 f12 z12 en12 t12 h11 f11 z11 en11 e311 t11 h10 f10 f010 z10 en10 ep3 h9 f9 f09 z9 en9
 walk_at "dl"
 with_reducible refine zb4 (szl (by simp)) fun dl hdl=>?_
 obtain ⟨h17,f17,dla,dlS,k17,t17⟩:=zbL (o:=.lst []) h16 f16 hdl
 have dll:=(h16.fresh hdl).2
 have z17:=k17 _ _ z16
 have en17:=k17 _ _ en16
 have t12_17:=k17 _ _ t12_16
 have t15_17:=k17 _ _ t15_16
 have t16_17:=k17 _ _ t16
 have ndz:z≠dl:=fun x=>by rw [x,hdl] at z16;cases z16
 have ndnm:nm≠dl:=fun x=>by rw [x,hdl] at en16;cases en16
 have ndsl:sl≠dl:=fun x=>by rw [x,hdl] at t12_16;cases t12_16
 have ndce:ce≠dl:=fun x=>by rw [x,hdl] at t15_16;cases t15_16
 have ndsh:sh≠dl:=fun x=>by rw [x,hdl] at t16;cases t16
 generalize DL.put S16 dl (.lst [])=S17 at h17 f17 k17 t17 z17 en17 t12_17 t15_17 t16_17 ⊢
 walk_at "dl"
 with_reducible refine zgH (by omega) (by omega) ?_
 walk_at "dl"
 have sll:∀ y∈zs++[nms[0]],zlV y:=fun y hy=>by
  rcases List.mem_append.mp hy with q | q
  ·exact zok.1 y q
  ·rw [List.mem_singleton.mp q];exact nok.1 _ (List.getElem_mem n0)
 have ksb:1≤ks∧ks≤4:=by omega
 have kwb:2≤kw∧kw≤4:=by omega
 have sl3:(zs++[nms[0]]).length=3:=by simp [zl]
 refine zbf (fun i env S'=>∃ (x14 x15 x16:Option D) (ce':Addr) (kvs:List (Key×D)) (dv:List (Str×List Row)),env=[some (.ref a),some (.ref z),some (.bl pk),some (.bl wr),some (.int kw),some (.int ks),some (.int kd),some (.int ke),some (.tup (ws'.map D.str)),some (.ref nm),some (.ref sl),some (.tp true ((nms.take ks).map D.str)),some (.ref sh),some (.ref dl),x14,x15,x16,none]∧
  dv.map (·.1)=(nms.drop ks).take i∧dv.length=i∧(∀ j p,dv[j]? = some p->BodyOk ⟨true,false,false,ws',nms.take ks,nms.take (ks+j),zs++[nms[0]]⟩ p.2)∧
  S' z=some (.lst [.int w,.int s,.int d,.int e,.int r])∧S' nm=some (.lst (nms.map D.str))∧S' sl=some (.lst ((zs++[nms[0]]).map D.str))∧S' sh=some (.dic kvs)∧kvs.length≤7+i∧
  ShD ⟨true,false,false,ws',nms.take ks,nms.take (ks+i),zs++[nms[0]]⟩ sl ce' kvs∧S' ce'=some (.lst ((nms.take (ks+i)).map D.str))∧ce'≠a∧ce'≠dl∧S' dl=some (.lst (dv.map pairD))∧StA ns a l S'∧Fr a S S') _ 0 ?_ ?_ ?_
 ·exact ⟨_,_,_,ce,kvs1,[],rfl,by simp,rfl,fun j p hj=>by simp at hj,z17,en17,t12_17,t16_17,shn,shd,t15_17,cea,ndce,t17,h17,f17⟩
 ·rintro i x _ S2 hx ⟨x14,x15,x16,ce',kvs,dv,rfl,dn,dlen,dok,ez2,en2,es2,eh2,hl2,shd2,ec2,ca2,ndc,ed2,hS2,f2'⟩ nx hnx
  obtain ⟨rfl,hi⟩:=zfv hx
  rw [Nat.zero_add] at dlen shd2 ec2 dn hl2 hnx
  refine ⟨trivial,?_⟩
  refine zeg ?_
  have hik:i < kd:=by simpa using hi
  have hnm:L2.atI (nms.map D.str) ((ks:Int)+(i:Int))=some (.str nms[ks+i]):=by
   have e:(ks:Int)+(i:Int)=((ks+i:Nat):Int):=by omega
   rw [e]
   exact atI_nat (by simp [show ks+i < nms.length by omega])
  have hw2:ShW ⟨true,false,false,ws',nms.take ks,nms.take (ks+i),zs++[nms[0]]⟩:=⟨by show 0 < ws'.length;omega,by show ws'.length≤100;omega,by simp;omega,by simp;omega,by simp;omega,by simp;omega,by simp,by show (zs++[nms[0]]).length≤100;omega,fun _=>⟨rfl,rfl⟩⟩
  walk_at "dl"
  refine zhz hw2 5 hS2 ⟨⟨kvs,eh2,shd2⟩,es2,ec2,sha,sla,ca2⟩ (by decide) (by decide) (by decide) r0 (by omega) fun rs S3 rok rcnt rdep h3 f3=>?_
  have ez3:=f3 _ _ za ez2
  have en3:=f3 _ _ nma en2
  have es3:=f3 _ _ sla es2
  have eh3:=f3 _ _ sha eh2
  have ec3:=f3 _ _ ca2 ec2
  have ed3:=f3 _ _ dla ed2
  have rl:rs.length≤900:=by
   have:=zfI rs
   omega
  walk_at "dln"
  with_reducible refine zgI (fun env S4=>∃ rs':List Row,env=[some (.ref a),some (.ref z),some (.bl pk),some (.bl wr),some (.int kw),some (.int ks),some (.int kd),some (.int ke),some (.tup (ws'.map D.str)),some (.ref nm),some (.ref sl),some (.tp true ((nms.take ks).map D.str)),some (.ref sh),some (.ref dl),some (.int i),some (.str nms[ks+i]),some (.tup (za7 rs')),none]∧BodyOk ⟨true,false,false,ws',nms.take ks,nms.take (ks+i),zs++[nms[0]]⟩ rs'∧StA ns a l S4∧Fr a S3 S4) ?_ ?_
  rotate_left
  ·intro nx2 hnx2
   walk_at "dln"
   refine zaH h3 (by decide) (by decide +kernel) fun t S4 _ _ h4 f4=>?_
   have es4:=f4 _ _ sla es3
   walk_at "dln"
   with_reducible refine zdJ (fun ht=>?_) (fun ht=>?_)
   ·walk_at "dln"
    refine zaH h4 (by decide) (by decide +kernel) fun t2 S5 t20 t21 h5 f5=>?_
    have es5:=f5 _ _ sla es4
    obtain ⟨sv,hsv,esv⟩:=zir (zs:=zs++[nms[0]]) t20 (by rw [List.length_map,sl3];omega)
    walk_at "dln"
    with_reducible refine zaE (szl (by simp)) ?_
    walk_at "dln"
    with_reducible refine zaE (szl (by simp)) ?_
    walk_at "dln"
    with_reducible refine zeW (szl (by rw [zcx];simp;omega)) ?_
    walk_at "dln"
    have e:za7 rs++[.tup [.str "give", .str sv]]=za7 (rs++[.give sv]):=by
     have q:=zez rs (Row.give sv)
     rw [Row.d] at q
     exact q
    rw [e]
    exact hnx2 _ _ ⟨rs++[.give sv],rfl,⟨zic (r:=.give sv) rok (by rw [Row.ok];exact ⟨rfl,hsv⟩),by rw [zgV,Row.ex];omega,by rw [zfT,Row.dep];omega⟩,h5,f4.trans f5⟩
   ·walk_at "dln"
    exact hnx2 _ _ ⟨rs,rfl,⟨rok,by omega,by omega⟩,h4,f4⟩
  rintro _ S4 ⟨rs',rfl,bok,h4,f4⟩
  have ez4:=f4 _ _ za ez3
  have en4:=f4 _ _ nma en3
  have es4:=f4 _ _ sla es3
  have eh4:=f4 _ _ sha eh3
  have ec4:=f4 _ _ ca2 ec3
  have ed4:=f4 _ _ dla ed3
  have f04:Fr a S S4:=(f2'.trans f3).trans f4
  walk_at "dl"
  with_reducible refine zaE (szl (by simp)) ?_
  walk_at "dl"
  with_reducible refine s_app ed4 (zfr (by rw [List.length_map];omega)) ?_
  obtain ⟨h5,f5,k5,t5⟩:=ziv (o:=.lst (dv.map pairD++[.tup [.str nms[ks+i],.tup (za7 rs')]])) (o':=.lst []) h4 f04 dla dll dlS
  have ez5:=k5 _ _ ndz ez4
  have en5:=k5 _ _ ndnm en4
  have es5:=k5 _ _ ndsl es4
  have eh5:=k5 _ _ ndsh eh4
  have ec5:=k5 _ _ ndc ec4
  generalize DL.put S4 dl (.lst (dv.map pairD++[.tup [.str nms[ks+i],.tup (za7 rs')]]))=S5 at h5 f5 k5 t5 ez5 en5 es5 eh5 ec5 ⊢
  have dcs:=shd2.cells
  walk_at "dl"
  with_reducible refine zb4 (szl (by simp)) fun p6 hp6=>?_
  obtain ⟨h6',f6',p6a,p6S,k6,t6⟩:=zbL (o:=.lst [.str nms[ks+i]]) h5 f5 hp6
  have ez6:=k6 _ _ ez5
  have en6:=k6 _ _ en5
  have es6:=k6 _ _ es5
  have eh6:=k6 _ _ eh5
  have ec6:=k6 _ _ ec5
  have ed6:=k6 _ _ t5
  generalize DL.put S5 p6 (.lst [.str nms[ks+i]])=S6' at h6' f6' k6 t6 ez6 en6 es6 eh6 ec6 ed6 ⊢
  walk_at "dl"
  refine ziT ec6 t6 (szl (by simp;omega)) fun ce2 hce2=>?_
  have ecs:(nms.take (ks+i)).map D.str++[.str nms[ks+i]]=(nms.take (ks+(i+1))).map D.str:=by
   rw [show ks+(i+1)=(ks+i)+1 by omega,List.take_succ,List.getElem?_eq_getElem (show ks+i < nms.length by omega),List.map_append]
   rfl
  rw [ecs]
  obtain ⟨h7',f7',ce2a,ce2S,k7,t7⟩:=zbL (o:=.lst ((nms.take (ks+(i+1))).map D.str)) h6' f6' hce2
  have ez7:=k7 _ _ ez6
  have en7:=k7 _ _ en6
  have es7:=k7 _ _ es6
  have eh7:=k7 _ _ eh6
  have ed7:=k7 _ _ ed6
  have ncd2:ce2≠dl:=fun x=>by rw [x,ed6] at hce2;cases hce2
  have nce2:ce2≠sh:=fun x=>by rw [x,eh6] at hce2;cases hce2
  generalize DL.put S6' ce2 (.lst ((nms.take (ks+(i+1))).map D.str))=S7' at h7' f7' k7 t7 ez7 en7 es7 eh7 ed7 ⊢
  walk_at "dl"
  refine zfX eh7 rfl (zfr (by omega)) ?_
  obtain ⟨h8',f8',k8,t8⟩:=ziv (o:=.dic (putD kvs (.inr "cells") (.ref ce2))) (o':=.lst []) h7' f7' sha shl shS
  have pl:=zcr (kvs:=kvs) (k:=(.inr "cells" : Key)) (v:=.ref ce2)
  refine hnx _ _ ⟨_,_,_,ce2,_,dv++[(nms[ks+i],rs')],rfl,?_,by simp [dlen],?_,k8 _ _ nz ez7,k8 _ _ nnm en7,k8 _ _ nsl es7,t8,by omega,shd2.cells_put,k8 _ _ nce2 t7,ce2a,ncd2,?_,h8',f8'⟩
  ·rw [List.map_append,dn,List.take_succ,List.getElem?_drop,List.getElem?_eq_getElem (show ks+i < nms.length by omega)]
   rfl
  ·intro j p hj
   by_cases hji:j < dv.length
   ·rw [List.getElem?_append_left hji] at hj
    exact dok j p hj
   ·rw [List.getElem?_append_right (by omega)] at hj
    have ej:j=i:=by
     have:=(List.getElem?_eq_some_iff.mp hj).1
     simp at this
     omega
    subst ej
    rw [dlen,Nat.sub_self] at hj
    cases hj
    exact bok
  ·have e:=k8 _ _ ndsh.symm ed7
   rw [List.map_append]
   exact e
 ·rintro _ S2 ⟨x14,x15,x16,ce',kvs,dv,rfl,dn,dlen,dok,ez2,en2,es2,eh2,hl2,shd2,ec2,ca2,ndc,ed2,hS2,f2'⟩
  rw [Nat.zero_add,ze5,Int.toNat_natCast] at dlen shd2 ec2 dn hl2
  refine ⟨trivial,?_⟩
  walk_at "dl"
  refine zfX eh2 rfl (zfr (by omega)) ?_
  walk_at "dl"
  have pl1:=zcr (kvs:=kvs) (k:=(.inr "kind" : Key)) (v:=.str "effects")
  refine zfX zai rfl (zfr (by omega)) ?_
  walk_at "dl"
  have pl2:=zcr (kvs:=putD kvs (.inr "kind") (.str "effects")) (k:=(.inr "peeks" : Key)) (v:=.bl pk)
  refine zfX zai rfl (zfr (by omega)) ?_
  rw [zcE,zcE]
  have shd3:=shd2.eff_put (pk:=pk) (wr:=wr)
  obtain ⟨h3,f3,k3,t3⟩:=ziv (o:=.dic (putD (putD (putD kvs (.inr "kind") (.str "effects")) (.inr "peeks") (.bl pk)) (.inr "writes") (.bl wr))) (o':=.lst []) hS2 f2' sha shl shS
  have nch:ce'≠sh:=fun x=>by rw [x,eh2] at ec2;cases ec2
  have ez3:=k3 _ _ nz ez2
  have en3:=k3 _ _ nnm en2
  have es3:=k3 _ _ nsl es2
  have ec3:=k3 _ _ nch ec2
  have ed3:=k3 _ _ ndsh.symm ed2
  generalize putD (putD (putD kvs (.inr "kind") (.str "effects")) (.inr "peeks") (.bl pk)) (.inr "writes") (.bl wr)=kvs3 at shd3 t3 h3 f3 k3 ez3 en3 es3 ec3 ed3 ⊢
  generalize DL.put S2 sh (.dic kvs3)=S3 at t3 h3 f3 k3 ez3 en3 es3 ec3 ed3 ⊢
  walk_at "dl"
  with_reducible refine zb4 (szl (by simp)) fun el hel=>?_
  obtain ⟨h4,f4,ela,elS,k4,t4⟩:=zbL (o:=.lst []) h3 f3 hel
  have ell:=(h3.fresh hel).2
  have ez4:=k4 _ _ ez3
  have en4:=k4 _ _ en3
  have es4:=k4 _ _ es3
  have ec4:=k4 _ _ ec3
  have ed4:=k4 _ _ ed3
  have eh4:=k4 _ _ t3
  have nez:z≠el:=fun x=>by rw [x,hel] at ez3;cases ez3
  have nenm:nm≠el:=fun x=>by rw [x,hel] at en3;cases en3
  have nesl:sl≠el:=fun x=>by rw [x,hel] at es3;cases es3
  have nece:ce'≠el:=fun x=>by rw [x,hel] at ec3;cases ec3
  have nedl:dl≠el:=fun x=>by rw [x,hel] at ed3;cases ed3
  have nesh:sh≠el:=fun x=>by rw [x,hel] at t3;cases t3
  generalize DL.put S3 el (.lst [])=S4 at h4 f4 k4 t4 ez4 en4 es4 ec4 ed4 eh4 ⊢
  walk_at "dl"
  with_reducible refine zgH (by omega) (by omega) ?_
  walk_at "dl"
  refine zbf (fun i env S'=>∃ (x14 x15 x16:Option D) (ev:List (Str×List Row)),env=[some (.ref a),some (.ref z),some (.bl pk),some (.bl wr),some (.int kw),some (.int ks),some (.int kd),some (.int ke),some (.tup (ws'.map D.str)),some (.ref nm),some (.ref sl),some (.tp true ((nms.take ks).map D.str)),some (.ref sh),some (.ref dl),x14,x15,x16,some (.ref el)]∧
   ev.map (·.1)=(nms.drop (ks+kd)).take i∧ev.length=i∧(∀ p∈ev,BodyOk ⟨false,pk,wr,ws',nms.take ks,nms.take (ks+kd),zs++[nms[0]]⟩ p.2)∧
   S' z=some (.lst [.int w,.int s,.int d,.int e,.int r])∧S' nm=some (.lst (nms.map D.str))∧S' sl=some (.lst ((zs++[nms[0]]).map D.str))∧S' sh=some (.dic kvs3)∧
   S' ce'=some (.lst ((nms.take (ks+kd)).map D.str))∧S' dl=some (.lst (dv.map pairD))∧S' el=some (.lst (ev.map pairD))∧StA ns a l S'∧Fr a S S') _ 0 ?_ ?_ ?_
  ·exact ⟨_,_,_,[],rfl,by simp,rfl,fun p hp=>by simp at hp,ez4,en4,es4,eh4,ec4,ed4,t4,h4,f4⟩
  ·rintro i x _ S5 hx ⟨y14,y15,y16,ev,rfl,en',elen,eok,ez5,en5,es5,eh5,ec5,ed5,ee5,h5,f5⟩ nx hnx
   obtain ⟨rfl,hi⟩:=zfv hx
   rw [Nat.zero_add] at elen en' hnx
   refine ⟨trivial,?_⟩
   refine zeg ?_
   have hik:i < ke:=by simpa using hi
   have hnm:L2.atI (nms.map D.str) ((ks:Int)+(kd:Int)+(i:Int))=some (.str nms[ks+kd+i]):=by
    have e:(ks:Int)+(kd:Int)+(i:Int)=((ks+kd+i:Nat):Int):=by omega
    rw [e]
    exact atI_nat (by simp [show ks+kd+i < nms.length by omega])
   have hw2:ShW ⟨false,pk,wr,ws',nms.take ks,nms.take (ks+kd),zs++[nms[0]]⟩:=⟨by show 0 < ws'.length;omega,by show ws'.length≤100;omega,by simp;omega,by simp;omega,by simp;omega,by simp;omega,by simp,by show (zs++[nms[0]]).length≤100;omega,fun q=>by cases q⟩
   walk_at "dl"
   refine zhz hw2 5 h5 ⟨⟨kvs3,eh5,shd3⟩,es5,ec5,sha,sla,ca2⟩ (by decide) (by decide) (by decide) r0 (by omega) fun rs S6' rok rcnt rdep h6' f6'=>?_
   have ez6:=f6' _ _ za ez5
   have en6:=f6' _ _ nma en5
   have es6:=f6' _ _ sla es5
   have eh6:=f6' _ _ sha eh5
   have ec6:=f6' _ _ ca2 ec5
   have ed6:=f6' _ _ dla ed5
   have ee6:=f6' _ _ ela ee5
   have rl:rs.length≤900:=by
    have:=zfI rs
    omega
   walk_at "dln"
   with_reducible refine zgI (fun env S7'=>∃ rs':List Row,env=[some (.ref a),some (.ref z),some (.bl pk),some (.bl wr),some (.int kw),some (.int ks),some (.int kd),some (.int ke),some (.tup (ws'.map D.str)),some (.ref nm),some (.ref sl),some (.tp true ((nms.take ks).map D.str)),some (.ref sh),some (.ref dl),some (.int i),y15,some (.tup (za7 rs')),some (.ref el)]∧BodyOk ⟨false,pk,wr,ws',nms.take ks,nms.take (ks+kd),zs++[nms[0]]⟩ rs'∧StA ns a l S7'∧Fr a S6' S7') ?_ ?_
   rotate_left
   ·intro nx2 hnx2
    walk_at "dln"
    refine zaH h6' (by decide) (by decide +kernel) fun t S7' _ _ h7' f7'=>?_
    have es7:=f7' _ _ sla es6
    walk_at "dln"
    with_reducible refine zdJ (fun ht=>?_) (fun ht=>?_)
    ·walk_at "dln"
     refine zaH h7' (by decide) (by decide +kernel) fun t2 S8' t20 t21 h8' f8'=>?_
     have es8:=f8' _ _ sla es7
     obtain ⟨sv,hsv,esv⟩:=zir (zs:=zs++[nms[0]]) t20 (by rw [List.length_map,sl3];omega)
     walk_at "dln"
     with_reducible refine zaE (szl (by simp)) ?_
     walk_at "dln"
     with_reducible refine zaE (szl (by simp)) ?_
     walk_at "dln"
     with_reducible refine zeW (szl (by rw [zcx];simp;omega)) ?_
     walk_at "dln"
     have e:za7 rs++[.tup [.str "say", .str sv]]=za7 (rs++[.say sv]):=by
      have q:=zez rs (Row.say sv)
      rw [Row.d] at q
      exact q
     rw [e]
     exact hnx2 _ _ ⟨rs++[.say sv],rfl,⟨zic (r:=.say sv) rok (by rw [Row.ok];exact ⟨rfl,hsv⟩),by rw [zgV,Row.ex];omega,by rw [zfT,Row.dep];omega⟩,h8',f7'.trans f8'⟩
    ·walk_at "dln"
     exact hnx2 _ _ ⟨rs,rfl,⟨rok,by omega,by omega⟩,h7',f7'⟩
   rintro _ S7' ⟨rs',rfl,bok,h7',f7'⟩
   have ez7:=f7' _ _ za ez6
   have en7:=f7' _ _ nma en6
   have es7:=f7' _ _ sla es6
   have eh7:=f7' _ _ sha eh6
   have ec7:=f7' _ _ ca2 ec6
   have ed7:=f7' _ _ dla ed6
   have ee7:=f7' _ _ ela ee6
   walk_at "dl"
   with_reducible refine zaE (szl (by simp)) ?_
   walk_at "dl"
   with_reducible refine s_app ee7 (zfr (by rw [List.length_map];omega)) ?_
   obtain ⟨h8',f8',k8,t8⟩:=ziv (o:=.lst (ev.map pairD++[.tup [.str nms[ks+kd+i],.tup (za7 rs')]])) (o':=.lst []) h7' ((f5.trans f6').trans f7') ela ell elS
   walk_at "dl"
   refine hnx _ _ ⟨_,_,_,ev++[(nms[ks+kd+i],rs')],rfl,?_,by simp [elen],?_,k8 _ _ nez ez7,k8 _ _ nenm en7,k8 _ _ nesl es7,k8 _ _ nesh eh7,k8 _ _ nece ec7,k8 _ _ nedl ed7,?_,h8',f8'⟩
   ·rw [List.map_append,en',List.take_succ,List.getElem?_drop,List.getElem?_eq_getElem (show ks+kd+i < nms.length by omega)]
    rfl
   ·intro p hp
    rcases List.mem_append.mp hp with q | q
    ·exact eok p q
    ·rw [List.mem_singleton.mp q];exact bok
   ·rw [List.map_append]
    exact t8
  ·rintro _ S5 ⟨y14,y15,y16,ev,rfl,en',elen,eok,ez5,en5,es5,eh5,ec5,ed5,ee5,h5,f5⟩
   rw [Nat.zero_add,ze5,Int.toNat_natCast] at elen en'
   refine ⟨trivial,?_⟩
   walk_at "dl"
   with_reducible refine zaE (szl (by simp)) ?_
   have ed:dv.map (·.1)=(nms.drop ks).take kd:=dn
   have tl:nms.take ks++dv.map (·.1)=nms.take (ks+kd):=by rw [ed,List.take_add]
   have tl2:nms.take ks++dv.map (·.1)++ev.map (·.1)=nms:=by
    rw [tl,en',List.take_of_length_le (l:=nms.drop (ks+kd)) (by rw [List.length_drop];omega),List.take_append_drop]
   refine hQ ⟨ws',nms.take ks,dv,ev,true⟩ (zs++[nms[0]]) S5 rfl ⟨wok',by show 2≤ws'.length;omega,by show ws'.length≤4;omega,by show Nms (nms.take ks++dv.map (·.1)++ev.map (·.1));rw [tl2];exact nok,by simp;omega,by simp;omega,by show dv.length≤6;omega,by show ev.length≤4;omega,sll,fun i p hp=>?_,fun p hp=>?_⟩ h5 f5
   ·have q:=dok i p hp
    have hi:i≤kd:=by
     have hh:i < dv.length:=(List.getElem?_eq_some_iff.mp hp).1
     omega
    have e2:nms.take ks++(dv.take i).map (·.1)=nms.take (ks+i):=by
     rw [List.map_take,ed,List.take_take,Nat.min_eq_left hi,List.take_add]
    show BodyOk ⟨true,false,false,ws',nms.take ks,nms.take ks++(dv.take i).map (·.1),zs++[nms[0]]⟩ p.2
    rw [e2]
    exact q
   ·have q:=eok p hp
    show BodyOk ⟨false,pk,wr,ws',nms.take ks,nms.take ks++dv.map (·.1),zs++[nms[0]]⟩ p.2
    rw [tl]
    exact q
def zof (p:Addr) (nx:Sto->Prop):DQ:=fun d S4=>match S4 p with
 | some (.lst ys)=>ys.length < sizeLine∧nx (DL.put S4 p (.lst (ys++[d])))
 | _=>False
theorem zjV {p:Addr} {nx:Sto->Prop} {ys:List D} {d:D} {S:Sto} (e0:S p=some (.lst ys)) (hl:ys.length < sizeLine) (h:nx (DL.put S p (.lst (ys++[d])))):zof p nx d S:=by
 unfold zof
 simp only [e0]
 exact ⟨hl,h⟩
theorem zmD {g:GM} {m:EM} {G:Sto->Prop} {p:Addr} {Q:DQ} {env:Slo} (I:Nat->List D->Sto->Prop) (xs:List D) {S:Sto} (hp:S p=some (.lst [])) (h0:I 0 [] S)
  (step:∀ i x S ys,xs[i]? = some x->S p=some (.lst ys)->I i ys S->∀ nx:Sto->Prop,(∀ s zs,s p=some (.lst zs)->I (i+1) zs s->nx s)->G S∧g x env S fun env2 S2=>m env2 S2 (zof p nx))
  (done:∀ S ys,S p=some (.lst ys)->I xs.length ys S->G S∧Q (.ref p) S):lcL g zgL m G p Q env xs S:=by
 refine zob I xs 0 hp h0 (fun i x S ys hx hp hi nx hnx=>?_) (fun S ys hp hi=>done S ys hp (by rw [Nat.zero_add] at hi;exact hi))
 rw [Nat.zero_add] at hi hnx
 obtain ⟨q1,q2⟩:=step i x S ys hx hp hi nx hnx
 exact ⟨q1,q2⟩
theorem zva:(Str.ofString "a").cps.toList=[97]:=by decide +kernel
theorem zu9:(Str.ofString "z").cps.toList=[122]:=by decide +kernel
theorem zxy {c:Nat} (h:97≤c):(!decide ((⟨#[c]⟩:Str).cps.toList < (Str.ofString "a").cps.toList))=true:=by
 rw [zva]
 have:¬ ([c] < [97]):=by
  intro q
  rw [List.cons_lt_cons_iff] at q
  rcases q with q | ⟨_,q⟩
  ·omega
  ·exact absurd q (List.not_lt_nil _)
 simp only [Bool.not_eq_true',decide_eq_false_iff_not]
 exact this
theorem zxx {c:Nat} (h:c≤122):(!decide ((Str.ofString "z").cps.toList < (⟨#[c]⟩:Str).cps.toList))=true:=by
 rw [zu9]
 have:¬ ([122] < [c]):=by
  intro q
  rw [List.cons_lt_cons_iff] at q
  rcases q with q | ⟨_,q⟩
  ·omega
  ·exact absurd q (List.not_lt_nil _)
 simp only [Bool.not_eq_true',decide_eq_false_iff_not]
 exact this
theorem zpd {z:Str} {i:Nat} {x:D} (h:(zjJ z)[i]? = some x):∃ c,c∈z.cps.toList∧x = .str ⟨#[c]⟩:=by
 unfold zjJ at h
 rw [List.getElem?_map] at h
 cases e:z.cps.toList[i]? with
 | none=>rw [e] at h;cases h
 | some c=>rw [e] at h;exact ⟨c,List.mem_of_getElem? e,(Option.some.inj h).symm⟩
theorem zbd {K:PySem.W.Frag} {S:Sto} {z:Str} {Q:DQ} {E:XQ} (hz:zlV z) (hQ:Q (.bl true) S):zbJ K [.str z] S Q E:=by
 refine zaT rfl ?_
 unfold zgX
 have hl:z.length=z.cps.size:=by unfold Str.length;rfl
 have h1:=hz.one
 have h8:=hz.eight
 walk_at "dl"
 rw [decide_eq_true (show (1:Int)≤z.length by omega)]
 walk_at "dl"
 rw [decide_eq_true (show (z.length:Int)≤8 by omega)]
 walk_at "dl"
 refine zbf (fun i env S'=>∃ x1:Option D,env=[some (.str z),x1]∧S'=S) _ 0 ⟨_,rfl,rfl⟩ ?_ ?_
 ·rintro i x _ _ hx ⟨x1,rfl,rfl⟩ nx hnx
  obtain ⟨c,hc,rfl⟩:=zpd hx
  obtain ⟨c1,c2⟩:=hz.az c hc
  refine ⟨trivial,?_⟩
  refine zeg ?_
  walk_at "dl"
  rw [zxy c1]
  walk_at "dl"
  rw [zxx c2]
  walk_at "dl"
  exact hnx _ _ ⟨_,rfl,rfl⟩
 ·rintro _ _ ⟨x1,rfl,rfl⟩
  refine ⟨trivial,?_⟩
  walk_at "dl"
  exact hQ
theorem zgr {K:PySem.W.Frag} {fl:Bool} {S:Sto} {zs:List Str} {lo hi:Int} {Q:DQ} {E:XQ} (hz:Nms zs) (h1:lo≤zs.length) (h2:(zs.length:Int)≤hi) (hb:zs.length≤50) (hQ:∀ S',(∀ b o,S b=some o->S' b=some o)->Q (.bl true) S'):zdp K [.tp fl (zs.map D.str),.int lo,.int hi] S Q E:=by
 refine zaT rfl ?_
 unfold zff
 walk_at "dl"
 rw [decide_eq_true (show lo≤((zs.map D.str).length:Int) by simpa using h1)]
 walk_at "dl"
 rw [decide_eq_true (show ((zs.map D.str).length:Int)≤hi by simpa using h2)]
 walk_at "dl"
 refine zl4 fun p hp=>?_
 walk_at "dl"
 refine zbf (fun i env S'=>∃ (x4:Option D) (f:Key->Bool) (n:Nat),env=[some (.tp fl (zs.map D.str)),some (.int lo),some (.int hi),some (.ref p),x4]∧S' p=some (.set f n)∧n≤i∧(∀ z,f (.inr z)=true->z∈zs.take i)∧∀ b o,S b=some o->S' b=some o) _ 0 ?_ ?_ ?_
 ·refine ⟨_,_,_,rfl,zai,Nat.le_refl _,fun z h=>(by cases h),fun b o e=>?_⟩
  rw [zaz (fun q=>by subst q;rw [hp] at e;cases e)]
  exact e
 ·rintro i x _ S2 hx ⟨x4,f,n,rfl,ep,hn,hf,hk⟩ nx hnx
  rw [Nat.zero_add] at hn hf hnx
  refine ⟨trivial,?_⟩
  refine zeg ?_
  have hi:i < zs.length:=by
   have:=(List.getElem?_eq_some_iff.mp hx).1
   simpa using this
  have ex:x = .str zs[i]:=by
   rw [List.getElem?_map,List.getElem?_eq_getElem hi] at hx
   exact (Option.some.inj hx).symm
  subst ex
  walk_at "dl"
  refine zbd (hz.1 _ (List.getElem_mem hi)) ?_
  walk_at "dl"
  refine zjW ep rfl ?_
  have hnew:f (.inr zs[i])=false:=by
   cases q:f (.inr zs[i]) with
   | false=>rfl
   | true=>
    have hm:=hf _ q
    have hnd:=hz.2
    rw [← List.take_append_drop i zs,List.nodup_append] at hnd
    exact absurd rfl (hnd.2.2 _ hm _ (by rw [List.drop_eq_getElem_cons hi];exact List.mem_cons_self))
  rw [hnew]
  walk_at "dl"
  have hsb:n+1 < scanBound:=by
   have q:scanBound=4096:=rfl
   omega
  with_reducible refine zl8 ep rfl hsb ?_
  walk_at "dl"
  refine hnx _ _ ⟨_,_,_,rfl,zai,?_,fun z h=>?_,fun b o e=>?_⟩
  ·split <;> omega
  ·rw [List.take_succ,List.getElem?_eq_getElem hi]
   rcases Bool.or_eq_true_iff.mp h with q | q
   ·exact List.mem_append_left _ (hf z q)
   ·have:=of_decide_eq_true q
    cases this
    exact List.mem_append_right _ (List.mem_cons_self ..)
  ·rw [zaz (fun q=>by subst q;rw [hp] at e;cases e)]
   exact hk b o e
 ·rintro _ S2 ⟨x4,f,n,rfl,ep,hn,hf,hk⟩
  refine ⟨trivial,?_⟩
  walk_at "dl"
  exact hQ S2 hk
theorem zhU {K:PySem.W.Frag}:∀ (n:Nat) (rs:List Row) {S:Sto} {Q:DQ} {E:XQ},zbz rs < n->Q (.int (zbE rs)) S->zcT K n [.tup (za7 rs)] S Q E
 | 0,rs,S,Q,E,h,_=>absurd h (Nat.not_lt_zero _)
 | n+1,rs,S,Q,E,h,hQ=>by
  refine zaT rfl ?_
  unfold zeI
  walk_at "dl"
  refine zbf (fun i env S'=>∃ x:Option D,env=[some (.tup (za7 rs)),some (.int ((rs.length+zdM (rs.take i):Nat):Int)),x]∧S'=S) _ 0 ?_ ?_ ?_
  ·have e0:((za7 rs).length:Int)=((rs.length+zdM (rs.take 0):Nat):Int):=by
    rw [zcx]
    simp [zdM]
   rw [e0]
   exact ⟨_,rfl,rfl⟩
  ·rintro i x _ _ hx ⟨y,rfl,rfl⟩ nx hnx
   rw [Nat.zero_add] at hnx ⊢
   obtain ⟨r,hr,rfl⟩:=zhA hx
   have hd:=zhS (List.mem_of_getElem? hr)
   have et:=zho hr
   refine ⟨trivial,?_⟩
   refine zeg ?_
   cases r with
   | ite s w y n'=>
    rw [Row.d]
    rw [Row.dep] at hd
    rw [Row.ex] at et
    walk_at "dl"
    refine zhU n y (by omega) ?_
    walk_at "dl"
    refine zhU n n' (by omega) ?_
    walk_at "dl"
    have e1:((rs.length+zdM (rs.take i):Nat):Int)+((zbE y:Int)+(zbE n':Int))=((rs.length+zdM (rs.take (i+1)):Nat):Int):=by
     rw [et]
     omega
    rw [e1]
    exact hnx _ _ ⟨_,rfl,rfl⟩
   | _=>
    rw [Row.d]
    rw [Row.ex] at et
    walk_at "dl"
    replace et:zdM (rs.take (i+1))=zdM (rs.take i):=et
    rw [← et]
    exact hnx _ _ ⟨_,rfl,rfl⟩
  ·rintro _ _ ⟨y,rfl,rfl⟩
   refine ⟨trivial,?_⟩
   walk_at "dl"
   rw [zcx,Nat.zero_add,List.take_length,← zfI]
   exact hQ
def Kp (S S':Sto):Prop:=∀ b o,S b=some o->S' b=some o
theorem Kp.refl {S:Sto}:Kp S S:=fun _ _ e=>e
theorem Kp.trans {S S1 S2:Sto} (h:Kp S S1) (h':Kp S1 S2):Kp S S2:=fun b o e=>h' b o (h b o e)
theorem Kp.wr {S S':Sto} {p:Addr} {o:O} (h:Kp S S') (hp:S p=none):Kp S (DL.put S' p o):=fun b o' e=>by
 rw [zaz (fun q=>by subst q;rw [hp] at e;cases e)]
 exact h b o' e
theorem zgq {K:PySem.W.Frag} {S:Sto} {ps:List (Str×List Row)} {most:Int} {tk:Addr} {kvs:List (Key×D)} {tn:List Str} {Q:DQ} {E:XQ} (et:S tk=some (.dic kvs)) (hk:∀ z,(valD kvs (.inr z)).isSome=true->z∈tn) (hl:kvs.length≤100)
  (hz:Nms (tn++ps.map (·.1))) (hm:(ps.length:Int)≤most) (hb:ps.length≤50) (hQ:∀ S',Kp S S'->Q (.bl true) S'):zdo K [.tup (ps.map pairD),.int most,.ref tk] S Q E:=by
 refine zaT rfl ?_
 unfold zfd
 walk_at "dl"
 rw [decide_eq_false (show ¬ most < ((ps.map pairD).length:Int) by simp;omega)]
 walk_at "dl"
 refine zqF et fun p hp=>?_
 walk_at "dl"
 refine zbf (fun i env S'=>∃ (x4:Option D) (kv:List (Key×D)),env=[some (.tup (ps.map pairD)),some (.int most),some (.ref tk),some (.ref p),x4]∧S' p=some (.dic kv)∧kv.length≤100+i∧(∀ z,(valD kv (.inr z)).isSome=true->z∈tn++(ps.map (·.1)).take i)∧Kp S S') _ 0 ?_ ?_ ?_
 ·exact ⟨_,_,rfl,zai,by omega,fun z h=>by simpa using hk z h,Kp.refl.wr hp⟩
 ·rintro i x _ S2 hx ⟨x4,kv,rfl,ep,hn,hf,hkp⟩ nx hnx
  rw [Nat.zero_add] at hn hf hnx
  refine ⟨trivial,?_⟩
  refine zeg ?_
  have hi:i < ps.length:=by
   have:=(List.getElem?_eq_some_iff.mp hx).1
   simpa using this
  have ex:x = .tup [.str ps[i].1,.tup (za7 ps[i].2)]:=by
   rw [List.getElem?_map,List.getElem?_eq_getElem hi] at hx
   exact (Option.some.inj hx).symm
  subst ex
  have hmem:ps[i].1∈ps.map (·.1):=List.mem_map.mpr ⟨ps[i],List.getElem_mem hi,rfl⟩
  walk_at "dl"
  with_reducible refine zef (fun h=>absurd h (by simp)) (fun _=>?_)
  walk_at "dl"
  refine zbd (hz.1 _ (List.mem_append_right _ hmem)) ?_
  walk_at "dl"
  refine ztB ep rfl ?_
  have hnew:(valD kv (.inr ps[i].1)).isSome=false:=by
   cases q:(valD kv (.inr ps[i].1)).isSome with
   | false=>rfl
   | true=>
    have hm2:=hf _ q
    have hnd:=hz.2
    have hi2:i < (ps.map (·.1)).length:=by simpa using hi
    rw [← List.take_append_drop i (ps.map (·.1)),← List.append_assoc,List.nodup_append] at hnd
    exact absurd rfl (hnd.2.2 _ hm2 _ (by rw [List.drop_eq_getElem_cons hi2];simp))
  rw [hnew]
  walk_at "dl"
  refine zfX ep rfl (zfr (by omega)) ?_
  have pl:=zcr (kvs:=kv) (k:=(.inr ps[i].1:Key)) (v:=.bl true)
  refine hnx _ _ ⟨_,_,rfl,zai,by omega,fun z h=>?_,hkp.wr hp⟩
  rw [zcN] at h
  have e1:(ps.map (·.1)).take (i+1)=(ps.map (·.1)).take i++[ps[i].1]:=by
   rw [List.take_succ,List.getElem?_map,List.getElem?_eq_getElem hi]
   rfl
  rw [e1,← List.append_assoc]
  by_cases q:(Sum.inr z:Key) = .inr ps[i].1
  ·cases q
   exact List.mem_append_right _ (List.mem_cons_self ..)
  ·rw [if_neg q] at h
   exact List.mem_append_left _ (hf z h)
 ·rintro _ S2 ⟨x4,kv,rfl,ep,hn,hf,hkp⟩
  refine ⟨trivial,?_⟩
  walk_at "dl"
  exact hQ S2 hkp
structure FBc (K:PySem.W.Frag):Prop where
 kind:FOk K (He.ga K "BodyCheck") "kind"
 words:FOk K (He.ga K "BodyCheck") "words"
 sources:FOk K (He.ga K "BodyCheck") "sources"
 readable:FOk K (He.ga K "BodyCheck") "readable"
structure Bc (K:PySem.W.Frag) (h:Shp) (b rd:Addr) (S:Sto):Prop where
 ob:∃ fl,S b=some (.ins (He.ga K "BodyCheck") [("kind", .str (kindS h.der)),("words", .tup (h.words.map D.str)),("sources", .tp fl (h.sources.map D.str)),("readable", .ref rd)])
 rd_:S rd=some (.lst (h.cells.map D.str))
structure ShN (h:Shp):Prop where
 sl:∀ z∈h.slots,zlV z
 ce:∀ z∈h.cells,zlV z
 so:∀ z∈h.sources,zlV z
theorem zjZ {S:Sto} {a:Addr} {zs:List Str} (h:S a=some (.lst (zs.map D.str))):rs S 40 (.ref a)=some (.list (zs.map PyData.str)):=by
 unfold rs
 simp only [h]
 rw [zjY]
 rfl
theorem zg4 {n:Nat} {f:Str} {v:D}:∀ {l:List (Str×D)},l.length≤n->(zgJ f v l).length≤n+1
 | [],h=>by simp [zgJ]
 | (g,u) :: r,h=>by
  unfold zgJ
  split
  ·simp at h ⊢; omega
  ·cases n with
   | zero=>simp at h
   | succ n=>
    have:=zg4 (n:=n) (f:=f) (v:=v) (l:=r) (by simpa using h)
    simp
    omega
theorem zhr {K:PySem.W.Frag} {S:Sto} {q:Addr} {k w s r:D} {Q:DQ} {E:XQ} (F:FBc K) (e:S q=some (.ins (He.ga K "BodyCheck") [])) (hQ:Q .non (DL.put S q (.ins (He.ga K "BodyCheck") [("kind", k),("words", w),("sources", s),("readable", r)]))) :
  zbs K [.ref q,k,w,s,r] S Q E:=by
 obtain ⟨f1,f2,f3,f4⟩:=F
 refine zaT rfl ?_
 unfold zch
 ext
 with_reducible refine zew e f1 (by simp) ?_
 ext
 with_reducible refine zew zai f2 (by refine Nat.lt_of_le_of_lt (?_:_≤20) (by decide);repeat (first | refine zg4 ?_ | (simp;done))) ?_
 ext
 with_reducible refine zew zai f3 (by refine Nat.lt_of_le_of_lt (?_:_≤20) (by decide);repeat (first | refine zg4 ?_ | (simp;done))) ?_
 ext
 with_reducible refine zew zai f4 (by refine Nat.lt_of_le_of_lt (?_:_≤20) (by decide);repeat (first | refine zg4 ?_ | (simp;done))) ?_
 rw [zcE,zcE,zcE]
 exact hQ
theorem zhj {K:PySem.W.Frag} {S:Sto} {h:Shp} {b rd:Addr} {w:Str} {Q:DQ} {E:XQ} (F:FBc K) (B:Bc K h b rd S) (hw:w∈h.words) (hQ:Q (.bl true) S):zbj K [.ref b,.str w] S Q E:=by
 obtain ⟨f1,f2,f3,f4⟩:=F
 obtain ⟨flb,e⟩:=B.ob
 refine zaT rfl ?_
 unfold zbW
 ext
 refine zg3 (p:=.str w) rfl (zhy h.words) ?_
 rw [zgZ,decide_eq_true hw]
 exact hQ
theorem ziq {K:PySem.W.Frag} {S:Sto} {h:Shp} {b rd:Addr} {s w:Str} {y n:List Row} {d:Int} {Q:DQ} {E:XQ} (F:FBc K) (B:Bc K h b rd S) (N:ShN h) (hs:s∈h.slots) (hw:w∈h.words) (hd:d < 4) (hQ:Q (.bl true) S) :
  zby K [.ref b,(Row.ite s w y n).d,.int d] S Q E:=by
 obtain ⟨flb,e⟩:=B.ob
 refine zaT rfl ?_
 unfold zbH
 rw [Row.d]
 ext
 refine zbd (N.sl _ hs) ?_
 ext
 refine zhj F B hw ?_
 ext
 exact hQ
theorem zkA {K:PySem.W.Frag} {S:Sto} {h:Shp} {b rd:Addr} {r:Row} {d:Int} {Q:DQ} {E:XQ} (F:FBc K) (B:Bc K h b rd S) (N:ShN h) (hr:r.ok h) (hd:r.dep≠0->d < 4) (hQ:Q (.bl true) S) :
  zbV K [.ref b,r.d,.int d] S Q E:=by
 have F':=F
 obtain ⟨f1,f2,f3,f4⟩:=F
 obtain ⟨flb,e⟩:=B.ob
 have e2:=B.rd_
 have gs:rs S 40 (.tup [.str "give", .str "say"])=some (.tuple [.str "give", .str "say"]):=zhy ["give", "say"]
 refine zaT rfl ?_
 unfold zcg
 cases r with
 | read c s=>
  rw [Row.ok] at hr
  rw [Row.d]
  ext
  with_reducible refine zaE (szl (by simp)) ?_
  ext
  refine zg3 (p:=.str "read") rfl gs ?_
  ext
  refine zbd (N.ce _ hr.1) ?_
  ext
  refine zbd (N.sl _ hr.2) ?_
  ext
  refine znt (p:=.str c) e2 rfl (zjZ e2) ?_
  rw [zgZ,decide_eq_true hr.1]
  exact hQ
 | peek c s=>
  rw [Row.ok] at hr
  rw [hr.1.1] at e
  rw [Row.d]
  ext
  with_reducible refine zaE (szl (by simp)) ?_
  ext
  refine zg3 (p:=.str "peek") rfl gs ?_
  ext
  refine zbd (N.ce _ hr.2.1) ?_
  ext
  refine zbd (N.sl _ hr.2.2) ?_
  ext
  refine znt (p:=.str c) e2 rfl (zjZ e2) ?_
  rw [zgZ,decide_eq_true hr.2.1]
  exact hQ
 | put s w=>
  rw [Row.ok] at hr
  rw [Row.d]
  ext
  with_reducible refine zaE (szl (by simp)) ?_
  ext
  refine zg3 (p:=.str "put") rfl gs ?_
  ext
  refine zbd (N.sl _ hr.1) ?_
  ext
  refine zhj F' B hr.2 ?_
  exact hQ
 | give s=>
  rw [Row.ok] at hr
  rw [hr.1] at e
  rw [Row.d]
  ext
  with_reducible refine zaE (szl (by simp)) ?_
  ext
  refine zg3 (p:=.str "give") rfl gs ?_
  ext
  refine zbd (N.sl _ hr.2) ?_
  exact hQ
 | say s=>
  rw [Row.ok] at hr
  rw [hr.1] at e
  rw [Row.d]
  ext
  with_reducible refine zaE (szl (by simp)) ?_
  ext
  refine zg3 (p:=.str "say") rfl gs ?_
  ext
  refine zbd (N.sl _ hr.2) ?_
  exact hQ
 | write c s=>
  rw [Row.ok] at hr
  rw [hr.1.1] at e
  rw [Row.d]
  ext
  with_reducible refine zaE (szl (by simp)) ?_
  ext
  refine zg3 (p:=.str "write") rfl gs ?_
  ext
  refine zbd (N.so _ hr.2.1) ?_
  ext
  refine zbd (N.sl _ hr.2.2) ?_
  ext
  refine zg3 (p:=.str c) rfl (zhy h.sources) ?_
  rw [zgZ,decide_eq_true hr.2.1]
  exact hQ
 | ite s w y n=>
  rw [Row.ok] at hr
  have hd4:d < 4:=hd (by rw [Row.dep];omega)
  have ed:(Row.ite s w y n).d = .tup [.str "if", .str s,.str w,.tup (za7 y),.tup (za7 n)]:=by rw [Row.d]
  rw [ed]
  ext
  rw [← ed]
  exact ziq F' B N hr.1 hr.2.1 hd4 hQ
theorem ziD {xs:List D} {i:Nat} {y:D} (h:(zhf 0 xs)[i]? = some y):∃ x,xs[i]? = some x∧y = .tup [.int i,x]:=by
 rw [zfA] at h
 cases e:xs[i]? with
 | none=>rw [e] at h;cases h
 | some x=>rw [e] at h;exact ⟨x,rfl,by simpa using (Option.some.inj h).symm⟩
theorem zdE {K:PySem.W.Frag} {h:Shp} {b rd:Addr} (F:FBc K) (N:ShN h):∀ (n:Nat) (rs:List Row) {S:Sto} {pth:List D} {d:Int} {Q:DQ} {E:XQ},Bc K h b rd S->zd8 h rs->zbz rs < n->d+zbz rs≤4->pth.length+3 * n≤500->Q .non S->za4 K n [.ref b,.tup (za7 rs),.tup pth,.int d] S Q E
 | 0,rs,S,pth,d,Q,E,_,_,hn,_,_,_=>absurd hn (Nat.not_lt_zero _)
 | n+1,rs,S,pth,d,Q,E,B,ok,hn,hd,hp,hQ=>by
  refine zaT rfl ?_
  obtain ⟨flb,e⟩:=B.ob
  unfold zbw
  ext
  refine zbf (fun i env S'=>∃ x4 x5 x6 x7 x8:Option D,env=[some (.ref b),some (.tup (za7 rs)),some (.tup pth),some (.int d),x4,x5,x6,x7,x8]∧S'=S) _ 0 ⟨_,_,_,_,_,rfl,rfl⟩ ?_ ?_
  ·rintro i y _ S1 hy ⟨x4,x5,x6,x7,x8,rfl,rfl⟩ nx hnx
   obtain ⟨x,hx,rfl⟩:=ziD hy
   obtain ⟨r,hr,rfl⟩:=zhA hx
   have hm:=List.mem_of_getElem? hr
   have hrd:=zhS hm
   have hok:=zfL.mp ok r hm
   refine ⟨trivial,?_⟩
   ext
   with_reducible refine zaE (szl (by simp)) ?_
   ext
   with_reducible refine zeW (szl (by simp;omega)) ?_
   ext
   refine zkA F B N hok (by omega) ?_
   cases r with
   | ite s w yy nn=>
    rw [Row.ok] at hok
    rw [Row.dep] at hrd
    rw [Row.d]
    ext
    with_reducible refine zaE (szl (by simp)) ?_
    ext
    refine zbf (fun j env S'=>∃ x7 x8:Option D,env=[some (.ref b),some (.tup (za7 rs)),some (.tup pth),some (.int d),some (.int i),some (.tup [.str "if", .str s,.str w,.tup (za7 yy),.tup (za7 nn)]),some (.tup (pth++[.int i])),x7,x8]∧S'=S1) _ 0 ⟨_,_,rfl,rfl⟩ ?_ ?_
    ·rintro j z _ _ hz ⟨x7,x8,rfl,rfl⟩ nx2 hnx2
     refine ⟨trivial,?_⟩
     rcases j with _ | _ | j
     ·cases hz
      ext
      with_reducible refine zaE (szl (by simp)) ?_
      ext
      with_reducible refine zeW (szl (by simp;omega)) ?_
      ext
      refine zdE F N n yy B hok.2.2.1 (by omega) (by omega) (by simp;omega) ?_
      ext
      exact hnx2 _ _ ⟨_,_,rfl,rfl⟩
     ·cases hz
      ext
      with_reducible refine zaE (szl (by simp)) ?_
      ext
      with_reducible refine zeW (szl (by simp;omega)) ?_
      ext
      refine zdE F N n nn B hok.2.2.2 (by omega) (by omega) (by simp;omega) ?_
      ext
      exact hnx2 _ _ ⟨_,_,rfl,rfl⟩
     ·cases hz
    ·rintro _ _ ⟨x7,x8,rfl,rfl⟩
     exact ⟨trivial,hnx _ _ ⟨_,_,_,_,_,rfl,rfl⟩⟩
   | _=>
    rw [Row.d]
    ext
    exact hnx _ _ ⟨_,_,_,_,_,rfl,rfl⟩
  ·rintro _ _ ⟨x4,x5,x6,x7,x8,rfl,rfl⟩
   refine ⟨trivial,?_⟩
   ext
   exact hQ
theorem zjl {K:PySem.W.Frag} {h:Shp} {b rd:Addr} {rs:List Row} {S:Sto} {pth:List D} {Q:DQ} {E:XQ} (F:FBc K) (N:ShN h) (B:Bc K h b rd S) (ok:BodyOk h rs) (hp:pth.length≤100) (hQ:Q .non S):zbD K [.ref b,.tup (za7 rs),.tup pth] S Q E:=by
 refine zaT rfl ?_
 obtain ⟨flb,e⟩:=B.ob
 have h1:=ok.dep
 have h2:=ok.cnt
 unfold zco
 ext
 refine zdE F N 6 rs B ok.ok (by omega) (by omega) (by omega) ?_
 ext
 refine zhU 6 rs (by omega) ?_
 ext
 exact hQ
def zsj (p:Addr) (y:D) (nx:Sto->Prop):DQ:=fun z S5=>match S5 p,keyD y with
 | some (.dic kvs),some k=>kvs.length < sizeLine∧nx (DL.put S5 p (.dic (putD kvs k z)))
 | _,_=>False
def zrv (p:Addr) (mv:EM) (env:Slo) (nx:Sto->Prop):DQ:=fun y S4=>mv env S4 (zsj p y nx)
theorem zpQ {p:Addr} {y z:D} {nx:Sto->Prop} {S:Sto} {kvs:List (Key×D)} {k:Key} (e0:S p=some (.dic kvs)) (ek:keyD y=some k) (hl:kvs.length < sizeLine) (h:nx (DL.put S p (.dic (putD kvs k z)))):zsj p y nx z S:=by
 unfold zsj
 simp only [e0,ek]
 exact ⟨hl,h⟩
theorem zm9 {p:Addr} {mv:EM} {env:Slo} {nx:Sto->Prop} {y:D} {S:Sto} (h:mv env S (zsj p y nx)):zrv p mv env nx y S:=h
theorem zrU {g:GM} {mk mv:EM} {G:Sto->Prop} {p:Addr} {Q:DQ} {env:Slo} (I:Nat->List (Key×D)->Sto->Prop):∀ (xs:List D) (i0:Nat) {S:Sto} {kvs:List (Key×D)},S p=some (.dic kvs)->I i0 kvs S ->
  (∀ i x S kvs,xs[i]? = some x->S p=some (.dic kvs)->I (i0+i) kvs S->∀ nx:Sto->Prop,(∀ s kv,s p=some (.dic kv)->I (i0+i+1) kv s->nx s)->G S∧g x env S fun env2 S2=>mk env2 S2 (zrv p mv env2 nx)) ->
  (∀ S kvs,S p=some (.dic kvs)->I (i0+xs.length) kvs S->G S∧Q (.ref p) S)->dcL g zgL mk mv G p Q env xs S
 | [],i0,S,kvs,hp,h0,_,done=>done S kvs hp h0
 | x :: xs,i0,S,kvs,hp,h0,step,done=>by
  have hh:=step 0 x S kvs rfl hp h0 (dcL g zgL mk mv G p Q env xs) fun s kv hz h=>?_
  ·exact hh
  refine zrU I xs (i0+1) hz h (fun i y s kv hy hz hi nx hnx=>step (i+1) y s kv hy hz (by rw [show i0+(i+1)=i0+1+i by omega];exact hi) nx fun s kv hz h=>hnx s kv hz (by rw [show i0+1+i+1=i0+(i+1)+1 by omega];exact h)) fun s kv hz h=>?_
  exact done s kv hz (by rw [List.length_cons,show i0+(xs.length+1)=i0+1+xs.length by omega];exact h)
structure FPr (K:PySem.W.Frag):Prop where
 words:FOk K (He.ga K "Program") "words"
 sources:FOk K (He.ga K "Program") "sources"
 derived:FOk K (He.ga K "Program") "derived"
 effects:FOk K (He.ga K "Program") "effects"
def zdX (K:PySem.W.Frag) (x:Parts):O:=.ins (He.ga K "Program") [("words", .tup (x.words.map D.str)),("sources", .tp x.fl (x.sources.map D.str)),("derived", .tup (x.derived.map pairD)),("effects", .tup (x.effects.map pairD))]
theorem Kp.new {S S':Sto} {p:Addr} {o:O} (h:Kp S S') (hp:S' p=none):Kp S (DL.put S' p o):=fun b o' e=>by
 have e2:=h b o' e
 rw [zaz (fun q=>by subst q;rw [hp] at e2;cases e2)]
 exact e2
theorem Kp.none_ {S S':Sto} {p:Addr} (h:Kp S S') (hp:S' p=none):S p=none:=by
 cases e:S p with
 | none=>rfl
 | some o=>rw [h p o e] at hp;cases hp
theorem Kp.fr {S S':Sto} {p:Addr} (h:Kp S S'):Fr p S S':=fun b o _ e=>h b o e
theorem Nms.left {xs ys:List Str} (h:Nms (xs++ys)):Nms xs:=⟨fun z hz=>h.1 z (List.mem_append_left _ hz),(List.nodup_append.mp h.2).1⟩
theorem zhb {ps:List (Str×List Row)} {i:Nat} {p:Str×List Row} (h:ps[i]? = some p):(ps.take (i+1)).map (·.1)=(ps.take i).map (·.1)++[p.1]:=by
 rw [List.take_succ,h]
 simp
theorem pair_at {ps:List (Str×List Row)} {i:Nat} {y:D} (h:(ps.map pairD)[i]? = some y):∃ p,ps[i]? = some p∧y = .tup [.str p.1,.tup (za7 p.2)]:=by
 rw [List.getElem?_map] at h
 cases e:ps[i]? with
 | none=>rw [e] at h;cases h
 | some p=>rw [e] at h;exact ⟨p,rfl,(Option.some.inj h).symm⟩
theorem zh7 {K:PySem.W.Frag} {S:Sto} {o:Addr} {x:Parts} {slots:List Str} {pk wr:Bool} {Q:DQ} {E:XQ} (F:FBc K) (G:FPr K) (P:zbA x slots pk wr) (eo:S o=some (.ins (He.ga K "Program") []))
  (hQ:∀ S',Fr o S S'->S' o=some (zdX K x)->Q .non S'):zck K [.ref o,.tup (x.words.map D.str),.tp x.fl (x.sources.map D.str),.tup (x.derived.map pairD),.tup (x.effects.map pairD)] S Q E:=by
 have P2:=P
 obtain ⟨ww,w2,w4,nn,s1,s4,d6,e4,sl,der,eff⟩:=P
 have nsd:Nms (x.sources++x.derived.map (·.1)):=nn.left
 have ns:Nms x.sources:=nsd.left
 refine zaT rfl ?_
 unfold zcH
 ext
 refine zgr ww (by omega) (by omega) (by omega) fun S1 k1=>?_
 ext
 refine zgr ns (by omega) (by omega) (by omega) fun S2 k2=>?_
 have k02:Kp S S2:=Kp.trans k1 k2
 clear k1 k2
 ext
 intro tk htk
 have k03:Kp S (DL.put S2 tk (.dic [])):=k02.new htk
 have tkS:S tk=none:=k02.none_ htk
 refine zrU (fun i kvs S'=>kvs.length≤i∧(∀ z,(valD kvs (.inr z)).isSome=true->z∈x.sources.take i)∧Kp S S') _ 0 zai ⟨Nat.le_refl _,fun z h=>(by cases h),k03⟩ ?_ ?_
 ·rintro i y S3 kvs hy ep ⟨hl,hv,k3⟩ nx hnx
  rw [Nat.zero_add] at hl hv hnx
  have hi:i < x.sources.length:=by
   have:=(List.getElem?_eq_some_iff.mp hy).1
   simpa using this
  have ey:y = .str x.sources[i]:=by
   rw [List.getElem?_map,List.getElem?_eq_getElem hi] at hy
   exact (Option.some.inj hy).symm
  subst ey
  refine ⟨trivial,?_⟩
  ext
  with_reducible refine zm9 ?_
  ext
  with_reducible refine zpQ ep rfl (zfr (by omega)) ?_
  refine hnx _ _ zai ⟨?_,fun z h=>?_,k3.wr tkS⟩
  ·have:=zcr (kvs:=kvs) (k:=(.inr x.sources[i]:Key)) (v:=.bl true)
   omega
  ·rw [zcN] at h
   rw [List.take_succ,List.getElem?_eq_getElem hi]
   by_cases q:(Sum.inr z:Key) = .inr x.sources[i]
   ·cases q
    exact List.mem_append_right _ (List.mem_cons_self ..)
   ·rw [if_neg q] at h
    exact List.mem_append_left _ (hv z h)
 rintro S3 kvs ep ⟨hl,hv,k3⟩
 rw [Nat.zero_add,List.length_map] at hl hv
 rw [List.take_length] at hv
 refine ⟨trivial,?_⟩
 ext
 refine zgq ep hv (by omega) nsd (by omega) (by omega) fun S4 k4=>?_
 have ep4:=k4 _ _ ep
 have k04:Kp S S4:=k3.trans k4
 walk_at "dmn"
 with_reducible refine ze4 ?_
 walk_at "dmn"
 refine zbf (fun i env S'=>∃ (x7:Option D) (kv:List (Key×D)),env=[some (.ref o),some (.tup (x.words.map D.str)),some (.tp x.fl (x.sources.map D.str)),some (.tup (x.derived.map pairD)),some (.tup (x.effects.map pairD)),some (.ref tk),none,x7,none,none]∧S' tk=some (.dic kv)∧kv.length≤4+i∧
  (∀ z,(valD kv (.inr z)).isSome=true->z∈x.sources++(x.derived.take i).map (·.1))∧Kp S S') _ 0 ⟨_,_,rfl,ep4,by omega,fun z h=>by simpa using hv z h,k04⟩ ?_ ?_
 ·rintro i y _ S5 hy ⟨x7,kv,rfl,e5,hl5,hv5,k5⟩ nx hnx
  rw [Nat.zero_add] at hl5 hv5 hnx
  obtain ⟨p,hp,rfl⟩:=pair_at hy
  have hi:i < x.derived.length:=(List.getElem?_eq_some_iff.mp hp).1
  refine ⟨trivial,?_⟩
  ext
  refine zfX e5 rfl (zfr (by omega)) ?_
  have pl:=zcr (kvs:=kv) (k:=(.inr p.1:Key)) (v:=.bl true)
  refine hnx _ _ ⟨_,_,rfl,zai,by omega,fun z h=>?_,k5.wr tkS⟩
  rw [zcN] at h
  rw [zhb hp,← List.append_assoc]
  by_cases q:(Sum.inr z:Key) = .inr p.1
  ·cases q
   exact List.mem_append_right _ (List.mem_cons_self ..)
  ·rw [if_neg q] at h
   exact List.mem_append_left _ (hv5 z h)
 rintro _ S5 ⟨x7,kv,rfl,e5,hl5,hv5,k5⟩
 rw [Nat.zero_add,List.length_map] at hl5 hv5
 rw [List.take_length] at hv5
 refine ⟨trivial,?_⟩
 ext
 refine zgq e5 hv5 (by omega) nn (by omega) (by omega) fun S6 k6=>?_
 have k06:Kp S S6:=k5.trans k6
 clear e5 hv5 hl5 k5 k6 ep4 k04 k4 ep hv hl k3
 ext
 refine zjT fun rd hrd=>?_
 have k07:Kp S (DL.put S6 rd (.lst (x.sources.map D.str))):=k06.new hrd
 have rdS:S rd=none:=k06.none_ hrd
 have e7:DL.put S6 rd (.lst (x.sources.map D.str)) rd=some (.lst (x.sources.map D.str)):=zai
 generalize DL.put S6 rd (.lst (x.sources.map D.str))=S7 at k07 e7 ⊢
 walk_at "dmn"
 with_reducible refine ze4 ?_
 walk_at "dmn"
 refine zbf (fun i env S'=>∃ (x7 x9:Option D),env=[some (.ref o),some (.tup (x.words.map D.str)),some (.tp x.fl (x.sources.map D.str)),some (.tup (x.derived.map pairD)),some (.tup (x.effects.map pairD)),some (.ref tk),none,x7,some (.ref rd),x9]∧
  S' rd=some (.lst ((x.sources++(x.derived.take i).map (·.1)).map D.str))∧Kp S S') _ 0 ⟨_,_,rfl,by simpa using e7,k07⟩ ?_ ?_
 ·rintro i y _ S8 hy ⟨x7,x9,rfl,e8,k8⟩ nx hnx
  rw [Nat.zero_add] at e8 hnx
  obtain ⟨y',hy',rfl⟩:=ziD hy
  obtain ⟨p,hp,rfl⟩:=pair_at hy'
  have hi:i < x.derived.length:=(List.getElem?_eq_some_iff.mp hp).1
  refine ⟨trivial,?_⟩
  ext
  refine zjU e8 fun r2 hr2=>?_
  have k9:=k8.new (o:=.lst ((x.sources++(x.derived.take i).map (·.1)).map D.str)) hr2
  have t9:DL.put S8 r2 (.lst ((x.sources++(x.derived.take i).map (·.1)).map D.str)) r2=_:=zai
  have e9:DL.put S8 r2 (.lst ((x.sources++(x.derived.take i).map (·.1)).map D.str)) rd=some (.lst ((x.sources++(x.derived.take i).map (·.1)).map D.str)):=by
   rw [zaz (fun q=>by subst q;rw [e8] at hr2;cases hr2)]
   exact e8
  generalize DL.put S8 r2 (.lst ((x.sources++(x.derived.take i).map (·.1)).map D.str))=S9 at k9 t9 e9 ⊢
  ext
  intro q hq
  have qr:rd≠q:=fun z=>by subst z;rw [e9] at hq;cases hq
  have qr2:r2≠q:=fun z=>by subst z;rw [t9] at hq;cases hq
  refine zhr F zai ⟨rfl,?_⟩
  rw [zcE]
  have k10:=k9.new (o:=.ins (He.ga K "BodyCheck") [("kind", .str "derived"),("words", .tup (x.words.map D.str)),("sources", .tp x.fl (x.sources.map D.str)),("readable", .ref r2)]) hq
  have B:Bc K ⟨true,false,false,x.words,x.sources,x.sources++(x.derived.take i).map (·.1),slots⟩ q r2 (DL.put S9 q (.ins (He.ga K "BodyCheck") [("kind", .str "derived"),("words", .tup (x.words.map D.str)),("sources", .tp x.fl (x.sources.map D.str)),("readable", .ref r2)])):=
   ⟨⟨x.fl,zai⟩,(zaz qr2).trans t9⟩
  have e10:DL.put S9 q (.ins (He.ga K "BodyCheck") [("kind", .str "derived"),("words", .tup (x.words.map D.str)),("sources", .tp x.fl (x.sources.map D.str)),("readable", .ref r2)]) rd=_:=(zaz qr).trans e9
  generalize DL.put S9 q (.ins (He.ga K "BodyCheck") [("kind", .str "derived"),("words", .tup (x.words.map D.str)),("sources", .tp x.fl (x.sources.map D.str)),("readable", .ref r2)])=S10 at k10 B e10 ⊢
  obtain ⟨flb,eb⟩:=B.ob
  ext
  with_reducible refine zaE (szl (by simp)) ?_
  ext
  refine zjl F ⟨sl,fun z hz=>?_,fun z hz=>ns.1 z hz⟩ B (der i p hp) (by simp) ?_
  ·refine nsd.1 z ?_
   rcases List.mem_append.mp hz with q | q
   ·exact List.mem_append_left _ q
   ·refine List.mem_append_right _ ?_
    rw [List.map_take] at q
    exact List.mem_of_mem_take q
  ext
  with_reducible refine s_app e10 (zfr (by simp;omega)) ?_
  ext
  refine hnx _ _ ⟨_,_,rfl,?_,k10.wr rdS⟩
  rw [zai,zhb hp]
  simp
 rintro _ S8 ⟨x7,x9,rfl,e8,k8⟩
 rw [Nat.zero_add,zcd,List.length_map,List.take_length] at e8
 refine ⟨trivial,?_⟩
 walk_at "dmn"
 with_reducible refine ze4 ?_
 walk_at "dmn"
 refine zbf (fun i env S'=>∃ (x7 x9:Option D),env=[some (.ref o),some (.tup (x.words.map D.str)),some (.tp x.fl (x.sources.map D.str)),some (.tup (x.derived.map pairD)),some (.tup (x.effects.map pairD)),some (.ref tk),none,x7,some (.ref rd),x9]∧
  S' rd=some (.lst ((x.sources++x.derived.map (·.1)).map D.str))∧Kp S S') _ 0 ⟨_,_,rfl,e8,k8⟩ ?_ ?_
 ·rintro i y _ S9 hy ⟨x7,x9,rfl,e9,k9⟩ nx hnx
  obtain ⟨y',hy',rfl⟩:=ziD hy
  obtain ⟨p,hp,rfl⟩:=pair_at hy'
  refine ⟨trivial,?_⟩
  ext
  intro q hq
  have qr:rd≠q:=fun z=>by subst z;rw [e9] at hq;cases hq
  refine zhr F zai ⟨rfl,?_⟩
  rw [zcE]
  have k10:=k9.new (o:=.ins (He.ga K "BodyCheck") [("kind", .str "effects"),("words", .tup (x.words.map D.str)),("sources", .tp x.fl (x.sources.map D.str)),("readable", .ref rd)]) hq
  have e10:DL.put S9 q (.ins (He.ga K "BodyCheck") [("kind", .str "effects"),("words", .tup (x.words.map D.str)),("sources", .tp x.fl (x.sources.map D.str)),("readable", .ref rd)]) rd=_:=(zaz qr).trans e9
  have B:Bc K ⟨false,pk,wr,x.words,x.sources,x.sources++x.derived.map (·.1),slots⟩ q rd (DL.put S9 q (.ins (He.ga K "BodyCheck") [("kind", .str "effects"),("words", .tup (x.words.map D.str)),("sources", .tp x.fl (x.sources.map D.str)),("readable", .ref rd)])):=
   ⟨⟨x.fl,zai⟩,e10⟩
  generalize DL.put S9 q (.ins (He.ga K "BodyCheck") [("kind", .str "effects"),("words", .tup (x.words.map D.str)),("sources", .tp x.fl (x.sources.map D.str)),("readable", .ref rd)])=S10 at k10 B e10 ⊢
  obtain ⟨flb,eb⟩:=B.ob
  ext
  with_reducible refine zaE (szl (by simp)) ?_
  ext
  refine zjl F ⟨sl,fun z hz=>nsd.1 z hz,fun z hz=>ns.1 z hz⟩ B (eff p (List.mem_of_getElem? hp)) (by simp) ?_
  ext
  exact hnx _ _ ⟨_,_,rfl,e10,k10⟩
 rintro _ S9 ⟨x7,x9,rfl,e9,k9⟩
 obtain ⟨f1,f2,f3,f4⟩:=G
 have eo9:=k9 _ _ eo
 refine ⟨trivial,?_⟩
 ext
 with_reducible refine zew eo9 f1 (by simp) ?_
 ext
 with_reducible refine zew zai f2 (by refine Nat.lt_of_le_of_lt (?_:_≤20) (by decide);repeat (first | refine zg4 ?_ | (simp;done))) ?_
 ext
 with_reducible refine zew zai f3 (by refine Nat.lt_of_le_of_lt (?_:_≤20) (by decide);repeat (first | refine zg4 ?_ | (simp;done))) ?_
 ext
 with_reducible refine zew zai f4 (by refine Nat.lt_of_le_of_lt (?_:_≤20) (by decide);repeat (first | refine zg4 ?_ | (simp;done))) ?_
 rw [zcE,zcE,zcE]
 exact hQ _ (k9.fr.put) zai
set_option maxHeartbeats 4000000
def zza:Option Str->D
 | some z=>.str z
 | none=>.non
def prD (p:Str×Str):D:=.tup [.str p.1,.str p.2]
def kLt (m:EM) (env2:Slo) (p:Addr) (nx:Sto->Prop):Bool->Sto->Prop:=fun c S3=>match c with
 | true=>m env2 S3 (zof p nx)
 | false=>nx S3
theorem zug {α:Type} {g:GM} {t:TM} {m:EM} {G:Sto->Prop} {p:Addr} {Q:DQ} {env:Slo} (xs:List α) (f:α->D) (b:α->Bool) (r:α->D) {S0 S:Sto} (hp:S p=some (.lst [])) (h0:S0 p=none) (k0:Kp S0 S) (hl:xs.length≤1000)
  (step:∀ a∈xs,∀ S,Kp S0 S->∀ nx:Sto->Prop,(b a=true->∀ S',Kp S S'->zof p nx (r a) S')->(b a=false->∀ S',Kp S S'->nx S')->G S∧g (f a) env S fun env2 S2=>t env2 S2 (kLt m env2 p nx))
  (done:∀ S',S' p=some (.lst ((xs.filter b).map r))->Kp S0 S'->G S'∧Q (.ref p) S'):lcL g t m G p Q env (xs.map f) S:=by
 refine zob (fun i ys S'=>ys=((xs.take i).filter b).map r∧Kp S0 S') (xs.map f) 0 hp ⟨by simp,k0⟩ ?_ ?_
 ·rintro i y S1 ys hy e1 ⟨rfl,k1⟩ nx hnx
  rw [Nat.zero_add] at hnx e1
  rw [List.getElem?_map] at hy
  cases ea:xs[i]? with
  | none=>rw [ea] at hy;cases hy
  | some a=>
   rw [ea] at hy
   cases hy
   have hi:i < xs.length:=(List.getElem?_eq_some_iff.mp ea).1
   have et:xs.take (i+1)=xs.take i++[a]:=by rw [List.take_succ,ea];rfl
   have hlen:(((xs.take i).filter b).map r).length≤1000:=by
    rw [List.length_map]
    exact Nat.le_trans (List.length_filter_le _ _) (by simp;omega)
   obtain ⟨q1,q2⟩:=step a (List.mem_of_getElem? ea) S1 k1 nx (fun hb S' k=>zjV (k _ _ e1) (zfr hlen) (hnx _ _ zai ⟨by rw [et,List.filter_append];simp [hb],(k1.trans k).wr h0⟩))
    (fun hb S' k=>hnx _ _ (k _ _ e1) ⟨by rw [et,List.filter_append];simp [hb],k1.trans k⟩)
   exact ⟨q1,q2⟩
 ·rintro S1 ys e1 ⟨rfl,k1⟩
  rw [Nat.zero_add,List.length_map,List.take_length] at e1
  exact done S1 e1 k1
theorem zrn {α:Type} {g:GM} {m:EM} {G:Sto->Prop} {p:Addr} {Q:DQ} {env:Slo} (xs:List α) (f:α->D) (r:α->D) {S0 S:Sto} (hp:S p=some (.lst [])) (h0:S0 p=none) (k0:Kp S0 S) (hl:xs.length≤1000)
  (step:∀ a∈xs,∀ S,Kp S0 S->∀ nx:Sto->Prop,(∀ S',Kp S S'->zof p nx (r a) S')->G S∧g (f a) env S fun env2 S2=>m env2 S2 (zof p nx))
  (done:∀ S',S' p=some (.lst (xs.map r))->Kp S0 S'->G S'∧Q (.ref p) S'):lcL g zgL m G p Q env (xs.map f) S:=by
 refine zug xs f (fun _=>true) r hp h0 k0 hl (fun a ha S k nx hT _=>?_) (fun S' e k=>done S' (by rw [List.filter_eq_self.mpr fun _ _=>rfl] at e;exact e) k)
 obtain ⟨q1,q2⟩:=step a ha S k nx (hT rfl)
 exact ⟨q1,q2⟩
section
variable {K:PySem.W.Frag} {S:Sto} {o:Addr} {x:Parts} {slots:List Str} {pk wr:Bool} {Q:DQ} {E:XQ}
def Parts.df (x:Parts):Str:=x.words.headD ""
def Parts.cells (x:Parts):List Str:=x.sources++x.derived.map (·.1)
theorem zrT (G:FPr K) (P:zbA x slots pk wr) (eo:S o=some (zdX K x)) (hQ:∀ S',Kp S S'->Q (.tup ((x.derived.map (·.1)).map D.str)) S'):za3 K [.ref o] S Q E:=by
 obtain ⟨f1,f2,f3,f4⟩:=G
 have d6:=P.d6
 unfold zdX at eo
 refine zaT rfl ?_
 unfold zbv
 ext
 intro q hq
 refine zrn x.derived pairD (fun p=>.str p.1) (S0:=S) zai hq (Kp.refl.new hq) (by omega) ?_ ?_
 ·intro p hp S1 k1 nx hT
  refine ⟨trivial,?_⟩
  unfold pairD
  ext
  exact hT _ Kp.refl
 ·intro S1 e1 k1
  refine ⟨trivial,?_⟩
  ext
  have e:(x.derived.map fun p=>D.str p.1)=(x.derived.map (·.1)).map D.str:=by rw [List.map_map];rfl
  rw [e]
  exact hQ _ k1
theorem zlR (G:FPr K) (P:zbA x slots pk wr) (eo:S o=some (zdX K x)) (hQ:∀ S' fl,Kp S S'->Q (.tp fl (x.cells.map D.str)) S'):zcA K [.ref o] S Q E:=by
 have G':=G
 obtain ⟨f1,f2,f3,f4⟩:=G
 have d6:=P.d6
 have s4:=P.s4
 have eo':=eo
 unfold zdX at eo
 refine zaT rfl ?_
 unfold zc9
 ext
 refine zrT G' P eo' fun S1 k1=>?_
 ext
 refine zqL (szl (by simp;omega)) ?_
 ext
 have:=hQ S1 (zvb x.fl false (x.sources.map D.str) ((x.derived.map (·.1)).map D.str)) k1
 unfold Parts.cells at this
 rw [List.map_append] at this
 exact this
end
def Pl (k:Nat) (d:D):Prop:=∃ x:PyData,(∀ (S:Sto) (n:Nat),k≤n->rs S n d=some x)∧PyData.eqv x x=true
section
variable {k k':Nat} {d:D} {ds:List D} {S:Sto} {Q:DQ} {u:Bool->Bool}
theorem Pl.mono (h:Pl k d) (hk:k≤k'):Pl k' d:=by
 obtain ⟨x,h1,h2⟩:=h
 exact ⟨x,fun S n hn=>h1 S n (by omega),h2⟩
theorem Pl.enc {α:Type} [DecidableEq α] {f:α->D} {g:α->PyData} (h:Enc k f g) (z:α):Pl k (f z):=⟨g z,fun S n hn=>h.rd S n z hn,by rw [h.eq];simp⟩
theorem Pl.str (z:Str):Pl 1 (.str z):=(Pl.enc zcm z).mono (by decide)
theorem Pl.int (i:Int):Pl 1 (.int i):=(Pl.enc zop i).mono (by decide)
theorem Pl.bl (b:Bool):Pl 1 (.bl b):=⟨.bool b,fun S n hn=>by cases n <;> rfl,by cases b <;> rfl⟩
theorem Pl.non:Pl 1 .non:=⟨.none,fun S n hn=>by cases n <;> rfl,by rfl⟩
theorem Pl.all (h:∀ d∈ds,Pl k d):∃ xs:List PyData,(∀ (S:Sto) (n:Nat),k≤n->ds.mapM (rs S n)=some xs)∧PyData.eqvAll xs xs=true:=by
 induction ds with
 | nil=>exact ⟨[],fun _ _ _=>rfl,by simp [PyData.eqvAll]⟩
 | cons d ds ih=>
  obtain ⟨x,h1,h2⟩:=h d List.mem_cons_self
  obtain ⟨xs,h3,h4⟩:=ih fun z hz=>h z (List.mem_cons_of_mem _ hz)
  refine ⟨x :: xs,fun S n hn=>?_,?_⟩
  ·rw [List.mapM_cons,h1 S n hn,h3 S n hn]
   rfl
  ·rw [PyData.eqvAll,h2,h4]
   rfl
theorem Pl.tup {fl:Bool} (h:∀ d∈ds,Pl k d):Pl (k+1) (.tp fl ds):=by
 obtain ⟨xs,h1,h2⟩:=Pl.all h
 refine ⟨.tuple xs,fun S n hn=>?_,by rw [PyData.eqv];exact h2⟩
 obtain ⟨n,rfl⟩:∃ m,n=m+1:=⟨n - 1,by omega⟩
 show (ds.mapM (rs S n)).map PyData.tuple=_
 rw [h1 S n (by omega)]
 rfl
theorem Pl.eq (h:Pl k d) (hk:k≤40) (q:Q (.bl (u true)) S):zg8 u d d S Q:=by
 obtain ⟨x,h1,h2⟩:=h
 exact ziQ (h1 S 40 hk) (h1 S 40 hk) (by rw [h2];exact q)
theorem Pl.map {α:Type} {fl:Bool} {f:α->D} {l:List α} (h:∀ a∈l,Pl k (f a)):Pl (k+1) (.tp fl (l.map f)):=Pl.tup fun d hd=>by
 obtain ⟨a,ha,rfl⟩:=List.mem_map.mp hd
 exact h a ha
end
theorem zt1 (q:Str×Str):Pl 2 (prD q):=Pl.tup fun d hd=>by
 rcases List.mem_cons.mp hd with rfl | hd
 ·exact Pl.str _
 ·cases List.mem_singleton.mp hd
  exact Pl.str _
def Rq (S:Sto) (n:Nat) (d e:D):Prop:=∃ x,rs S n d=some x∧rs S n e=some x∧PyData.eqv x x=true
inductive zr1 {α:Type} (R:α->α->Prop):List α->List α->Prop
 | nil:zr1 R [] []
 | cons {a b:α} {l r:List α}:R a b->zr1 R l r->zr1 R (a :: l) (b :: r)
section
variable {S:Sto} {n k:Nat} {d e:D} {ds es:List D} {a b:Addr} {Q:DQ} {u:Bool->Bool}
theorem Rq.pl (h:Pl k d) (hk:k≤n):Rq S n d d:=by
 obtain ⟨x,h1,h2⟩:=h
 exact ⟨x,h1 S n hk,h1 S n hk,h2⟩
theorem Rq.all:∀ {ds es:List D},zr1 (Rq S n) ds es->∃ xs,ds.mapM (rs S n)=some xs∧es.mapM (rs S n)=some xs∧PyData.eqvAll xs xs=true
 | _,_,.nil=>⟨[],rfl,rfl,by simp [PyData.eqvAll]⟩
 | _,_,.cons h t=>by
  obtain ⟨x,h1,h2,h3⟩:=h
  obtain ⟨xs,t1,t2,t3⟩:=Rq.all t
  refine ⟨x :: xs,?_,?_,?_⟩
  ·rw [List.mapM_cons,h1,t1]
   rfl
  ·rw [List.mapM_cons,h2,t2]
   rfl
  ·rw [PyData.eqvAll,h3,t3]
   rfl
theorem Rq.tup {f g:Bool} (h:zr1 (Rq S n) ds es):Rq S (n+1) (.tp f ds) (.tp g es):=by
 obtain ⟨xs,h1,h2,h3⟩:=Rq.all h
 refine ⟨.tuple xs,?_,?_,by rw [PyData.eqv];exact h3⟩
 ·show (ds.mapM (rs S n)).map PyData.tuple=_
  rw [h1]
  rfl
 ·show (es.mapM (rs S n)).map PyData.tuple=_
  rw [h2]
  rfl
theorem Rq.lst (e1:S a=some (.lst ds)) (e2:S b=some (.lst ds)) (h:∀ d∈ds,Pl k d) (hk:k≤n):Rq S (n+1) (.ref a) (.ref b):=by
 obtain ⟨xs,h1,h2⟩:=Pl.all h
 refine ⟨.list xs,?_,?_,by rw [PyData.eqv];exact h2⟩
 ·simp only [DL.rs,e1]
  rw [h1 S n hk]
  rfl
 ·simp only [DL.rs,e2]
  rw [h1 S n hk]
  rfl
theorem Rq.eq (h:Rq S 40 d e) (q:Q (.bl (u true)) S):zg8 u d e S Q:=by
 obtain ⟨x,h1,h2,h3⟩:=h
 exact ziQ h1 h2 (by rw [h3];exact q)
end
def tupB:D->Bool
 | .tp _ _=>true
 | _=>false
def zh2:D->Bool
 | .str _=>true
 | _=>false
def Kd (S:Sto) (d:D):Prop:=∃ t,tyD S d=some t
def KdT (S:Sto) (d:D):Prop:=Kd S d∧∀ fl xs,d = .tp fl xs->∀ y∈xs,Kd S y
def KdU (S:Sto) (d:D):Prop:=Kd S d∧∀ fl xs,d = .tp fl xs->∀ y∈xs,KdT S y
def KdW (S:Sto) (d:D):Prop:=Kd S d∧∀ fl xs,d = .tp fl xs->∀ y∈xs,KdU S y
section
variable {K:PySem.W.Frag} {o:Addr} {S S':Sto} {x:Parts} {Q:DQ} {E:XQ} {slots:List Str} {pk wr:Bool} {v:D} {xs:List D}
theorem zg9 {a:Addr} {t:String} (e:tyD S (.ref a)=some t):(∃ xs,S a=some (.lst xs)∧t = "list") ∨ (∃ xs,S a=some (.dic xs)∧t = "dict") ∨ ∃ xs,S a=some (.dit xs)∧t = "dict" := by
 have e:(match S a with
  | some (.lst _)=>some "list"
  | some (.dic _)=>some "dict"
  | some (.dit _)=>some "dict"
  | _=>none)=some t:=e
 cases h:S a with
 | none=>rw [h] at e;cases e
 | some ob=>
  rw [h] at e
  cases ob with
  | lst xs=>exact .inl ⟨xs,rfl,(Option.some.inj e).symm⟩
  | dic xs=>exact .inr (.inl ⟨xs,rfl,(Option.some.inj e).symm⟩)
  | dit xs=>exact .inr (.inr ⟨xs,rfl,(Option.some.inj e).symm⟩)
  | _=>cases e
theorem zo6 {t:String} (e:tyD S v=some t):(t == "tuple")=tupB v:=by
 cases v with
 | ref a=>
  rcases zg9 e with ⟨_,_,rfl⟩ | ⟨_,_,rfl⟩ | ⟨_,_,rfl⟩ <;> rfl
 | tp fl xs=>cases e;rfl
 | non=>cases e;rfl
 | bl b=>cases e;rfl
 | int b=>cases e;rfl
 | str b=>cases e;rfl
 | rol b=>cases e;rfl
 | ty b=>cases e
 | rod b c=>cases e
theorem ty_str {t:String} (e:tyD S v=some t):(t == "str")=zh2 v:=by
 cases v with
 | ref a=>
  rcases zg9 e with ⟨_,_,rfl⟩ | ⟨_,_,rfl⟩ | ⟨_,_,rfl⟩ <;> rfl
 | tp fl xs=>cases e;rfl
 | non=>cases e;rfl
 | bl b=>cases e;rfl
 | int b=>cases e;rfl
 | str b=>cases e;rfl
 | rol b=>cases e;rfl
 | ty b=>cases e
 | rod b c=>cases e
theorem zfP (h:Kd S v) (q:Q (.bl (tupB v)) S):zda [v,.ty "tuple"] S Q:=by
 obtain ⟨t,e⟩:=h
 refine zjv e rfl ?_
 rw [zo6 e]
 exact q
theorem zcG (h:Kd S v) (q:Q (.bl (zh2 v)) S):zda [v,.ty "str"] S Q:=by
 obtain ⟨t,e⟩:=h
 refine zjv e rfl ?_
 rw [ty_str e]
 exact q
theorem Kd.kp (h:Kd S v) (k:Kp S S'):Kd S' v:=by
 obtain ⟨t,e⟩:=h
 cases v with
 | ref a=>
  rcases zg9 e with ⟨xs,h,rfl⟩ | ⟨xs,h,rfl⟩ | ⟨xs,h,rfl⟩
  ·exact ⟨"list", by unfold tyD;simp only [k _ _ h]⟩
  ·exact ⟨"dict", by unfold tyD;simp only [k _ _ h]⟩
  ·exact ⟨"dict", by unfold tyD;simp only [k _ _ h]⟩
 | _=>exact ⟨t,e⟩
theorem KdT.kp (h:KdT S v) (k:Kp S S'):KdT S' v:=⟨h.1.kp k,fun fl xs e y hy=>(h.2 fl xs e y hy).kp k⟩
theorem KdU.kp (h:KdU S v) (k:Kp S S'):KdU S' v:=⟨h.1.kp k,fun fl xs e y hy=>(h.2 fl xs e y hy).kp k⟩
theorem KdW.kp (h:KdW S v) (k:Kp S S'):KdW S' v:=⟨h.1.kp k,fun fl xs e y hy=>(h.2 fl xs e y hy).kp k⟩
def zdB (x:Parts):D->Bool
 | .tp _ [.str s,.str w]=>decide (s∈x.sources) && decide (w∈x.words)
 | _=>false
theorem zh9 {fl:Bool} (h:xs.length≠2):zdB x (.tp fl xs)=false:=by
 match xs,h with
 | [],_=>rfl
 | [.str _],_=>rfl
 | [.non],_=>rfl
 | [.bl _],_=>rfl
 | [.int _],_=>rfl
 | [.tp _ _],_=>rfl
 | [.rol _],_=>rfl
 | [.ref _],_=>rfl
 | [.ty _],_=>rfl
 | [.rod _ _],_=>rfl
 | a :: b :: c :: r,_=>cases a <;> cases b <;> rfl
theorem zj9 {fl:Bool} {a b:D} (h:zh2 a=false):zdB x (.tp fl [a,b])=false:=by
 cases a <;> first | rfl | cases h
theorem zj8 {fl:Bool} {s:Str} {b:D} (h:zh2 b=false):zdB x (.tp fl [.str s,b])=false:=by
 cases b <;> first | rfl | cases h
theorem ziW (h:tupB v=false):zdB x v=false:=by
 cases v <;> first | rfl | cases h
theorem zd6 (h:zh2 v=true):∃ s,v = .str s:=by
 cases v <;> first | exact ⟨_,rfl⟩ | cases h
theorem zha (h:tupB v=true):∃ fl xs,v = .tp fl xs:=by
 cases v <;> first | exact ⟨_,_,rfl⟩ | cases h
theorem zft (F:FPr K) (eo:S o=some (zdX K x)) {fl:Bool} (hv:KdT S v) (hQ:Q (.bl (zdB x v)) S):zb9 K [.ref o,v,.tp fl (x.sources.map D.str)] S Q E:=by
 obtain ⟨p1,p2,p3,p4⟩:=F
 unfold zdX at eo
 refine zaT rfl ?_
 unfold zdG
 ext
 refine zfP hv.1 ?_
 cases e:tupB v with
 | false=>
  rw [ziW e] at hQ
  ext
  exact hQ
 | true=>
 obtain ⟨f,xs,rfl⟩:=zha e
 have hk:=hv.2 f xs rfl
 clear e
 ext
 by_cases hl:xs.length=2
 case neg=>
  rw [zh9 hl] at hQ
  rw [decide_eq_false (by omega)]
  ext
  exact hQ
 obtain ⟨a,b,rfl⟩:∃ a b,xs=[a,b]:=by
  match xs,hl with
  | [a,b],_=>exact ⟨a,b,rfl⟩
 ext
 refine zcG (hk a (by simp)) ?_
 cases e:zh2 a with
 | false=>
  rw [zj9 e] at hQ
  ext
  exact hQ
 | true=>
 obtain ⟨s,rfl⟩:=zd6 e
 clear e
 ext
 refine zcm.inT (by decide) ?_
 by_cases hs:s∈x.sources
 case neg=>
  rw [decide_eq_false hs]
  have:zdB x (.tp f [.str s,b])=false:=by
   cases b <;> first | rfl | (show (decide (s∈x.sources) && _)=false;rw [decide_eq_false hs];rfl)
  rw [this] at hQ
  ext
  exact hQ
 rw [decide_eq_true hs]
 ext
 refine zcG (hk b (by simp)) ?_
 cases e:zh2 b with
 | false=>
  rw [zj8 e] at hQ
  ext
  exact hQ
 | true=>
 obtain ⟨w,rfl⟩:=zd6 e
 ext
 refine zcm.inT (by decide) ?_
 have:zdB x (.tp f [.str s,.str w])=decide (w∈x.words):=by
  show (decide (s∈x.sources) && _)=_
  rw [decide_eq_true hs]
  rfl
 rw [this] at hQ
 exact hQ
theorem zf9 {fl:Bool} (hv:KdT S v) (hQ:Q (.bl (zdB x v)) S):zdr K [x.d,v] S Q E:=by
 unfold Parts.d
 refine zaT rfl ?_
 unfold zfj
 ext
 refine zfP hv.1 ?_
 cases e:tupB v with
 | false=>
  rw [ziW e] at hQ
  ext
  exact hQ
 | true=>
 obtain ⟨f,xs,rfl⟩:=zha e
 have hk:=hv.2 f xs rfl
 clear e
 ext
 by_cases hl:xs.length=2
 case neg=>
  rw [zh9 hl] at hQ
  rw [decide_eq_false (by omega)]
  ext
  exact hQ
 obtain ⟨a,b,rfl⟩:∃ a b,xs=[a,b]:=by
  match xs,hl with
  | [a,b],_=>exact ⟨a,b,rfl⟩
 ext
 refine zcG (hk a (by simp)) ?_
 cases e:zh2 a with
 | false=>
  rw [zj9 e] at hQ
  ext
  exact hQ
 | true=>
 obtain ⟨s,rfl⟩:=zd6 e
 clear e
 ext
 refine zcm.inT (by decide) ?_
 by_cases hs:s∈x.sources
 case neg=>
  rw [decide_eq_false hs]
  have:zdB x (.tp f [.str s,b])=false:=by
   cases b <;> first | rfl | (show (decide (s∈x.sources) && _)=false;rw [decide_eq_false hs];rfl)
  rw [this] at hQ
  ext
  exact hQ
 rw [decide_eq_true hs]
 ext
 refine zcG (hk b (by simp)) ?_
 cases e:zh2 b with
 | false=>
  rw [zj8 e] at hQ
  ext
  exact hQ
 | true=>
 obtain ⟨w,rfl⟩:=zd6 e
 ext
 refine zcm.inT (by decide) ?_
 have:zdB x (.tp f [.str s,.str w])=decide (w∈x.words):=by
  show (decide (s∈x.sources) && _)=_
  rw [decide_eq_true hs]
  rfl
 rw [this] at hQ
 exact hQ
end
def zc1 (x:Parts):List D->List Str->Bool
 | [],_=>true
 | z :: zs,seen=>match z with
  | .tp _ [.str s,.str w]=>if s∈x.sources∧w∈x.words∧s∉seen then zc1 x zs (seen++[s]) else false
  | _=>false
def zj0 (x:Parts):D->Bool
 | .str c=>decide (c∈x.cells)
 | _=>false
def zoR (x:Parts):D->Bool
 | .tp _ (z :: zs)=>zc1 x (z :: zs) []
 | _=>false
def zhE (x:Parts) (h:Str) (y:D):Bool:=if h = "read" then zj0 x y else if h = "batch" then zoR x y else false
def zfQ (x:Parts):D->Bool
 | .tp _ (.str h :: r)=>if h = "write" then zdB x (.tup r) else match r with
  | [y]=>zhE x h y
  | _=>false
 | _=>false
section
variable {K:PySem.W.Frag} {o:Addr} {S S':Sto} {x:Parts} {Q:DQ} {E:XQ} {slots:List Str} {pk wr:Bool} {v z:D} {xs zs:List D} {seen:List Str} {s w:Str} {fl f:Bool}
theorem zj7 (h:zdB x z=true):∃ fl s w,z = .tp fl [.str s,.str w]∧s∈x.sources∧w∈x.words:=by
 unfold zdB at h
 split at h
 ·rename_i fl s w
  obtain ⟨h1,h2⟩:=Bool.and_eq_true_iff.mp h
  exact ⟨fl,s,w,rfl,of_decide_eq_true h1,of_decide_eq_true h2⟩
 ·cases h
theorem zqZ (h:zdB x z=false):zc1 x (z :: zs) seen=false:=by
 unfold zc1
 split
 ·rename_i fl s w
  rw [if_neg]
  rintro ⟨h1,h2,_⟩
  have h:(decide (s∈x.sources) && decide (w∈x.words))=false:=h
  rw [decide_eq_true h1,decide_eq_true h2] at h
  cases h
 ·rfl
theorem zkf (h:s∈seen):zc1 x (.tp fl [.str s,.str w] :: zs) seen=false:=by
 show (if _ then _ else _)=_
 rw [if_neg fun q=>q.2.2 h]
theorem znL (h1:s∈x.sources) (h2:w∈x.words) (h3:s∉seen):zc1 x (.tp fl [.str s,.str w] :: zs) seen=zc1 x zs (seen++[s]):=by
 show (if _ then _ else _)=_
 rw [if_pos ⟨h1,h2,h3⟩]
theorem drop_at {α:Type} {l:List α} {i:Nat} {y:α} (h:l[i]? = some y):l.drop i=y :: l.drop (i+1):=by
 obtain ⟨hi,e⟩:=List.getElem?_eq_some_iff.mp h
 rw [List.drop_eq_getElem_cons hi,e]
theorem zu8 {y:D}:DL.cutD (y :: xs) (some 1) none=xs:=by
 unfold DL.cutD
 have e1:HT.sIx (y :: xs).length 0 (some 1)=min 1 (xs.length+1):=rfl
 have e2:HT.sIx (y :: xs).length (y :: xs).length none=xs.length+1:=rfl
 rw [e1,e2,Nat.min_eq_left (by omega)]
 show (xs.take _)=xs
 exact List.take_of_length_le (by omega)
theorem zhW (F:FPr K) (eo:S o=some (zdX K x)) (hz:∀ z∈zs,KdT S z) (hl:zs.length≤50) (hQ:∀ S',Kp S S'->Q (.bl (zc1 x zs [])) S'):zen K [.ref o,.tp f zs,.tp fl (x.sources.map D.str)] S Q E:=by
 refine zaT rfl ?_
 unfold zfe
 ext
 refine zl4 fun a ha=>?_
 ext
 refine zbf (fun i env S'=>∃ (x4:Option D) (g:Key->Bool) (n:Nat) (seen:List Str),env=[some (.ref o),some (.tp f zs),some (.tp fl (x.sources.map D.str)),some (.ref a),x4]∧S' a=some (.set g n)∧n≤i∧(∀ z,g (.inr z)=decide (z∈seen))∧zc1 x zs []=zc1 x (zs.drop i) seen∧Kp S S') _ 0 ⟨_,_,_,[],rfl,zai,Nat.le_refl _,fun z=>by simp,rfl,Kp.refl.new ha⟩ ?_ ?_
 ·rintro i y _ S2 hy ⟨x4,g,n,seen,rfl,ep,hn,hg,hnb,hk⟩ nx hnx
  rw [Nat.zero_add] at hn hnb hnx
  have hi:=(List.getElem?_eq_some_iff.mp hy).1
  rw [drop_at hy] at hnb
  refine ⟨trivial,?_⟩
  ext
  refine zft F (hk _ _ eo) ((hz y (List.mem_of_getElem? hy)).kp hk) ?_
  cases e:zdB x y with
  | false=>
   ext
   rw [zqZ e] at hnb
   have:=hQ _ hk
   rw [hnb] at this
   exact this
  | true=>
  obtain ⟨f2,s,w,rfl,h1,h2⟩:=zj7 e
  ext
  refine zjW ep rfl ?_
  rw [hg]
  by_cases hs:s∈seen
  ·rw [decide_eq_true hs]
   ext
   rw [zkf hs] at hnb
   have:=hQ _ hk
   rw [hnb] at this
   exact this
  ·rw [decide_eq_false hs]
   rw [znL h1 h2 hs] at hnb
   ext
   have hsb:n+1 < scanBound:=by
    have q:scanBound=4096:=rfl
    omega
   with_reducible refine zl8 ep rfl hsb ?_
   ext
   refine hnx _ _ ⟨_,_,_,seen++[s],rfl,zai,?_,fun z=>?_,hnb,hk.wr ha⟩
   ·split <;> omega
   ·by_cases ez:z=s
    ·subst ez
     simp [hg]
    ·have ez':¬ (Sum.inr z:Key) = .inr s:=fun q=>ez (by injection q)
     simp [hg,ez,ez']
 ·rintro _ S2 ⟨x4,g,n,seen,rfl,ep,hn,hg,hnb,hk⟩
  refine ⟨trivial,?_⟩
  rw [Nat.zero_add,List.drop_length] at hnb
  ext
  have:=hQ _ hk
  rw [hnb] at this
  exact this
theorem zgP (F:FPr K) (P:zbA x slots pk wr) (eo:S o=some (zdX K x)) (hv:KdW S v) (hf:∀ fl xs,v = .tp fl xs->fl=false) (hl:∀ fl y f2 zs,v = .tp fl [y,.tp f2 zs]->zs.length≤50) (hQ:∀ S',Kp S S'->Q (.bl (zfQ x v)) S'):zcX K [.ref o,v] S Q E:=by
 have F':=F
 obtain ⟨p1,p2,p3,p4⟩:=F
 have eo':=eo
 unfold zdX at eo'
 refine zaT rfl ?_
 unfold zgY
 ext
 refine zfP hv.1 ?_
 cases e:tupB v with
 | false=>
  have:zfQ x v=false:=by cases v <;> first | rfl | cases e
  rw [this] at hQ
  ext
  exact hQ _ Kp.refl
 | true=>
 obtain ⟨f,xs,rfl⟩:=zha e
 obtain rfl:=hf f xs rfl
 have hk:=hv.2 _ xs rfl
 clear e
 ext
 refine zl5 (b:=!xs.isEmpty) rfl ?_
 cases xs with
 | nil=>
  ext
  exact hQ _ Kp.refl
 | cons h r=>
 have a0:L2.atI (h :: r) (0:Int)=some h:=atI_nat (p:=0) rfl
 ext
 refine zcG (hk h (by simp)).1 ?_
 cases e:zh2 h with
 | false=>
  have:zfQ x (.tup (h :: r))=false:=by cases h <;> first | rfl | cases e
  rw [this] at hQ
  ext
  exact hQ _ Kp.refl
 | true=>
 obtain ⟨z,rfl⟩:=zd6 e
 clear e
 ext
 by_cases hw:z = "write"
 ·rw [decide_eq_true hw]
  have:zfQ x (.tup (.str z :: r))=zdB x (.tup r):=by
   show (if _ then _ else _)=_
   rw [if_pos hw]
  rw [this] at hQ
  ext
  rw [zu8]
  refine zft F' eo ⟨⟨_,rfl⟩,fun fl ys e y hy=>?_⟩ (hQ _ Kp.refl)
  injection e with _ e
  subst e
  exact (hk y (List.mem_cons_of_mem _ hy)).1
 rw [decide_eq_false hw]
 ext
 by_cases hr:r.length=1
 case neg=>
  have:zfQ x (.tup (.str z :: r))=false:=by
   show (if _ then _ else _)=_
   rw [if_neg hw]
   match r,hr with
   | [],_=>rfl
   | _ :: _ :: _,_=>rfl
  rw [this] at hQ
  rw [decide_eq_false (by rw [List.length_cons];omega)]
  ext
  exact hQ _ Kp.refl
 obtain ⟨y,rfl⟩:∃ y,r=[y]:=by
  match r,hr with
  | [y],_=>exact ⟨y,rfl⟩
 have:zfQ x (.tup [.str z,y])=zhE x z y:=by
  show (if _ then _ else _)=_
  rw [if_neg hw]
 rw [this] at hQ
 clear this
 ext
 by_cases hrd:z = "read"
 ·rw [decide_eq_true hrd]
  have:zhE x z y=zj0 x y:=by
   unfold zhE
   rw [if_pos hrd]
  rw [this] at hQ
  ext
  refine zcG (hk y (by simp)).1 ?_
  cases e:zh2 y with
  | false=>
   have:zj0 x y=false:=by cases y <;> first | rfl | cases e
   rw [this] at hQ
   ext
   exact hQ _ Kp.refl
  | true=>
  obtain ⟨c,rfl⟩:=zd6 e
  ext
  refine zlR F' P eo fun S1 fl k1=>?_
  ext
  refine zcm.inT (by decide) ?_
  exact hQ _ k1
 rw [decide_eq_false hrd]
 ext
 by_cases hb:z = "batch"
 case neg=>
  have:zhE x z y=false:=by
   unfold zhE
   rw [if_neg hrd,if_neg hb]
  rw [this] at hQ
  rw [decide_eq_false hb]
  ext
  exact hQ _ Kp.refl
 rw [decide_eq_true hb]
 have:zhE x z y=zoR x y:=by
  unfold zhE
  rw [if_neg hrd,if_pos hb]
 rw [this] at hQ
 ext
 refine zfP (hk y (by simp)).1 ?_
 cases e:tupB y with
 | false=>
  have:zoR x y=false:=by cases y <;> first | rfl | cases e
  rw [this] at hQ
  ext
  exact hQ _ Kp.refl
 | true=>
 obtain ⟨f,zs,rfl⟩:=zha e
 have hky:=hk (.tp f zs) (by simp)
 ext
 refine zl5 (b:=!zs.isEmpty) rfl ?_
 cases zs with
 | nil=>
  ext
  exact hQ _ Kp.refl
 | cons q qs=>
 ext
 exact zhW F' eo (fun z hz=>hky.2 f _ rfl z hz) (hl _ _ _ _ rfl) hQ
end
inductive zdH where
 | read (c:Str)
 | write (s u:Str)
 | batch (ws:List (Str×Str))
def zdH.d:zdH->D
 | .read c=>.tup [.str "read", .str c]
 | .write s u=>.tup [.str "write", .str s,.str u]
 | .batch ws=>.tup [.str "batch", .tup (ws.map prD)]
def zdH.ok (x:Parts):zdH->Prop
 | .read c=>c∈x.cells
 | .write s u=>s∈x.sources∧u∈x.words
 | .batch ws=>ws≠[]∧(ws.map (·.1)).Nodup∧∀ q∈ws,q.1∈x.sources∧q.2∈x.words
theorem ze0 (x:Parts):x.d = .tup [.tup (x.words.map D.str),.tp x.fl (x.sources.map D.str),.tup (x.derived.map pairD),.tup (x.effects.map pairD)]:=rfl
theorem StA.kp {ns:List Int} {a l:Addr} {S S':Sto} (h:StA ns a l S) (k:Kp S S'):StA ns a l S':=by
 obtain ⟨⟨p,b,c,s,e,r⟩,e2,ne⟩:=h
 exact ⟨⟨p,b,c,s,k _ _ e,r⟩,k _ _ e2,ne⟩
theorem zi1 {ps:List (Str×List Row)}:(ps.map fun q=>D.str q.1)=(ps.map (·.1)).map D.str:=by rw [List.map_map];rfl
theorem map_erase {l:List Str} {k:Nat}:(l.map D.str).eraseIdx k=(l.eraseIdx k).map D.str:=by
 induction l generalizing k with
 | nil=>rfl
 | cons x l ih=>
  cases k with
  | zero=>rfl
  | succ k=>
   rw [List.map_cons,List.eraseIdx_cons_succ,List.eraseIdx_cons_succ,List.map_cons,ih]
theorem erase_perm:∀ (l:List Str) (k:Nat) (h:k < l.length),(l[k] :: l.eraseIdx k).Perm l
 | x :: l,0,_=>List.Perm.refl _
 | x :: l,k+1,h=>by
  have h2:k < l.length:=by simpa using h
  rw [List.getElem_cons_succ,List.eraseIdx_cons_succ]
  exact (List.Perm.swap x l[k] (l.eraseIdx k)).trans ((erase_perm l k h2).cons x)
section
variable {K:PySem.W.Frag} {ns:List Int} {a l:Addr} {S:Sto} {x:Parts} {slots:List Str} {pk wr:Bool} {Q:DQ} {E:XQ}
theorem zh5 (h:StA ns a l S) (hQ:∀ (mode inner:Str) (cut:Bool) S',mode∈(["push", "pull", "level"]:List Str)->inner∈(["once", "later"]:List Str)->StA ns a l S'->Fr a S S'->Q (.tup [.str mode,.bl cut,.str inner]) S'):zdq K [.ref a] S Q E:=by
 refine zaT rfl ?_
 unfold zfh
 ext
 refine zb4 (szl (by simp)) fun z hz=>?_
 obtain ⟨h2,f2,za,_,_,t2⟩:=zbL (o:=.lst [.str "push", .str "pull", .str "level"]) h Fr.refl hz
 generalize DL.put S z _=S1 at h2 f2 t2 ⊢
 ext
 refine zaH h2 (by decide) (by decide +kernel) fun r S2 r0 r1 h3 f3=>?_
 have t3:=f3 _ _ za t2
 have f3:=f2.trans f3
 obtain ⟨mode,hm,em⟩:=zir (zs:=["push", "pull", "level"]) r0 (by simpa using r1)
 ext
 refine zbx t3 em ?_
 ext
 refine zaH h3 (by decide) (by decide +kernel) fun q S3 q0 q1 h4 f4=>?_
 have f4:=f3.trans f4
 ext
 refine zb4 (szl (by simp)) fun y hy=>?_
 obtain ⟨h5,f5,ya,_,_,t5⟩:=zbL (o:=.lst [.str "once", .str "later"]) h4 f4 hy
 generalize DL.put S3 y _=S4 at h5 f5 t5 ⊢
 ext
 refine zaH h5 (by decide) (by decide +kernel) fun r S5 r0 r1 h6 f6=>?_
 have t6:=f6 _ _ ya t5
 have f6:=f5.trans f6
 obtain ⟨inner,hi,ei⟩:=zir (zs:=["once", "later"]) r0 (by simpa using r1)
 ext
 refine zbx t6 ei ?_
 ext
 with_reducible refine zaE (szl (by simp)) ?_
 exact hQ mode inner _ S5 hm hi h6 f6
theorem zkQ {x y:Addr} {xs ys:List D} {S:Sto} {Q:DQ} (e1:S x=some (.lst xs)) (e2:S y=some (.lst ys)) (hl:xs.length+ys.length≤sizeLine) (h:∀ z,S z=none->Q (.ref z) (DL.put S z (.lst (xs++ys)))):zb6 (.ref x) (.ref y) S Q:=ziT e1 e2 hl h
theorem zkJ (P:zbA x slots pk wr) (h:StA ns a l S) (hQ:∀ (d:zdH) S',d.ok x->StA ns a l S'->Fr a S S'->Q d.d S'):zeq K [.ref a,x.d] S Q E:=by
 have w2:=P.w2
 have w4:=P.w4
 have s1:=P.s1
 have s4:=P.s4
 have d6:=P.d6
 have snd:x.sources.Nodup:=(List.nodup_append.mp (List.nodup_append.mp P.nn.2).1).1
 rw [ze0]
 refine zaT rfl ?_
 unfold zfo
 ext
 refine zaH h (by decide) (by decide +kernel) fun kind S1 r0 r1 h1 f1=>?_
 ext
 refine zfW rfl fun sa hsa=>?_
 obtain ⟨h2,f2,saa,_,_,t2⟩:=zbL (o:=.lst (x.sources.map D.str)) h1 f1 hsa
 generalize DL.put S1 sa _=S2 at h2 f2 t2 ⊢
 ext
 intro q hq
 obtain ⟨h3,f3,qa,_,k3,t3⟩:=zbL (o:=.lst []) h2 f2 hq
 have kq:Kp S2 (DL.put S2 q (.lst [])):=Kp.refl.new hq
 refine zrn x.derived pairD (fun z=>.str z.1) (S0:=S2) t3 hq kq (by omega) ?_ ?_
 ·intro z hz S4 k4 nx hT
  refine ⟨trivial,?_⟩
  unfold pairD
  ext
  exact hT _ Kp.refl
 intro S4 e4 k4
 refine ⟨trivial,?_⟩
 rw [zi1] at e4
 have t4:=k4 _ _ t2
 have h4:=h2.kp k4
 have f4:=f2.trans k4.fr
 clear h2 h3 f2 f3 k3 t3 kq
 ext
 refine zkQ t4 e4 (szl (by simp;omega)) fun ca hca=>?_
 rw [← List.map_append]
 obtain ⟨h5,f5,caa,_,k5,t5⟩:=zbL (o:=.lst ((x.sources++x.derived.map (·.1)).map D.str)) h4 f4 hca
 generalize DL.put S4 ca _=S5 at h5 f5 t5 ⊢
 clear h4 f4 k5 e4
 ext
 with_reducible refine zdJ (fun _=>?_) (fun _=>?_)
 ·ext
  refine zc5 h5 (by simp;omega) (by simp;omega) fun r S6 c hc ec h6 f6=>?_
  have t6:=f6 _ _ caa t5
  ext
  with_reducible refine zaE (szl (by simp)) ?_
  exact hQ (.read c) _ hc h6 (f5.trans f6)
 ext
 with_reducible refine zdJ (fun _=>?_) (fun _=>?_)
 ·ext
  refine zc5 h5 (by omega) (by omega) fun r S6 c hc ec h6 f6=>?_
  ext
  refine zc5 h6 (by omega) (by omega) fun r S7 u hu eu h7 f7=>?_
  ext
  with_reducible refine zaE (szl (by simp)) ?_
  exact hQ (.write c u) _ ⟨hc,hu⟩ h7 ((f5.trans f6).trans f7)
 ext
 refine zfW rfl fun ra hra=>?_
 obtain ⟨h6,f6,raa,ra0,_,t6⟩:=zbL (o:=.lst (x.sources.map D.str)) h5 f5 hra
 have la:=(h5.fresh hra).2
 generalize DL.put S5 ra _=S6 at h6 f6 t6 ⊢
 clear h5 f5 t5 t2 t4
 ext
 refine zb4 (szl (by simp)) fun wa hwa=>?_
 obtain ⟨h7,f7,waa,wa0,k7,t7⟩:=zbL (o:=.lst []) h6 f6 hwa
 have lb:=(h6.fresh hwa).2
 have rw_:ra≠wa:=fun z=>by rw [← z,t6] at hwa;cases hwa
 have t6':=k7 _ _ t6
 generalize DL.put S6 wa _=S7 at h7 f7 t7 t6' ⊢
 clear h6 f6 t6 k7
 ext
 refine zaH h7 (by simp;omega) (zbQ (by omega) (by simp;omega)) fun r S8 r0 r1 h8 f8=>?_
 have u6:=f8 _ _ raa t6'
 have u7:=f8 _ _ waa t7
 have f8:=f7.trans f8
 clear h7 f7 t7 t6'
 rw [List.length_map] at r1
 ext
 with_reducible refine zgH (by omega) (by omega) ?_
 ext
 refine zbf (fun i env S'=>∃ (x5 x8:Option D) (rest:List Str) (ws:List (Str×Str)),env=[some (.ref a),some (.tup [.tup (x.words.map D.str),.tp x.fl (x.sources.map D.str),.tup (x.derived.map pairD),.tup (x.effects.map pairD)]),some (.int kind),some (.ref ca),none,x5,some (.ref ra),some (.ref wa),x8]∧StA ns a l S'∧Fr a S S'∧S' ra=some (.lst (rest.map D.str))∧S' wa=some (.lst (ws.map prD))∧ws.length=i∧rest.length+i=x.sources.length∧(ws.map (·.1)++rest).Nodup∧(∀ q∈ws,q.1∈x.sources∧q.2∈x.words)∧∀ z∈rest,z∈x.sources) _ 0 ⟨_,_,x.sources,[],rfl,h8,f8,u6,u7,rfl,rfl,by simpa using snd,fun _ h=>(nomatch h),fun _ h=>h⟩ ?_ ?_
 ·clear h8 f8 u6 u7
  rintro i y _ S9 hy ⟨x5,x8,rest,ws,rfl,h9,f9,u6,u7,wl,rl,nd,hws,hrest⟩ nx hnx
  rw [Nat.zero_add] at hnx
  obtain ⟨rfl,hi⟩:=zfv hy
  have hr:0 < rest.length:=by omega
  have hr4:rest.length≤4:=by omega
  refine ⟨trivial,?_⟩
  ext
  refine zaH h9 (by simp;omega) (zbQ (by omega) (by simp;omega)) fun k S10 k0 k1 h10 f10=>?_
  rw [List.length_map] at k1
  obtain ⟨k,rfl⟩:=Int.eq_ofNat_of_zero_le k0
  have hk:k < rest.length:=by omega
  have u6:=f10 _ _ raa u6
  have u7:=f10 _ _ waa u7
  have f10:=f9.trans f10
  clear h9 f9
  ext
  have hz:(rest.map D.str)[k]? = some (.str (rest[k]'hk)):=by rw [List.getElem?_map,List.getElem?_eq_getElem hk];rfl
  refine zpo u6 (by rw [List.length_map];omega) hz ?_
  obtain ⟨h11,f11,o11,t11⟩:=ziv (o':=.lst []) (o:=.lst ((rest.map D.str).eraseIdx k)) h10 f10 raa la ra0
  have u7:=o11 _ _ rw_.symm u7
  rw [map_erase] at t11 h11 f11 u7 ⊢
  generalize DL.put S10 ra (.lst ((rest.eraseIdx k).map D.str))=S11 at h11 f11 t11 u7 ⊢
  clear h10 f10 u6 o11
  ext
  refine zc5 h11 (by omega) (by omega) fun q S12 u hu eu h12 f12=>?_
  have u6:=f12 _ _ raa t11
  have u7:=f12 _ _ waa u7
  have f12:=f11.trans f12
  clear h11 f11 t11
  ext
  with_reducible refine zaE (szl (by simp)) ?_
  ext
  with_reducible refine s_app u7 (zfr (by rw [List.length_map];omega)) ?_
  obtain ⟨h13,f13,o13,t13⟩:=ziv (o':=.lst []) (o:=.lst (ws.map prD++[D.tup [.str (rest[k]'hk),.str u]])) h12 f12 waa lb wa0
  have pm:=erase_perm rest k hk
  refine hnx _ _ ⟨_,_,rest.eraseIdx k,ws++[(rest[k]'hk,u)],rfl,h13,f13,o13 _ _ rw_ u6,by rw [t13,List.map_append];rfl,by simp [wl],by rw [List.length_eraseIdx_of_lt hk];omega,?_,fun q hq=>?_,fun z hz=>hrest z (List.mem_of_mem_eraseIdx hz)⟩
  ·rw [List.map_append,List.append_assoc]
   exact (List.Perm.append_left (ws.map (·.1)) pm).nodup_iff.mpr nd
  ·rcases List.mem_append.mp hq with hq | hq
   ·exact hws q hq
   ·cases List.mem_singleton.mp hq
    exact ⟨hrest _ (List.getElem_mem hk),hu⟩
 ·clear h8 f8 u6 u7
  rintro _ S9 ⟨x5,x8,rest,ws,rfl,h9,f9,u6,u7,wl,rl,nd,hws,hrest⟩
  refine ⟨trivial,?_⟩
  ext
  with_reducible refine zaE (szl (by simp)) ?_
  refine hQ (.batch ws) _ ⟨fun e=>?_,(List.nodup_append.mp nd).1,hws⟩ h9 f9
  rw [e,ze5] at wl
  have wl:0=0+(1+r).toNat:=wl
  omega
end
section
variable {K:PySem.W.Frag} {o:Addr} {S S':Sto} {x:Parts} {Q:DQ} {E:XQ} {slots:List Str} {pk wr:Bool} {v z:D} {xs zs:List D} {seen:List Str} {s w:Str} {fl f:Bool}
theorem zim (P:zbA x slots pk wr) (hv:KdW S v) (hf:∀ fl xs,v = .tp fl xs->fl=false) (hl:∀ fl y f2 zs,v = .tp fl [y,.tp f2 zs]->zs.length≤50) (hQ:∀ S',Kp S S'->Q (.bl (zfQ x v)) S'):zep K [x.d,v] S Q E:=by
 have d6:=P.d6
 have s4:=P.s4
 rw [ze0]
 refine zaT rfl ?_
 unfold zfm
 ext
 refine zfP hv.1 ?_
 cases e:tupB v with
 | false=>
  have:zfQ x v=false:=by cases v <;> first | rfl | cases e
  rw [this] at hQ
  ext
  exact hQ _ Kp.refl
 | true=>
 obtain ⟨f,xs,rfl⟩:=zha e
 obtain rfl:=hf f xs rfl
 have hk:=hv.2 _ xs rfl
 clear e
 cases xs with
 | nil=>
  ext
  exact hQ _ Kp.refl
 | cons h r=>
 have a0:L2.atI (h :: r) (0:Int)=some h:=atI_nat (p:=0) rfl
 ext
 refine zcG (hk h (by simp)).1 ?_
 cases e:zh2 h with
 | false=>
  have:zfQ x (.tup (h :: r))=false:=by cases h <;> first | rfl | cases e
  rw [this] at hQ
  ext
  exact hQ _ Kp.refl
 | true=>
 obtain ⟨z,rfl⟩:=zd6 e
 clear e
 ext
 by_cases hw:z = "write"
 ·rw [decide_eq_true hw]
  have:zfQ x (.tup (.str z :: r))=zdB x (.tup r):=by
   show (if _ then _ else _)=_
   rw [if_pos hw]
  rw [this] at hQ
  ext
  rw [zu8]
  rw [← ze0]
  refine zf9 (fl:=true) ⟨⟨_,rfl⟩,fun fl ys e y hy=>?_⟩ (hQ _ Kp.refl)
  injection e with _ e
  subst e
  exact (hk y (List.mem_cons_of_mem _ hy)).1
 rw [decide_eq_false hw]
 ext
 by_cases hr:r.length=1
 case neg=>
  have:zfQ x (.tup (.str z :: r))=false:=by
   show (if _ then _ else _)=_
   rw [if_neg hw]
   match r,hr with
   | [],_=>rfl
   | _ :: _ :: _,_=>rfl
  rw [this] at hQ
  rw [decide_eq_false (by rw [List.length_cons];omega)]
  ext
  exact hQ _ Kp.refl
 obtain ⟨y,rfl⟩:∃ y,r=[y]:=by
  match r,hr with
  | [y],_=>exact ⟨y,rfl⟩
 have:zfQ x (.tup [.str z,y])=zhE x z y:=by
  show (if _ then _ else _)=_
  rw [if_neg hw]
 rw [this] at hQ
 clear this
 ext
 by_cases hrd:z = "read"
 ·rw [decide_eq_true hrd]
  have:zhE x z y=zj0 x y:=by
   unfold zhE
   rw [if_pos hrd]
  rw [this] at hQ
  ext
  refine zfW rfl fun sa hsa=>?_
  have k1:=Kp.refl.new (o:=.lst (x.sources.map D.str)) hsa
  have t1:DL.put S sa (.lst (x.sources.map D.str)) sa=some (.lst (x.sources.map D.str)):=zai
  generalize DL.put S sa _=S1 at k1 t1 ⊢
  ext
  intro q hq
  refine zrn x.derived pairD (fun z=>.str z.1) (S0:=S1) zai hq (Kp.refl.new hq) (by omega) ?_ ?_
  ·intro z hz S4 k4 nx hT
   refine ⟨trivial,?_⟩
   unfold pairD
   ext
   exact hT _ Kp.refl
  intro S4 e4 k4
  refine ⟨trivial,?_⟩
  rw [zi1] at e4
  have t4:=k4 _ _ t1
  have k4:=k1.trans k4
  ext
  refine zkQ t4 e4 (szl (by simp;omega)) fun ca hca=>?_
  rw [← List.map_append]
  have k5:=k4.new (o:=.lst ((x.sources++x.derived.map (·.1)).map D.str)) hca
  have t5:DL.put S4 ca (.lst ((x.sources++x.derived.map (·.1)).map D.str)) ca=some (.lst ((x.sources++x.derived.map (·.1)).map D.str)):=zai
  generalize DL.put S4 ca _=S5 at k5 t5 ⊢
  ext
  refine zcG ((hk y (by simp)).1.kp k5) ?_
  cases e:zh2 y with
  | false=>
   have:zj0 x y=false:=by cases y <;> first | rfl | cases e
   rw [this] at hQ
   ext
   exact hQ _ k5
  | true=>
  obtain ⟨c,rfl⟩:=zd6 e
  ext
  refine zcm.inL (u:=fun b=>b) (by decide) t5 ?_
  exact hQ _ k5
 rw [decide_eq_false hrd]
 ext
 by_cases hb:z = "batch"
 case neg=>
  have:zhE x z y=false:=by
   unfold zhE
   rw [if_neg hrd,if_neg hb]
  rw [this] at hQ
  rw [decide_eq_false hb]
  ext
  exact hQ _ Kp.refl
 rw [decide_eq_true hb]
 have:zhE x z y=zoR x y:=by
  unfold zhE
  rw [if_neg hrd,if_pos hb]
 rw [this] at hQ
 ext
 refine zfP (hk y (by simp)).1 ?_
 cases e:tupB y with
 | false=>
  have:zoR x y=false:=by cases y <;> first | rfl | cases e
  rw [this] at hQ
  ext
  exact hQ _ Kp.refl
 | true=>
 obtain ⟨f,zs,rfl⟩:=zha e
 have hky:=hk (.tp f zs) (by simp)
 cases zs with
 | nil=>
  ext
  exact hQ _ Kp.refl
 | cons q0 qs=>
 have hzl:=hl _ _ _ _ rfl
 have hbat:zoR x (.tp f (q0 :: qs))=zc1 x (q0 :: qs) []:=rfl
 rw [hbat] at hQ
 ext
 generalize q0 :: qs=zs at hky hzl hQ ⊢
 have hz:=fun z hz=>hky.2 f zs rfl z hz
 with_reducible refine zb4 (szl (by simp)) fun b hb=>?_
 ext
 refine zbf (fun i env S'=>∃ (x3:Option D) (seen:List Str),env=[some (.tup [.tup (x.words.map D.str),.tp x.fl (x.sources.map D.str),.tup (x.derived.map pairD),.tup (x.effects.map pairD)]),some (.tup [.str z,.tp f zs]),none,x3,some (.ref b)]∧S' b=some (.lst (seen.map D.str))∧seen.length≤i∧zc1 x zs []=zc1 x (zs.drop i) seen∧Kp S S') _ 0 ⟨_,[],rfl,zai,Nat.le_refl _,rfl,Kp.refl.new hb⟩ ?_ ?_
 ·rintro i y _ S2 hy ⟨x3,seen,rfl,eb,hsl,hnb,hkk⟩ nx hnx
  rw [Nat.zero_add] at hsl hnb hnx
  have hi:=(List.getElem?_eq_some_iff.mp hy).1
  rw [drop_at hy] at hnb
  refine ⟨trivial,?_⟩
  ext
  rw [← ze0]
  refine zf9 (fl:=true) ((hz y (List.mem_of_getElem? hy)).kp hkk) ?_
  rw [ze0]
  cases e:zdB x y with
  | false=>
   ext
   rw [zqZ e] at hnb
   have:=hQ _ hkk
   rw [hnb] at this
   exact this
  | true=>
  obtain ⟨f2,s,w,rfl,h1,h2⟩:=zj7 e
  ext
  refine zcm.inL (u:=fun b=>b) (by decide) eb ?_
  by_cases hs:s∈seen
  ·rw [decide_eq_true hs]
   ext
   rw [zkf hs] at hnb
   have:=hQ _ hkk
   rw [hnb] at this
   exact this
  ·rw [decide_eq_false hs]
   rw [znL h1 h2 hs] at hnb
   ext
   with_reducible refine s_app eb (zfr (by rw [List.length_map];omega)) ?_
   ext
   exact hnx _ _ ⟨_,seen++[s],rfl,by rw [zai,List.map_append];rfl,by rw [List.length_append,List.length_singleton];omega,hnb,hkk.wr hb⟩
 ·rintro _ S2 ⟨x3,seen,rfl,eb,hsl,hnb,hkk⟩
  refine ⟨trivial,?_⟩
  rw [Nat.zero_add,List.drop_length] at hnb
  ext
  have:=hQ _ hkk
  rw [hnb] at this
  exact this
end
theorem zgz {α β:Type} {f:α->List β} {k:Nat} (h:∀ a,(f a).length=k):∀ xs:List α,(xs.flatMap f).length=xs.length * k
 | []=>by simp
 | x :: xs=>by rw [List.flatMap_cons,List.length_append,zgz h xs,h,List.length_cons,Nat.succ_mul,Nat.add_comm]
theorem zpg {env:Slo} {S:Sto} {TQ:Bool->Sto->Prop} (h:TQ true S):zgL env S TQ:=h
theorem zne {g:GM} {t:TM} {mi1:IM} {g1:GM} {t1:TM} {m:EM} {vs vs1:List Nat} {env:Slo} {Q:DQ} {xs:List D} {G:Sto->Prop} {S1:Sto} (h:∀ p,S1 p=none->lcO g t mi1 g1 t1 m vs1 G p Q (zbM env vs) xs (DL.put S1 p (.lst []))):zur g t mi1 g1 t1 m vs vs1 env Q xs G S1:=h
theorem zfR {α:Type} {g:GM} {m:SM} {G:Sto->Prop} {A:DL.Fin} {q:Addr} (En:Slo->Prop) (f:α->D) (r:α->List D) {S0:Sto}:∀ (xs:List α) {env:Slo} {S:Sto} {acc:List D},S q=some (.lst acc)->Fr q S0 S->En env ->
  (∀ a∈xs,∀ env S1 acc1,En env->S1 q=some (.lst acc1)->acc1.length+(r a).length≤acc.length+(xs.flatMap r).length->Fr q S0 S1->∀ nx:Slo->Sto->Prop,(∀ env' S',En env'->S' q=some (.lst (acc1++r a))->Fr q S0 S'->nx env' S')->G S1∧g (f a) env S1 fun env2 S2=>m { A with nx:=nx,ct:=nx,bk:=A.nx } env2 S2) ->
  (∀ env' S',En env'->S' q=some (.lst (acc++xs.flatMap r))->Fr q S0 S'->G S'∧A.nx env' S')->forL g m G A (xs.map f) env S
 | [],env,S,acc,e,fr,hE,_,done=>done env S hE (by simpa using e) fr
 | x :: xs,env,S,acc,e,fr,hE,step,done=>by
  refine step x List.mem_cons_self env S acc hE e (by rw [List.flatMap_cons,List.length_append];omega) fr (forL g m G A (xs.map f)) fun env' S' hE' e' fr'=>?_
  refine zfR En f r xs e' fr' hE' (fun a ha env S1 acc1 hE1 e1 hl fr1 nx hnx=>step a (List.mem_cons_of_mem _ ha) env S1 acc1 hE1 e1 ?_ fr1 nx hnx) fun env' S' hE' e' fr'=>done env' S' hE' (by rw [e',List.flatMap_cons,List.append_assoc]) fr'
  rw [List.length_append] at hl
  rw [List.flatMap_cons,List.length_append]
  omega
def prT (q:Str×Str):D:=.tup [.str q.1,.str q.2]
def Parts.wrs (x:Parts):List (Str×Str):=x.sources.flatMap fun s=>x.words.map fun w=>(s,w)
def Parts.bts (x:Parts) (a:Str×Str):List zdH:=(x.wrs.filter fun c=>decide (x.sources.idxOf a.1 < x.sources.idxOf c.1)).map fun c=>.batch [a,c]
def Parts.moves (x:Parts) (b:Bool):List zdH:=(x.wrs.map fun q=>zdH.write q.1 q.2)++((if b then x.wrs.flatMap x.bts else [])++x.derived.map fun q=>zdH.read q.1)
section
variable {K:PySem.W.Frag} {S:Sto} {o:Addr} {x:Parts} {slots:List Str} {pk wr:Bool} {Q:DQ} {E:XQ}
theorem ze1 {q:Str×Str}:q∈x.wrs ↔ q.1∈x.sources∧q.2∈x.words:=by
 unfold Parts.wrs
 rw [List.mem_flatMap]
 constructor
 ·rintro ⟨s,hs,h⟩
  obtain ⟨w,hw,rfl⟩:=List.mem_map.mp h
  exact ⟨hs,hw⟩
 ·rintro ⟨h1,h2⟩
  exact ⟨q.1,h1,List.mem_map.mpr ⟨q.2,h2,rfl⟩⟩
theorem zgC (P:zbA x slots pk wr):x.wrs.length≤16:=by
 unfold Parts.wrs
 rw [zgz (k:=x.words.length) (fun a=>by simp)]
 exact Nat.le_trans (Nat.mul_le_mul P.s4 P.w4) (by decide)
theorem zhs (P:zbA x slots pk wr) {s:Str} (h:s∈x.sources):x.sources[x.sources.idxOf s]? = some s∧∀ m,m < x.sources.idxOf s->x.sources[m]?≠some s:=by
 have hlt:=List.idxOf_lt_length_iff.mpr h
 refine ⟨by rw [List.getElem?_eq_getElem hlt,List.getElem_idxOf hlt],fun m hm e=>?_⟩
 obtain ⟨h1,h2⟩:=List.getElem?_eq_some_iff.mp e
 have hn:x.sources.Nodup:=(Nms.left (Nms.left P.nn)).2
 have:=hn.idxOf_getElem m h1
 rw [h2] at this
 omega
theorem zrX (a:Str×Str):(x.bts a).length≤x.wrs.length:=by
 unfold Parts.bts
 rw [List.length_map]
 exact List.length_filter_le _ _
theorem zrS {α β:Type} {f:α->List β} {k:Nat} (h:∀ a,(f a).length≤k):∀ xs:List α,(xs.flatMap f).length≤xs.length * k
 | []=>by simp
 | x :: xs=>by
  rw [List.flatMap_cons,List.length_append,List.length_cons,Nat.succ_mul]
  have:=h x
  have:=zrS h xs
  omega
theorem zgA (a:Str×Str):(x.wrs.flatMap fun c=>if decide (x.sources.idxOf a.1 < x.sources.idxOf c.1) then [zdH.d (.batch [a,c])] else [])=(x.bts a).map zdH.d:=by
 unfold Parts.bts
 rw [List.map_map]
 induction x.wrs with
 | nil=>rfl
 | cons c l ih=>
  rw [List.flatMap_cons,ih,List.filter_cons]
  split <;> rfl
theorem ziJ (P:zbA x slots pk wr):(x.wrs.flatMap x.bts).length≤256:=
 Nat.le_trans (zrS (k:=16) (fun a=>Nat.le_trans (zrX a) (zgC P)) x.wrs) (Nat.le_trans (Nat.mul_le_mul_right 16 (zgC P)) (by decide))
theorem zu5 {α β:Type} (f:α->β) (xs:List α):(xs.flatMap fun a=>[f a])=xs.map f:=by
 induction xs with
 | nil=>rfl
 | cons x xs ih=>rw [List.flatMap_cons,ih];rfl
theorem zjd {α β γ:Type} {r:β->γ} (xs:List α) (g:α->List β):(xs.flatMap g).map r=xs.flatMap fun a=>(g a).map r:=by
 induction xs with
 | nil=>rfl
 | cons x xs ih=>rw [List.flatMap_cons,List.flatMap_cons,List.map_append,ih]
theorem zkB {p o:Addr} {N:Sto->Prop} {bb:D} {s:Str}:∀ (ws:List Str) {S:Sto} {acc:List D},S p=some (.lst acc)->acc.length+ws.length≤1000 ->
  (∀ S',S' p=some (.lst (acc++ws.map fun w=>prT (s,w)))->(∀ b,b≠p->S' b=S b)->N S') ->
  lcI (gNm 4) zgL (zbu (zac (zah 3) (zac (zah 4) zan))) (fun _=>True) p N [some (.ref o),some bb,none,some (.str s),none,none,none,none,none] (ws.map D.str) S
 | [],S,acc,e,hl,hN=>⟨trivial,hN S (by simpa using e) fun _ _=>rfl⟩
 | w :: ws,S,acc,e,hl,hN=>by
  refine ⟨trivial,?_⟩
  refine zeg ?_
  refine zpg ?_
  dsimp only [List.set_cons_succ,List.set_cons_zero]
  ext
  refine zaE (szl (by simp)) ?_
  simp only [e]
  refine ⟨zfr (by simp at hl;omega),?_⟩
  have hl':acc.length+(ws.length+1)≤1000:=by simpa using hl
  exact zkB (p:=p) (N:=N) (o:=o) (bb:=bb) ws (S:=DL.put S p (.lst (acc++[prT (s,w)]))) zai (by simp;omega) fun S' e' h'=>hN S' (by rw [e'];simp) fun b hb=>(h' b hb).trans (zaz hb)
theorem zkb {p o:Addr} {bb:D} {G:Sto->Prop} {S0:Sto} {fs:List (Str×D)} (fw:FOk K (He.ga K "Program") "words") (eo:S0 o=some (.ins (He.ga K "Program") fs)) (ef:fs.lookup ("words" : Str)=some (D.tup (x.words.map D.str))) (po:o≠p) :
  ∀ (ss:List Str) {S:Sto} {acc:List D},S p=some (.lst acc)->acc.length+ss.length * x.words.length≤1000->(∀ b,b≠p->S b=S0 b)->(∀ S',(∀ b,b≠p->S' b=S0 b)->G S') ->
  (∀ S',S' p=some (.lst (acc++(ss.flatMap fun s=>x.words.map fun w=>(s,w)).map prT))->(∀ b,b≠p->S' b=S0 b)->Q (.ref p) S') ->
  lcO (gNm 3) zgL (zek (zfa K (zah 0) "words")) (gNm 4) zgL (zbu (zac (zah 3) (zac (zah 4) zan))) [4] G p Q [some (.ref o),some bb,none,none,none,none,none,none,none] (ss.map D.str) S
 | [],S,acc,e,_,k,hG,hQ=>⟨hG S k,hQ S (by simpa using e) k⟩
 | s :: ss,S,acc,e,hl,k,hG,hQ=>by
  refine ⟨hG S k,?_⟩
  refine zeg ?_
  refine zpg ?_
  dsimp only [List.set_cons_succ,List.set_cons_zero]
  have eo':S o=some (.ins (He.ga K "Program") fs):=(k o po).trans eo
  ext
  rw [List.length_cons,Nat.succ_mul] at hl
  refine zkB x.words e (by omega) fun S1 e1 k1=>?_
  refine zkb fw eo ef po ss e1 (by simp;omega) (fun b hb=>(k1 b hb).trans (k b hb)) hG fun S2 e2 k2=>hQ S2 ?_ k2
  rw [e2,List.flatMap_cons]
  simp
theorem zjj (F:FPr K) (P:zbA x slots pk wr) (hf:x.fl=true) (eo:S o=some (zdX K x)) {b:Bool} (hQ:∀ q S',S q=none->S' q=some (.lst ((x.moves b).map zdH.d))->Kp S S'->Q (.ref q) S'):zdR K [.ref o,.bl b] S Q E:=by
 obtain ⟨f1,f2,f3,f4⟩:=id F
 have s4:=P.s4
 have w4:=P.w4
 have d6:=P.d6
 have lw:=zgC P
 have lb:=ziJ P
 have eo0:=eo
 unfold zdX at eo
 refine zaT rfl ?_
 unfold zhV
 ext
 refine zne fun wl hwl=>?_
 have ow:o≠wl:=fun z=>by subst z;rw [eo] at hwl;cases hwl
 have k1:Kp S (DL.put S wl (.lst [])):=Kp.refl.new hwl
 refine zkb (S0:=S) (bb:=.bl b) f1 eo rfl ow x.sources zai (by
  have:=Nat.mul_le_mul s4 w4
  simp
  omega) (fun c hc=>zaz hc) (fun _ _=>trivial) fun S1 e1 k1=>?_
 have e1:S1 wl=some (.lst (x.wrs.map prT)):=e1
 have kp1:Kp S S1:=fun c ob ec=>(k1 c fun z=>by rw [z,hwl] at ec;cases ec).trans ec
 clear k1
 have eo1:=kp1 _ _ eo
 ext
 intro q hq
 refine zrn x.wrs prT (fun z=>zdH.d (.write z.1 z.2)) (S0:=S1) zai hq (Kp.refl.new hq) (by omega) ?_ ?_
 ·intro a ha S2 k2 nx hT
  refine ⟨k2 _ _ e1,?_⟩
  unfold prT
  ext
  refine zaE (szl (by simp)) ?_
  exact hT _ Kp.refl
 intro S2 e2 k2
 refine ⟨k2 _ _ e1,?_⟩
 have wq:wl≠q:=fun z=>by rw [← z,e1] at hq;cases hq
 have oq:o≠q:=fun z=>by rw [← z,eo1] at hq;cases hq
 have e1:=k2 _ _ e1
 have eo2:=k2 _ _ eo1
 have kq:Kp S S2:=kp1.trans k2
 have hqS:S q=none:=kp1.none_ hq
 have e2:S2 q=some (.lst (x.wrs.map fun z=>zdH.d (.write z.1 z.2))):=e2
 walk_at "dmn"
 with_reducible refine zgI (fun env S4=>∃ x6 x7,env=[some (.ref o),some (.bl b),some (.ref wl),none,none,some (.ref q),x6,x7,none]∧S4 q=some (.lst ((x.wrs.map fun z=>zdH.d (.write z.1 z.2))++(if b then x.wrs.flatMap x.bts else []).map zdH.d))∧Fr q S2 S4) ?_ ?_
 ·rintro _ S4 ⟨x6,x7,rfl,e4,f4⟩
  have eo4:=f4 _ _ oq eo2
  have eo4':S4 o=some (zdX K x):=eo4
  ext
  refine zrT F P eo4' fun S5 k5=>?_
  have e5:=k5 _ _ e4
  rw [List.map_map]
  ext
  refine zfR (q:=q) (S0:=S5) (fun env=>∃ x8,env=[some (.ref o),some (.bl b),some (.ref wl),none,none,some (.ref q),x6,x7,x8]) (fun z:Str×List Row=>D.str z.1) (fun z=>[zdH.d (.read z.1)]) x.derived e5 Fr.refl ⟨_,rfl⟩ ?_ ?_
  ·rintro a ha _ S6 acc ⟨x8,rfl⟩ e6 hl f6 nx hnx
   refine ⟨trivial,?_⟩
   ext
   refine zaE (szl (by simp)) ?_
   ext
   refine s_app e6 (zfr ?_) ?_
   ·have hfl:(x.derived.flatMap fun z:Str×List Row=>[zdH.d (.read z.1)]).length=x.derived.length:=by rw [zgz (k:=1) (fun _=>rfl)];omega
    have hlen:((x.wrs.map fun z=>zdH.d (.write z.1 z.2))++(if b then x.wrs.flatMap x.bts else []).map zdH.d).length≤272:=by
     rw [List.length_append,List.length_map,List.length_map]
     cases b
     ·simp;omega
     ·simp only [if_true];omega
    rw [hfl] at hl
    simp only [List.length_singleton] at hl
    omega
   ext
   exact hnx _ _ ⟨_,rfl⟩ zai (fun c ob hc ec=>(zaz hc).trans (f6 _ _ hc ec))
  ·rintro _ S6 ⟨x8,rfl⟩ e6 f6
   refine ⟨trivial,?_⟩
   ext
   refine hQ q S6 hqS ?_ ?_
   ·rw [e6]
    unfold Parts.moves
    rw [List.map_append,List.map_append,List.map_map,List.append_assoc]
    congr 3
    rw [List.map_map,zu5 (fun z:Str×List Row=>zdH.d (.read z.1))]
    rfl
   ·intro c ob ec
    have hc:c≠q:=fun z=>by rw [z,hqS] at ec;cases ec
    exact f6 _ _ hc (k5 _ _ (f4 _ _ hc (kq _ _ ec)))
 ·intro nx hnx
  ext
  refine zef (fun hb=>?_) (fun hb=>?_)
  ·subst hb
   ext
   refine zfR (q:=q) (S0:=S2) (fun env=>∃ x6 x7,env=[some (.ref o),some (.bl true),some (.ref wl),none,none,some (.ref q),x6,x7,none]) prT (fun a=>(x.bts a).map zdH.d) x.wrs e2 Fr.refl ⟨_,_,rfl⟩ ?_ ?_
   ·rintro a ha _ S6 acc ⟨x6,x7,rfl⟩ e6 hl f6 nx2 hnx2
    have e16:=f6 _ _ wq e1
    refine ⟨e16,?_⟩
    ext
    rw [show x.wrs.map prT=x.wrs.map prT from rfl]
    rw [← zjd (r:=zdH.d)] at hl
    simp only [List.length_map] at hl
    refine zfR (q:=q) (S0:=S2) (fun env=>∃ x7,env=[some (.ref o),some (.bl true),some (.ref wl),none,none,some (.ref q),some (prT a),x7,none]) prT (fun c=>if decide (x.sources.idxOf a.1 < x.sources.idxOf c.1) then [zdH.d (.batch [a,c])] else []) x.wrs e6 f6 ⟨_,rfl⟩ ?_ ?_
    ·rintro c hc _ S7 acc2 ⟨x7,rfl⟩ e7 hl7 f7 nx3 hnx3
     refine ⟨f7 _ _ wq e1,?_⟩
     have eo7:=f7 _ _ oq eo2
     obtain ⟨a1,a2⟩:=zhs P (ze1.mp ha).1
     obtain ⟨c1,c2⟩:=zhs P (ze1.mp hc).1
     rw [hf] at eo7
     unfold prT
     ext
     refine ⟨rfl,?_⟩
     ext
     refine zqs a1 a2 ?_
     ext
     refine ⟨rfl,?_⟩
     ext
     refine zqs c1 c2 ?_
     ext
     refine zdJ (fun hlt=>?_) (fun hge=>?_)
     ·have e:decide (x.sources.idxOf a.1 < x.sources.idxOf c.1)=true:=decide_eq_true (by omega)
      rw [e] at hl7
      simp only [if_true] at hl7
      ext
      refine zaE (szl (by simp)) ?_
      ext
      refine zaE (szl (by simp)) ?_
      ext
      refine s_app e7 (zfr ?_) ?_
      ·rw [zgA a,List.length_map] at hl7
       simp only [List.length_singleton] at hl7
       omega
      ext
      refine hnx3 _ _ ⟨_,rfl⟩ ?_ (fun z ob hz ez=>(zaz hz).trans (f7 _ _ hz ez))
      rw [zai,e]
      rfl
     ·have e:decide (x.sources.idxOf a.1 < x.sources.idxOf c.1)=false:=decide_eq_false (by omega)
      ext
      refine hnx3 _ _ ⟨_,rfl⟩ ?_ f7
      rw [e7,e]
      simp
    ·rintro _ S7 ⟨x7,rfl⟩ e7 f7
     refine ⟨f7 _ _ wq e1,?_⟩
     refine hnx2 _ _ ⟨_,_,rfl⟩ ?_ f7
     rw [e7,zgA a]
   ·rintro _ S6 ⟨x6,x7,rfl⟩ e6 f6
    refine ⟨f6 _ _ wq e1,?_⟩
    exact hnx _ _ ⟨_,_,rfl,by rw [e6];simp only [if_true,zjd],f6⟩
  ·subst hb
   ext
   exact hnx _ _ ⟨_,_,rfl,by rw [e2];simp,Fr.refl⟩
end
def prK (x:Parts) (q:Str×Str):D:=.tup [.int (x.sources.idxOf q.1:Nat),.str q.2]
def wrD (q:Str×Str):D:=zdH.d (.write q.1 q.2)
section
variable {K:PySem.W.Frag} {S:Sto} {o:Addr} {x:Parts} {slots:List Str} {pk wr:Bool} {Q:DQ} {E:XQ}
theorem zrI (P:zbA x slots pk wr) {i:Nat} {s:Str} (h:x.sources[i]? = some s):x.sources.idxOf s=i:=by
 have nd:x.sources.Nodup:=(List.nodup_append.mp (List.nodup_append.mp P.nn.2).1).1
 obtain ⟨hi,rfl⟩:=List.getElem?_eq_some_iff.mp h
 exact nd.idxOf_getElem i hi
theorem zd0 (P:zbA x slots pk wr) {b:Bool} (hQ:∀ q S',S q=none->S' q=some (.lst ((x.moves b).map zdH.d))->Kp S S'->Q (.ref q) S'):zbP K [x.d,.bl b] S Q E:=by
 have s4:=P.s4
 have w4:=P.w4
 have d6:=P.d6
 have lw:=zgC P
 have lb:=ziJ P
 rw [ze0]
 refine zaT rfl ?_
 unfold zd2
 ext
 with_reducible refine zb4 (szl (by simp)) fun f hf=>?_
 have k1:Kp S (DL.put S f (.lst [])):=Kp.refl.new hf
 ext
 with_reducible refine zb4 (szl (by simp)) fun w hw=>?_
 have k2:=k1.new (o:=.lst []) hw
 have fw:f≠w:=fun q=>by rw [← q,zai] at hw;cases hw
 have hwS:S w=none:=k1.none_ hw
 have ef:DL.put (DL.put S f (.lst [])) w (.lst []) f=some (.lst []):=(zaz fw).trans zai
 have ew:DL.put (DL.put S f (.lst [])) w (.lst []) w=some (.lst []):=zai
 generalize DL.put (DL.put S f (.lst [])) w (.lst [])=S2 at k2 ef ew ⊢
 clear hw k1
 walk_at "dmn"
 with_reducible refine zgI (fun env S4=>∃ x4 x5,env=[some (.tup [.tup (x.words.map D.str),.tp x.fl (x.sources.map D.str),.tup (x.derived.map pairD),.tup (x.effects.map pairD)]),some (.bl b),some (.ref f),some (.ref w),x4,x5,none,none,none]∧S4 f=some (.lst (x.wrs.map wrD))∧S4 w=some (.lst (x.wrs.map (prK x)))∧Kp S S4) ?_ ?_
 ·rintro _ S4 ⟨x4,x5,rfl,e4,w4',k4⟩
  walk_at "dmn"
  with_reducible refine zgI (fun env S5=>∃ x4 x5 x6 x7 x8,env=[some (.tup [.tup (x.words.map D.str),.tp x.fl (x.sources.map D.str),.tup (x.derived.map pairD),.tup (x.effects.map pairD)]),some (.bl b),some (.ref f),some (.ref w),x4,x5,x6,x7,x8]∧S5 f=some (.lst (x.wrs.map wrD++(if b then x.wrs.flatMap x.bts else []).map zdH.d))∧Fr f S4 S5) ?_ ?_
  ·rintro _ S5 ⟨x4,x5,x6,x7,x8,rfl,e5,f5⟩
   have k5:Kp S S5:=fun c ob ec=>f5 _ _ (fun z=>by rw [z,hf] at ec;cases ec) (k4 _ _ ec)
   ext
   intro q hq
   refine zrn x.derived pairD (fun z=>zdH.d (.read z.1)) (S0:=S5) zai hq (Kp.refl.new hq) (by omega) ?_ ?_
   ·intro z hz S6 k6 nx hT
    refine ⟨trivial,?_⟩
    unfold pairD
    ext
    with_reducible refine zaE (szl (by simp)) ?_
    exact hT _ Kp.refl
   intro S6 e6 k6
   refine ⟨trivial,?_⟩
   ext
   refine ziT (k6 _ _ e5) e6 (szl ?_) fun r hr=>?_
   ·simp only [List.length_append,List.length_map]
    cases b
    ·simp;omega
    ·simp only [if_true];omega
   have kk:=k5.trans k6
   refine hQ r _ (kk.none_ hr) ?_ (kk.new hr)
   rw [zai]
   unfold Parts.moves
   rw [List.map_append,List.map_append,List.map_map,List.map_map,List.append_assoc]
   rfl
  ·intro nx hnx
   ext
   refine zef (fun hb=>?_) (fun hb=>?_)
   ·subst hb
    ext
    refine zfR (q:=f) (S0:=S4) (fun env=>∃ x6 x7 x8,env=[some (.tup [.tup (x.words.map D.str),.tp x.fl (x.sources.map D.str),.tup (x.derived.map pairD),.tup (x.effects.map pairD)]),some (.bl true),some (.ref f),some (.ref w),x4,x5,x6,x7,x8]) (prK x) (fun a=>(x.bts a).map zdH.d) x.wrs e4 Fr.refl ⟨_,_,_,rfl⟩ ?_ ?_
    ·rintro a ha _ S6 acc ⟨x6,x7,x8,rfl⟩ e6 hl f6 nx2 hnx2
     have e16:=f6 _ _ fw.symm w4'
     refine ⟨e16,?_⟩
     ext
     rw [← zjd (r:=zdH.d)] at hl
     simp only [List.length_map] at hl
     refine zfR (q:=f) (S0:=S4) (fun env=>∃ x7 x8,env=[some (.tup [.tup (x.words.map D.str),.tp x.fl (x.sources.map D.str),.tup (x.derived.map pairD),.tup (x.effects.map pairD)]),some (.bl true),some (.ref f),some (.ref w),x4,x5,some (prK x a),x7,x8]) (prK x) (fun c=>if decide (x.sources.idxOf a.1 < x.sources.idxOf c.1) then [zdH.d (.batch [a,c])] else []) x.wrs e6 f6 ⟨_,_,rfl⟩ ?_ ?_
     ·rintro c hc _ S7 acc2 ⟨x7,x8,rfl⟩ e7 hl7 f7 nx3 hnx3
      refine ⟨f7 _ _ fw.symm w4',?_⟩
      obtain ⟨a1,a2⟩:=zhs P (ze1.mp ha).1
      obtain ⟨c1,c2⟩:=zhs P (ze1.mp hc).1
      have a3:L2.atI (x.sources.map D.str) (x.sources.idxOf a.1:Int)=some (.str a.1):=atI_nat (by rw [List.getElem?_map,a1];rfl)
      have c3:L2.atI (x.sources.map D.str) (x.sources.idxOf c.1:Int)=some (.str c.1):=atI_nat (by rw [List.getElem?_map,c1];rfl)
      unfold prK
      ext
      refine zdJ (fun hlt=>?_) (fun hge=>?_)
      ·have e:decide (x.sources.idxOf a.1 < x.sources.idxOf c.1)=true:=decide_eq_true (by omega)
       rw [e] at hl7
       simp only [if_true] at hl7
       ext
       refine zaE (szl (by simp)) ?_
       ext
       refine zaE (szl (by simp)) ?_
       ext
       refine zaE (szl (by simp)) ?_
       ext
       refine zaE (szl (by simp)) ?_
       ext
       refine s_app e7 (zfr ?_) ?_
       ·rw [zgA a,List.length_map] at hl7
        simp only [List.length_singleton,List.length_map] at hl7 hl
        omega
       ext
       refine hnx3 _ _ ⟨_,_,rfl⟩ ?_ (fun z ob hz ez=>(zaz hz).trans (f7 _ _ hz ez))
       rw [zai,e]
       rfl
      ·have e:decide (x.sources.idxOf a.1 < x.sources.idxOf c.1)=false:=decide_eq_false (by omega)
       ext
       refine hnx3 _ _ ⟨_,_,rfl⟩ ?_ f7
       rw [e7,e]
       simp
     ·rintro _ S7 ⟨x7,x8,rfl⟩ e7 f7
      refine ⟨f7 _ _ fw.symm w4',?_⟩
      refine hnx2 _ _ ⟨_,_,_,rfl⟩ ?_ f7
      rw [e7,zgA a]
    ·rintro _ S6 ⟨x6,x7,x8,rfl⟩ e6 f6
     refine ⟨f6 _ _ fw.symm w4',?_⟩
     exact hnx _ _ ⟨_,_,_,_,_,rfl,by rw [e6];simp only [if_true,zjd],f6⟩
   ·subst hb
    ext
    exact hnx _ _ ⟨_,_,_,_,_,rfl,by rw [e4];simp,Fr.refl⟩
 ·intro nx hnx
  ext
  with_reducible refine zgH (by first | (simp;done) | (simp;omega)) (by first | (simp;done) | (simp;omega)) ?_
  ext
  refine zbf (fun i env S'=>∃ x4 x5,env=[some (.tup [.tup (x.words.map D.str),.tp x.fl (x.sources.map D.str),.tup (x.derived.map pairD),.tup (x.effects.map pairD)]),some (.bl b),some (.ref f),some (.ref w),x4,x5,none,none,none]∧S' f=some (.lst (((x.sources.take i).flatMap fun s=>x.words.map fun u=>(s,u)).map wrD))∧S' w=some (.lst (((x.sources.take i).flatMap fun s=>x.words.map fun u=>(s,u)).map (prK x)))∧Kp S S') _ 0 ⟨_,_,rfl,ef,ew,k2⟩ ?_ ?_
  ·rintro i y _ S3 hy ⟨x4,x5,rfl,e3,w3,k3⟩ nx2 hnx2
   rw [Nat.zero_add] at e3 w3 hnx2
   obtain ⟨rfl,hi⟩:=zfv hy
   have hi:i < x.sources.length:=by simpa using hi
   obtain ⟨s,es⟩:∃ s,x.sources[i]? = some s:=⟨_,List.getElem?_eq_getElem hi⟩
   have eix:=zrI P es
   have a3:L2.atI (x.sources.map D.str) (i:Int)=some (.str s):=atI_nat (by rw [List.getElem?_map,es];rfl)
   have hlen:((x.sources.take i).flatMap fun s=>x.words.map fun u=>(s,u)).length≤16:=by
    rw [zgz (k:=x.words.length) (fun s=>by rw [List.length_map]),List.length_take]
    have:=Nat.mul_le_mul (Nat.le_trans (Nat.min_le_right i x.sources.length) s4) w4
    omega
   refine ⟨trivial,?_⟩
   ext
   generalize hA:((x.sources.take i).flatMap fun s=>x.words.map fun u=>(s,u))=A at hlen e3 w3 ⊢
   refine zbf (fun j env S'=>∃ x5,env=[some (.tup [.tup (x.words.map D.str),.tp x.fl (x.sources.map D.str),.tup (x.derived.map pairD),.tup (x.effects.map pairD)]),some (.bl b),some (.ref f),some (.ref w),some (.int (i:Nat)),x5,none,none,none]∧S' f=some (.lst ((A++(x.words.take j).map fun u=>(s,u)).map wrD))∧S' w=some (.lst ((A++(x.words.take j).map fun u=>(s,u)).map (prK x)))∧Kp S S') _ 0 ⟨_,rfl,by simpa using e3,by simpa using w3,k3⟩ ?_ ?_
   ·rintro j y _ S5 hy ⟨x5,rfl,e5,w5,k5⟩ nx3 hnx3
    rw [Nat.zero_add] at e5 w5 hnx3
    rw [List.getElem?_map] at hy
    cases eu:x.words[j]? with
    | none=>rw [eu] at hy;cases hy
    | some u=>
    rw [eu] at hy
    obtain rfl:D.str u=y:=by simpa using hy
    have hj:=(List.getElem?_eq_some_iff.mp eu).1
    have et:(A++(x.words.take (j+1)).map fun u=>(s,u))=(A++(x.words.take j).map fun u=>(s,u))++[(s,u)]:=by
     rw [List.take_succ,eu]
     simp
    rw [et] at hnx3
    have hl2:(A++(x.words.take j).map fun u=>(s,u)).length≤40:=by
     rw [List.length_append,List.length_map,List.length_take]
     omega
    generalize (A++(x.words.take j).map fun u=>(s,u))=C at *
    refine ⟨trivial,?_⟩
    ext
    with_reducible refine zaE (szl (by simp)) ?_
    ext
    with_reducible refine s_app w5 (zfr (by rw [List.length_map];omega)) ?_
    have k6:=k5.wr (o:=.lst (C.map (prK x)++[.tup [.int (i:Nat),.str u]])) hwS
    have e6:=(zaz (o:=.lst (C.map (prK x)++[.tup [.int (i:Nat),.str u]])) fw).trans e5
    have w6:DL.put S5 w (.lst (C.map (prK x)++[.tup [.int (i:Nat),.str u]])) w=some (.lst (C.map (prK x)++[.tup [.int (i:Nat),.str u]])):=zai
    generalize DL.put S5 w _=S6 at k6 e6 w6 ⊢
    ext
    with_reducible refine zaE (szl (by simp)) ?_
    ext
    with_reducible refine s_app e6 (zfr (by rw [List.length_map];omega)) ?_
    ext
    refine hnx3 _ _ ⟨_,rfl,?_,?_,k6.wr hf⟩
    ·rw [zai,List.map_append]
     rfl
    ·rw [zaz fw.symm,w6,List.map_append]
     have:prK x (s,u) = .tup [.int (i:Nat),.str u]:=by
      unfold prK
      rw [eix]
     rw [List.map_cons,this]
     rfl
   ·rintro _ S5 ⟨x5,rfl,e5,w5,k5⟩
    rw [Nat.zero_add,List.length_map,List.take_length] at e5 w5
    refine ⟨trivial,?_⟩
    have et:((x.sources.take (i+1)).flatMap fun s=>x.words.map fun u=>(s,u))=A++x.words.map fun u=>(s,u):=by
     rw [List.take_succ,es,List.flatMap_append,hA]
     simp
    rw [← et] at e5 w5
    exact hnx2 _ _ ⟨_,_,rfl,e5,w5,k5⟩
  ·rintro _ S3 ⟨x4,x5,rfl,e3,w3,k3⟩
   rw [Nat.zero_add,ze5] at e3 w3
   have eL:((x.sources.map D.str).length:Int).toNat=x.sources.length:=by simp
   rw [eL,List.take_length] at e3 w3
   refine ⟨trivial,?_⟩
   exact hnx _ _ ⟨_,_,rfl,e3,w3,k3⟩
end
structure VOk (S:Sto) (v:D):Prop where
 kd:KdW S v
 fl:∀ fl xs,v = .tp fl xs->fl=false
 len:∀ fl y f2 zs,v = .tp fl [y,.tp f2 zs]->zs.length≤50
section
variable {K:PySem.W.Frag} {ns:List Int} {a l o:Addr} {S S':Sto} {x:Parts} {slots:List Str} {pk wr:Bool} {Q:DQ} {E:XQ} {v:D} {xs:List D} {f:Bool} {d:zdH}
theorem zuk (h:Kd S v) (e:tupB v=false):KdT S v:=⟨h,fun fl xs q=>by subst q;cases e⟩
theorem ziI (h:Kd S v) (e:tupB v=false):KdU S v:=⟨h,fun fl xs q=>by subst q;cases e⟩
theorem zui (h:Kd S v) (e:tupB v=false):KdW S v:=⟨h,fun fl xs q=>by subst q;cases e⟩
theorem zuj (h:∀ y∈xs,Kd S y):KdT S (.tp f xs):=⟨⟨_,rfl⟩,fun fl ys q=>by injection q with _ q;subst q;exact h⟩
theorem zod (h:∀ y∈xs,KdT S y):KdU S (.tp f xs):=⟨⟨_,rfl⟩,fun fl ys q=>by injection q with _ q;subst q;exact h⟩
theorem zeS (h:∀ y∈xs,KdU S y) (hl:∀ y f2 zs,xs=[y,.tp f2 zs]->zs.length≤50):VOk S (.tup xs):=⟨⟨⟨_,rfl⟩,fun fl ys q=>by injection q with _ q;subst q;exact h⟩,fun fl ys q=>by injection q with q _;exact q.symm,fun fl y f2 zs q=>by injection q with _ q;exact hl y f2 zs q⟩
theorem zjn (h:Kd S v) (e:tupB v=false):VOk S v:=⟨zui h e,fun fl xs q=>(by subst q;cases e),fun fl y f2 zs q=>(by subst q;cases e)⟩
theorem zku {z:Str}:Kd S (.str z):=⟨_,rfl⟩
theorem zbG {z:Str}:KdU S (.str z):=ziI zku rfl
theorem zrq {q:Str×Str}:KdT S (prD q):=zuj fun y hy=>by
 simp only [List.mem_cons,List.not_mem_nil,or_false] at hy
 rcases hy with rfl | rfl <;> exact zku
theorem zkw {ws:List (Str×Str)}:KdU S (.tp f (ws.map prD)):=zod fun y hy=>by
 obtain ⟨q,_,rfl⟩:=List.mem_map.mp hy
 exact zrq
theorem zgO {b:Addr} {ys:List D} (h:S b=some (.lst ys)):Kd S (.ref b):=⟨"list", by unfold tyD;simp only [h]⟩
theorem zkv {b:Addr} {kvs:List (Key×D)} (h:S b=some (.dic kvs)):Kd S (.ref b):=⟨"dict", by unfold tyD;simp only [h]⟩
theorem zwR {y:D}:DL.cutD (y :: xs) none (some 1)=[y]:=by
 unfold DL.cutD
 have e1:HT.sIx (y :: xs).length 0 none=0:=rfl
 have e2:HT.sIx (y :: xs).length (y :: xs).length (some 1)=min 1 (xs.length+1):=rfl
 rw [e1,e2,Nat.min_eq_left (by omega)]
 rfl
theorem zrl {l l':List Str} (h:l.Nodup) (hs:∀ z∈l,z∈l'):l.length≤l'.length:=by
 induction l generalizing l' with
 | nil=>exact Nat.zero_le _
 | cons a l ih=>
  have ⟨h1,h2⟩:=List.nodup_cons.mp h
  have ha:=hs a (List.mem_cons_self ..)
  have:=ih (l':=l'.erase a) h2 fun z hz=>(List.mem_erase_of_ne (fun e=>h1 (by rw [← e];exact hz))).mpr (hs z (List.mem_cons_of_mem _ hz))
  rw [List.length_erase_of_mem ha] at this
  have:=List.length_pos_of_mem ha
  rw [List.length_cons]
  omega
theorem zqT (P:zbA x slots pk wr) {ws:List (Str×Str)} (h:(zdH.batch ws).ok x):ws.length≤4:=by
 obtain ⟨_,h2,h3⟩:=h
 have s4:=P.s4
 have:=zrl h2 (l':=x.sources) fun s hs=>by
  obtain ⟨z,hz,rfl⟩:=List.mem_map.mp hs
  exact (h3 z hz).1
 rw [List.length_map] at this
 omega
theorem zjk (P:zbA x slots pk wr) (h:d.ok x):∃ hd r,d.d = .tup (.str hd :: r)∧(∀ y∈r,∀ S:Sto,KdU S y)∧r.length≤2∧(hd = "batch" -> ∃ ws:List (Str×Str),ws≠[]∧ws.length≤4∧r=[.tup (ws.map prD)])∧∀ y f2 zs,y∈r->y = .tp f2 zs->zs.length≤4:=by
 cases d with
 | read c=>
  refine ⟨_,[.str c],rfl,fun y hy S=>?_,by simp,fun e=>absurd e (by decide +kernel),fun y f2 zs hy e=>?_⟩
  ·cases List.mem_singleton.mp hy
   exact zbG
  ·cases List.mem_singleton.mp hy
   cases e
 | write s u=>
  refine ⟨_,[.str s,.str u],rfl,fun y hy S=>?_,by simp,fun e=>absurd e (by decide +kernel),fun y f2 zs hy e=>?_⟩
  ·simp only [List.mem_cons,List.not_mem_nil,or_false] at hy
   rcases hy with rfl | rfl <;> exact zbG
  ·simp only [List.mem_cons,List.not_mem_nil,or_false] at hy
   rcases hy with rfl | rfl <;> cases e
 | batch ws=>
  have hl:=zqT P h
  refine ⟨_,[.tup (ws.map prD)],rfl,fun y hy S=>?_,by simp,fun e=>⟨ws,h.1,hl,rfl⟩,fun y f2 zs hy e=>?_⟩
  ·cases List.mem_singleton.mp hy
   exact zkw
  ·cases List.mem_singleton.mp hy
   injection e with _ e
   rw [← e,List.length_map]
   exact hl
theorem zlP (P:zbA x slots pk wr) (h:d.ok x):VOk S d.d:=by
 obtain ⟨hd,r,e,h1,h2,h3,h4⟩:=zjk P h
 rw [e]
 refine zeS (fun y hy=>?_) fun y f2 zs q=>?_
 ·rcases List.mem_cons.mp hy with rfl | hy
  ·exact zbG
  ·exact h1 y hy S
 ·injection q with _ q
  have:=h4 (.tp f2 zs) f2 zs (by rw [q];simp) rfl
  omega
theorem zb7 {S1:Sto} {p:Addr} {ob:O} (h:StA ns a l S1) (f:Fr a S S1) (hp:S1 p=none):StA ns a l (DL.put S1 p ob)∧Fr a S (DL.put S1 p ob):=by
 obtain ⟨h2,f2,_⟩:=zbL (o:=ob) h f hp
 exact ⟨h2,f2⟩
theorem zhB {z dd:Addr} {k:Int} (ez:S z=some (.lst [.non,.bl true,.int 3,.str "write", .tup [],.tup [.int 1,.int 2],.tup [.str "batch", .non],.tup [.str "read", .non],.ref dd])) (ed:S dd=some (.dic [])) (c0:0≤k) (c1:k < 9) (hQ:∀ v,VOk S v->Q v S):vIx (.ref z) (.int k) S Q:=by
 obtain rfl | rfl | rfl | rfl | rfl | rfl | rfl | rfl | rfl:k=0 ∨ k=1 ∨ k=2 ∨ k=3 ∨ k=4 ∨ k=5 ∨ k=6 ∨ k=7 ∨ k=8:=by omega
 ·exact zbx ez (atI_nat (p:=0) rfl) (hQ _ (zjn ⟨_,rfl⟩ rfl))
 ·exact zbx ez (atI_nat (p:=1) rfl) (hQ _ (zjn ⟨_,rfl⟩ rfl))
 ·exact zbx ez (atI_nat (p:=2) rfl) (hQ _ (zjn ⟨_,rfl⟩ rfl))
 ·exact zbx ez (atI_nat (p:=3) rfl) (hQ _ (zjn ⟨_,rfl⟩ rfl))
 ·exact zbx ez (atI_nat (p:=4) rfl) (hQ _ (zeS (fun y hy=>nomatch hy) fun y f2 zs e=>nomatch e))
 ·refine zbx ez (atI_nat (p:=5) rfl) (hQ _ (zeS (fun y hy=>?_) fun y f2 zs e=>nomatch e))
  simp only [List.mem_cons,List.not_mem_nil,or_false] at hy
  rcases hy with rfl | rfl <;> exact ziI ⟨_,rfl⟩ rfl
 ·refine zbx ez (atI_nat (p:=6) rfl) (hQ _ (zeS (fun y hy=>?_) fun y f2 zs e=>nomatch e))
  simp only [List.mem_cons,List.not_mem_nil,or_false] at hy
  rcases hy with rfl | rfl <;> exact ziI ⟨_,rfl⟩ rfl
 ·refine zbx ez (atI_nat (p:=7) rfl) (hQ _ (zeS (fun y hy=>?_) fun y f2 zs e=>nomatch e))
  simp only [List.mem_cons,List.not_mem_nil,or_false] at hy
  rcases hy with rfl | rfl <;> exact ziI ⟨_,rfl⟩ rfl
 ·exact zbx ez (atI_nat (p:=8) rfl) (hQ _ (zjn (zkv ed) rfl))
theorem zjE (P:zbA x slots pk wr) (h:StA ns a l S) (hd:d.ok x) (hQ:∀ v S',VOk S' v->StA ns a l S'->Fr a S S'->Q v S'):ze2 K [.ref a,x.d,d.d] S Q E:=by
 have s1:=P.s1
 have w2:=P.w2
 obtain ⟨s0,srest,es⟩:∃ s0 rest,x.sources=s0 :: rest:=by
  cases h:x.sources with
  | nil=>rw [h] at s1;exact absurd s1 (by decide)
  | cons y ys=>exact ⟨y,ys,rfl⟩
 obtain ⟨w0,wrest,ew⟩:∃ s0 rest,x.words=s0 :: rest:=by
  cases h:x.words with
  | nil=>rw [h] at w2;exact absurd w2 (by decide)
  | cons y ys=>exact ⟨y,ys,rfl⟩
 have a0:L2.atI (x.sources.map D.str) (0:Int)=some (.str s0):=atI_nat (p:=0) (by rw [es];rfl)
 have b0:L2.atI (x.words.map D.str) (0:Int)=some (.str w0):=atI_nat (p:=0) (by rw [ew];rfl)
 have ls:s0.length≤8:=((Nms.left (Nms.left P.nn)).1 s0 (by rw [es];exact List.mem_cons_self)).eight
 have lw:w0.length≤8:=(P.ww.1 w0 (by rw [ew];exact List.mem_cons_self)).eight
 obtain ⟨hh,r,ed,k1,k2,k3,k4⟩:=zjk P hd
 have a00:L2.atI (.str hh :: r) (0:Int)=some (.str hh):=atI_nat (p:=0) rfl
 rw [ed,ze0]
 refine zaT rfl ?_
 unfold zfV
 ext
 refine zaH h (by decide) (by decide +kernel) fun kind S1 r0 r1 h1 f1=>?_
 ext
 refine ziS (szl (Nat.le_trans (Nat.add_le_add_right ls _) (by decide +kernel))) ?_
 ext
 refine zdJ (fun c4=>?_) (fun c4=>?_)
 ·ext
  refine zfW rfl fun q hq=>?_
  obtain ⟨h2,f2⟩:=zb7 (ob:=.lst (.str hh :: r)) h1 f1 hq
  have eq:DL.put S1 q (.lst (.str hh :: r)) q=some (.lst (.str hh :: r)):=zai
  generalize DL.put S1 q _=S2 at h2 f2 eq ⊢
  ext
  with_reducible refine zaE (szl (by simp)) ?_
  ext
  refine zeW (szl (by simp;omega)) ?_
  ext
  with_reducible refine zaE (szl (by simp)) ?_
  ext
  rw [zu8]
  refine zeW (szl (by simp;omega)) ?_
  ext
  rw [zwR]
  with_reducible refine zb4 (szl (by simp)) fun z hz=>?_
  obtain ⟨h3,f3⟩:=zb7 (ob:=.lst [.ref q,.tup (.str hh :: r++[.str (s0++("A" : Str))]),.tup [.str hh],.tup ([.str "look"]++r)]) h2 f2 hz
  have qz:q≠z:=fun e=>by rw [← e,eq] at hz;cases hz
  have eq3:=(zaz (o:=.lst [.ref q,.tup (.str hh :: r++[.str (s0++("A" : Str))]),.tup [.str hh],.tup ([.str "look"]++r)]) qz).trans eq
  ext
  obtain rfl | rfl | rfl | rfl:kind=0 ∨ kind=1 ∨ kind=2 ∨ kind=3:=by omega
  ·refine zbx zai (atI_nat (p:=0) rfl) ?_
   exact hQ _ _ (zjn (zgO eq3) rfl) h3 f3
  ·refine zbx zai (atI_nat (p:=1) rfl) ?_
   refine hQ _ _ (zeS (fun y hy=>?_) fun y f2 zs e=>?_) h3 f3
   ·rcases List.mem_append.mp hy with hy | hy
    ·rcases List.mem_cons.mp hy with rfl | hy
     ·exact zbG
     ·exact k1 y hy _
    ·cases List.mem_singleton.mp hy
     exact zbG
   ·have:=congrArg List.getLast? e
    rw [List.getLast?_concat] at this
    cases this
  ·refine zbx zai (atI_nat (p:=2) rfl) ?_
   refine hQ _ _ (zeS (fun y hy=>?_) fun y f2 zs e=>nomatch e) h3 f3
   cases List.mem_singleton.mp hy
   exact zbG
  ·refine zbx zai (atI_nat (p:=3) rfl) ?_
   refine hQ _ _ (zeS (fun y hy=>?_) fun y f2 zs e=>?_) h3 f3
   ·rcases List.mem_cons.mp hy with rfl | hy
    ·exact zbG
    ·exact k1 y hy _
   ·injection e with _ e
    have:=k4 (.tp f2 zs) f2 zs (by rw [show r=_ from e];exact List.mem_singleton.mpr rfl) rfl
    omega
 ext
 refine zdJ (fun c7=>?_) (fun c7=>?_)
 ·ext
  with_reducible refine zaE (szl (by simp)) ?_
  ext
  with_reducible refine zaE (szl (by simp)) ?_
  ext
  with_reducible refine zaE (szl (by simp)) ?_
  ext
  with_reducible refine zaE (szl (by simp)) ?_
  ext
  with_reducible refine zb4 (szl (by simp)) fun z hz=>?_
  obtain ⟨h2,f2⟩:=zb7 (ob:=.lst [.tup [.str "write", .str (s0++("A" : Str)),.str w0],.tup [.str "read", .str (s0++("A" : Str))],.tup [.str "batch", .tup []]]) h1 f1 hz
  ext
  obtain rfl | rfl | rfl:kind=4 ∨ kind=5 ∨ kind=6:=by omega
  ·refine zbx zai (atI_nat (p:=0) rfl) ?_
   refine hQ _ _ (zeS (fun y hy=>?_) fun y f2 zs e=>nomatch e) h2 f2
   simp only [List.mem_cons,List.not_mem_nil,or_false] at hy
   rcases hy with rfl | rfl | rfl <;> exact zbG
  ·refine zbx zai (atI_nat (p:=1) rfl) ?_
   refine hQ _ _ (zeS (fun y hy=>?_) fun y f2 zs e=>nomatch e) h2 f2
   simp only [List.mem_cons,List.not_mem_nil,or_false] at hy
   rcases hy with rfl | rfl <;> exact zbG
  ·refine zbx zai (atI_nat (p:=2) rfl) ?_
   refine hQ _ _ (zeS (fun y hy=>?_) fun y f2 zs e=>?_) h2 f2
   ·simp only [List.mem_cons,List.not_mem_nil,or_false] at hy
    rcases hy with rfl | rfl
    ·exact zbG
    ·exact zod fun y hy=>nomatch hy
   ·injection e with _ e
    injection e with e _
    injection e with _ e
    rw [← e]
    exact Nat.zero_le _
 have cs:(kind=7∧hh = "batch") ∨ (kind=8∧hh = "batch") ∨ (kind=9∧x.derived≠[]) ∨ kind=10 ∨ (kind=7∧hh ≠ "batch") ∨ (kind=8∧hh ≠ "batch") ∨ (kind=9∧x.derived=[]) ∨ kind=11:=by
  by_cases hb:hh = "batch"
  ·by_cases hd:x.derived=[]
   ·simp only [hb,hd,not_true,ne_eq,and_true,and_false,true_and]
    omega
   ·simp only [hb,hd,not_true,not_false_eq_true,ne_eq,and_true,and_false,true_and]
    omega
  ·by_cases hd:x.derived=[]
   ·simp only [hb,hd,not_true,not_false_eq_true,ne_eq,and_true,and_false,true_and]
    omega
   ·simp only [hb,hd,not_true,not_false_eq_true,ne_eq,and_true,and_false,true_and]
    omega
 rcases cs with ⟨rfl,hb⟩ | ⟨rfl,hb⟩ | ⟨rfl,hd⟩ | rfl | ⟨rfl,hb⟩ | ⟨rfl,hb⟩ | ⟨rfl,hd⟩ | rfl
 ·obtain ⟨ws,wne,wl,rfl⟩:=k3 hb
  ext
  obtain ⟨q,qs,rfl⟩:∃ q qs,ws=q :: qs:=by
   cases ws with
   | nil=>exact absurd rfl wne
   | cons q qs=>exact ⟨q,qs,rfl⟩
  rw [List.map_cons,zwR]
  refine zeW (szl (by simp at wl ⊢; omega)) ?_
  ext
  with_reducible refine zaE (szl (by simp)) ?_
  refine hQ _ _ (zeS (fun y hy=>?_) fun y f2 zs e=>?_) h1 f1
  ·simp only [List.mem_cons,List.not_mem_nil,or_false] at hy
   rcases hy with rfl | rfl
   ·exact zbG
   ·show KdU S1 (.tup ((q :: qs).map prD++[q].map prD))
    rw [← List.map_append]
    exact zkw
  ·injection e with _ e
   injection e with e _
   injection e with _ e
   rw [← e]
   simp at wl ⊢
   omega
 ·obtain ⟨ws,wne,wl,rfl⟩:=k3 hb
  ext
  refine zfW rfl fun q hq=>?_
  obtain ⟨h2,f2⟩:=zb7 (ob:=.lst (ws.map prD)) h1 f1 hq
  ext
  with_reducible refine zaE (szl (by simp)) ?_
  refine hQ _ _ (zeS (fun y hy=>?_) fun y f2 zs e=>?_) h2 f2
  ·simp only [List.mem_cons,List.not_mem_nil,or_false] at hy
   rcases hy with rfl | rfl
   ·exact zbG
   ·exact ziI (zgO zai) rfl
  ·injection e with _ e
   injection e with e _
   cases e
 ·obtain ⟨p0,pr,ep⟩:∃ q qs,x.derived=q :: qs:=by
   cases h:x.derived with
   | nil=>exact absurd h hd
   | cons q qs=>exact ⟨q,qs,rfl⟩
  have d0:L2.atI (x.derived.map pairD) (0:Int)=some (.tup [.str p0.1,.tup (za7 p0.2)]):=atI_nat (p:=0) (by rw [ep];rfl)
  have hd1:((x.derived.map pairD).length:Int) > 0:=by rw [ep];first | (simp;done) | (simp;omega)
  ext
  with_reducible refine zaE (szl (by simp)) ?_
  ext
  with_reducible refine zaE (szl (by simp)) ?_
  ext
  refine zeW (szl (by simp)) ?_
  ext
  with_reducible refine zaE (szl (by simp)) ?_
  ext
  with_reducible refine zaE (szl (by simp)) ?_
  ext
  with_reducible refine zb4 (szl (by simp)) fun z hz=>?_
  obtain ⟨h2,f2⟩:=zb7 (ob:=.lst [.tup [.str "write", .str p0.1,.str w0],.tup [.str "batch", .tup [.tup [.str p0.1,.str w0]]]]) h1 f1 hz
  have za:=(h1.fresh hz).1
  have ez:DL.put S1 z (.lst [.tup [.str "write", .str p0.1,.str w0],.tup [.str "batch", .tup [.tup [.str p0.1,.str w0]]]]) z=some (.lst [.tup [.str "write", .str p0.1,.str w0],.tup [.str "batch", .tup [.tup [.str p0.1,.str w0]]]]):=zai
  ext
  refine zaH h2 (by decide) (by decide +kernel) fun k3 S3 c0 c1 h3 f3=>?_
  have ez:=f3 _ _ za ez
  ext
  obtain rfl | rfl:k3=0 ∨ k3=1:=by omega
  ·refine zbx ez (atI_nat (p:=0) rfl) ?_
   refine hQ _ _ (zeS (fun y hy=>?_) fun y f2 zs e=>nomatch e) h3 (f2.trans f3)
   simp only [List.mem_cons,List.not_mem_nil,or_false] at hy
   rcases hy with rfl | rfl | rfl <;> exact zbG
  ·refine zbx ez (atI_nat (p:=1) rfl) ?_
   refine hQ _ _ (zeS (fun y hy=>?_) fun y f2 zs e=>?_) h3 (f2.trans f3)
   ·simp only [List.mem_cons,List.not_mem_nil,or_false] at hy
    rcases hy with rfl | rfl
    ·exact zbG
    ·exact zkw (ws:=[(p0.1,w0)])
   ·injection e with _ e
    injection e with e _
    injection e with _ e
    rw [← e]
    simp
 ·ext
  refine ziS (szl (Nat.le_trans (Nat.add_le_add_right lw _) (by decide +kernel))) ?_
  ext
  with_reducible refine zaE (szl (by simp)) ?_
  ext
  with_reducible refine zb4 (szl (by simp)) fun z hz=>?_
  obtain ⟨h2,f2⟩:=zb7 (ob:=.lst [.str (w0++("A" : Str)),.non,.bl true,.tup [.str w0]]) h1 f1 hz
  have za:=(h1.fresh hz).1
  have ez:DL.put S1 z (.lst [.str (w0++("A" : Str)),.non,.bl true,.tup [.str w0]]) z=some (.lst [.str (w0++("A" : Str)),.non,.bl true,.tup [.str w0]]):=zai
  ext
  refine zaH h2 (by decide) (by decide +kernel) fun k3 S3 c0 c1 h3 f3=>?_
  have ez:=f3 _ _ za ez
  ext
  have out:∀ y,KdU S3 y->Q (.tup [.str "write", .str s0,y]) S3:=fun y hy=>by
   refine hQ _ _ (zeS (fun v hv=>?_) fun y f2 zs e=>nomatch e) h3 (f2.trans f3)
   simp only [List.mem_cons,List.not_mem_nil,or_false] at hv
   rcases hv with rfl | rfl | rfl
   ·exact zbG
   ·exact zbG
   ·exact hy
  obtain rfl | rfl | rfl | rfl:k3=0 ∨ k3=1 ∨ k3=2 ∨ k3=3:=by omega
  ·refine zbx ez (atI_nat (p:=0) rfl) ?_
   ext
   with_reducible refine zaE (szl (by simp)) ?_
   exact out _ zbG
  ·refine zbx ez (atI_nat (p:=1) rfl) ?_
   ext
   with_reducible refine zaE (szl (by simp)) ?_
   exact out _ (ziI ⟨_,rfl⟩ rfl)
  ·refine zbx ez (atI_nat (p:=2) rfl) ?_
   ext
   with_reducible refine zaE (szl (by simp)) ?_
   exact out _ (ziI ⟨_,rfl⟩ rfl)
  ·refine zbx ez (atI_nat (p:=3) rfl) ?_
   ext
   with_reducible refine zaE (szl (by simp)) ?_
   refine out _ (zod fun y hy=>?_)
   cases List.mem_singleton.mp hy
   exact zuk zku rfl
 ·ext
  with_reducible refine zaE (szl (by simp)) ?_
  ext
  with_reducible refine zaE (szl (by simp)) ?_
  ext
  with_reducible refine zaE (szl (by simp)) ?_
  ext
  with_reducible refine zaE (szl (by simp)) ?_
  ext
  refine ziR fun dd hdd=>?_
  obtain ⟨h2,f2⟩:=zb7 (ob:=.dic []) h1 f1 hdd
  have edd:DL.put S1 dd (.dic []) dd=some (.dic []):=zai
  generalize DL.put S1 dd _=S2 at h2 f2 edd ⊢
  ext
  with_reducible refine zb4 (szl (by simp)) fun z hz=>?_
  have zd:dd≠z:=fun e=>by rw [← e,edd] at hz;cases hz
  have za:=(h2.fresh hz).1
  have da:dd≠a:=fun e=>by
   obtain ⟨⟨_,_,_,_,ea,_⟩,_⟩:=h2
   rw [e,ea] at edd
   cases edd
  obtain ⟨h3,f3⟩:=zb7 (ob:=.lst [.non,.bl true,.int 3,.str "write", .tup [],.tup [.int 1,.int 2],.tup [.str "batch", .non],.tup [.str "read", .non],.ref dd]) h2 f2 hz
  have ez:DL.put S2 z (.lst [.non,.bl true,.int 3,.str "write", .tup [],.tup [.int 1,.int 2],.tup [.str "batch", .non],.tup [.str "read", .non],.ref dd]) z=some (.lst [.non,.bl true,.int 3,.str "write", .tup [],.tup [.int 1,.int 2],.tup [.str "batch", .non],.tup [.str "read", .non],.ref dd]):=zai
  have edd:=(zaz (o:=.lst [.non,.bl true,.int 3,.str "write", .tup [],.tup [.int 1,.int 2],.tup [.str "batch", .non],.tup [.str "read", .non],.ref dd]) zd).trans edd
  ext
  refine zaH h3 (by decide) (by decide +kernel) fun k3 S3 c0 c1 h4 f4=>?_
  have ez:=f4 _ _ za ez
  have edd:=f4 _ _ da edd
  ext
  exact zhB ez edd c0 c1 fun v hv=>hQ v _ hv h4 (f3.trans f4)
 ·ext
  with_reducible refine zaE (szl (by simp)) ?_
  ext
  with_reducible refine zaE (szl (by simp)) ?_
  ext
  with_reducible refine zaE (szl (by simp)) ?_
  ext
  with_reducible refine zaE (szl (by simp)) ?_
  ext
  refine ziR fun dd hdd=>?_
  obtain ⟨h2,f2⟩:=zb7 (ob:=.dic []) h1 f1 hdd
  have edd:DL.put S1 dd (.dic []) dd=some (.dic []):=zai
  generalize DL.put S1 dd _=S2 at h2 f2 edd ⊢
  ext
  with_reducible refine zb4 (szl (by simp)) fun z hz=>?_
  have zd:dd≠z:=fun e=>by rw [← e,edd] at hz;cases hz
  have za:=(h2.fresh hz).1
  have da:dd≠a:=fun e=>by
   obtain ⟨⟨_,_,_,_,ea,_⟩,_⟩:=h2
   rw [e,ea] at edd
   cases edd
  obtain ⟨h3,f3⟩:=zb7 (ob:=.lst [.non,.bl true,.int 3,.str "write", .tup [],.tup [.int 1,.int 2],.tup [.str "batch", .non],.tup [.str "read", .non],.ref dd]) h2 f2 hz
  have ez:DL.put S2 z (.lst [.non,.bl true,.int 3,.str "write", .tup [],.tup [.int 1,.int 2],.tup [.str "batch", .non],.tup [.str "read", .non],.ref dd]) z=some (.lst [.non,.bl true,.int 3,.str "write", .tup [],.tup [.int 1,.int 2],.tup [.str "batch", .non],.tup [.str "read", .non],.ref dd]):=zai
  have edd:=(zaz (o:=.lst [.non,.bl true,.int 3,.str "write", .tup [],.tup [.int 1,.int 2],.tup [.str "batch", .non],.tup [.str "read", .non],.ref dd]) zd).trans edd
  ext
  refine zaH h3 (by decide) (by decide +kernel) fun k3 S3 c0 c1 h4 f4=>?_
  have ez:=f4 _ _ za ez
  have edd:=f4 _ _ da edd
  ext
  exact zhB ez edd c0 c1 fun v hv=>hQ v _ hv h4 (f3.trans f4)
 ·have hd0:¬ ((x.derived.map pairD).length:Int) > 0:=by rw [hd];decide
  ext
  with_reducible refine zaE (szl (by simp)) ?_
  ext
  with_reducible refine zaE (szl (by simp)) ?_
  ext
  with_reducible refine zaE (szl (by simp)) ?_
  ext
  with_reducible refine zaE (szl (by simp)) ?_
  ext
  refine ziR fun dd hdd=>?_
  obtain ⟨h2,f2⟩:=zb7 (ob:=.dic []) h1 f1 hdd
  have edd:DL.put S1 dd (.dic []) dd=some (.dic []):=zai
  generalize DL.put S1 dd _=S2 at h2 f2 edd ⊢
  ext
  with_reducible refine zb4 (szl (by simp)) fun z hz=>?_
  have zd:dd≠z:=fun e=>by rw [← e,edd] at hz;cases hz
  have za:=(h2.fresh hz).1
  have da:dd≠a:=fun e=>by
   obtain ⟨⟨_,_,_,_,ea,_⟩,_⟩:=h2
   rw [e,ea] at edd
   cases edd
  obtain ⟨h3,f3⟩:=zb7 (ob:=.lst [.non,.bl true,.int 3,.str "write", .tup [],.tup [.int 1,.int 2],.tup [.str "batch", .non],.tup [.str "read", .non],.ref dd]) h2 f2 hz
  have ez:DL.put S2 z (.lst [.non,.bl true,.int 3,.str "write", .tup [],.tup [.int 1,.int 2],.tup [.str "batch", .non],.tup [.str "read", .non],.ref dd]) z=some (.lst [.non,.bl true,.int 3,.str "write", .tup [],.tup [.int 1,.int 2],.tup [.str "batch", .non],.tup [.str "read", .non],.ref dd]):=zai
  have edd:=(zaz (o:=.lst [.non,.bl true,.int 3,.str "write", .tup [],.tup [.int 1,.int 2],.tup [.str "batch", .non],.tup [.str "read", .non],.ref dd]) zd).trans edd
  ext
  refine zaH h3 (by decide) (by decide +kernel) fun k3 S3 c0 c1 h4 f4=>?_
  have ez:=f4 _ _ za ez
  have edd:=f4 _ _ da edd
  ext
  exact zhB ez edd c0 c1 fun v hv=>hQ v _ hv h4 (f3.trans f4)
 ·ext
  with_reducible refine zaE (szl (by simp)) ?_
  ext
  with_reducible refine zaE (szl (by simp)) ?_
  ext
  with_reducible refine zaE (szl (by simp)) ?_
  ext
  with_reducible refine zaE (szl (by simp)) ?_
  ext
  refine ziR fun dd hdd=>?_
  obtain ⟨h2,f2⟩:=zb7 (ob:=.dic []) h1 f1 hdd
  have edd:DL.put S1 dd (.dic []) dd=some (.dic []):=zai
  generalize DL.put S1 dd _=S2 at h2 f2 edd ⊢
  ext
  with_reducible refine zb4 (szl (by simp)) fun z hz=>?_
  have zd:dd≠z:=fun e=>by rw [← e,edd] at hz;cases hz
  have za:=(h2.fresh hz).1
  have da:dd≠a:=fun e=>by
   obtain ⟨⟨_,_,_,_,ea,_⟩,_⟩:=h2
   rw [e,ea] at edd
   cases edd
  obtain ⟨h3,f3⟩:=zb7 (ob:=.lst [.non,.bl true,.int 3,.str "write", .tup [],.tup [.int 1,.int 2],.tup [.str "batch", .non],.tup [.str "read", .non],.ref dd]) h2 f2 hz
  have ez:DL.put S2 z (.lst [.non,.bl true,.int 3,.str "write", .tup [],.tup [.int 1,.int 2],.tup [.str "batch", .non],.tup [.str "read", .non],.ref dd]) z=some (.lst [.non,.bl true,.int 3,.str "write", .tup [],.tup [.int 1,.int 2],.tup [.str "batch", .non],.tup [.str "read", .non],.ref dd]):=zai
  have edd:=(zaz (o:=.lst [.non,.bl true,.int 3,.str "write", .tup [],.tup [.int 1,.int 2],.tup [.str "batch", .non],.tup [.str "read", .non],.ref dd]) zd).trans edd
  ext
  refine zaH h3 (by decide) (by decide +kernel) fun k3 S3 c0 c1 h4 f4=>?_
  have ez:=f4 _ _ za ez
  have edd:=f4 _ _ da edd
  ext
  exact zhB ez edd c0 c1 fun v hv=>hQ v _ hv h4 (f3.trans f4)
end
section
variable {K:PySem.W.Frag} {ns:List Int} {a l o:Addr} {S S':Sto} {x:Parts} {slots:List Str} {pk wr:Bool} {Q:DQ} {E:XQ} {d:zdH}
theorem zj2 (d:zdH):Pl 5 d.d:=by
 cases d with
 | read c=>
  unfold zdH.d
  refine Pl.tup fun d hd=>?_
  rcases List.mem_cons.mp hd with rfl | hd
  ·exact (Pl.str _).mono (by decide)
  ·cases List.mem_singleton.mp hd
   exact (Pl.str _).mono (by decide)
 | write s u=>
  unfold zdH.d
  refine Pl.tup fun d hd=>?_
  rcases List.mem_cons.mp hd with rfl | hd
  ·exact (Pl.str _).mono (by decide)
  rcases List.mem_cons.mp hd with rfl | hd
  ·exact (Pl.str _).mono (by decide)
  ·cases List.mem_singleton.mp hd
   exact (Pl.str _).mono (by decide)
 | batch ws=>
  unfold zdH.d
  refine Pl.tup fun d hd=>?_
  rcases List.mem_cons.mp hd with rfl | hd
  ·exact (Pl.str _).mono (by decide)
  ·cases List.mem_singleton.mp hd
   exact (Pl.map fun q _=>zt1 q).mono (by decide)
theorem zkh {b:Bool}:∀ d∈x.moves b,d.ok x:=by
 intro d hd
 unfold Parts.moves at hd
 rcases List.mem_append.mp hd with hd | hd
 ·obtain ⟨q,hq,rfl⟩:=List.mem_map.mp hd
  exact ze1.mp hq
 rcases List.mem_append.mp hd with hd | hd
 ·cases b
  ·cases hd
  ·obtain ⟨a,ha,hd⟩:=List.mem_flatMap.mp hd
   unfold Parts.bts at hd
   obtain ⟨c,hc,rfl⟩:=List.mem_map.mp hd
   obtain ⟨hc,hlt⟩:=List.mem_filter.mp hc
   refine ⟨by simp,?_,fun q hq=>?_⟩
   ·have:a.1≠c.1:=fun e=>by rw [e] at hlt;simp at hlt
    simp [this]
   ·simp only [List.mem_cons,List.not_mem_nil,or_false] at hq
    rcases hq with rfl | rfl
    ·exact ze1.mp ha
    ·exact ze1.mp hc
 ·obtain ⟨q,hq,rfl⟩:=List.mem_map.mp hd
  exact List.mem_append_right _ (List.mem_map.mpr ⟨q,hq,rfl⟩)
theorem zmk:∀ (ws:List (Str×Str)) (seen:List Str),(seen++ws.map (·.1)).Nodup->(∀ q∈ws,q.1∈x.sources∧q.2∈x.words)->zc1 x (ws.map prD) seen=true
 | [],_,_,_=>rfl
 | q :: ws,seen,nd,h=>by
  obtain ⟨h1,h2⟩:=h q List.mem_cons_self
  have hs:q.1∉seen:=fun hm=>(List.nodup_append.mp nd).2.2 _ hm _ (List.mem_map_of_mem List.mem_cons_self) rfl
  rw [List.map_cons]
  show zc1 x (.tp false [.str q.1,.str q.2] :: ws.map prD) seen=true
  rw [znL h1 h2 hs]
  exact zmk ws (seen++[q.1]) (by rw [List.append_assoc];exact nd) fun z hz=>h z (List.mem_cons_of_mem _ hz)
theorem zoj (h:d.ok x):zfQ x d.d=true:=by
 cases d with
 | read c=>
  show (if ("read" : Str) = "write" then zdB x (.tup [.str c]) else zhE x "read" (.str c))=true
  rw [if_neg (by decide +kernel)]
  unfold zhE
  rw [if_pos rfl]
  exact decide_eq_true h
 | write s u=>
  show (if ("write" : Str) = "write" then zdB x (.tup [.str s,.str u]) else false)=true
  rw [if_pos rfl]
  show (decide (s∈x.sources) && decide (u∈x.words))=true
  rw [decide_eq_true h.1,decide_eq_true h.2]
  rfl
 | batch ws=>
  show (if ("batch" : Str) = "write" then zdB x (.tup [.tup (ws.map prD)]) else zhE x "batch" (.tup (ws.map prD)))=true
  rw [if_neg (by decide +kernel)]
  unfold zhE
  rw [if_neg (by decide +kernel),if_pos rfl]
  obtain ⟨h1,h2,h3⟩:=h
  cases ws with
  | nil=>exact absurd rfl h1
  | cons q qs=>exact zmk (q :: qs) [] h2 h3
theorem zhk (F:FPr K) (P:zbA x slots pk wr) (eo:S o=some (zdX K x)) (h:d.ok x) (hQ:∀ S',Kp S S'->Q (.bl true) S'):zcX K [.ref o,d.d] S Q E:=by
 have v:=zlP (S:=S) P h
 refine zgP F P eo v.kd v.fl v.len ?_
 rw [zoj h]
 exact hQ
theorem zl9 {g:Bool->Bool} {a b:Bool} (h:Q (.bl (g (decide (a=b)))) S):zl0 g (.bl a) (.bl b) S Q:=h
theorem zhR (B:FBc K) (F:FPr K) {ns:List Int} (hn:ns.length≤63) (hQ:∀ S',Q (.bl true) S'):zcb K [.rol (ns.map D.int)] S Q E:=by
 refine zaT rfl ?_
 unfold zcn
 ext
 refine ziM hn fun a l S1 h1=>?_
 ext
 refine zaH h1 (by decide) (by decide +kernel) fun m0 S2 m1 m2 h2 _=>?_
 obtain ⟨many,rfl⟩:=Int.eq_ofNat_of_zero_le m1
 ext
 with_reducible refine zb4 (szl (by simp)) fun z hz=>?_
 obtain ⟨h3,_,za,_,_,ez⟩:=zbL (o:=.lst [.int 3,.int 4,.int 6,.int 4,.int 15]) h2 Fr.refl hz
 ext
 refine zlh h3 ez za (by decide) (by decide) (by decide) (by decide) (by decide) (by decide) (by decide) (by decide) (by decide) (by decide) fun x slots S7 fx P h7 _=>?_
 clear h1 h2 h3 ez za hz
 have w2:=P.w2
 have w4:=P.w4
 have s1:=P.s1
 have s4:=P.s4
 have d6:=P.d6
 rw [ze0]
 ext
 intro o ho
 refine zh7 B F P zai fun S8 fr8 eo=>⟨rfl,?_⟩
 have k8:Kp S7 S8:=fun b ob hb=>by
  have hbo:b≠o:=fun q=>by subst q;rw [ho] at hb;cases hb
  exact fr8 b ob hbo ((zaz hbo).trans hb)
 have h8:=h7.kp k8
 clear fr8 k8 ho h7
 ext
 with_reducible refine zgH (by omega) (by omega) ?_
 ext
 refine zbf (fun i env S'=>∃ x5 x6,env=[some (.rol (ns.map D.int)),some (.ref a),some (.int (many:Nat)),some (.tup [.tup (x.words.map D.str),.tp x.fl (x.sources.map D.str),.tup (x.derived.map pairD),.tup (x.effects.map pairD)]),some (.ref o),x5,x6,none,none]∧StA ns a l S'∧S' o=some (zdX K x)) _ 0 ⟨_,_,rfl,h8,eo⟩ ?_ ?_
 ·clear h8 eo
  rintro i y _ S9 hy ⟨x5,x6,rfl,h9,eo⟩ nx hnx
  obtain ⟨rfl,hi⟩:=zfv hy
  refine ⟨trivial,?_⟩
  ext
  refine zl6 rfl rfl ?_
  show zdR K [.ref o,.bl true] _ _ _
  refine zjj F P fx eo fun q S10 hq eq k10=>?_
  have eo:=k10 _ _ eo
  obtain ⟨qa,ql⟩:=h9.fresh hq
  have oq:o≠q:=fun z=>by rw [z,eq] at eo;unfold zdX at eo;cases eo
  have h9:=h9.kp k10
  clear k10 hq
  ext
  rw [← ze0]
  refine zd0 P fun q2 S11 hq2 eq2 k11=>?_
  have eo:=k11 _ _ eo
  have h9:=h9.kp k11
  have eq1:=k11 _ _ eq
  ext
  refine Rq.eq (u:=fun b=>!b) (Rq.lst (k:=5) eq1 eq2 (fun d hd=>by
   obtain ⟨z,_,rfl⟩:=List.mem_map.mp hd
   exact zj2 z) (by decide)) ?_
  have hml:((x.moves true).map zdH.d).length≤900:=by
   have lw:=zgC P
   have lb:=ziJ P
   unfold Parts.moves
   simp only [List.length_map,List.length_append,if_true]
   omega
  ext
  with_reducible refine s_app eq1 (zfr (by omega)) ?_
  have h12:=h9.wr (o:=.lst ((x.moves true).map zdH.d++[.non])) qa ql
  have eo:=(zaz (o:=.lst ((x.moves true).map zdH.d++[.non])) oq).trans eo
  generalize DL.put S11 q _=S12 at h12 eo ⊢
  ext
  refine zl6 rfl rfl ?_
  show zdR K [.ref o,.bl (decide ((i:Int)=1))] _ _ _
  refine zjj F P fx eo fun q3 S13 hq3 eq3 k13=>?_
  have eo:=k13 _ _ eo
  have h13:=h12.kp k13
  ext
  refine zd0 P fun q4 S14 hq4 eq4 k14=>?_
  have eo:=k14 _ _ eo
  have h14:=h13.kp k14
  have eq3:=k14 _ _ eq3
  ext
  refine Rq.eq (u:=fun b=>!b) (Rq.lst (k:=5) eq3 eq4 (fun d hd=>by
   obtain ⟨z,_,rfl⟩:=List.mem_map.mp hd
   exact zj2 z) (by decide)) ?_
  ext
  exact hnx _ _ ⟨_,_,rfl,h14,eo⟩
 ·clear h8 eo
  rintro _ S9 ⟨x5,x6,rfl,h9,eo⟩
  refine ⟨trivial,?_⟩
  ext
  rw [← ze0]
  refine zd0 P fun q S10 hq eq k10=>?_
  have eo:=k10 _ _ eo
  have h9:=h9.kp k10
  clear k10 hq
  rw [ze0]
  ext
  refine zbf (fun i env S'=>∃ x6 x7,env=[some (.rol (ns.map D.int)),some (.ref a),some (.int (many:Nat)),some (.tup [.tup (x.words.map D.str),.tp x.fl (x.sources.map D.str),.tup (x.derived.map pairD),.tup (x.effects.map pairD)]),some (.ref o),x5,x6,x7,none]∧StA ns a l S'∧S' o=some (zdX K x)∧S' q=some (.lst ((x.moves true).map zdH.d))) _ 0 ⟨_,_,rfl,h9,eo,eq⟩ ?_ ?_
  ·clear h9 eo eq
   rintro i y _ S11 hy ⟨x6,x7,rfl,h9,eo,eq⟩ nx hnx
   rw [List.getElem?_map] at hy
   cases ed:(x.moves true)[i]? with
   | none=>rw [ed] at hy;cases hy
   | some d=>
   rw [ed] at hy
   obtain rfl:d.d=y:=by simpa using hy
   have hd:=zkh d (List.mem_of_getElem? ed)
   refine ⟨eq,?_⟩
   ext
   refine zhk F P eo hd fun S12 k12=>?_
   ext
   refine zl9 ?_
   ext
   exact hnx _ _ ⟨_,_,rfl,h9.kp k12,k12 _ _ eo,k12 _ _ eq⟩
  ·clear h9 eo eq
   rintro _ S11 ⟨x6,x7,rfl,h9,eo,eq⟩
   refine ⟨eq,?_⟩
   clear eq
   ext
   with_reducible refine zgH (by omega) (by omega) ?_
   ext
   refine zbf (fun i env S'=>∃ x5 x6 x7 x8,env=[some (.rol (ns.map D.int)),some (.ref a),some (.int (many:Nat)),some (.tup [.tup (x.words.map D.str),.tp x.fl (x.sources.map D.str),.tup (x.derived.map pairD),.tup (x.effects.map pairD)]),some (.ref o),x5,x6,x7,x8]∧StA ns a l S'∧S' o=some (zdX K x)) _ 0 ⟨_,_,_,_,rfl,h9,eo⟩ ?_ ?_
   ·clear h9 eo
    rintro i y _ S12 hy ⟨x5,x6,x7,x8,rfl,h9,eo⟩ nx hnx
    obtain ⟨rfl,hi⟩:=zfv hy
    have oa:o≠a:=fun z=>by
     obtain ⟨⟨_,_,_,_,ea,_⟩,_⟩:=h9
     rw [z,ea] at eo
     unfold zdX at eo
     cases eo
    refine ⟨trivial,?_⟩
    ext
    rw [← ze0]
    refine zkJ P h9 fun d S13 hd h13 f13=>?_
    have eo:=f13 _ _ oa eo
    clear h9 f13
    ext
    refine zjE P h13 hd fun v S14 hv h14 f14=>?_
    have eo:=f14 _ _ oa eo
    clear h13 f14
    rw [ze0]
    ext
    refine zgP F P eo hv.kd hv.fl hv.len fun S15 k15=>?_
    have eo:=k15 _ _ eo
    have h15:=h14.kp k15
    ext
    rw [← ze0]
    refine zim P (hv.kd.kp k15) hv.fl hv.len fun S16 k16=>?_
    have eo:=k16 _ _ eo
    have h16:=h15.kp k16
    rw [ze0]
    ext
    refine zhk F P eo hd fun S17 k17=>?_
    ext
    refine zl9 ?_
    ext
    exact hnx _ _ ⟨_,_,_,_,rfl,h16.kp k17,k17 _ _ eo⟩
   ·rintro _ S12 ⟨x5,x6,x7,x8,rfl,h9,eo⟩
    refine ⟨trivial,?_⟩
    ext
    exact hQ _
end
structure FRu (K:PySem.W.Frag):Prop where
 mode:FOk K (He.ga K "Rule") "mode"
 cut:FOk K (He.ga K "Rule") "cut"
 inner:FOk K (He.ga K "Rule") "inner"
structure FEr (K:PySem.W.Frag):Prop where
 rr:PySem.W.exmOne K (.ref (He.ga K "InvalidRule")) (.ref (He.ga K "InvalidRule"))=some true
def zg5:D->Bool
 | .str z=>decide (z∈(["push", "pull", "level"]:List Str))
 | _=>false
def zoQ:D->Bool
 | .bl _=>true
 | _=>false
def zkU:D->Bool
 | .str z=>decide (z∈(["once", "later"]:List Str))
 | _=>false
def zaS (d e f:D):Option Str:=if zg5 d=false then some "mode" else if zoQ e=false then some "cut" else if zkU f=false then some "inner" else none
def zjw (m:Str) (c:Bool) (i:Str):List (Str×D):=[("mode", .str m),("cut", .bl c),("inner", .str i)]
section
variable {K:PySem.W.Frag} {ns:List Int} {a l b r:Addr} {S S':Sto} {Q:DQ} {E:XQ} {v d e f:D} {m i:Str} {c:Bool}
theorem zjc (h:Kd S v) (q:Q (.bl (zoQ v)) S):zda [v,.ty "bool"] S Q:=by
 obtain ⟨t,e⟩:=h
 refine zjv e rfl ?_
 have:(t == "bool")=zoQ v:=by
  cases v with
  | ref a=>rcases zg9 e with ⟨_,_,rfl⟩ | ⟨_,_,rfl⟩ | ⟨_,_,rfl⟩ <;> rfl
  | ty b=>cases e
  | rod b c=>cases e
  | _=>cases e;rfl
 rw [this]
 exact q
theorem zkO (h:zoQ v=true):∃ c,v = .bl c:=by
 cases v <;> first | exact ⟨_,rfl⟩ | cases h
theorem zfu (R:FRu K) (hd:Kd S d) (he:Kd S e) (hf:Kd S f) (hr:S r=none) (hE:∀ z S',zaS d e f=some z->Kp S S'->E (.ref (He.ga K "InvalidRule")) [("part", .str z)] S')
  (hQ:∀ m c i S',zaS d e f=none->d = .str m->e = .bl c->f = .str i->Kp S S'->S' r=some (.ins (He.ga K "Rule") (zjw m c i))->Q .non S'):zbg K [.ref r,d,e,f] (DL.put S r (.ins (He.ga K "Rule") [])) Q E:=by
 have k0:Kp S (DL.put S r (.ins (He.ga K "Rule") [])):=Kp.refl.new hr
 refine zaT rfl ?_
 unfold zd3
 ext
 refine zcG (hd.kp k0) ?_
 cases ed:zh2 d with
 | false=>
  have:zg5 d=false:=by cases d <;> first | rfl | cases ed
  ext
  exact hE _ _ (by unfold zaS;rw [if_pos this]) k0
 | true=>
 obtain ⟨m,rfl⟩:=zd6 ed
 ext
 by_cases hm:m∈(["push", "pull", "level"]:List Str)
 case neg=>
  rw [decide_eq_false hm]
  ext
  exact hE _ _ (by unfold zaS;rw [if_pos (show zg5 (.str m)=false from decide_eq_false hm)]) k0
 have hm2:¬ zg5 (.str m)=false:=by
  have:zg5 (.str m)=true:=decide_eq_true hm
  rw [this]
  decide
 rw [decide_eq_true hm]
 ext
 refine zjc (he.kp k0) ?_
 cases ee:zoQ e with
 | false=>
  ext
  exact hE _ _ (by unfold zaS;rw [if_neg hm2,if_pos ee]) k0
 | true=>
 obtain ⟨c,rfl⟩:=zkO ee
 ext
 refine zcG (hf.kp k0) ?_
 cases ef:zh2 f with
 | false=>
  have:zkU f=false:=by cases f <;> first | rfl | cases ef
  ext
  exact hE _ _ (by unfold zaS;rw [if_neg hm2,if_neg (by rw [ee];decide),if_pos this]) k0
 | true=>
 obtain ⟨i,rfl⟩:=zd6 ef
 ext
 by_cases hi:i∈(["once", "later"]:List Str)
 case neg=>
  rw [decide_eq_false hi]
  ext
  exact hE _ _ (by unfold zaS;rw [if_neg hm2,if_neg (by rw [ee];decide),if_pos (show zkU (.str i)=false from decide_eq_false hi)]) k0
 have hi2:¬ zkU (.str i)=false:=by
  have:zkU (.str i)=true:=decide_eq_true hi
  rw [this]
  decide
 rw [decide_eq_true hi]
 ext
 with_reducible refine zew zai R.mode (by simp) ?_
 ext
 with_reducible refine zew zai R.cut (Nat.lt_of_le_of_lt (zg4 (Nat.le_refl 0)) (by decide)) ?_
 ext
 with_reducible refine zew zai R.inner (Nat.lt_of_le_of_lt (zg4 (zg4 (Nat.le_refl 0))) (by decide)) ?_
 exact hQ m c i _ (by unfold zaS;rw [if_neg hm2,if_neg (by rw [ee];decide),if_neg hi2]) rfl rfl rfl ((((Kp.refl.new hr).wr hr).wr hr).wr hr) zai
theorem zex (R:FRu K) (hm:m∈(["push", "pull", "level"]:List Str)) (hi:i∈(["once", "later"]:List Str)) (hr:S r=none) (hQ:∀ S',Kp S S'->S' r=some (.ins (He.ga K "Rule") (zjw m c i))->Q .non S'):zbg K [.ref r,.str m,.bl c,.str i] (DL.put S r (.ins (He.ga K "Rule") [])) Q E:=by
 refine zfu R ⟨_,rfl⟩ ⟨_,rfl⟩ ⟨_,rfl⟩ hr (fun z S' h _=>?_) fun m' c' i' S' _ e1 e2 e3 k er=>?_
 ·exfalso
  unfold zaS at h
  rw [if_neg (by rw [show zg5 (.str m)=true from decide_eq_true hm];decide),if_neg (by show ¬ true=false;decide),if_neg (by rw [show zkU (.str i)=true from decide_eq_true hi];decide)] at h
  cases h
 ·cases e1;cases e2;cases e3
  exact hQ S' k er
end
section
variable {K:PySem.W.Frag} {S:Sto} {Q:DQ} {E:XQ}
def r12:List (Str×Bool×Str):=(["push", "pull", "level"]:List Str).flatMap fun a=>[false,true].flatMap fun b=>(["once", "later"]:List Str).map fun c=>(a,b,c)
def ztV (K:PySem.W.Frag) (r:Str×Bool×Str):O:=.ins (He.ga K "Rule") [("mode", .str r.1),("cut", .bl r.2.1),("inner", .str r.2.2)]
theorem zma {i j k:Nat} {a c:Str} {b:Bool} (h1:(["push", "pull", "level"]:List Str)[i]? = some a) (h2:[false,true][j]? = some b) (h3:(["once", "later"]:List Str)[k]? = some c):r12[4 * i+2 * j+k]? = some (a,b,c):=by
 have i3:i < 3:=(List.getElem?_eq_some_iff.mp h1).1
 have j2:j < 2:=(List.getElem?_eq_some_iff.mp h2).1
 have k2:k < 2:=(List.getElem?_eq_some_iff.mp h3).1
 match i,j,k,i3,j2,k2 with
 | 0,0,0,_,_,_=>cases h1;cases h2;cases h3;rfl
 | 0,0,1,_,_,_=>cases h1;cases h2;cases h3;rfl
 | 0,1,0,_,_,_=>cases h1;cases h2;cases h3;rfl
 | 0,1,1,_,_,_=>cases h1;cases h2;cases h3;rfl
 | 1,0,0,_,_,_=>cases h1;cases h2;cases h3;rfl
 | 1,0,1,_,_,_=>cases h1;cases h2;cases h3;rfl
 | 1,1,0,_,_,_=>cases h1;cases h2;cases h3;rfl
 | 1,1,1,_,_,_=>cases h1;cases h2;cases h3;rfl
 | 2,0,0,_,_,_=>cases h1;cases h2;cases h3;rfl
 | 2,0,1,_,_,_=>cases h1;cases h2;cases h3;rfl
 | 2,1,0,_,_,_=>cases h1;cases h2;cases h3;rfl
 | 2,1,1,_,_,_=>cases h1;cases h2;cases h3;rfl
theorem zhC:r12.length=12:=by decide +kernel
theorem zqO:∀ r∈r12,r.1∈(["push", "pull", "level"]:List Str)∧r.2.2∈(["once", "later"]:List Str):=by decide +kernel
structure LRu (K:PySem.W.Frag) (q:Addr) (n:Nat) (as:List Addr) (S:Sto):Prop where
 ls:S q=some (.lst (as.map D.ref))
 len:as.length=n
 at_:∀ (i:Nat) (b:Addr),as[i]? = some b->∃ r,r12[i]? = some r∧S b=some (ztV K r)∧b≠q
theorem zjb {g:GM} {t:TM} {bd:Slo->(Sto->Prop)->Sto->Prop} {G N:Sto->Prop} {env:Slo} (I:Nat->Sto->Prop):∀ (xs:List D) (k:Nat) {S:Sto},I k S ->
  (∀ i x S,xs[i]? = some x->I (k+i) S->∀ nx:Sto->Prop,(∀ S',I (k+i+1) S'->nx S')->G S∧g x env S fun e s=>t e s fun b S3=>match b with
   | true=>bd e nx S3
   | false=>nx S3)->(∀ S,I (k+xs.length) S->G S∧N S)->lcM g t bd G N env xs S
 | [],k,S,h,_,hd=>hd S h
 | x :: xs,k,S,h,hs,hd=>hs 0 x S rfl h (lcM g t bd G N env xs) fun S' h'=>zjb I xs (k+1) h' (fun i y S hy hI nx hnx=>hs (i+1) y S hy (by rw [show k+(i+1)=k+1+i by omega];exact hI) nx fun S' h=>hnx S' (by rw [show k+1+i+1=k+(i+1)+1 by omega];exact h)) fun S h=>hd S (by rw [List.length_cons,show k+(xs.length+1)=k+1+xs.length by omega];exact h)
theorem zis (F:FRu K) (hQ:∀ q as S',S q=none->LRu K q 12 as S'->Kp S S'->Q (.ref q) S'):zeo K [] S Q E:=by
 refine zaT rfl ?_
 unfold zfg
 ext
 unfold zvx
 intro q hq
 refine zjb (fun n S'=>∃ as,LRu K q (4 * n) as S'∧Kp S S') _ 0 ⟨[],⟨zai,rfl,fun i b h=>by cases h⟩,Kp.refl.new hq⟩ ?_ ?_
 ·intro i y S1 hy hI nx hnx
  rw [Nat.zero_add] at hI hnx
  rw [List.getElem?_map] at hy
  cases ea:(["push", "pull", "level"]:List Str)[i]? with
  | none=>rw [ea] at hy;cases hy
  | some am=>
  rw [ea] at hy
  cases hy
  refine ⟨trivial,?_⟩
  refine zeg ?_
  unfold zgL
  show bdO _ _ _ _ _ _ _ _
  unfold bdO
  ext
  refine zaE (szl (by simp)) ?_
  ext
  refine zjb (fun n S'=>∃ as,LRu K q (4 * i+2 * n) as S'∧Kp S S') _ 0 hI ?_ ?_
  ·intro j y S2 hy hI nx2 hnx2
   rw [Nat.zero_add] at hI hnx2
   obtain ⟨bm,eb,rfl⟩:∃ bm,[false,true][j]? = some bm∧y = .bl bm:=by
    have hj:j < 2:=(List.getElem?_eq_some_iff.mp hy).1
    match j,hj with
    | 0,_=>cases hy;exact ⟨false,rfl,rfl⟩
    | 1,_=>cases hy;exact ⟨true,rfl,rfl⟩
   refine ⟨trivial,?_⟩
   refine zeg ?_
   show iGT _ _ _ _
   unfold iGT
   refine zjb (fun n S'=>∃ as,LRu K q (4 * i+2 * j+n) as S'∧Kp S S') _ 0 hI ?_ ?_
   ·intro k y S3 hy hI nx3 hnx3
    rw [Nat.zero_add] at hI hnx3
    obtain ⟨as,hA,k3⟩:=hI
    rw [List.getElem?_map] at hy
    cases ec:(["once", "later"]:List Str)[k]? with
    | none=>rw [ec] at hy;cases hy
    | some cm=>
    rw [ec] at hy
    cases hy
    have hr:=zma ea eb ec
    have hrk:=zqO _ (List.mem_of_getElem? hr)
    have hlt:4 * i+2 * j+k < 12:=by rw [← zhC];exact (List.getElem?_eq_some_iff.mp hr).1
    refine ⟨trivial,?_⟩
    refine zeg ?_
    show bdI _ _ _ _ _
    unfold bdI
    ext
    intro ru hru
    refine zex (m:=am) (c:=bm) (i:=cm) F hrk.1 hrk.2 hru fun S4 k4 er=>⟨rfl,?_⟩
    have el:=k4 _ _ hA.ls
    simp only [el]
    refine ⟨zfr (by rw [List.length_map,hA.len];omega),hnx3 _ ⟨as++[ru],⟨by rw [zai,List.map_append];rfl,by rw [List.length_append,hA.len];rfl,fun z b hb=>?_⟩,(k3.trans k4).wr ?_⟩⟩
    ·have rq:ru≠q:=fun z=>by rw [z,hA.ls] at hru;cases hru
     rcases Nat.lt_or_ge z as.length with hz | hz
     ·rw [List.getElem?_append_left hz] at hb
      obtain ⟨r,h1,h2,h3⟩:=hA.at_ z b hb
      exact ⟨r,h1,(zaz h3).trans (k4 _ _ h2),h3⟩
     ·rw [List.getElem?_append_right hz] at hb
      have:z - as.length=0:=by
       have:=(List.getElem?_eq_some_iff.mp hb).1
       simpa using this
      rw [this] at hb
      cases hb
      refine ⟨(am,bm,cm),?_,(zaz rq).trans er,rq⟩
      rw [← hr,← hA.len]
      congr 1
      omega
    ·exact hq
   ·intro S3 hI
    exact ⟨trivial,hnx2 _ (by rw [show 4 * i+2 * (j+1)=4 * i+2 * j+(0+2) by omega];exact hI)⟩
  ·intro S2 hI
   exact ⟨trivial,hnx _ (by rw [show 4 * (i+1)=4 * i+2 * (0+2) by omega];exact hI)⟩
 ·intro S1 hI
  obtain ⟨as,hA,k1⟩:=hI
  exact ⟨trivial,hQ q as S1 hq hA k1⟩
end
def zmf:Option Str->D
 | some z=>.str z
 | none=>.non
section
variable {K:PySem.W.Frag} {ns:List Int} {a l b r:Addr} {S S':Sto} {Q:DQ} {E:XQ} {v d e f:D} {m i:Str} {c:Bool}
theorem zin (eb:S b=some (.lst [d,e,f])) (hd:Kd S d) (he:Kd S e) (hf:Kd S f) (hQ:∀ S',Kp S S'->Q (zmf (zaS d e f)) S'):zdU K [.ref b] S Q E:=by
 refine zaT rfl ?_
 unfold zeM
 ext
 refine zcG hd ?_
 cases ed:zh2 d with
 | false=>
  have h:zg5 d=false:=by cases d <;> first | rfl | cases ed
  have:zaS d e f=some ("mode" : Str):=by unfold zaS;rw [if_pos h]
  rw [this] at hQ
  ext
  exact hQ _ Kp.refl
 | true=>
 obtain ⟨m,rfl⟩:=zd6 ed
 ext
 with_reducible refine zb4 (szl (by simp)) fun z hz=>?_
 have k1:Kp S (DL.put S z (.lst [.str "push", .str "pull", .str "level"])):=Kp.refl.new hz
 have ez:DL.put S z (.lst [.str "push", .str "pull", .str "level"]) z=some (.lst ((["push", "pull", "level"]:List Str).map D.str)):=zai
 generalize DL.put S z _=S1 at k1 ez ⊢
 have eb:=k1 _ _ eb
 refine zcm.inL (u:=fun b=>!b) (by decide) ez ?_
 by_cases hm:m∈(["push", "pull", "level"]:List Str)
 case neg=>
  rw [decide_eq_false hm]
  have:zaS (.str m) e f=some ("mode" : Str):=by unfold zaS;rw [if_pos (show zg5 (.str m)=false from decide_eq_false hm)]
  rw [this] at hQ
  ext
  exact hQ _ k1
 have hm2:¬ zg5 (.str m)=false:=by
  have:zg5 (.str m)=true:=decide_eq_true hm
  rw [this]
  decide
 rw [decide_eq_true hm]
 ext
 refine zjc (he.kp k1) ?_
 cases ee:zoQ e with
 | false=>
  have:zaS (.str m) e f=some ("cut" : Str):=by unfold zaS;rw [if_neg hm2,if_pos ee]
  rw [this] at hQ
  ext
  exact hQ _ k1
 | true=>
 obtain ⟨c,rfl⟩:=zkO ee
 ext
 refine zcG (hf.kp k1) ?_
 cases ef:zh2 f with
 | false=>
  have h:zkU f=false:=by cases f <;> first | rfl | cases ef
  have:zaS (.str m) (.bl c) f=some ("inner" : Str):=by unfold zaS;rw [if_neg hm2,if_neg (by rw [ee];decide),if_pos h]
  rw [this] at hQ
  ext
  exact hQ _ k1
 | true=>
 obtain ⟨i,rfl⟩:=zd6 ef
 ext
 with_reducible refine zb4 (szl (by simp)) fun z2 hz2=>?_
 have k2:=k1.new (o:=.lst [.str "once", .str "later"]) hz2
 have ez2:DL.put S1 z2 (.lst [.str "once", .str "later"]) z2=some (.lst ((["once", "later"]:List Str).map D.str)):=zai
 generalize DL.put S1 z2 _=S2 at k2 ez2 ⊢
 refine zcm.inL (u:=fun b=>!b) (by decide) ez2 ?_
 by_cases hi:i∈(["once", "later"]:List Str)
 case neg=>
  rw [decide_eq_false hi]
  have:zaS (.str m) (.bl c) (.str i)=some ("inner" : Str):=by unfold zaS;rw [if_neg hm2,if_neg (by rw [ee];decide),if_pos (show zkU (.str i)=false from decide_eq_false hi)]
  rw [this] at hQ
  ext
  exact hQ _ k2
 have hi2:¬ zkU (.str i)=false:=by
  have:zkU (.str i)=true:=decide_eq_true hi
  rw [this]
  decide
 rw [decide_eq_true hi]
 have:zaS (.str m) (.bl c) (.str i)=none:=by unfold zaS;rw [if_neg hm2,if_neg (by rw [ee];decide),if_neg hi2]
 rw [this] at hQ
 ext
 exact hQ _ k2
theorem zgN (R:FRu K) (X:FEr K) (eb:S b=some (.lst [d,e,f])) (hd:Kd S d) (he:Kd S e) (hf:Kd S f) (h1:∀ z S',zaS d e f=some z->Kp S S'->Q (.tup [.str "wrong", .str z,.bl true,.bl false]) S')
  (h2:∀ m c i S',zaS d e f=none->d = .str m->e = .bl c->f = .str i->Kp S S'->Q (.tup [.str "rule", .str m,.bl c,.str i]) S'):zds K [.ref b] S Q E:=by
 obtain ⟨r1,r2,r3⟩:=id R
 refine zaT rfl ?_
 unfold zfl
 ext
 with_reducible refine zaE (szl (by simp)) ?_
 ext
 with_reducible refine zsW ?_
 ext
 intro r hr
 refine zfu R hd he hf hr (fun z S1 hz k1=>?_) fun m c i S1 hn e1 e2 e3 k1 er=>⟨rfl,?_⟩
 ·refine ztI X.rr fun a ha=>?_
  ext
  refine zw6 rfl rfl ?_
  ext
  refine zqq rfl ?_
  ext
  refine zqq rfl ?_
  ext
  with_reducible refine zaE (szl (by simp)) ?_
  ext
  show (zkF 2 _).nx _ _
  unfold zkF
  ext
  exact h1 z S1 hz k1
 ·unfold zjw at er
  ext
  with_reducible refine zaE (szl (by simp)) ?_
  ext
  exact h2 m c i S1 hn e1 e2 e3 k1
theorem zhd (R:FRu K) {r r':Addr} {m' i':Str} {c':Bool} (e1:S r=some (.ins (He.ga K "Rule") (zjw m c i))) (e2:S r'=some (.ins (He.ga K "Rule") (zjw m' c' i'))) (hQ:Q (.bl (decide (m=m'∧c=c'∧i=i'))) S):zdt K [.ref r,.ref r'] S Q E:=by
 obtain ⟨r1,r2,r3⟩:=id R
 unfold zjw at e1 e2
 refine zaT rfl ?_
 unfold zfp
 ext
 refine zty e2 ?_
 ext
 by_cases h1:m=m'
 case neg=>
  rw [decide_eq_false fun h=>h1 h.1] at hQ
  rw [decide_eq_false h1]
  ext
  exact hQ
 rw [decide_eq_true h1]
 ext
 by_cases h2:c=c'
 case neg=>
  rw [decide_eq_false fun h=>h2 h.2.1] at hQ
  rw [decide_eq_false h2]
  ext
  exact hQ
 rw [decide_eq_true h2]
 ext
 have:decide (m=m'∧c=c'∧i=i')=decide (i=i'):=by simp [h1,h2]
 rw [this] at hQ
 exact hQ
end
def trD (r:Str×Bool×Str):D:=.tup [.str r.1,.bl r.2.1,.str r.2.2]
section
variable {K:PySem.W.Frag} {ns:List Int} {a l b r:Addr} {S S':Sto} {Q:DQ} {E:XQ} {v d e f:D} {m i m' i':Str} {c c':Bool}
theorem zt0 (r:Str×Bool×Str):Pl 2 (trD r):=Pl.tup fun d hd=>by
 simp only [List.mem_cons,List.not_mem_nil,or_false] at hd
 rcases hd with rfl | rfl | rfl
 ·exact Pl.str _
 ·exact Pl.bl _
 ·exact Pl.str _
theorem zu6 {u:Bool->Bool} (h:Q (.bl (u (decide (m=m'∧c=c'∧i=i')))) S):zg8 u (.tup [.str m,.bl c,.str i]) (.tup [.str m',.bl c',.str i']) S Q:=by
 refine ziQ (p:=.tuple [.str m,.bool c,.str i]) (q:=.tuple [.str m',.bool c',.str i']) rfl rfl ?_
 have e1:PyData.eqv (.str m) (.str m')=decide (m=m'):=zcm.eq m m'
 have e3:PyData.eqv (.str i) (.str i')=decide (i=i'):=zcm.eq i i'
 have e2:PyData.eqv (.bool c) (.bool c')=decide (c=c'):=by cases c <;> cases c' <;> rfl
 have:PyData.eqv (.tuple [.str m,.bool c,.str i]) (.tuple [.str m',.bool c',.str i'])=decide (m=m'∧c=c'∧i=i'):=by
  rw [PyData.eqv,PyData.eqvAll,PyData.eqvAll,PyData.eqvAll,PyData.eqvAll,e1,e2,e3]
  by_cases h1:m=m' <;> by_cases h2:c=c' <;> by_cases h3:i=i' <;> simp [h1,h2,h3]
 rw [this]
 exact h
theorem Kd.putL {xs ys:List D} (h:Kd S v) (e:S b=some (.lst xs)):Kd (DL.put S b (.lst ys)) v:=by
 obtain ⟨t,et⟩:=h
 cases v with
 | ref w=>
  by_cases hw:w=b
  ·subst hw
   exact zgO zai
  ·rcases zg9 et with ⟨xs,h,rfl⟩ | ⟨xs,h,rfl⟩ | ⟨xs,h,rfl⟩
   ·exact zgO ((zaz hw).trans h)
   ·exact zkv ((zaz hw).trans h)
   ·exact ⟨"dict", by unfold tyD;simp only [zaz hw,h]⟩
 | _=>exact ⟨t,et⟩
theorem Kd.fr (h:Kd S v) (hS:StA ns a l S') (f:Fr a S S'):Kd S' v:=by
 obtain ⟨t,et⟩:=h
 obtain ⟨⟨_,_,_,_,ea,_⟩,_⟩:=hS
 cases v with
 | ref w=>
  by_cases hw:w=a
  ·subst hw
   exact zgO ea
  ·rcases zg9 et with ⟨xs,h,rfl⟩ | ⟨xs,h,rfl⟩ | ⟨xs,h,rfl⟩
   ·exact zgO (f _ _ hw h)
   ·exact zkv (f _ _ hw h)
   ·exact ⟨"dict", by unfold tyD;simp only [f _ _ hw h]⟩
 | _=>exact ⟨t,et⟩
def ziK (w:Addr):List D:=[.str "push", .str "pull", .str "level", .str "once", .str "later", .str "Push", .str "", .non,.int 0,.int 1,.bl true,.bl false,.ref w]
theorem zmO {z w:Addr} {k:Int} {ws:List D} (ez:S z=some (.lst (ziK w))) (ew:S w=some (.lst ws)) (c0:0≤k) (c1:k < 13) (hQ:∀ v,Kd S v->Q v S):vIx (.ref z) (.int k) S Q:=by
 obtain rfl | rfl | rfl | rfl | rfl | rfl | rfl | rfl | rfl | rfl | rfl | rfl | rfl:k=0 ∨ k=1 ∨ k=2 ∨ k=3 ∨ k=4 ∨ k=5 ∨ k=6 ∨ k=7 ∨ k=8 ∨ k=9 ∨ k=10 ∨ k=11 ∨ k=12:=by omega
 ·exact zbx ez (atI_nat (p:=0) rfl) (hQ _ ⟨_,rfl⟩)
 ·exact zbx ez (atI_nat (p:=1) rfl) (hQ _ ⟨_,rfl⟩)
 ·exact zbx ez (atI_nat (p:=2) rfl) (hQ _ ⟨_,rfl⟩)
 ·exact zbx ez (atI_nat (p:=3) rfl) (hQ _ ⟨_,rfl⟩)
 ·exact zbx ez (atI_nat (p:=4) rfl) (hQ _ ⟨_,rfl⟩)
 ·exact zbx ez (atI_nat (p:=5) rfl) (hQ _ ⟨_,rfl⟩)
 ·exact zbx ez (atI_nat (p:=6) rfl) (hQ _ ⟨_,rfl⟩)
 ·exact zbx ez (atI_nat (p:=7) rfl) (hQ _ ⟨_,rfl⟩)
 ·exact zbx ez (atI_nat (p:=8) rfl) (hQ _ ⟨_,rfl⟩)
 ·exact zbx ez (atI_nat (p:=9) rfl) (hQ _ ⟨_,rfl⟩)
 ·exact zbx ez (atI_nat (p:=10) rfl) (hQ _ ⟨_,rfl⟩)
 ·exact zbx ez (atI_nat (p:=11) rfl) (hQ _ ⟨_,rfl⟩)
 ·exact zbx ez (atI_nat (p:=12) rfl) (hQ _ (zgO ew))
theorem zg1 (R:FRu K) (X:FEr K) {ns:List Int} (hn:ns.length≤63) (hQ:∀ S',Q (.bl true) S'):zbU K [.rol (ns.map D.int)] S Q E:=by
 obtain ⟨r1,r2,r3⟩:=id R
 refine zaT rfl ?_
 unfold zcf
 ext
 refine ziM hn fun a l S1 h1=>?_
 ext
 with_reducible refine zgH (by omega) (by omega) ?_
 ext
 intro q hq
 obtain ⟨h2,f2,qa,_,_,eq⟩:=zbL (o:=.lst []) h1 Fr.refl hq
 have ql:=(h1.fresh hq).2
 refine zmD (fun i ys S'=>∃ us:List Int,ys=us.map D.int∧us.length=i∧(∀ u∈us,0≤u∧u < 6)∧StA ns a l S') _ eq ⟨[],rfl,rfl,fun u hu=>by simp at hu,h2⟩ ?_ ?_
 ·rintro i y S2 ys hy hp2 ⟨us,rfl,ul,uo,h2⟩ nx hnx
  refine ⟨trivial,?_⟩
  refine zeg ?_
  ext
  refine zaH h2 (by decide) (by decide +kernel) fun u S3 u0 u1 h3 f3=>?_
  have ep3:=f3 _ _ qa hp2
  have hi:i < 2:=by
   have:=(List.getElem?_eq_some_iff.mp hy).1
   rw [ze5] at this
   exact this
  refine zjV ep3 (zfr (by simp;omega)) ?_
  refine hnx _ _ zai ⟨us++[u],by simp,by simp [ul],fun v hv=>?_,h3.wr qa ql⟩
  rcases List.mem_append.mp hv with h | h
  ·exact uo v h
  ·rw [List.mem_singleton.mp h]
   exact ⟨u0,u1⟩
 rintro S2 ys eq ⟨us,rfl,ul,uo,h2⟩
 refine ⟨trivial,?_⟩
 clear h1 f2
 ext
 refine zh5 h2 fun m i c S3 hm hi h3 f3=>?_
 have eq:=f3 _ _ qa eq
 ext
 refine zh5 h3 fun m' i' c' S4 hm' hi' h4 f4=>?_
 have eq:=f4 _ _ qa eq
 clear h2 f3 h3 f4
 ext
 refine zfW rfl fun b hb=>?_
 obtain ⟨h5,_,ba,_,k5,eb⟩:=zbL (o:=.lst [.str m,.bl c,.str i]) h4 Fr.refl hb
 have bl:=(h4.fresh hb).2
 have bq:q≠b:=fun e=>by rw [← e,eq] at hb;cases hb
 have eq:=k5 _ _ eq
 generalize DL.put S4 b _=S5 at h5 eb eq ⊢
 clear k5 h4 hb
 ext
 refine zbf (fun n env S'=>∃ d0 d1 d2 x7 x8,env=[some (.rol (ns.map D.int)),some (.ref a),some (.ref q),none,some (.tup [.str m,.bl c,.str i]),some (.tup [.str m',.bl c',.str i']),some (.ref b),x7,x8,none,none,none,none,none,none,none,none,none]∧StA ns a l S'∧S' q=some (.lst (us.map D.int))∧S' b=some (.lst [d0,d1,d2])∧Kd S' d0∧Kd S' d1∧Kd S' d2) _ 0 ⟨_,_,_,_,_,rfl,h5,eq,eb,⟨_,rfl⟩,⟨_,rfl⟩,⟨_,rfl⟩⟩ ?_ ?_
 ·clear h5 eq eb
  rintro n y _ S6 hy ⟨d0,d1,d2,x7,x8,rfl,h6,eq,eb,g0,g1,g2⟩ nx hnx
  rw [List.getElem?_map] at hy
  cases eu:us[n]? with
  | none=>rw [eu] at hy;cases hy
  | some u=>
  rw [eu] at hy
  obtain rfl:D.int u=y:=by simpa using hy
  have hu:=uo u (List.mem_of_getElem? eu)
  refine ⟨eq,?_⟩
  ext
  refine zdJ (fun c3=>?_) (fun c3=>?_)
  rotate_left
  ·ext
   exact hnx _ _ ⟨_,_,_,_,_,rfl,h6,eq,eb,g0,g1,g2⟩
  ext
  with_reducible refine zb4 (szl (by simp)) fun w hw=>?_
  obtain ⟨h7,_,wa,_,k7,ew⟩:=zbL (o:=.lst [.str "once"]) h6 Fr.refl hw
  generalize DL.put S6 w _=S7 at h7 k7 ew ⊢
  ext
  with_reducible refine zb4 (szl (by simp)) fun z hz=>?_
  obtain ⟨h8,_,za,_,k8,ez⟩:=zbL (o:=.lst (ziK w)) h7 Fr.refl hz
  have k68:Kp S6 (DL.put S7 z (.lst (ziK w))):=fun c ob e=>k8 _ _ (k7 _ _ e)
  have ew:=k8 _ _ ew
  show zmH _ _ _ _ (DL.put S7 z (.lst (ziK w)))
  generalize DL.put S7 z _=S8 at h8 k68 ew ez ⊢
  ext
  refine zaH h8 (by decide) (by decide +kernel) fun k S9 c0 c1 h9 f9=>?_
  have ez:=f9 _ _ za ez
  have ew:=f9 _ _ wa ew
  have eq:=f9 _ _ qa (k68 _ _ eq)
  have eb:=f9 _ _ ba (k68 _ _ eb)
  have g0:=(g0.kp k68).fr h9 f9
  have g1:=(g1.kp k68).fr h9 f9
  have g2:=(g2.kp k68).fr h9 f9
  ext
  refine zmO ez ew c0 c1 fun v hv=>?_
  ext
  have h10:=fun ys=>h9.wr (o:=.lst ys) ba bl
  obtain rfl | rfl | rfl:u=0 ∨ u=1 ∨ u=2:=by omega
  ·refine ziP eb (show ixN 3 0=some 0 from rfl) ?_
   exact hnx _ _ ⟨v,d1,d2,_,_,rfl,h10 _,(zaz bq).trans eq,zai,hv.putL eb,g1.putL eb,g2.putL eb⟩
  ·refine ziP eb (show ixN 3 1=some 1 from rfl) ?_
   exact hnx _ _ ⟨d0,v,d2,_,_,rfl,h10 _,(zaz bq).trans eq,zai,g0.putL eb,hv.putL eb,g2.putL eb⟩
  ·refine ziP eb (show ixN 3 2=some 2 from rfl) ?_
   exact hnx _ _ ⟨d0,d1,v,_,_,rfl,h10 _,(zaz bq).trans eq,zai,g0.putL eb,g1.putL eb,hv.putL eb⟩
 ·clear h5 eq eb
  rintro _ S6 ⟨d0,d1,d2,x7,x8,rfl,h6,eq,eb,g0,g1,g2⟩
  refine ⟨eq,?_⟩
  ext
  refine zin eb g0 g1 g2 fun S7 k7=>?_
  have h7:=h6.kp k7
  have eb:=k7 _ _ eb
  have g0:=g0.kp k7
  have g1:=g1.kp k7
  have g2:=g2.kp k7
  clear eq h6 k7
  walk_at "dmn"
  dsimp only
  refine zgI (fun env S'=>env=[some (.rol (ns.map D.int)),some (.ref a),some (.ref q),none,some (.tup [.str m,.bl c,.str i]),some (.tup [.str m',.bl c',.str i']),some (.ref b),x7,x8,some (zmf (zaS d0 d1 d2)),none,none,none,none,none,none,none,none]∧StA ns a l S'∧S' b=some (.lst [d0,d1,d2])∧Kd S' d0∧Kd S' d1∧Kd S' d2) ?_ ?_;rotate_left
  ·intro nx hnx
   cases hfo:zaS d0 d1 d2 with
   | some z=>
    rw [hfo] at hnx
    show mIf _ _ _ _ _ _
    unfold zmf
    ext
    exact hnx _ _ ⟨rfl,h7,eb,g0,g1,g2⟩
   | none=>
    rw [hfo] at hnx
    unfold zmf
    ext
    refine zgN R X eb g0 g1 g2 (fun z S8 hz=>by rw [hfo] at hz;cases hz) fun m2 c2 i2 S8 _ e1 e2 e3 k8=>?_
    subst e1 e2 e3
    have eb:=k8 _ _ eb
    ext
    with_reducible refine zaE (szl (by simp)) ?_
    ext
    refine Rq.eq (u:=fun b=>!b) (Rq.tup (.cons (Rq.pl (Pl.str _) (by decide)) (.cons (Rq.pl (Pl.str _) (by decide)) (.cons (Rq.pl (Pl.bl _) (by decide)) (.cons (Rq.pl (Pl.str _) (by decide)) .nil))))) ?_
    ext
    exact hnx _ _ ⟨rfl,h7.kp k8,eb,g0.kp k8,g1.kp k8,g2.kp k8⟩
  rintro _ S8 ⟨rfl,h8,eb,g0,g1,g2⟩
  clear h7
  walk_at "dmn"
  refine zgI (fun env S'=>env=[some (.rol (ns.map D.int)),some (.ref a),some (.ref q),none,some (.tup [.str m,.bl c,.str i]),some (.tup [.str m',.bl c',.str i']),some (.ref b),x7,x8,some (zmf (zaS d0 d1 d2)),none,none,none,none,none,none,none,none]) ?_ ?_;rotate_left
  ·intro nx hnx
   cases hfo:zaS d0 d1 d2 with
   | none=>
    rw [hfo] at hnx
    unfold zmf
    ext
    exact hnx _ _ rfl
   | some z=>
    rw [hfo] at hnx
    unfold zmf
    ext
    refine zgN R X eb g0 g1 g2 (fun z2 S9 hz k9=>?_) fun m2 c2 i2 S9 hz=>by rw [hfo] at hz;cases hz
    rw [hfo] at hz
    cases hz
    ext
    with_reducible refine zaE (szl (by simp)) ?_
    ext
    refine Rq.eq (u:=fun b=>!b) (Rq.tup (.cons (Rq.pl (Pl.str _) (by decide)) (.cons (Rq.pl (Pl.str _) (by decide)) (.cons (Rq.pl (Pl.bl _) (by decide)) (.cons (Rq.pl (Pl.bl _) (by decide)) .nil))))) ?_
    ext
    exact hnx _ _ rfl
  rintro _ S9 rfl
  generalize some (zmf (zaS d0 d1 d2))=x9
  clear eb g0 g1 g2 h8
  ext
  intro ra hra
  refine zex (m:=m) (c:=c) (i:=i) R hm hi hra fun S10 k10 e10=>⟨rfl,?_⟩
  ext
  intro rb hrb
  refine zex (m:=m') (c:=c') (i:=i') R hm' hi' hrb fun S11 k11 e11=>⟨rfl,?_⟩
  have e10:=k11 _ _ e10
  ext
  refine zpp e10 e11 (zhd R e10 e11 ⟨_,rfl,?_⟩)
  ext
  refine zu6 (u:=fun b=>b) ?_
  ext
  refine zpp e10 e10 (zhd R e10 e10 ⟨_,rfl,?_⟩)
  rw [decide_eq_true ⟨rfl,rfl,rfl⟩]
  ext
  with_reducible refine zgH (by omega) (by omega) ?_
  ext
  refine zbf (fun n env S'=>∃ x3 x12 x13 x14 x15 x16 x17,env=[some (.rol (ns.map D.int)),some (.ref a),some (.ref q),x3,some (.tup [.str m,.bl c,.str i]),some (.tup [.str m',.bl c',.str i']),some (.ref b),x7,x8,x9,some (.ref ra),some (.ref rb),x12,x13,x14,x15,x16,x17]) _ 0 ⟨_,_,_,_,_,_,_,rfl⟩ ?_ ?_
  ·rintro n y _ S12 hy ⟨x3,x12,x13,x14,x15,x16,x17,rfl⟩ nx hnx
   obtain ⟨rfl,hi2⟩:=zfv hy
   refine ⟨trivial,?_⟩
   ext
   refine zis R fun rl as S13 hrl hL k13=>?_
   have el:=hL.ls
   have al:=hL.len
   ext
   with_reducible refine zb4 (szl (by simp)) fun pb hpb=>?_
   have rp:rl≠pb:=fun z=>by rw [← z,el] at hpb;cases hpb
   have k14:Kp S13 (DL.put S13 pb (.lst [])):=Kp.refl.new hpb
   have epb:DL.put S13 pb (.lst []) pb=some (.lst ((r12.take 0).map trD)):=zai
   generalize DL.put S13 pb _=S14 at k14 epb ⊢
   have el:=k14 _ _ el
   walk_at "dmn"
   dsimp only
   refine zgI (fun env S'=>∃ x14 x15 x16,env=[some (.rol (ns.map D.int)),some (.ref a),some (.ref q),some (.int (n:Nat)),some (.tup [.str m,.bl c,.str i]),some (.tup [.str m',.bl c',.str i']),some (.ref b),x7,x8,x9,some (.ref ra),some (.ref rb),some (.ref rl),some (.ref pb),x14,x15,x16,x17]∧S' pb=some (.lst (r12.map trD))∧Fr pb S14 S') ?_ ?_;rotate_left
   ·intro nx2 hnx2
    ext
    with_reducible refine zb4 (szl (by simp)) fun z1 hz1=>?_
    have p1:pb≠z1:=fun z=>by rw [← z,epb] at hz1;cases hz1
    have f1:Fr pb S14 (DL.put S14 z1 (.lst [.str "push", .str "pull", .str "level"])):=Fr.new Fr.refl hz1
    have e1:DL.put S14 z1 (.lst [.str "push", .str "pull", .str "level"]) z1=some (.lst [.str "push", .str "pull", .str "level"]):=zai
    have epb:=(zaz (o:=.lst [.str "push", .str "pull", .str "level"]) p1).trans epb
    generalize DL.put S14 z1 _=S15 at f1 e1 epb ⊢
    ext
    refine zbf (fun i0 env S'=>∃ x14 x15 x16,env=[some (.rol (ns.map D.int)),some (.ref a),some (.ref q),some (.int (n:Nat)),some (.tup [.str m,.bl c,.str i]),some (.tup [.str m',.bl c',.str i']),some (.ref b),x7,x8,x9,some (.ref ra),some (.ref rb),some (.ref rl),some (.ref pb),x14,x15,x16,x17]∧S' pb=some (.lst ((r12.take (4 * i0)).map trD))∧Fr pb S14 S'∧S' z1=some (.lst [.str "push", .str "pull", .str "level"])) _ 0 ⟨_,_,_,rfl,epb,f1,e1⟩ ?_ ?_
    ·clear epb f1 e1
     rintro i1 y _ S16 hy ⟨x14,x15,x16,rfl,epb,f16,e1⟩ nx3 hnx3
     rw [Nat.zero_add] at epb hnx3
     obtain ⟨am,ea,rfl⟩:∃ am,(["push", "pull", "level"]:List Str)[i1]? = some am∧y = .str am:=by
      have hj:i1 < 3:=(List.getElem?_eq_some_iff.mp hy).1
      match i1,hj with
      | 0,_=>cases hy;exact ⟨_,rfl,rfl⟩
      | 1,_=>cases hy;exact ⟨_,rfl,rfl⟩
      | 2,_=>cases hy;exact ⟨_,rfl,rfl⟩
     refine ⟨e1,?_⟩
     ext
     with_reducible refine zb4 (szl (by simp)) fun z2 hz2=>?_
     have p2:pb≠z2:=fun z=>by rw [← z,epb] at hz2;cases hz2
     have n12:z1≠z2:=fun z=>by rw [← z,e1] at hz2;cases hz2
     have f2:Fr pb S14 (DL.put S16 z2 (.lst [.bl false,.bl true])):=Fr.new f16 hz2
     have e2:DL.put S16 z2 (.lst [.bl false,.bl true]) z2=some (.lst [.bl false,.bl true]):=zai
     have e1:=(zaz (o:=.lst [.bl false,.bl true]) n12).trans e1
     have epb:=(zaz (o:=.lst [.bl false,.bl true]) p2).trans epb
     generalize DL.put S16 z2 _=S17 at f2 e1 e2 epb ⊢
     clear f16
     ext
     refine zbf (fun j env S'=>∃ x15 x16,env=[some (.rol (ns.map D.int)),some (.ref a),some (.ref q),some (.int (n:Nat)),some (.tup [.str m,.bl c,.str i]),some (.tup [.str m',.bl c',.str i']),some (.ref b),x7,x8,x9,some (.ref ra),some (.ref rb),some (.ref rl),some (.ref pb),some (.str am),x15,x16,x17]∧S' pb=some (.lst ((r12.take (4 * i1+2 * j)).map trD))∧Fr pb S14 S'∧S' z1=some (.lst [.str "push", .str "pull", .str "level"])∧S' z2=some (.lst [.bl false,.bl true])) _ 0 ⟨_,_,rfl,epb,f2,e1,e2⟩ ?_ ?_
     ·clear epb f2 e1 e2
      rintro j1 y _ S18 hy ⟨x15,x16,rfl,epb,f18,e1,e2⟩ nx4 hnx4
      rw [Nat.zero_add] at epb hnx4
      obtain ⟨bm,ebm,rfl⟩:∃ bm,[false,true][j1]? = some bm∧y = .bl bm:=by
       have hj:j1 < 2:=(List.getElem?_eq_some_iff.mp hy).1
       match j1,hj with
       | 0,_=>cases hy;exact ⟨false,rfl,rfl⟩
       | 1,_=>cases hy;exact ⟨true,rfl,rfl⟩
      refine ⟨e2,?_⟩
      ext
      with_reducible refine zb4 (szl (by simp)) fun z3 hz3=>?_
      have p3:pb≠z3:=fun z=>by rw [← z,epb] at hz3;cases hz3
      have n13:z1≠z3:=fun z=>by rw [← z,e1] at hz3;cases hz3
      have n23:z2≠z3:=fun z=>by rw [← z,e2] at hz3;cases hz3
      have f3:Fr pb S14 (DL.put S18 z3 (.lst [.str "once", .str "later"])):=Fr.new f18 hz3
      have e3:DL.put S18 z3 (.lst [.str "once", .str "later"]) z3=some (.lst [.str "once", .str "later"]):=zai
      have e1:=(zaz (o:=.lst [.str "once", .str "later"]) n13).trans e1
      have e2:=(zaz (o:=.lst [.str "once", .str "later"]) n23).trans e2
      have epb:=(zaz (o:=.lst [.str "once", .str "later"]) p3).trans epb
      generalize DL.put S18 z3 _=S19 at f3 e1 e2 e3 epb ⊢
      clear f18
      ext
      refine zbf (fun k env S'=>∃ x16,env=[some (.rol (ns.map D.int)),some (.ref a),some (.ref q),some (.int (n:Nat)),some (.tup [.str m,.bl c,.str i]),some (.tup [.str m',.bl c',.str i']),some (.ref b),x7,x8,x9,some (.ref ra),some (.ref rb),some (.ref rl),some (.ref pb),some (.str am),some (.bl bm),x16,x17]∧S' pb=some (.lst ((r12.take (4 * i1+2 * j1+k)).map trD))∧Fr pb S14 S'∧S' z1=some (.lst [.str "push", .str "pull", .str "level"])∧S' z2=some (.lst [.bl false,.bl true])∧S' z3=some (.lst [.str "once", .str "later"])) _ 0 ⟨_,rfl,epb,f3,e1,e2,e3⟩ ?_ ?_
      ·clear epb f3 e1 e2 e3
       rintro k1 y _ S20 hy ⟨x16,rfl,epb,f20,e1,e2,e3⟩ nx5 hnx5
       rw [Nat.zero_add] at epb hnx5
       obtain ⟨cm,ec,rfl⟩:∃ cm,(["once", "later"]:List Str)[k1]? = some cm∧y = .str cm:=by
        have hj:k1 < 2:=(List.getElem?_eq_some_iff.mp hy).1
        match k1,hj with
        | 0,_=>cases hy;exact ⟨_,rfl,rfl⟩
        | 1,_=>cases hy;exact ⟨_,rfl,rfl⟩
       have hr:=zma ea ebm ec
       refine ⟨e3,?_⟩
       ext
       with_reducible refine zaE (szl (by simp)) ?_
       ext
       with_reducible refine s_app epb (zfr (by rw [List.length_map,List.length_take,zhC];omega)) ?_
       ext
       refine hnx5 _ _ ⟨_,rfl,?_,Fr.put f20,(zaz p1.symm).trans e1,(zaz p2.symm).trans e2,(zaz p3.symm).trans e3⟩
       rw [zai,← Nat.add_assoc,List.take_succ,hr,List.map_append]
       rfl
      ·clear epb f3 e1 e2 e3
       rintro _ S20 ⟨x16,rfl,epb,f20,e1,e2,e3⟩
       refine ⟨e3,?_⟩
       exact hnx4 _ _ ⟨_,_,rfl,epb,f20,e1,e2⟩
     ·clear epb f2 e1 e2
      rintro _ S18 ⟨x15,x16,rfl,epb,f18,e1,e2⟩
      refine ⟨e2,?_⟩
      exact hnx3 _ _ ⟨_,_,_,rfl,epb,f18,e1⟩
    ·clear epb f1 e1
     rintro _ S16 ⟨x14,x15,x16,rfl,epb,f16,e1⟩
     refine ⟨e1,?_⟩
     exact hnx2 _ _ ⟨_,_,_,rfl,epb,f16⟩
   rintro _ S15 ⟨x14,x15,x16,rfl,epb,f15⟩
   have el:=f15 _ _ rp el
   have hat:∀ (j:Nat) (o:Addr),as[j]? = some o->∃ r,r12[j]? = some r∧S15 o=some (ztV K r):=fun j o ho=>by
    obtain ⟨r,h1,h2,_⟩:=hL.at_ j o ho
    have hop:o≠pb:=fun z=>by rw [z,hpb] at h2;cases h2
    exact ⟨r,h1,f15 _ _ hop (k14 _ _ h2)⟩
   ext
   intro q2 hq2
   have k16:Kp S15 (DL.put S15 q2 (.lst [])):=Kp.refl.new hq2
   have eq2:DL.put S15 q2 (.lst []) q2=some (.lst []):=zai
   generalize DL.put S15 q2 _=S16 at k16 eq2 ⊢
   refine zmD (fun j ys S'=>ys=(r12.take j).map trD∧Kp S15 S') _ eq2 ⟨rfl,k16⟩ ?_ ?_
   ·rintro j1 y S17 ys hy ey ⟨rfl,k17⟩ nx3 hnx3
    rw [List.getElem?_map] at hy
    cases eo:as[j1]? with
    | none=>rw [eo] at hy;cases hy
    | some o=>
    rw [eo] at hy
    obtain rfl:D.ref o=y:=by simpa using hy
    obtain ⟨r,hr,er⟩:=hat j1 o eo
    have er:=k17 _ _ er
    unfold ztV at er
    refine ⟨k17 _ _ el,?_⟩
    refine zeg ?_
    ext
    with_reducible refine zaE (szl (by simp)) ?_
    refine zjV ey (zfr (by rw [List.length_map,List.length_take,zhC];omega)) ?_
    refine hnx3 _ _ zai ⟨?_,k17.wr hq2⟩
    rw [List.take_succ,hr,List.map_append]
    rfl
   ·rintro S17 ys ey ⟨rfl,k17⟩
    refine ⟨k17 _ _ el,?_⟩
    have epb:=k17 _ _ epb
    have el:=k17 _ _ el
    have e12:r12.take (as.map D.ref).length=r12:=by rw [List.length_map,al,← zhC,List.take_length]
    rw [e12] at ey
    ext
    refine Rq.eq (u:=fun b=>!b) (Rq.lst (k:=2) ey epb (fun d hd=>by
     obtain ⟨z,_,rfl⟩:=List.mem_map.mp hd
     exact zt0 z) (by decide)) ?_
    ext
    with_reducible refine s_app el (zfr (by rw [List.length_map];omega)) ?_
    ext
    exact hnx _ _ ⟨_,_,_,_,_,_,_,rfl⟩
  ·rintro _ S12 ⟨x3,x12,x13,x14,x15,x16,x17,rfl⟩
   refine ⟨trivial,?_⟩
   ext
   exact hQ _
theorem law_ok (B:FBc K) (F:FPr K) (R:FRu K) (X:FEr K) {ns:List Int} (hn:ns.length≤63) (hQ:∀ S',Q (.bl true) S'):sp_law K [.rol (ns.map D.int)] S Q E:=by
 refine zaT rfl ?_
 unfold zoD
 ext
 refine zhR B F hn fun S1=>?_
 ext
 refine zg1 R X hn fun S2=>?_
 exact hQ S2
end
abbrev TT (w:World) (K:PySem.W.Frag) (mg:Str->Option Value):Prop:=Tu fac fns zcW PG_.main.file zc4 tabs eqs gts prs sqs nos isl w K mg
theorem fbc {w:World} {K:PySem.W.Frag} {mg:Str->Option Value} (T:TT w K mg):FBc K:=⟨⟨T.cls 69,T.noat 70⟩,⟨T.cls 69,T.noat 71⟩,⟨T.cls 69,T.noat 72⟩,⟨T.cls 69,T.noat 73⟩⟩
theorem fpr {w:World} {K:PySem.W.Frag} {mg:Str->Option Value} (T:TT w K mg):FPr K:=⟨⟨T.cls 74,T.noat 75⟩,⟨T.cls 74,T.noat 76⟩,⟨T.cls 74,T.noat 77⟩,⟨T.cls 74,T.noat 78⟩⟩
theorem fru {w:World} {K:PySem.W.Frag} {mg:Str->Option Value} (T:TT w K mg):FRu K:=⟨⟨T.cls 79,T.noat 80⟩,⟨T.cls 79,T.noat 81⟩,⟨T.cls 79,T.noat 82⟩⟩
theorem xfer {w:World} {K:PySem.W.Frag} {mg:Str->Option Value} (T:TT w K mg):FEr K:=⟨T.exm 83⟩
end K09
set_option maxHeartbeats 0
theorem PySem.Challenge.cw_toldonward_k09_deeds_holds : PySem.Challenge.rw_toldonward_k09_deeds.Holds := by
 refine K09.ends ?_
 refine DL.walk_of (l:=PySem.Challenge.rw_toldonward_k09_deeds) (n:=63) (k:=22) (x := "_law_script") rfl (by decide) (by kernel_rfl) ⟨rfl,by decide,by decide⟩ ?F
 intro w mg fa h Y G hmg0
 obtain ⟨K,KX,c⟩:=Y
 have hmg:mg ("law" : PySem.Str)=some (.ref fa):=by
  have e:(HandSHeadRun.topDef (OpenLaw.row PySem.Challenge.rw_toldonward_k09_deeds).prog 44).name=("law" : PySem.Str):=by kernel_rfl
  rw [← e]
  exact hmg0
 obtain ⟨T,fd,hb,hF⟩:=K09.facts (w:=w) KX G hmg c
 exact ⟨K,fd,K09.sp_law K,KX,hb,fun ns hn S Q E hQ=>K09.law_ok (K09.fbc (w:=w) T) (K09.fpr (w:=w) T) (K09.fru (w:=w) T) (K09.xfer (w:=w) T) hn hQ,fun base=>hF base⟩
