import PyProof.Rows.All
import Wide.All
import OpenK.AllK
import Wide.FinOn
import HandS.ForMost
import HandS.ForExc
import HandS.Walk
import HandS.TupAny
import HandS.Wide
import HandS.SetKeys
import KE.KDictKeyed
import HandS.Deep
import HandS.TupLe
import HandS.Style
import HandS.IsInst
import HandS.ReCall
import HandS.More
import HandS.Zip
import HandS.ExcInit
import HandS.ExcField
import HandS.TryMany
import HandS.Defaults
import HandS.WordsExc
import HandS.Comp
import HandS.DictComp
import KE.GoesEnumKw
import HandS.Head0
import HandS.Head1
import HandS.Head2
import HandS.HeadEnd
import HandS.HeadHook1
import HandS.HeadHook2
import KE.KSuper
import HandS.ReplaceDef
import HandS.List
import HandS.Strs
import HandS.Conv
import HandS.Iter
import HandS.TryOnly
import HandS.HeadHook3
import HandS.OwnEq
import PyProof.InstNe
import HandS.WideBits
import HandS.NoneIn
import PyProof.SeqRoads2
import HandS.SetFor
import HandS.MakeKwOnly
import HandS.CallSlots
import HandS.NamedTupGet
import HandS.Property
import HandS.HeadNt
import KE.KOpsOwn
import HandS.Small
import HandS.ExcIs
import PyProof.ExcBaseAll.ValueError
import KE.KListMore
import PyProof.Rows.SeqRoads
import HandS.Replace
import PyProof.Rows.SortStr
import PySem.Challenge.RW_toldonward_k79_healing_refusals
import KE.KStateDown
import Lean
set_option Elab.async false
set_option linter.all false
set_option maxRecDepth 100000
set_option maxHeartbeats 4000000
namespace DL
open PySem L2
inductive D where
 | non | bl (b:Bool) | int (i:Int) | str (x:Str) | tp (f:Bool) (xs:List D) | rol (xs:List D) | ref (a:Addr) | ty (n:String) | rod (ks:List (List Key)) (xs:List D)
inductive O where
 | lst (xs:List D) | dic (kvs:List (Key×D)) | dit (kvs:List (List Key×D)) | set (S:Key->Bool) (n:Nat) | ins (C:Addr) (fs:List (Str×D)) | din (ks:List D) (kvs:List (NestedKey×D))
abbrev Sto:=Addr->Option O
def put (S:Sto) (a:Addr) (o:O):Sto:=fun b=>if b=a then some o else S b
abbrev Slo:=List (Option D)
abbrev DQ:=D->Sto->Prop
structure Fin where
 nx:Slo->Sto->Prop
 rt:DQ
 bk:Slo->Sto->Prop:=fun _ _=>False
 ct:Slo->Sto->Prop:=fun _ _=>False
section
variable {κ:Type} [DecidableEq κ]
def valD (kvs:List (κ×D)) (k:κ):Option D:=(kvs.find? fun kv=>decide (kv.1=k)).map (·.2)
variable {K:PySem.W.Frag} {H:Hp} {ds:List (κ×D)} {vs:List (κ×V)}
end
open PySem PySem.Spec PyProof.Rows L2
abbrev SuW:Type:=Option (Str×Str×Arguments×FuncBody×Scope×Addr×Addr)
def suW (K:PySem.W.Frag) (f:Addr):SuW:=match K.lookup f with
 | some ⟨_,_,.func fd,_⟩=>some (fd.name,fd.qualname,fd.params,fd.body,fd.scope,fd.globals,fd.builtins)
 | _=>none
structure SuD where
 C:Str
 B:Str
 qual:Str
 params:Arguments
 body:List Stmt
 scope:Scope
def SuD.f (d:SuD) (K:PySem.W.Frag):Addr:=He.ma K (He.ga K d.C) "__init__"
def SuD.g (d:SuD) (K:PySem.W.Frag):Addr:=He.ma K (He.ga K d.B) "__init__"
def SuD.val (d:SuD):SuW:=some ("__init__", d.qual,d.params,.stmts d.body,d.scope,mainGlobals,builtinsNs)
def zo8 (K:PySem.W.Frag) (cc C:Addr):Bool:=match K.lookup cc with
 | some ⟨_,_,.cell (some (.ref a)),_⟩=>decide (a=C)
 | _=>false
def zoW (file:Str) (K:PySem.W.Frag) (cda:Addr):Bool:=match K.lookup cda with
 | some ⟨_,_,.fields vs,_⟩=>(match (vs[2]?:Option Value) with
  | some (.str z _)=>decide (z=file)
  | _=>false)
 | _=>false
def zr9 (file:Str) (K:PySem.W.Frag) (C:Addr) (q:Str) (f:Addr):Bool:=match K.lookup f with
 | some ⟨_,_,.func fd,_⟩=>(match fd.closure,fd.code,fd.defaults with
  | [(x,cc)],.ref cda,.none=>decide (x = "__class__") && (zo8 K cc C && (PySem.W.codeIn K (.ref cda) q && zoW file K cda))
  | _,_,_=>false)
 | _=>false
def SuD.ok (file:Str) (K:PySem.W.Frag) (d:SuD):Bool:=PySem.W.keepIn K (.ref (d.f K)) && (zr9 file K (He.ga K d.C) d.qual (d.f K) && ((PySem.W.clsIn K (He.ga K d.C)).isSome && (decide (PySem.W.mroIn K (He.ga K d.C) (.ref (He.ga K d.C))=some true) &&
 (He.eqO (PySem.W.nsIn K cStatics "thirdparty.any") (some none) && (He.eqO (PySem.W.ks_superIn K (He.ga K d.C) (He.ga K d.C) "__init__") (some (some (.ref (d.g K)))) && (PySem.W.isFn K (.ref (d.g K)) && PySem.W.fnIn K (d.g K)))))))
structure zwU (file:Str) (K:PySem.W.Frag) (d:SuD):Prop where
 ex:∃ (oc:Value) (od:Option Addr) (kV doc pm:Value) (an:Option Addr) (ct:Value) (osl:Array (Option Value)) (cda cc:Addr) (c1:Value) (c2:Option Addr) (c3:Array (Option Value)) (x1:Value) (x2:Option Addr) (x3:Array (Option Value)) (fvs:Array Value) (tf:Tok) (cd:ClassData),
  K.lookup (d.f K)=some ⟨oc,od,.func (PySem.W.ksFn "__init__" d.qual d.params d.body d.scope .none kV doc pm an (.ref cda) ct cc),osl⟩∧PySem.W.codeIn K (.ref cda) d.qual=true∧K.lookup cda=some ⟨c1,c2,.fields fvs,c3⟩∧fvs[2]? = some (.str file tf)∧
  K.lookup cc=some ⟨x1,x2,.cell (some (.ref (He.ga K d.C))),x3⟩∧PySem.W.clsIn K (He.ga K d.C)=some cd
 kp:PySem.W.keepIn K (.ref (d.f K))=true
 sub:PySem.W.mroIn K (He.ga K d.C) (.ref (He.ga K d.C))=some true
 st:PySem.W.nsIn K cStatics "thirdparty.any" = some none
 hm:PySem.W.ks_superIn K (He.ga K d.C) (He.ga K d.C) "__init__" = some (some (.ref (d.g K)))
 ht:PySem.W.typeIn K (.ref (d.g K))=some (.type "function")
 hf:PySem.W.fnIn K (d.g K)=true
theorem zmz {K:PySem.W.Frag} {cc C:Addr} (h:zo8 K cc C=true):∃ x1 x2 x3,K.lookup cc=some ⟨x1,x2,.cell (some (.ref C)),x3⟩:=by
 unfold zo8 at h
 split at h
 ·rename_i x1 x2 a x3 e
  have:=of_decide_eq_true h
  subst this
  exact ⟨_,_,_,e⟩
 ·cases h
theorem zmv {file:Str} {K:PySem.W.Frag} {cda:Addr} (h:zoW file K cda=true):∃ c1 c2 c3 vs tf,K.lookup cda=some ⟨c1,c2,.fields vs,c3⟩∧vs[2]? = some (.str file tf):=by
 unfold zoW at h
 split at h
 ·rename_i c1 c2 vs c3 e
  split at h
  ·rename_i z tf e2
   have:=of_decide_eq_true h
   subst this
   exact ⟨_,_,_,_,_,e,e2⟩
  ·cases h
 ·cases h
theorem SuD.get {file:Str} {K:PySem.W.Frag} {d:SuD} (e:suW K (d.f K)=d.val) (c:d.ok file K=true):zwU file K d:=by
 obtain ⟨k1,c⟩:=He.ba c
 obtain ⟨k2,c⟩:=He.ba c
 obtain ⟨k3,c⟩:=He.ba c
 obtain ⟨k4,c⟩:=He.ba c
 obtain ⟨k5,c⟩:=He.ba c
 obtain ⟨k6,c⟩:=He.ba c
 obtain ⟨k7,k8⟩:=He.ba c
 refine ⟨?_,k1,of_decide_eq_true k4,He.eqO_ok k5,He.eqO_ok k6,beq_iff_eq.mp k7,k8⟩
 obtain ⟨cd,hcd⟩:=Option.isSome_iff_exists.mp k3
 unfold zr9 at k2
 unfold suW SuD.val at e
 split at k2
 ·rename_i oc od fd osl q
  rw [q] at e
  obtain ⟨n1,n2,n3,n4,n5,n6,n7,n8,n9,n10,n11,n12,n13,n14,n15⟩:=fd
  simp only [Option.some.injEq,Prod.mk.injEq] at e
  obtain ⟨h1,h2,h3,h4,h5,h6,h8⟩:=e
  subst h1 h2 h3 h4 h5 h6 h8
  dsimp only at k2
  split at k2
  ·rename_i x cc cda
   obtain ⟨j1,k2⟩:=He.ba k2
   obtain ⟨j2,k2⟩:=He.ba k2
   obtain ⟨j3,j4⟩:=He.ba k2
   have jx:=of_decide_eq_true j1
   subst jx
   obtain ⟨x1,x2,x3,ex⟩:=zmz j2
   obtain ⟨c1,c2,c3,vs,tf,ef,ev⟩:=zmv j4
   exact ⟨_,_,_,_,_,_,_,_,_,_,_,_,_,_,_,_,_,_,_,q,j3,ef,ev,ex,hcd⟩
  ·cases k2
 ·cases k2
abbrev AlS:Type:=He.AlD×Bool×List SuW
def zpg (fa:List He.Fa) (fn:List He.DefD) (su:List SuD) (file:Str) (K:PySem.W.Frag):AlS:=(He.obsD fa fn K,su.all fun d=>d.ok file K,su.map fun d=>suW K (d.f K))
def zpf (fn:List He.DefD) (su:List SuD):AlS:=(He.valD fn,true,su.map SuD.val)
def zud (K:PySem.W.Frag) (C:Addr):Bool:=(match K.lookup C with
 | some ⟨.type t,_,.cls cd,sl⟩=>(match cd.mro,sl.toList with
  | .ref C' :: bm,[_,_,_,_,some (.builtin n),_]=>decide (t = "type") && (decide (C'=C) && (decide (n = "ValueError.__new__") && (!cd.hasDel && (cd.hasDict && PySem.HandSPX.refsVE bm))))
  | _,_=>false)
 | _=>false) && (He.eqO (PySem.W.findIn K (.ref C) "__setattr__") (some (some (.builtin "object.__setattr__"))) && (decide (PySem.W.subIn K (.ref C) (.type "BaseException")=some true) && (decide (PySem.W.typeIn K (.ref C)=some (.type "type")) && PySem.W.keepIn K (.ref C))))
def zwQ (K:PySem.W.Frag) (x:Str):Bool:=zud K (He.ga K x) && xfB K (He.ga K x)
abbrev AlX:Type:=AlS×Bool
def obsX (fa:List He.Fa) (fn:List He.DefD) (su:List SuD) (file:Str) (ex:List Str) (K:PySem.W.Frag):AlX:=(zpg fa fn su file K,ex.all fun x=>zwQ K x)
def valX (fn:List He.DefD) (su:List SuD):AlX:=(zpf fn su,true)
class St (g:Prop) (n:outParam Prop):Prop where
 go:n->g
theorem zlz {g n:Prop} [h:St g n] (q:n):g:=h.go q
def frD (g:Addr->Option Obj):Nat->List Addr->List Addr
 | 0,l=>l
 | n+1,l=>l++frD g n (l.flatMap fun a=>match g a with
  | some o=>He.refsD o
  | none=>[])
def kFr (n:Nat) (g:Addr->Option Obj):PySem.W.Frag:=He.frG g (frD g n [mainGlobals]++[cStatics])
abbrev zfr:Type:=Str×List (Str×Int)
def zvk (K:PySem.W.Frag) (t:zfr):Bool:=t.2.all fun q=>match PySem.W.nsIn K (He.ga K t.1) q.1 with
 | some (some (.int j _))=>decide (j=q.2)
 | _=>false
abbrev AlG:Type:=AlX×Bool×List (Option (List (Option (Str×Int))))
def obsG (fa:List He.Fa) (fn:List He.DefD) (su:List SuD) (file:Str) (ex:List Str) (tb:List zfr) (K:PySem.W.Frag):AlG:=(obsX fa fn su file ex K,tb.all (zvk K),tb.map fun t=>He.dicW K (He.ga K t.1))
def zpu (fn:List He.DefD) (su:List SuD) (tb:List zfr) (w:World):AlG:=(valX fn su,true,tb.map fun t=>some (He.keysIn w.params (t.2.map (·.1))))
def neB (K:PySem.W.Frag) (C:Addr):Bool:=(match K.lookup C with
 | some ⟨.type t,_,.cls cd,sl⟩=>(match cd.mro,sl.toList with
  | [.ref C',.type o],[_,_,_,_,some (.builtin n),_]=>decide (t = "type") && (decide (C'=C) && (decide (o = "object") && (decide (n = "object.__new__") && (!cd.hasDel && (PySem.W.nsOkIn K cd.ns && (He.eqO (PySem.W.nsIn K cd.ns "__eq__") (some (some (.ref (He.ma K C "__eq__")))) && He.eqO (PySem.W.nsIn K cd.ns "__ne__") (some none)))))))
  | _,_=>false)
 | _=>false) && (match K.lookup (He.ma K C "__eq__") with
 | some ⟨.type t,_,_,_⟩=>decide (t = "function")
 | _=>false)
def isB (K:PySem.W.Frag) (C:Addr):Bool:=He.eqO (PySem.W.findIn K (.ref C) "__class__") (some (some (.builtin "object.__class__"))) && (He.eqO (PySem.W.specialIn K (.builtin "object.__class__") "__get__") (some (some (.builtin "getset_descriptor.__get__"))) &&
 (decide (PySem.W.takesIn K (.builtin "object.__class__")=some true) && decide (PySem.W.mroIn K C (.type "object")=some true)))
abbrev AlE:Type:=AlG×Bool
def obsE (fa:List He.Fa) (fn:List He.DefD) (su:List SuD) (file:Str) (ex:List Str) (tb:List zfr) (eq:List Str) (K:PySem.W.Frag):AlE:=(obsG fa fn su file ex tb K,eq.all fun x=>neB K (He.ga K x) && isB K (He.ga K x))
def valE (fn:List He.DefD) (su:List SuD) (tb:List zfr) (w:World):AlE:=(zpu fn su tb w,true)
def zvl:Value->Option Str
 | .str z _=>some z
 | _=>none
def zms (K:PySem.W.Frag) (t:Str×List Str):Bool:=(match K.lookup (He.ga K t.1) with
 | some ⟨.type c,_,.seq its _,_⟩=>decide (c = "tuple") && (decide (its.toList.map zvl=t.2.map some) && (decide (its.size≤100) && SeqAt.shaped (.tuple (t.2.map PyData.str))))
 | _=>false)
abbrev zim:Type:=Str×List Str
abbrev AlT:Type:=AlE×Bool
def obsT (fa:List He.Fa) (fn:List He.DefD) (su:List SuD) (file:Str) (ex:List Str) (tb:List zfr) (eq:List Str) (gt:List zim) (K:PySem.W.Frag):AlT:=(obsE fa fn su file ex tb eq K,gt.all (zms K))
def valT (fn:List He.DefD) (su:List SuD) (tb:List zfr) (w:World):AlT:=(valE fn su tb w,true)
structure PrD where
 C:Str
 f:Str
 qual:Str
 params:Arguments
 body:List Stmt
 scope:Scope
def PrD.p (d:PrD) (K:PySem.W.Frag):Addr:=He.ma K (He.ga K d.C) d.f
def PrD.g (d:PrD) (K:PySem.W.Frag):Addr:=He5.wf K (He.ga K d.C) "property" d.f
def PrD.da (d:PrD):He5.DefA:=⟨d.g,d.f,d.qual,d.params,d.body,d.scope,[],[]⟩
def zrg (K:PySem.W.Frag) (p:Addr):Bool:=match PySem.W.recIn K p "property" with
 | some (.ref _ :: _)=>true
 | _=>false
def PrD.ok (K:PySem.W.Frag) (d:PrD):Bool:=He.eqO (PySem.W.findIn K (.ref (He.ga K d.C)) d.f) (some (some (.ref (d.p K)))) && (He.eqO (PySem.W.specialIn K (.ref (d.p K)) "__get__") (some (some (.builtin "property.__get__"))) && (decide (PySem.W.takesIn K (.ref (d.p K))=some true) && (zrg K (d.p K) && d.da.ok K)))
theorem PrD.get {K:PySem.W.Frag} {d:PrD} (e:He5.fnA K (d.g K)=d.da.val) (c:d.ok K=true):PropOf K (He.ga K d.C) d.f (d.p K) (d.g K)∧∃ fd,FunD K d.f d.qual d.params d.body d.scope [] [] (d.g K) fd:=by
 obtain ⟨k1,c⟩:=He.ba c
 obtain ⟨k2,c⟩:=He.ba c
 obtain ⟨k3,c⟩:=He.ba c
 obtain ⟨k4,k5⟩:=He.ba c
 refine ⟨⟨He.eqO_ok k1,He.eqO_ok k2,of_decide_eq_true k3,?_⟩,He5.DefA.funD (d:=d.da) e k5⟩
 unfold zrg at k4
 split at k4
 ·rename_i f r e2
  refine ⟨r,?_⟩
  have:d.g K=f:=by
   unfold PrD.g He5.wf
   rw [show PySem.W.recIn K (He.ma K (He.ga K d.C) d.f) "property" = _ from e2]
  rw [this]
  exact e2
 ·cases k4
abbrev AlV:Type:=AlT×Bool×List He5.FnW
def zop (fa:List He.Fa) (fn:List He.DefD) (su:List SuD) (file:Str) (ex:List Str) (tb:List zfr) (eq:List Str) (gt:List zim) (pr:List PrD) (sq:List Str) (K:PySem.W.Frag):AlV:=(obsT fa fn su file ex tb eq gt K,(pr.all fun d=>d.ok K) && sq.all fun C=>PySem.W.noSeq K (He.ga K C),pr.map fun d=>He5.fnA K (d.g K))
def ziY (fn:List He.DefD) (su:List SuD) (tb:List zfr) (pr:List PrD) (w:World):AlV:=(valT fn su tb w,true,pr.map fun d=>d.da.val)
def zwT:List Value:=[.type "ValueError", .type "Exception", .type "BaseException", .type "object"]
abbrev AlU:Type:=AlV×Bool
abbrev zmG:Type:=Str×Str×Bool
def zuy (K:PySem.W.Frag) (z:zmG):Bool:=xfB K (He.ga K z.1) && (isB K (He.ga K z.1) && decide (PySem.W.kitOne K (.ref (He.ga K z.1)) (.ref (He.ga K z.2.1))=some z.2.2))
def zuh (K:PySem.W.Frag) (x:Str):Bool:=zud K (He.ga K x) && PySem.W.excIn K (He.ga K x) zwT "ValueError.__new__"
def ziU (fa:List He.Fa) (fn:List He.DefD) (su:List SuD) (file:Str) (ex:List Str) (tb:List zfr) (eq:List Str) (gt:List zim) (pr:List PrD) (sq:List Str) (no:List Str) (is:List zmG) (K:PySem.W.Frag):AlU:=(zop fa fn su file ex tb eq gt pr sq K,(no.all fun x=>zuh K x) && is.all fun z=>zuy K z)
def zjJ (fn:List He.DefD) (su:List SuD) (tb:List zfr) (pr:List PrD) (w:World):AlU:=(ziY fn su tb pr w,true)
def zr3 (n:Nat) (fa:List He.Fa) (fn:List He.DefD) (su:List SuD) (file:Str) (ex:List Str) (tb:List zfr) (eq:List Str) (gt:List zim) (pr:List PrD) (sq:List Str) (no:List Str) (is:List zmG):PySem.W.Hook where
 α:=AlU
 obs:=fun s=>ziU fa fn su file ex tb eq gt pr sq no is (kFr n s.heap.get?)
 val:=fun w=>zjJ fn su tb pr w
 says:=fun w h=>∃ K:PySem.W.Frag,K.In h∧ziU fa fn su file ex tb eq gt pr sq no is K=zjJ fn su tb pr w
 of:=fun _ _ e=>⟨_,He.frG_in,e⟩
 keeps:=fun _ _ _ ⟨K,hK,c⟩ k=>⟨K,hK.keeps k,c⟩
theorem zmq {n:Nat} {fa:List He.Fa} {fn:List He.DefD} {su:List SuD} {file:Str} {ex:List Str} {tb:List zfr} {eq:List Str} {gt:List zim} {pr:List PrD} {sq no:List Str} {is:List zmG} {g:Addr->Option Obj} {s:Shared} (h:∀ a,g a=s.heap.get? a):ziU fa fn su file ex tb eq gt pr sq no is (kFr n g)=(zr3 n fa fn su file ex tb eq gt pr sq no is).obs s:=by
 have e:g=s.heap.get?:=funext h
 rw [e]
 rfl
theorem zjC {σ α:Type} {X:Option σ} {s:σ} {f:σ->α} {a:α} (e:X=some s) (h:X.map f=some a):f s=a:=by
 subst e
 exact Option.some.inj h
theorem zjm {σ γ:Type} {X:Option σ} {K:σ->PySem.W.Frag} {l:σ->Bool} {q:σ->γ} {g:γ} {fa:List He.Fa} {fn fn1 fn2:List He.DefD} {su:List SuD} {file:Str} {ex:List Str} {tb:List zfr} {eq:List Str} {gt:List zim} {pr:List PrD} {sq no:List Str} {is:List zmG} {w:World}
  (hfn:fn1++fn2=fn)
  (a:X.map (fun s=>(l s,q s,ziU [] [] su file ex tb eq gt pr sq no is (K s)))=some (true,g,zjJ [] su tb pr w))
  (b:X.map (fun s=>fa.all fun f=>f.ok (K s))=some true)
  (c1:X.map (fun s=>fn1.all fun d=>d.ok (K s))=some true)
  (c2:X.map (fun s=>fn2.all fun d=>d.ok (K s))=some true)
  (m:X.map (fun s=>fn.map fun d=>He.fnW (K s) d.at_)=some (fn.map He.DefD.val)) :
  X.map (fun s=>(l s,q s,ziU fa fn su file ex tb eq gt pr sq no is (K s)))=some (true,g,zjJ fn su tb pr w):=by
 obtain ⟨s,e,ea⟩:=Option.map_eq_some_iff.mp a
 have b':(fa.all fun f=>f.ok (K s))=true:=zjC (f:=fun s=>fa.all fun f=>f.ok (K s)) e b
 have c1':(fn1.all fun d=>d.ok (K s))=true:=zjC (f:=fun s=>fn1.all fun d=>d.ok (K s)) e c1
 have c2':(fn2.all fun d=>d.ok (K s))=true:=zjC (f:=fun s=>fn2.all fun d=>d.ok (K s)) e c2
 have m':(fn.map fun d=>He.fnW (K s) d.at_)=fn.map He.DefD.val:=zjC (f:=fun s=>fn.map fun d=>He.fnW (K s) d.at_) e m
 clear a b c1 c2 m
 subst e hfn
 obtain ⟨h1,h2,h3⟩:=Prod.mk.injEq .. |>.mp ea |> fun z=>(⟨z.1,(Prod.mk.injEq .. |>.mp z.2).1,(Prod.mk.injEq .. |>.mp z.2).2⟩:_∧_∧_)
 have hc:((fn1++fn2).all fun d=>d.ok (K s))=true:=by rw [List.all_append,c1',c2'];rfl
 show some (l s,q s,ziU fa (fn1++fn2) su file ex tb eq gt pr sq no is (K s))=_
 rw [h1,h2]
 refine congrArg (fun z=>some (true,g,z)) ?_
 unfold ziU zop obsT obsE obsG obsX zpg He.obsD zjJ ziY valT valE zpu valX zpf He.valD at h3 ⊢
 simp only [Prod.mk.injEq] at h3 ⊢
 rw [b',hc,m']
 obtain ⟨⟨⟨⟨⟨⟨⟨_,h5,h6⟩,h7⟩,h8,h9⟩,h10⟩,h11⟩,h12,h13⟩,h14⟩:=h3
 exact ⟨⟨⟨⟨⟨⟨⟨⟨rfl,rfl⟩,h5,h6⟩,h7⟩,h8,h9⟩,h10⟩,h11⟩,h12,h13⟩,h14⟩
abbrev NoE:Value->Shared->Prop:=fun _ _=>False
def zjj (t:Expr) (fs:List Expr) (p:Pos) (it:Value) (env:Env) (body:Sem PySem.Fin->Sem PySem.Fin) (lp:Code):Sem PySem.Fin:=do
 standAt p
 match ← pyNext it with
 | none=>pure (.done .next)
 | some v=>
  letOwnedTupleGo t it v
  assign t env v
  let mut ok:=true
  for c in fs do
   if ok then ok ← isTrue c env (eval c env)
  if ok then body (again lp) else again lp
def zjf (c:Expr) (d:Nat) (i:Expr) (acc:Value) (env:Env) (k:Sem PySem.Fin):Sem PySem.Fin:=do
 let x ← eval i env
 standAt i.pos
 let x ← foldedSetIterable i env x
 let _ ← runOwn (.compStart c d (← holding [x] (pyIter x)) acc env) env
 k
section
variable {prog:Program} {w:World} {A:Around} {R:Result->Shared->Prop} {s:Shared} {e0 t i:Expr} {gs:List Comprehension} {sc:Scope} {ps:Pos} {fs:List Expr} {d:Nat} {it acc:Value} {env:Env} {body:Sem PySem.Fin->Sem PySem.Fin}
def BodyOk (prog:Program) (w:World) (A:Around) (body:Sem PySem.Fin->Sem PySem.Fin) (Nx:Shared->Prop) (s:Shared):Prop:=
 ∀ (k:Sem PySem.Fin) (Q:PySem.Fin->Shared->Prop),(∀ s',Nx s'->wpAny (model prog w) A k Q NoE s')->wpAny (model prog w) A (body k) Q NoE s
theorem zoK (hk:compTurn (.ListComp e0 gs sc ps) d it acc env=zjj t fs i.pos it env body (.compLoop (.ListComp e0 gs sc ps) d it acc env)) (I:Nat->Shared->Prop)
  (turn:∀ n s,I n s->wpAny (model prog w) A (pyNext it) (fun r z1=>match r with
   | none=>R (.ok .next) z1
   | some v=>wpAny (model prog w) A (letOwnedTupleGo t it v) (fun _ z2=>wpAny (model prog w) A (assign t env v) (fun _ z3=>
     wpAny (model prog w) A (forIn fs true fun c r=>if r=true then do let ok ← isTrue c env (eval c env);pure (ForInStep.yield ok) else pure (ForInStep.yield r)) (fun ok z4=>
      match ok with
      | true=>BodyOk prog w A body (fun z=>∃ m,m < n∧I m z) z4
      | false=>∃ m,m < n∧I m z4) NoE z3) NoE z2) NoE z1) NoE s)
  (n:Nat) (h:I n s):codeAny (model prog w) A (.compLoop (.ListComp e0 gs sc ps) d it acc env) R s:=by
 refine codeAny_loop rfl I (fun n s hI=>?_) n h
 show wpAny _ A ((compTurn (.ListComp e0 gs sc ps) d it acc env).onRaise (fun x=>do noteFrame x env;theTreesLotGoes x)) _ _ s
 refine wpAny_noted ?_
 rw [hk]
 unfold zjj
 refine wpAny_bind (wpAny_standAt (wpAny_bind (thnF (turn n s hI) fun r z1 g1=>?_)))
 cases r with
 | none=>exact wpAny_pure g1
 | some v=>
  refine wpAny_bind (thnF g1 fun _ z2 g2=>wpAny_bind (thnF g2 fun _ z3 g3=>wpAny_bind (thnF g3 fun ok z4 g4=>?_)))
  cases ok with
  | false=>exact wpAny_pure ⟨rfl,g4⟩
  | true=>exact thnF (g4 _ _ fun z5 g5=>wpAny_pure ⟨rfl,g5⟩) fun _ _ z=>z
theorem zly (hq:(clausesOf (.ListComp e0 gs sc ps))[d]? = some ⟨t,i,fs,0⟩) (h0:codeAny (model prog w) A (.compLoop (.ListComp e0 gs sc ps) d it acc env) R s)
  (h:wpAny (model prog w) A (pyIter it) (fun it' s'=>codeAny (model prog w) A (.compLoop (.ListComp e0 gs sc ps) d it' acc env) R s') NoE s) :
  codeAny (model prog w) A (.compStart (.ListComp e0 gs sc ps) d it acc env) R s:=by
 refine codeAny_of_tree ?_
 show wpAny _ _ ((compStart (.ListComp e0 gs sc ps) d it acc env).onRaise (fun x=>do noteFrame x env;standAt theWindowsPlace)) _ _ s
 refine wpAny_notedAt ?_
 unfold compStart
 rw [hq]
 show wpAny _ _ (ask >>= _) _ _ s
 refine wpAny_bind (wpAny_askSetting (wpAny_ite ?_))
 split
 ·first
   | exact wpAny_bind (wpAny_pure (wpAny_pure ⟨rfl,h0⟩))
   | exact wpAny_pure ⟨rfl,h0⟩
 ·first
   | exact wpAny_bind (wpAny_rule (wpAny_bind (wpAny_standAt (wpAny_bind (thnF h fun it' s' h'=>wpAny_pure ⟨rfl,h'⟩)))))
   | (refine wpAny_bind (wpAny_rule ?_);show wpAny _ _ (standAt i.pos >>= _) _ _ s;exact wpAny_bind (wpAny_standAt (wpAny_bind (thnF h fun it' s' h'=>wpAny_pure ⟨rfl,h'⟩))))
theorem zkd {Nx:Shared->Prop} (hs:∀ x,foldedSetIterable i env x=pure x) (h:wpAny (model prog w) A (eval i env) (fun x z1=>wpAny (model prog w) A (pyIter x) (fun it1 z2=>
   codeAny (model prog w) A (.compStart (.ListComp e0 gs sc ps) d it1 acc env) (fun r z=>match r with | .ok _=>Nx z | .error _=>False) z2) NoE z1) NoE s):BodyOk prog w A (zjf (.ListComp e0 gs sc ps) d i acc env) Nx s:=by
 intro k Q hk
 unfold zjf
 refine wpAny_bind (thnF h fun x z1 g1=>wpAny_bind (wpAny_standAt (wpAny_bind (wpAny_of_eq (hs x) (wpAny_bind (wpAny_holding (thnF g1 fun it1 z2 g2=>?_)))))))
 refine wpAny_bind (wpAny_runOwn ?_)
 rw [Around.mark_none]
 refine codeAny_mono g2 fun r z hr=>?_
 cases r with
 | ok f=>exact hk z hr
 | error e=>exact hr.elim
end
def ziT (vs:List Nat) (σ σ':L2.St):Prop:=σ.length=σ'.length∧∀ j v,σ[j]? = some (some v)->j∉vs->σ'[j]? = some (some v)
theorem ziT.wipe {vs:List Nat} {σ:L2.St}:ziT vs σ (L2.wipe σ vs):=⟨(wipe_length _ _).symm,fun j v e hj=>(wipe_out hj).trans e⟩
theorem ziT.of_wipe {vs us:List Nat} {σ σ3 σ':L2.St} (hw:L2.wipe σ3 vs=L2.wipe σ vs) (hu:∀ j∈us,j∈vs) (k:ziT us σ3 σ'):(L2.wipe σ vs).length=σ'.length∧∀ (j:Nat) v,(L2.wipe σ vs)[j]? = some (some v)->σ'[j]? = some (some v):=by
 refine ⟨by rw [← hw,wipe_length];exact k.1,fun j v e=>?_⟩
 rw [← hw] at e
 obtain ⟨e1,e2⟩:=wipe_some e
 exact k.2 j v e1 fun z=>e2 (hu j z)
abbrev zsX (J:It) (H4:Hp) (N:Hp->Prop) (g:TG) (tt:TT) (vs:List Nat) (σ:L2.St) (Bq:L2.St->Hp->(Hp->Prop)->Prop):Prop:=
 ∃ W:Nat->Nat->Hp->Prop,(∃ m,W 0 m H4)∧∀ j k H,W j k H->(J.stop j H∧N H) ∨ (J.go j H∧∃ Nx:Hp->Prop,(∀ H',Nx H'->∃ k',k' < k∧W (j+1) k' H')∧
  ∀ x H',J.yld j H x H'->g x (L2.wipe σ vs) H' fun σ3 H5=>L2.wipe σ3 vs=L2.wipe σ vs∧tt σ3 H5 fun b H6=>if b=true then Bq σ3 H6 Nx else Nx H6)
def zsZ (Y:Cx) (pins:List (Addr×Obj)) (vs:List Nat) (σ:L2.St) (N:Hp->Prop) (s:Shared):Prop:=∃ σ' H',Inv Y pins σ' H' s∧ziT vs σ σ'∧N H'
section
variable {Y:Cx} {e0 t i:Expr} {gs:List Comprehension} {sc:Scope} {ps:Pos} {fs:List Expr} {d:Nat} {acc:Value} {body:Sem PySem.Fin->Sem PySem.Fin} {pins:List (Addr×Obj)} {σ:L2.St} {H:Hp} {s:Shared} {wi:TI} {g:TG} {tt:TT} {vs us:List Nat} {N:Hp->Prop} {Bq:L2.St->Hp->(Hp->Prop)->Prop}
theorem zj7 (hc:Y.calm=true) (hx:Y.xe=NoE) {it:Addr} {fp:List Addr} {tn:Nat->Heap->Prop} {J:It} (hk:compTurn (.ListComp e0 gs sc ps) d (.ref it) acc Y.env=zjj t fs i.pos (.ref it) Y.env body (.compLoop (.ListComp e0 gs sc ps) d (.ref it) acc Y.env)) (pg:PG Y t g) (pt:PTs Y fs tt) (hu:∀ j∈us,j∈vs)
  (hb:∀ pins' σ3 H6 s6 Nx,Inv Y pins' σ3 H6 s6->Bq σ3 H6 Nx->BodyOk Y.prog Y.w Y.A body (zsZ Y pins' us σ3 Nx) s6)
  (I:Inv Y pins (L2.wipe σ vs) H s) (T:Turn Y.prog Y.w Y.K t J fp it tn) (st:tn 0 s.heap) (fpo:∀ b∈fp,FpOk Y pins H b) (q:zsX J H N g tt vs σ Bq) {R:Result->Shared->Prop}
  (hR:∀ H' s',Inv Y pins (L2.wipe σ vs) H' s'->(∀ b∈fp,H' b=none)->N H'->R (.ok .next) s') :
  codeAny (model Y.prog Y.w) Y.A (.compLoop (.ListComp e0 gs sc ps) d (.ref it) acc Y.env) R s:=by
 obtain ⟨W,⟨m0,w0⟩,turn⟩:=q
 refine zoK hk (fun k z=>∃ j Hz,Inv Y pins (L2.wipe σ vs) Hz z∧tn j z.heap∧(∀ b∈fp,Hz b=none)∧W j k Hz) ?_ m0 ⟨0,H,I,st,fun b hb=>(fpo b hb).1,w0⟩
 rintro k z ⟨j,Hz,Iz,stz,nz,wz⟩
 have fz:∀ {H':Hp},(∀ b∈fp,H' b=none)->∀ b∈fp,FpOk Y pins H' b:=fun hn b hb=>⟨hn b hb,(fpo b hb).2⟩
 rcases turn j k Hz wz with ⟨stop,qn⟩ | ⟨go,Nx,hNx,step⟩
 ·refine thnF (T.done Y rfl rfl rfl hc j pins z (L2.wipe σ vs) Hz NoE Iz (fz nz) stz stop) fun r z1 g1=>?_
  obtain ⟨rfl,I1⟩:=g1
  exact hR Hz z1 I1 nz qn
 ·refine thnF (T.item Y rfl rfl rfl hc j pins z (L2.wipe σ vs) Hz NoE Iz (fz nz) stz go) fun r z1 g1=>?_
  obtain ⟨u,rfl,g1⟩:=g1
  refine thnF g1 fun _ z2 ⟨x,H2,I2,r2,y2,st2,n2⟩=>?_
  have I2':=I2.pinned (fz n2) (T.obj _ _ st2)
  have hg:=pg.run _ z2 (L2.wipe σ vs) H2 x u _ I2' r2 (step x H2 y2)
  rw [hx] at hg
  refine thnF hg fun _ z3 ⟨σ3,H3,I3,hw,q3⟩=>?_
  have ht:=pt.run _ z3 σ3 H3 _ I3 q3
  rw [hx] at ht
  refine thnF ht fun b z4 ⟨H4,I4,q4⟩=>?_
  have fin:∀ {σ5:L2.St} {H5:Hp} {z5:Shared},Inv Y (pins++pinsAt fp z2.heap) σ5 H5 z5->ziT us σ3 σ5->Nx H5->∃ m,m < k∧∃ j H5,Inv Y pins (L2.wipe σ vs) H5 z5∧tn j z5.heap∧(∀ b∈fp,H5 b=none)∧W j m H5:=fun {σ5 H5 z5} I5 hk nx=>by
   obtain ⟨m,hm,w5⟩:=hNx H5 nx
   have pin:∀ b∈fp,∀ o,z2.heap.get? b=some o->z5.heap.get? b=some o∧H5 b=none:=fun b hb o e=>
    have y:=I5.pin (b,o) (List.mem_append_right _ (List.mem_append_right _ (mem_pinsAt hb e)))
    ⟨y.1,y.2.1⟩
   obtain ⟨k1,k2⟩:=ziT.of_wipe hw hu hk
   refine ⟨m,hm,j+1,H5,I5.unpinned.weak k1 k2,T.keep _ _ _ st2 fun b hb o e=>(pin b hb o e).1,fun b hb=>?_,w5⟩
   obtain ⟨o,e,_⟩:=T.obj _ _ st2 b hb
   exact (pin b hb o e).2
  cases b with
  | false=>
   simp only [Bool.false_eq_true,if_false] at q4 ⊢
   exact fin I4 ⟨rfl,fun _ _ e _=>e⟩ q4
  | true=>
   simp only [if_true] at q4 ⊢
   have hq:=hb _ _ _ _ _ I4 q4
   intro kk Q hkk
   exact hq kk Q fun z5 ⟨σ5,H5,I5,k5,n5⟩=>hkk z5 (fin I5 k5 n5)
theorem zxz (hc:Y.calm=true) (hx:Y.xe=NoE) (hk:∀ it,compTurn (.ListComp e0 gs sc ps) d it acc Y.env=zjj t fs i.pos it Y.env body (.compLoop (.ListComp e0 gs sc ps) d it acc Y.env)) (hq:(clausesOf (.ListComp e0 gs sc ps))[d]? = some ⟨t,i,fs,0⟩) (pi:PI Y t i wi) (pg:PG Y t g) (pt:PTs Y fs tt) (hu:∀ j∈us,j∈vs)
  (hs:∀ x,foldedSetIterable i Y.env x=pure x)
  (hb:∀ pins' σ3 H6 s6 Nx,Inv Y pins' σ3 H6 s6->Bq σ3 H6 Nx->BodyOk Y.prog Y.w Y.A body (zsZ Y pins' us σ3 Nx) s6)
  (I:Inv Y pins σ H s) (q:wi σ H fun J H4=>zsX J H4 N g tt vs σ Bq):BodyOk Y.prog Y.w Y.A (zjf (.ListComp e0 gs sc ps) d i acc Y.env) (zsZ Y pins vs σ N) s:=by
 refine zkd hs ?_
 have h:=pi.run pins s σ H _ I q
 rw [hx] at h
 refine thnF h fun xv z1 g1=>thnF g1 fun itv z2 g2=>?_
 obtain ⟨it,fp,tn,J,H2,e,I2,T,st,f2,q2⟩:=g2
 subst e
 have lp:=zj7 (R:=fun r z=>match r with | .ok _=>zsZ Y pins vs σ N z | .error _=>False) hc hx (hk _) pg pt hu hb (I2.weak (wipe_length _ _) fun j v e=>(wipe_some e).1) T st f2 q2 fun H' s' I' _ n=>⟨_,H',I',ziT.wipe,n⟩
 exact zly hq lp (T.self Y.A 0 _ _ _ st lp)
end
end DL
namespace K79
open PySem PySem.Spec PyProof.Rows L2 DL
local macro_rules | `(tactic| walk_at "dp") => `(tactic| (first | with_reducible assumption | with_reducible exact zai | (with_reducible refine (zaP (by first | with_reducible assumption | exact Ne.symm (by with_reducible assumption))).trans ?_; first | with_reducible assumption | with_reducible exact zai | (with_reducible refine (zaP (by first | with_reducible assumption | exact Ne.symm (by with_reducible assumption))).trans ?_; first | with_reducible assumption | with_reducible exact zai | (with_reducible refine (zaP (by first | with_reducible assumption | exact Ne.symm (by with_reducible assumption))).trans ?_; first | with_reducible assumption | with_reducible exact zai | (with_reducible refine (zaP (by first | with_reducible assumption | exact Ne.symm (by with_reducible assumption))).trans ?_; first | with_reducible assumption | with_reducible exact zai))))))
local macro_rules | `(tactic| walk_at "q") => `(tactic| (first | exact .inl rfl | exact .inr rfl))
local macro_rules | `(tactic| nofun) => `(tactic| walk_at "q")
abbrev PG_:Program:=PySem.Challenge.pw_toldonward_k79_healing_refusals
def top (i:Nat):Stmt:=PG_.main.body.getD i (.Pass ⟨0,0,0,0⟩)
abbrev zda:Stmt:=top 89
def zf0:He.DefD:=⟨("_law_state", none), "_law_state", "_law_state", defArgs zda,defBody zda,defScope zda,[],[]⟩
abbrev zdG:Stmt:=top 90
def zgD:He.DefD:=⟨("_law_draw", none), "_law_draw", "_law_draw", defArgs zdG,defBody zdG,defScope zdG,[],[]⟩
abbrev zdd:Stmt:=top 93
def zf3:He.DefD:=⟨("_law_names", none), "_law_names", "_law_names", defArgs zdd,defBody zdd,defScope zdd,[],[]⟩
abbrev zdF:Stmt:=top 94
def zgC:He.DefD:=⟨("_law_many", none), "_law_many", "_law_many", defArgs zdF,defBody zdF,defScope zdF,[],[]⟩
abbrev zei:Stmt:=top 95
def zhd:He.DefD:=⟨("_law_row", none), "_law_row", "_law_row", defArgs zei,defBody zei,defScope zei,[],[]⟩
abbrev zdE:Stmt:=top 96
def zgB:He.DefD:=⟨("_law_rows", none), "_law_rows", "_law_rows", defArgs zdE,defBody zdE,defScope zdE,[],[]⟩
abbrev zdc:Stmt:=top 97
def zf2:He.DefD:=⟨("_law_parts", none), "_law_parts", "_law_parts", defArgs zdc,defBody zdc,defScope zdc,[],[]⟩
abbrev zfb:Stmt:=top 34
def zhJ:He.DefD:=⟨("is_name", none), "is_name", "is_name", defArgs zfb,defBody zfb,defScope zfb,[],[]⟩
abbrev zdC:Stmt:=top 36
def zgz:He.DefD:=⟨("are_names", none), "are_names", "are_names", defArgs zdC,defBody zdC,defScope zdC,[],[]⟩
abbrev zdB:Stmt:=top 37
def zgy:He.DefD:=⟨("are_pairs", none), "are_pairs", "are_pairs", defArgs zdB,defBody zdB,defScope zdB,[],[]⟩
abbrev zbe:Stmt:=inClass (top 39) 1
def zc5:He.DefD:=⟨("BodyCheck", some "is_word"), "is_word", "BodyCheck.is_word", defArgs zbe,defBody zbe,defScope zbe,[],[]⟩
abbrev za3:Stmt:=inClass (top 39) 3
def zcs:He.DefD:=⟨("BodyCheck", some "is_choice"), "is_choice", "BodyCheck.is_choice", defArgs za3,defBody za3,defScope za3,[],[]⟩
abbrev zbl:Stmt:=inClass (top 39) 2
def zdw:He.DefD:=⟨("BodyCheck", some "is_row"), "is_row", "BodyCheck.is_row", defArgs zbl,defBody zbl,defScope zbl,[],[]⟩
abbrev zaT:Stmt:=inClass (top 39) 4
def zca:He.DefD:=⟨("BodyCheck", some "first_wrong"), "first_wrong", "BodyCheck.first_wrong", defArgs zaT,defBody zaT,defScope zaT,[],[]⟩
abbrev zc9:Stmt:=top 38
def zfZ:He.DefD:=⟨("count_rows", none), "count_rows", "count_rows", defArgs zc9,defBody zc9,defScope zc9,[],[]⟩
abbrev zbB:Stmt:=inClass (top 39) 5
def zdU:He.DefD:=⟨("BodyCheck", some "check"), "check", "BodyCheck.check", defArgs zbB,defBody zbB,defScope zbB,[],[]⟩
abbrev zbm:Stmt:=inClass (top 39) 0
def zdx:He.DefD:=⟨("BodyCheck", some "__init__"), "__init__", "BodyCheck.__init__", defArgs zbm,defBody zbm,defScope zbm,[],[]⟩
abbrev zbO:Stmt:=inClass (top 41) 0
def zee:He.DefD:=⟨("Program", some "__init__"), "__init__", "Program.__init__", defArgs zbO,defBody zbO,defScope zbO,[],[]⟩
abbrev zcd:Stmt:=top 98
def ze1:He.DefD:=⟨("_law_program", none), "_law_program", "_law_program", defArgs zcd,defBody zcd,defScope zcd,[],[]⟩
abbrev zcz:Stmt:=top 99
def zfp:He.DefD:=⟨("_law_chosen", none), "_law_chosen", "_law_chosen", defArgs zcz,defBody zcz,defScope zcz,[],[]⟩
abbrev zdb:Stmt:=top 100
def zf1:He.DefD:=⟨("_law_paths", none), "_law_paths", "_law_paths", defArgs zdb,defBody zdb,defScope zdb,[],[]⟩
abbrev zbM:Stmt:=top 101
def zec:He.DefD:=⟨("_law_all_paths", none), "_law_all_paths", "_law_all_paths", defArgs zbM,defBody zbM,defScope zbM,[],[]⟩
abbrev zbL:Stmt:=top 103
def zeb:He.DefD:=⟨("_law_no_change", none), "_law_no_change", "_law_no_change", defArgs zbL,defBody zbL,defScope zbL,[],[]⟩
abbrev zce:Stmt:=top 102
def ze2:He.DefD:=⟨("_law_changes", none), "_law_changes", "_law_changes", defArgs zce,defBody zce,defScope zce,[],[]⟩
abbrev zeh:Stmt:=top 40
def zhc:He.DefD:=⟨("paths_of", none), "paths_of", "paths_of", defArgs zeh,defBody zeh,defScope zeh,[],[]⟩
abbrev zbd:Stmt:=inClass (top 41) 7
def zc4:He.DefD:=⟨("Program", some "row_paths"), "row_paths", "Program.row_paths", defArgs zbd,defBody zbd,defScope zbd,[],[]⟩
abbrev zc8:Stmt:=top 35
def zfY:He.DefD:=⟨("is_integer", none), "is_integer", "is_integer", defArgs zc8,defBody zc8,defScope zc8,[],[]⟩
abbrev zbk:Stmt:=inClass (top 41) 8
def zdv:He.DefD:=⟨("Program", some "has_path"), "has_path", "Program.has_path", defArgs zbk,defBody zbk,defScope zbk,[],[]⟩
abbrev zbN:Stmt:=inClass (top 41) 9
def zed:He.DefD:=⟨("Program", some "row_at"), "row_at", "Program.row_at", defArgs zbN,defBody zbN,defScope zbN,[],[]⟩
abbrev zdA:Stmt:=top 77
def zgx:He.DefD:=⟨("is_change", none), "is_change", "is_change", defArgs zdA,defBody zdA,defScope zdA,[],[]⟩
abbrev zb0:Stmt:=top 82
def zeE:He.DefD:=⟨("check_changes", none), "check_changes", "check_changes", defArgs zb0,defBody zb0,defScope zb0,[],[]⟩
abbrev zcy:Stmt:=top 62
def zfo:He.DefD:=⟨("check_bound", none), "check_bound", "check_bound", defArgs zcy,defBody zcy,defScope zcy,[],[]⟩
abbrev zgL:Stmt:=top 86
def zgQ:He.DefD:=⟨("heals", none), "heals", "heals", defArgs zgL,defBody zgL,defScope zgL,[],[("batches", .bl true),("most", .int 200),("limit", .int 2000)]⟩
abbrev zc7:Stmt:=top 87
def zdi:He.DefD:=⟨("rules_free", none), "rules_free", "rules_free", defArgs zc7,defBody zc7,defScope zc7,[],[("batches", .bl true),("most", .int 200),("limit", .int 2000)]⟩
abbrev zcA:Stmt:=inClass (top 71) 0
def zfq:He.DefD:=⟨("Rule", some "__init__"), "__init__", "Rule.__init__", defArgs zcA,defBody zcA,defScope zcA,[],[]⟩
abbrev zdD:Stmt:=top 91
def zgA:He.DefD:=⟨("_law_rule", none), "_law_rule", "_law_rule", defArgs zdD,defBody zdD,defScope zdD,[],[]⟩
abbrev zde:Stmt:=top 92
def zf4:He.DefD:=⟨("_law_kinds", none), "_law_kinds", "_law_kinds", defArgs zde,defBody zde,defScope zde,[],[]⟩
abbrev zcc:Stmt:=top 104
def ze0:He.DefD:=⟨("_law_refused", none), "_law_refused", "_law_refused", defArgs zcc,defBody zcc,defScope zcc,[],[]⟩
abbrev zbj:Stmt:=top 105
def zdu:He.DefD:=⟨("_law_first_wrong", none), "_law_first_wrong", "_law_first_wrong", defArgs zbj,defBody zbj,defScope zbj,[],[]⟩
abbrev za7:Stmt:=top 106
def zcJ:He.DefD:=⟨("_law_rules_refused", none), "_law_rules_refused", "_law_rules_refused", defArgs za7,defBody za7,defScope za7,[],[]⟩
abbrev zjk:Stmt:=top 107
def zfn:He.DefD:=⟨("law", none), "law", "law", defArgs zjk,defBody zjk,defScope zjk,[],[]⟩
def zcb:List SuD:=[]
def tabs:List zfr:=[("SLOT_PLACES", [("read", 2),("peek", 2),("put", 1),("if", 1),("give", 1),("write", 2),("say", 1)])]
def eqs:List Str:=[]
def gts:List zim:=[("KINDS", ["mixed", "through", "twice", "needless", "missed", "long"]),("MODES", ["push", "pull", "level"]),("INNERS", ["once", "later"])]
def prs:List PrD:=[]
def sqs:List Str:=[]
def nos:List Str:=[]
def isl:List zmG:=[]
def zcF:List Str:=["InvalidPath", "InvalidChange", "InvalidKind"]
abbrev za8:Stmt:=inClass (top 8) 0
def zcK:He.DefD:=⟨("InvalidPath", some "__init__"), "__init__", "InvalidPath.__init__", defArgs za8,defBody za8,defScope za8,[],[]⟩
abbrev zaX:Stmt:=inClass (top 14) 0
def zco:He.DefD:=⟨("InvalidChange", some "__init__"), "__init__", "InvalidChange.__init__", defArgs zaX,defBody zaX,defScope zaX,[],[]⟩
abbrev za9:Stmt:=inClass (top 13) 0
def zcL:He.DefD:=⟨("InvalidKind", some "__init__"), "__init__", "InvalidKind.__init__", defArgs za9,defBody za9,defScope za9,[],[]⟩
def fns:List He.DefD:=[zf0,zgD,zf3,zgC,zhd,zgB,zf2,zhJ,zgz,zgy,zc5,zcs,zdw,zca,zfZ,zdU,zdx,zee,ze1,zfp,zf1,zec,zeb,ze2,zhc,zc4,zfY,zdv,zed,zgx,zeE,zfo,zgQ,zdi,zfq,zgA,zf4,ze0,zdu,zcJ,zfn,zcK,zco,zcL]
def fac:List He.Fa:=[.free "list", .free "len", .free "abs", .free "int", .glo "_law_draw", .free "range", .glo "_law_many", .glo "_law_rows", .glo "_law_row", .free "tuple", .free "max", .glo "_law_names", .free "str", .free "isinstance", .free "set", .glo "is_name", .free "dict", .int "MOST_DEPTH" 4,.cls "BodyCheck", .meth "BodyCheck" "is_word", .meth "BodyCheck" "is_choice", .free "enumerate", .meth "BodyCheck" "is_row", .meth "BodyCheck" "first_wrong", .glo "count_rows", .int "MOST_ROWS" 16,.glo "are_names", .glo "are_pairs", .mkr "BodyCheck", .glo "BodyCheck", .meth "BodyCheck" "check", .mkr "Program", .glo "Program", .glo "_law_paths", .glo "_law_all_paths", .glo "paths_of", .free "bool", .glo "is_integer", .cls "Program", .meth "Program" "row_paths", .meth "Program" "has_path", .meth "Program" "row_at", .glo "InvalidPath", .glo "is_change", .glo "check_bound", .glo "KINDS", .int "MOST_CANDIDATES" 8,.glo "check_changes", .glo "MODES", .glo "INNERS", .mkr "Rule", .glo "Rule", .glo "heals", .glo "InvalidKind", .glo "InvalidChange", .glo "_law_changes", .glo "rules_free", .glo "_law_state", .glo "_law_rule", .glo "_law_kinds", .glo "_law_parts", .glo "_law_program", .glo "_law_chosen", .glo "_law_no_change", .glo "_law_refused", .glo "_law_first_wrong", .glo "_law_rules_refused", .meth "InvalidPath" "__init__", .noat "InvalidPath" "path", .meth "InvalidChange" "__init__", .noat "InvalidChange" "index", .meth "InvalidKind" "__init__", .noat "InvalidKind" "kind", .cls "BodyCheck", .noat "BodyCheck" "kind", .noat "BodyCheck" "words", .noat "BodyCheck" "sources", .noat "BodyCheck" "readable", .cls "Program", .noat "Program" "words", .noat "Program" "sources", .noat "Program" "derived", .noat "Program" "effects", .glo "law", .cls "Rule", .noat "Rule" "mode", .noat "Rule" "cut", .noat "Rule" "inner", .exm "InvalidPath" "InvalidPath" true,.exm "InvalidKind" "InvalidKind" true,.exm "InvalidChange" "InvalidKind" false,.exm "InvalidChange" "InvalidChange" true]
set_option maxHeartbeats 0
abbrev R:PySem.W.OpenRow:=PySem.W.OpenLaw.row PySem.Challenge.rw_toldonward_k79_healing_refusals
abbrev hk:PySem.W.Hook:=zr3 5 fac fns zcb PG_.main.file zcF tabs eqs gts prs sqs nos isl
def ob (s:PySem.W.SharedT):AlU:=ziU fac fns zcb PG_.main.file zcF tabs eqs gts prs sqs nos isl (kFr 5 (HandSHeadRun.getT s))
theorem ob_eq (s:PySem.W.SharedT):ob s=hk.obs s.abs:=zmq (HandSHeadRun.getT_eq s)
def loose:List Str:=("_wall" : Str) :: ("ToldError" : Str) :: ("InvalidProgram" : Str) :: ("InvalidRule" : Str) :: ("InvalidStart" : Str) :: ("InvalidStanding" : Str) :: ("InvalidDeed" : Str) :: ("InvalidPath" : Str) :: ("InvalidBound" : Str) :: ("UnknownCell" : Str) :: ("TooManyRuns" : Str) :: ("LimitExceeded" : Str) :: ("InvalidKind" : Str) :: ("InvalidChange" : Str) :: ("Run" : Str) :: ("has_cell" : Str) :: ("TrueRun" : Str) :: ("are_start_words" : Str) :: ("true_table" : Str) :: ("KINDS" : Str) :: ("runs_of" : Str) :: ("untrue_reads" : Str) :: ("last_run" : Str) :: ("is_needless" : Str) :: ("is_missed" : Str) :: ("faults" : Str) :: ("faults_judge" : Str) :: ("MOST_ROWS" : Str) :: ("MOST_DEPTH" : Str) :: ("is_name" : Str) :: ("is_integer" : Str) :: ("are_names" : Str) :: ("are_pairs" : Str) :: ("count_rows" : Str) :: ("BodyCheck" : Str) :: ("paths_of" : Str) :: ("Program" : Str) :: ("GREATEST_BOUND" : Str) :: ("is_bound" : Str) :: ("is_word_pair" : Str) :: ("are_notes" : Str) :: ("worked_out" : Str) :: ("are_derived" : Str) :: ("are_effects" : Str) :: ("noting" : Str) :: ("are_readers" : Str) :: ("is_standing" : Str) :: ("is_deed" : Str) :: ("deeds" : Str) :: ("Step" : Str) :: ("LiveRun" : Str) :: ("Spread" : Str) :: ("begin" : Str) :: ("step" : Str) :: ("check_bound" : Str) :: ("is_same" : Str) :: ("start_words" : Str) :: ("begin_or_none" : Str) :: ("step_or_none" : Str) :: ("Book" : Str) :: ("MODES" : Str) :: ("INNERS" : Str) :: ("Rule" : Str) :: ("all_rules" : Str) :: ("MOST_CANDIDATES" : Str) :: ("SLOT_LETTERS" : Str) :: ("SLOT_PLACES" : Str) :: ("is_change" : Str) :: ("named_slots" : Str) :: ("spare_slot" : Str) :: ("with_peeks" : Str) :: ("changed_bodies" : Str) :: ("check_changes" : Str) :: ("with_changes" : Str) :: ("index_sets" : Str) :: ("Healing" : Str) :: ("heals" : Str) :: ("rules_free" : Str) :: ("_law_state" : Str) :: ("_law_draw" : Str) :: ("_law_rule" : Str) :: ("_law_kinds" : Str) :: ("_law_names" : Str) :: ("_law_many" : Str) :: ("_law_row" : Str) :: ("_law_rows" : Str) :: ("_law_parts" : Str) :: ("_law_program" : Str) :: ("_law_chosen" : Str) :: ("_law_paths" : Str) :: ("_law_all_paths" : Str) :: ("_law_changes" : Str) :: ("_law_no_change" : Str) :: ("_law_refused" : Str) :: ("_law_first_wrong" : Str) :: ("_law_rules_refused" : Str) :: []
abbrev zsV:List He.DefD:=fns.take 22
abbrev zsU:List He.DefD:=fns.drop 22
abbrev wB (w:World) (b:Bool):World:={ w with params:={ w.params with followText:=fun row=>match decide (row = "special-get-raises") with
 | true=>b
 | false=>w.params.followText row } }
theorem zjW (w:World) (os:OsState):(HandSHeadRun.endF (HandSHeadRun.stepQ (HandSHeadRun.denQ HandSHeadRun.tabQ) R.prog (wB w false)) 12000 R.prog (wB w false) os).map (fun s=>(HandSHeadRun.looksF R.prog (PySem.W.boot_heap (wB w false).params) s.abs,HandSHeadRun.seenQ (PySem.W.view R.prog [107]) loose (PySem.importedModules R.prog.main.body) (fun s=>PySem.W.xlAt (PySem.W.view R.prog [107]) [] s && PySem.W.recOk R.toRowW.records s) s.abs,ziU [] [] zcb PG_.main.file zcF tabs eqs gts prs sqs nos isl (kFr 5 (HandSHeadRun.getT s))))=some (true,PySem.W.openGood (PySem.W.view R.prog [107]) loose,zjJ [] zcb tabs prs (wB w false)):=by
 kernel_rfl
theorem zjV (w:World) (os:OsState):(HandSHeadRun.endF (HandSHeadRun.stepQ (HandSHeadRun.denQ HandSHeadRun.tabQ) R.prog (wB w false)) 12000 R.prog (wB w false) os).map (fun s=>fac.all fun f=>f.ok (kFr 5 (HandSHeadRun.getT s)))=some (true):=by
 kernel_rfl
theorem zjU (w:World) (os:OsState):(HandSHeadRun.endF (HandSHeadRun.stepQ (HandSHeadRun.denQ HandSHeadRun.tabQ) R.prog (wB w false)) 12000 R.prog (wB w false) os).map (fun s=>zsV.all fun d=>d.ok (kFr 5 (HandSHeadRun.getT s)))=some (true):=by
 kernel_rfl
theorem zjT (w:World) (os:OsState):(HandSHeadRun.endF (HandSHeadRun.stepQ (HandSHeadRun.denQ HandSHeadRun.tabQ) R.prog (wB w false)) 12000 R.prog (wB w false) os).map (fun s=>zsU.all fun d=>d.ok (kFr 5 (HandSHeadRun.getT s)))=some (true):=by
 kernel_rfl
theorem zjS (w:World) (os:OsState):(HandSHeadRun.endF (HandSHeadRun.stepQ (HandSHeadRun.denQ HandSHeadRun.tabQ) R.prog (wB w false)) 12000 R.prog (wB w false) os).map (fun s=>fns.map fun d=>He.fnW (kFr 5 (HandSHeadRun.getT s)) d.at_)=some (fns.map He.DefD.val):=by
 kernel_rfl
theorem zky (w:World):HandSHeadRun.RunEq R (PySem.W.view R.prog [107]) hk ob 12000 loose (wB w false):=by
 intro os
 have a:=zjW w os
 have b:=zjV w os
 have c:=zjU w os
 have d:=zjT w os
 have m:=zjS w os
 show (HandSHeadRun.endF (HandSHeadRun.stepQ (HandSHeadRun.denQ HandSHeadRun.tabQ) R.prog (wB w false)) 12000 R.prog (wB w false) os).map (fun s=>(HandSHeadRun.looksF R.prog (PySem.W.boot_heap (wB w false).params) s.abs,HandSHeadRun.seenQ (PySem.W.view R.prog [107]) loose (PySem.importedModules R.prog.main.body) (fun s=>PySem.W.xlAt (PySem.W.view R.prog [107]) [] s && PySem.W.recOk R.toRowW.records s) s.abs,ziU fac fns zcb PG_.main.file zcF tabs eqs gts prs sqs nos isl (kFr 5 (HandSHeadRun.getT s))))=some (true,PySem.W.openGood (PySem.W.view R.prog [107]) loose,zjJ fns zcb tabs prs (wB w false))
 generalize (HandSHeadRun.endF (HandSHeadRun.stepQ (HandSHeadRun.denQ HandSHeadRun.tabQ) R.prog (wB w false)) 12000 R.prog (wB w false) os)=Y at a b c d m ⊢
 exact zjm (K:=fun s=>(kFr 5 (HandSHeadRun.getT s))) (fn1:=zsV) (fn2:=zsU) (List.take_append_drop _ _) a b c d m
theorem zkD (w:World) (os:OsState):(HandSHeadRun.endF (HandSHeadRun.stepQ (HandSHeadRun.denQ HandSHeadRun.tabQ) R.prog (wB w true)) 12000 R.prog (wB w true) os).map (fun s=>(HandSHeadRun.looksF R.prog (PySem.W.boot_heap (wB w true).params) s.abs,HandSHeadRun.seenQ (PySem.W.view R.prog [107]) loose (PySem.importedModules R.prog.main.body) (fun s=>PySem.W.xlAt (PySem.W.view R.prog [107]) [] s && PySem.W.recOk R.toRowW.records s) s.abs,ziU [] [] zcb PG_.main.file zcF tabs eqs gts prs sqs nos isl (kFr 5 (HandSHeadRun.getT s))))=some (true,PySem.W.openGood (PySem.W.view R.prog [107]) loose,zjJ [] zcb tabs prs (wB w true)):=by
 kernel_rfl
theorem zkC (w:World) (os:OsState):(HandSHeadRun.endF (HandSHeadRun.stepQ (HandSHeadRun.denQ HandSHeadRun.tabQ) R.prog (wB w true)) 12000 R.prog (wB w true) os).map (fun s=>fac.all fun f=>f.ok (kFr 5 (HandSHeadRun.getT s)))=some (true):=by
 kernel_rfl
theorem zkB (w:World) (os:OsState):(HandSHeadRun.endF (HandSHeadRun.stepQ (HandSHeadRun.denQ HandSHeadRun.tabQ) R.prog (wB w true)) 12000 R.prog (wB w true) os).map (fun s=>zsV.all fun d=>d.ok (kFr 5 (HandSHeadRun.getT s)))=some (true):=by
 kernel_rfl
theorem zkA (w:World) (os:OsState):(HandSHeadRun.endF (HandSHeadRun.stepQ (HandSHeadRun.denQ HandSHeadRun.tabQ) R.prog (wB w true)) 12000 R.prog (wB w true) os).map (fun s=>zsU.all fun d=>d.ok (kFr 5 (HandSHeadRun.getT s)))=some (true):=by
 kernel_rfl
theorem zkz (w:World) (os:OsState):(HandSHeadRun.endF (HandSHeadRun.stepQ (HandSHeadRun.denQ HandSHeadRun.tabQ) R.prog (wB w true)) 12000 R.prog (wB w true) os).map (fun s=>fns.map fun d=>He.fnW (kFr 5 (HandSHeadRun.getT s)) d.at_)=some (fns.map He.DefD.val):=by
 kernel_rfl
theorem zlN (w:World):HandSHeadRun.RunEq R (PySem.W.view R.prog [107]) hk ob 12000 loose (wB w true):=by
 intro os
 have a:=zkD w os
 have b:=zkC w os
 have c:=zkB w os
 have d:=zkA w os
 have m:=zkz w os
 show (HandSHeadRun.endF (HandSHeadRun.stepQ (HandSHeadRun.denQ HandSHeadRun.tabQ) R.prog (wB w true)) 12000 R.prog (wB w true) os).map (fun s=>(HandSHeadRun.looksF R.prog (PySem.W.boot_heap (wB w true).params) s.abs,HandSHeadRun.seenQ (PySem.W.view R.prog [107]) loose (PySem.importedModules R.prog.main.body) (fun s=>PySem.W.xlAt (PySem.W.view R.prog [107]) [] s && PySem.W.recOk R.toRowW.records s) s.abs,ziU fac fns zcb PG_.main.file zcF tabs eqs gts prs sqs nos isl (kFr 5 (HandSHeadRun.getT s))))=some (true,PySem.W.openGood (PySem.W.view R.prog [107]) loose,zjJ fns zcb tabs prs (wB w true))
 generalize (HandSHeadRun.endF (HandSHeadRun.stepQ (HandSHeadRun.denQ HandSHeadRun.tabQ) R.prog (wB w true)) 12000 R.prog (wB w true) os)=Y at a b c d m ⊢
 exact zjm (K:=fun s=>(kFr 5 (HandSHeadRun.getT s))) (fn1:=zsV) (fn2:=zsU) (List.take_append_drop _ _) a b c d m
theorem run (w:World):HandSHeadRun.RunEq R (PySem.W.view R.prog [107]) hk ob 12000 loose w:=by
 have ef:(fun row=>match decide (row = "special-get-raises") with
   | true=>w.params.followText "special-get-raises"
   | false=>w.params.followText row)=w.params.followText:=by
  funext row
  by_cases h:row = "special-get-raises"
  ·subst h;rfl
  ·rw [decide_eq_false h]
 have e:wB w (w.params.followText "special-get-raises")=w:=by
  unfold wB
  rw [ef]
 rw [← e]
 cases w.params.followText "special-get-raises" with
 | false=>exact zky w
 | true=>exact zlN w
end K79
set_option maxHeartbeats 0
open PySem PySem.W PySem.Calls PyProof.Rows
theorem K79.ends (call:WalkO (view (OpenLaw.row PySem.Challenge.rw_toldonward_k79_healing_refusals).prog [107]) K79.loose (XL (view (OpenLaw.row PySem.Challenge.rw_toldonward_k79_healing_refusals).prog [107]) []) K79.hk.says (OpenLaw.row PySem.Challenge.rw_toldonward_k79_healing_refusals).toRowW (HandSHeadRun.topDef (OpenLaw.row PySem.Challenge.rw_toldonward_k79_healing_refusals).prog 107) [] fun f vs=>PySem.call f vs):PySem.Challenge.rw_toldonward_k79_healing_refusals.Holds:=by
 w_on;o_law
 refine HandSHeadRun.head_any (r:=OpenLaw.row PySem.Challenge.rw_toldonward_k79_healing_refusals) (q:=view (OpenLaw.row PySem.Challenge.rw_toldonward_k79_healing_refusals).prog [107]) (H:=K79.hk) (ob:=K79.ob) (M:=12000) (loose:=K79.loose) (d:=HandSHeadRun.topDef (OpenLaw.row PySem.Challenge.rw_toldonward_k79_healing_refusals).prog 107) (kwd:=[]) K79.ob_eq
  (by kernel_rfl) (fun s=>by kernel_rfl) K79.run (by kernel_rfl) (by kernel_rfl) (by kernel_rfl) (by rfl) (by first | assumption | decide +kernel) (by decide +kernel) ⟨rfl,rfl,rfl,rfl,rfl,by decide +kernel⟩ ?hw call
 case hw=>w_witness2
set_option maxHeartbeats 4000000
namespace DL
open PySem L2
abbrev D.tup (xs:List D):D:=.tp false xs
theorem zai {S:Sto} {a:Addr} {o:O}:put S a o a=some o:=by unfold put;rw [if_pos rfl]
theorem zaP {S:Sto} {a b:Addr} {o:O} (h:b≠a):put S a o b=S b:=by unfold put;rw [if_neg h]
structure Le (H H':Hp):Prop where
 tup:∀ a xs,H a=some (.tup xs)->H' a=some (.tup xs)
 frz:∀ a o u,H a=some (.frz o u)->H' a=some (.frz o u)
 xd:∀ a fs,H a=some (.xd fs)->H' a=some (.xd fs)
theorem Le.refl (H:Hp):Le H H:=⟨fun _ _ h=>h,fun _ _ _ h=>h,fun _ _ h=>h⟩
theorem Le.trans {H H1 H2:Hp} (a:Le H H1) (b:Le H1 H2):Le H H2:=⟨fun x xs h=>b.tup x xs (a.tup x xs h),fun x o u h=>b.frz x o u (a.frz x o u h),fun x fs h=>b.xd x fs (a.xd x fs h)⟩
theorem Le.new {H:Hp} {p:Addr} {o:HO} (h:H p=none):Le H (upd H p o):=⟨fun a xs e=>by rw [upd_ne (ne_of_none e h)];exact e,fun a ob u e=>by rw [upd_ne (ne_of_none e h)];exact e,fun a fs e=>by rw [upd_ne (ne_of_none e h)];exact e⟩
theorem Le.mut {H:Hp} {p:Addr} {o:HO} (h:Mut (H p)):Le H (upd H p o):=⟨fun a xs e=>by
  rw [upd_ne (fun q=>by subst q;rw [e] at h;exact h)];exact e,fun a ob u e=>by
  rw [upd_ne (fun q=>by subst q;rw [e] at h;exact h)];exact e,fun a fs e=>by
  rw [upd_ne (fun q=>by subst q;rw [e] at h;exact h)];exact e⟩
theorem zhi {K:PySem.W.Frag} {H H':Hp} {a:Addr} {xs:List V} (l:Le H H') (h:SqT K H a xs):SqT K H' a xs:=by
 rcases h with (h | ⟨o,h⟩) | h
 ·exact .inl (.inl (l.tup a xs h))
 ·exact .inl (.inr ⟨o,l.frz a o _ h⟩)
 ·exact .inr h
def RoL (K:PySem.W.Frag) (H:Hp) (a:Addr) (xs:List V):Prop:=(∃ o,H a=some (.frz o (.lst xs))) ∨
 ∃ (o:Obj) (its:Array Value) (n:Nat),K.lookup a=some o∧o.cls = .type "list" ∧ o.dict=none∧o.data = .seq its n∧its.size≤sizeLine∧Vals xs its.toList
theorem RoL.sq {K:PySem.W.Frag} {H:Hp} {a:Addr} {xs:List V} (h:RoL K H a xs):SqL K H a xs:=by
 rcases h with ⟨o,h⟩ | h
 ·exact .inl (.inr ⟨o,h⟩)
 ·exact .inr h
theorem RoL.le {K:PySem.W.Frag} {H H':Hp} {a:Addr} {xs:List V} (l:Le H H') (h:RoL K H a xs):RoL K H' a xs:=by
 rcases h with ⟨o,h⟩ | h
 ·exact .inl ⟨o,l.frz a o _ h⟩
 ·exact .inr h
theorem RoL.of {K:PySem.W.Frag} {H:Hp} {a:Addr} {xs:List V} (hO:Only H) (h:SqL K H a xs):RoL K H a xs:=by
 rcases h with (h | ⟨o,h⟩) | h
 ·rcases hO a with e | ⟨o,ys,e⟩ <;> rw [e] at h <;> cases h
 ·exact .inl ⟨o,h⟩
 ·exact .inr h
def OkS (x:Str):Prop:=PyData.strOk x=true∧x.length≤sizeLine
def kD:Key->D
 | .inl i=>.int i
 | .inr x=>.str x
def okK:Key->Prop
 | .inl _=>True
 | .inr x=>OkS x
def TF (H:Hp) (a:Addr) (vs:List V):Bool->Prop
 | false=>H a=some (.tup vs)
 | true=>∃ o,H a=some (.frz o (.tup vs))∧o.dict=none
theorem TF.le {H H':Hp} {a:Addr} {vs:List V} {f:Bool} (l:Le H H') (h:TF H a vs f):TF H' a vs f:=by
 cases f with
 | false=>exact l.tup _ _ h
 | true=>
  obtain ⟨o,e,z⟩:=h
  exact ⟨o,l.frz _ _ _ e,z⟩
mutual
inductive DV (K:PySem.W.Frag) (H:Hp):D->V->Prop
 | non:DV K H .non .non
 | bl (b:Bool):DV K H (.bl b) (.bl b)
 | int (i:Int):DV K H (.int i) (.int i)
 | str (x:Str):OkS x->DV K H (.str x) (.str x)
 | ty (n:String):DV K H (.ty n) (.ty n)
 | tup {a:Addr} {vs:List V} {ds:List D} {f:Bool}:SqT K H a vs->DVs K H ds vs->TF H a vs f->DV K H (.tp f ds) (.ref a)
 | rol {a:Addr} {vs:List V} {ds:List D}:RoL K H a vs->DVs K H ds vs->DV K H (.rol ds) (.ref a)
 | ref (a:Addr):DV K H (.ref a) (.ref a)
 | rod {a:Addr} {vs:List V} {ks:List (List Key)} {ds:List D}:(∃ o,H a=some (.frz o (.dT (ks.zip vs))))->ks.length=vs.length->(∀ k∈ks,∀ x∈k,okK x)->DVs K H ds vs->DV K H (.rod ks ds) (.ref a)
inductive DVs (K:PySem.W.Frag) (H:Hp):List D->List V->Prop
 | nil:DVs K H [] []
 | cons {d:D} {ds:List D} {v:V} {vs:List V}:DV K H d v->DVs K H ds vs->DVs K H (d :: ds) (v :: vs)
end
section
variable {K:PySem.W.Frag} {H H':Hp}
mutual
theorem DV.le (l:Le H H'):∀ (d:D) (v:V),DV K H d v->DV K H' d v
 | .non,_,h=>by cases h;exact .non
 | .bl b,_,h=>by cases h;exact .bl b
 | .int b,_,h=>by cases h;exact .int b
 | .str b,_,h=>by
  cases h with
  | str _ ok=>exact .str b ok
 | .ty b,_,h=>by cases h;exact .ty b
 | .ref b,_,h=>by cases h;exact .ref b
 | .tp f ds,_,h=>by
  cases h with
  | tup hs hd ht=>exact .tup (zhi l hs) (DVs.le l ds _ hd) (ht.le l)
 | .rol ds,_,h=>by
  cases h with
  | rol hs hd=>exact .rol (RoL.le l hs) (DVs.le l ds _ hd)
 | .rod ks ds,_,h=>by
  cases h with
  | rod hs hl hk hd=>
   obtain ⟨o,hs⟩:=hs
   exact .rod ⟨o,l.frz _ _ _ hs⟩ hl hk (DVs.le l ds _ hd)
theorem DVs.le (l:Le H H'):∀ (ds:List D) (vs:List V),DVs K H ds vs->DVs K H' ds vs
 | [],_,h=>by cases h;exact .nil
 | d :: ds,_,h=>by
  cases h with
  | cons h1 h2=>exact .cons (DV.le l d _ h1) (DVs.le l ds _ h2)
end
theorem DVs.length {ds:List D} {vs:List V} (h:DVs K H ds vs):ds.length=vs.length:=by
 induction ds generalizing vs with
 | nil=>cases h;rfl
 | cons d ds ih=>cases h with
  | cons h1 h2=>simp [ih h2]
theorem DVs.get {ds:List D} {vs:List V} (h:DVs K H ds vs) {i:Nat} {d:D} (e:ds[i]? = some d):∃ v,vs[i]? = some v∧DV K H d v:=by
 induction ds generalizing vs i with
 | nil=>simp at e
 | cons x ds ih=>cases h with
  | cons h1 h2=>
   cases i with
   | zero=>simp at e;subst e;exact ⟨_,rfl,h1⟩
   | succ i=>
    obtain ⟨v,e1,e2⟩:=ih h2 (i:=i) (by simpa using e)
    exact ⟨v,by simpa using e1,e2⟩
theorem DVs.append {ds es:List D} {vs us:List V} (h:DVs K H ds vs) (h':DVs K H es us):DVs K H (ds++es) (vs++us):=by
 induction ds generalizing vs with
 | nil=>cases h;exact h'
 | cons d ds ih=>cases h with
  | cons h1 h2=>exact .cons h1 (ih h2)
theorem DVs.take {ds:List D} {vs:List V} (h:DVs K H ds vs) (n:Nat):DVs K H (ds.take n) (vs.take n):=by
 induction ds generalizing vs n with
 | nil=>cases h;simp;exact .nil
 | cons d ds ih=>cases h with
  | cons h1 h2=>cases n with
   | zero=>exact .nil
   | succ n=>exact .cons h1 (ih h2 n)
theorem DVs.drop {ds:List D} {vs:List V} (h:DVs K H ds vs) (n:Nat):DVs K H (ds.drop n) (vs.drop n):=by
 induction ds generalizing vs n with
 | nil=>cases h;simp;exact .nil
 | cons d ds ih=>cases h with
  | cons h1 h2=>cases n with
   | zero=>exact .cons h1 h2
   | succ n=>exact ih h2 n
theorem DVs.set {ds:List D} {vs:List V} {d:D} {v:V} (h:DVs K H ds vs) (h1:DV K H d v) (n:Nat):DVs K H (ds.set n d) (vs.set n v):=by
 induction ds generalizing vs n with
 | nil=>cases h;exact .nil
 | cons x ds ih=>cases h with
  | cons h2 h3=>cases n with
   | zero=>exact .cons h1 h3
   | succ n=>exact .cons h2 (ih h3 n)
theorem DVs.reverse {ds:List D} {vs:List V} (h:DVs K H ds vs):DVs K H ds.reverse vs.reverse:=by
 induction ds generalizing vs with
 | nil=>cases h;exact .nil
 | cons d ds ih=>cases h with
  | cons h1 h2=>
   rw [List.reverse_cons,List.reverse_cons]
   exact (ih h2).append (.cons h1 .nil)
theorem DVs.eraseIdx {ds:List D} {vs:List V} (h:DVs K H ds vs) (n:Nat):DVs K H (ds.eraseIdx n) (vs.eraseIdx n):=by
 induction ds generalizing vs n with
 | nil=>cases h;exact .nil
 | cons x ds ih=>cases h with
  | cons h2 h3=>cases n with
   | zero=>exact h3
   | succ n=>exact .cons h2 (ih h3 n)
end
inductive KVs (K:PySem.W.Frag) (H:Hp) {κ:Type}:List (κ×D)->List (κ×V)->Prop
 | nil:KVs K H [] []
 | cons {k:κ} {d:D} {v:V} {ds:List (κ×D)} {vs:List (κ×V)}:DV K H d v->KVs K H ds vs->KVs K H ((k,d) :: ds) ((k,v) :: vs)
theorem KVs.le {K:PySem.W.Frag} {H H':Hp} {κ:Type} {ds:List (κ×D)} {vs:List (κ×V)} (l:Le H H') (h:KVs K H ds vs):KVs K H' ds vs:=by
 induction h with
 | nil=>exact .nil
 | cons h1 _ ih=>exact .cons (h1.le l) ih
theorem KVs.length {K:PySem.W.Frag} {H:Hp} {κ:Type} {ds:List (κ×D)} {vs:List (κ×V)} (h:KVs K H ds vs):ds.length=vs.length:=by
 induction h with
 | nil=>rfl
 | cons _ _ ih=>simp [ih]
mutual
def nkD:D->Option NestedKey
 | .non=>some .none
 | .bl b=>some (.num (if b=true then 1 else 0))
 | .int i=>some (.num i)
 | .str x=>some (.text x)
 | .tp _ xs=>(zrn xs).map .tup
 | .rol _=>none
 | .ref _=>none
 | .ty _=>none
 | .rod _ _=>none
def zrn:List D->Option (List NestedKey)
 | []=>some []
 | d :: ds=>(nkD d).bind fun k=>(zrn ds).map fun ks=>k :: ks
end
inductive KN (K:PySem.W.Frag) (H:Hp):List D->List (NestedKey×D)->List (NestedKey×Addr×V)->Prop
 | nil:KN K H [] [] []
 | cons {d e:D} {k:NestedKey} {b:Addr} {v:V} {ds:List D} {kvs:List (NestedKey×D)} {zs:List (NestedKey×Addr×V)}:nkD d=some k->k.depth≤8->DV K H d (.ref b)->DV K H e v->KN K H ds kvs zs->KN K H (d :: ds) ((k,e) :: kvs) ((k,b,v) :: zs)
theorem KN.le {K:PySem.W.Frag} {H H':Hp} {ds:List D} {kvs:List (NestedKey×D)} {zs:List (NestedKey×Addr×V)} (l:Le H H') (h:KN K H ds kvs zs):KN K H' ds kvs zs:=by
 induction h with
 | nil=>exact .nil
 | cons h1 h2 h3 h4 _ ih=>exact .cons h1 h2 (h3.le l) (h4.le l) ih
abbrev KZ:List (NestedKey×Addr×V)->List (NestedKey×Addr×Value)->Prop:=Paired fun p q=>p.1=q.1∧p.2.1=q.2.1∧RelV p.2.2 q.2.2
def dN (P:Program) (w:World) (a:Addr) (zs:List (NestedKey×Addr×V)):HO:=.ext fun h=>zs.length≤sizeLine∧(a == sysModules)=false∧∃ xs,KZ zs xs∧
 ∃ o es ep,h.get? a=some o∧o.ExactDict∧o.data = .dict es ep∧es.toList=xs.map (entryOfKey (nestedKind P w))∧(xs.map (·.1)).Nodup
def OOk (K:PySem.W.Frag) (P:Program) (w:World) (H:Hp) (a:Addr):O->Prop
 | .lst ds=>∃ vs,H a=some (.lst vs)∧DVs K H ds vs
 | .dic kvs=>∃ vs,H a=some (.dK vs)∧KVs K H kvs vs
 | .dit kvs=>∃ vs,H a=some (.dT vs)∧KVs K H kvs vs
 | .set f n=>H a=some (SetK P w a f n)
 | .ins C fs=>∃ dx vs,H a=some (.ins C dx vs)∧KVs K H fs vs
 | .din ks kvs=>∃ zs,H a=some (dN P w a zs)∧KN K H ks kvs zs
def Rp (K:PySem.W.Frag) (P:Program) (w:World) (S:Sto) (H:Hp):Prop:=∀ a o,S a=some o->OOk K P w H a o
structure zdk (K:PySem.W.Frag) (H:Hp) (env:Slo) (σ:L2.St):Prop where
 len:env.length=σ.length
 at_:∀ (i:Nat) (d:D),env[i]? = some (some d)->∃ v:V,σ[i]? = some (some v)∧DV K H d v
section
variable {K:PySem.W.Frag} {P:Program} {w:World} {S:Sto} {H H':Hp} {env:Slo} {σ:L2.St} {a:Addr} {o:O}
theorem OOk.some (h:OOk K P w H a o):∃ u,H a=some u∧Mut (some u):=by
 cases o with
 | lst=>obtain ⟨vs,e,_⟩:=h;exact ⟨_,e,trivial⟩
 | dic=>obtain ⟨vs,e,_⟩:=h;exact ⟨_,e,trivial⟩
 | dit=>obtain ⟨vs,e,_⟩:=h;exact ⟨_,e,trivial⟩
 | set=>exact ⟨_,h,trivial⟩
 | ins=>obtain ⟨dx,vs,e,_⟩:=h;exact ⟨_,e,trivial⟩
 | din=>obtain ⟨zs,e,_⟩:=h;exact ⟨_,e,trivial⟩
theorem OOk.at (h:OOk K P w H a o) (l:Le H H') (e:H' a=H a):OOk K P w H' a o:=by
 cases o with
 | lst=>obtain ⟨vs,q,z⟩:=h;exact ⟨vs,e.trans q,z.le l⟩
 | dic=>obtain ⟨vs,q,z⟩:=h;exact ⟨vs,e.trans q,z.le l⟩
 | dit=>obtain ⟨vs,q,z⟩:=h;exact ⟨vs,e.trans q,z.le l⟩
 | set=>exact e.trans h
 | ins=>obtain ⟨dx,vs,q,z⟩:=h;exact ⟨dx,vs,e.trans q,z.le l⟩
 | din=>obtain ⟨zs,q,z⟩:=h;exact ⟨zs,e.trans q,z.le l⟩
theorem Rp.free (r:Rp K P w S H) (h:H a=none):S a=none:=by
 cases e:S a with
 | none=>rfl
 | some o=>
  obtain ⟨u,q,_⟩:=(r a o e).some
  rw [h] at q;cases q
theorem Rp.new {u:HO} (r:Rp K P w S H) (h:H a=none) (n:OOk K P w (upd H a u) a o):Rp K P w (put S a o) (upd H a u):=fun b ob e=>by
 by_cases hb:b=a
 ·subst hb;rw [zai] at e;cases e;exact n
 ·rw [zaP hb] at e
  exact (r b ob e).at (Le.new h) (upd_ne hb)
theorem Rp.more {u:HO} (r:Rp K P w S H) (h:H a=none):Rp K P w S (upd H a u):=fun b ob e=>by
 obtain ⟨z,q,_⟩:=(r b ob e).some
 exact (r b ob e).at (Le.new h) (upd_ne (ne_of_none q h))
theorem Rp.wr {u:HO} (r:Rp K P w S H) (h:Mut (H a)) (n:OOk K P w (upd H a u) a o):Rp K P w (put S a o) (upd H a u):=fun b ob e=>by
 by_cases hb:b=a
 ·subst hb;rw [zai] at e;cases e;exact n
 ·rw [zaP hb] at e
  exact (r b ob e).at (Le.mut h) (upd_ne hb)
theorem zdk.le (r:zdk K H env σ) (l:Le H H'):zdk K H' env σ:=⟨r.len,fun i d e=>by
 obtain ⟨v,q,z⟩:=r.at_ i d e
 exact ⟨v,q,z.le l⟩⟩
theorem zdk.set {d:D} {v:V} (r:zdk K H env σ) (h:DV K H d v) (i:Nat):zdk K H (env.set i (some d)) (σ.set i (some v)):=⟨by simp [r.len],fun j e q=>by
 by_cases hj:j=i
 ·subst hj
  have hl:j < env.length:=by
   have:=(List.getElem?_eq_some_iff.mp q).1
   simpa using this
  rw [List.getElem?_set_self hl] at q
  cases q
  exact ⟨v,List.getElem?_set_self (by rw [← r.len];exact hl),h⟩
 ·rw [List.getElem?_set_ne (Ne.symm hj)] at q ⊢
  exact r.at_ j e q⟩
theorem zdk.unset (r:zdk K H env σ) (i:Nat):zdk K H (env.set i none) (σ.set i none):=⟨by simp [r.len],fun j e q=>by
 by_cases hj:j=i
 ·subst hj
  have hl:j < env.length:=by
   have:=(List.getElem?_eq_some_iff.mp q).1
   simpa using this
  rw [List.getElem?_set_self hl] at q
  cases q
 ·rw [List.getElem?_set_ne (Ne.symm hj)] at q ⊢
  exact r.at_ j e q⟩
end
abbrev EM:=Slo->Sto->DQ->Prop
abbrev TM:=Slo->Sto->(Bool->Sto->Prop)->Prop
abbrev AM:=Slo->Sto->(List D->Sto->Prop)->Prop
abbrev XW:=Value->List (Str×D)->Slo->Sto->Prop
abbrev SM:=Fin->Slo->Sto->Prop
section
variable (K:PySem.W.Frag) (P:Program) (w:World) (B:Hp)
def dnE (H:Hp) (Q:VK):DQ:=fun d S'=>∀ v H',Le H H'->Rp K P w S' H'->DV K H' d v->Q v H'
def up (m:EM):TE:=fun σ H Q=>Le B H∧∃ env S,zdk K H env σ∧Rp K P w S H∧m env S (dnE K P w H Q)
def upT (m:TM):TT:=fun σ H Q=>Le B H∧∃ env S,zdk K H env σ∧Rp K P w S H∧m env S fun b S'=>∀ H',Le H H'->Rp K P w S' H'->Q b H'
def upA (m:AM):TA:=fun σ H Q=>Le B H∧∃ env S,zdk K H env σ∧Rp K P w S H∧m env S fun ds S'=>∀ vs H',Le H H'->Rp K P w S' H'->DVs K H' ds vs->Q vs H'
def dnF (H:Hp) (D:Ends):Fin where
 nx:=fun env S'=>∀ σ H',Le H H'->zdk K H' env σ->Rp K P w S' H'->D.nx σ H'
 rt:=dnE K P w H D.rt
 bk:=fun env S'=>∀ σ H',Le H H'->zdk K H' env σ->Rp K P w S' H'->D.bk σ H'
 ct:=fun env S'=>∀ σ H',Le H H'->zdk K H' env σ->Rp K P w S' H'->D.ct σ H'
def upS (m:SM):TS:=fun D σ H=>Le B H∧∃ env S,zdk K H env σ∧Rp K P w S H∧m (dnF K P w H D) env S
def XdR (H:Hp) (d:Option Addr) (fs:List (Str×D)):Prop:=match d with
 | some a=>∃ vs,H a=some (.xd vs)∧KVs K H fs vs
 | none=>fs=[]
def upW (W:XW):WX:=fun cls d σ H=>Le B H∧∃ env S fs,zdk K H env σ∧Rp K P w S H∧XdR K H d fs∧W cls fs env S
end
def zd2 (m:EM):Prop:=∀ env S (Q Q':DQ),(∀ d S,Q d S->Q' d S)->m env S Q->m env S Q'
def zmE (m:TM):Prop:=∀ env S (Q Q':Bool->Sto->Prop),(∀ d S,Q d S->Q' d S)->m env S Q->m env S Q'
def zln (m:AM):Prop:=∀ env S (Q Q':List D->Sto->Prop),(∀ d S,Q d S->Q' d S)->m env S Q->m env S Q'
structure zeg (A B:Fin):Prop where
 nx:∀ e S,A.nx e S->B.nx e S
 rt:∀ d S,A.rt d S->B.rt d S
 bk:∀ e S,A.bk e S->B.bk e S
 ct:∀ e S,A.ct e S->B.ct e S
def zmF (m:SM):Prop:=∀ A B env S,zeg A B->m A env S->m B env S
structure ME (X:Cx) (B:Hp) (e:Expr) (m:EM):Prop where
 pe:PE X e (up X.K X.prog X.w B m)
 mono:zd2 m
structure MT (X:Cx) (B:Hp) (e:Expr) (m:TM):Prop where
 pt:PT X e (upT X.K X.prog X.w B m)
 mono:zmE m
structure MA (X:Cx) (B:Hp) (es:List Expr) (m:AM):Prop where
 pa:PA X es (upA X.K X.prog X.w B m)
 mono:zln m
structure MS (X:Cx) (B:Hp) (st:Stmt) (m:SM):Prop where
 ps:PS X st (upS X.K X.prog X.w B m)
 mono:zmF m
structure MSs (X:Cx) (B:Hp) (st:List Stmt) (m:SM):Prop where
 ps:PSs X st (upS X.K X.prog X.w B m)
 mono:zmF m
theorem zbu {X:Cx} {e:Expr} {t t':TE} (h:PE X e t) (i:∀ σ H Q,t' σ H Q->t σ H Q):PE X e t':=⟨fun pins s σ H Q I q=>h.run pins s σ H Q I (i σ H Q q)⟩
theorem zix {X:Cx} {e:Expr} {t t':TT} (h:PT X e t) (i:∀ σ H Q,t' σ H Q->t σ H Q):PT X e t':=⟨fun pins s σ H Q I q=>h.run pins s σ H Q I (i σ H Q q)⟩
theorem zmO {X:Cx} {e:Expr} {t t':TT} (h:PW X e t) (i:∀ σ H Q,t' σ H Q->t σ H Q):PW X e t':=⟨fun wh pins s σ H Q I q=>h.run wh pins s σ H Q I (i σ H Q q)⟩
theorem zmR {X:Cx} {e:List Expr} {t t':TA} (h:PA X e t) (i:∀ σ H Q,t' σ H Q->t σ H Q):PA X e t':=⟨fun pos pins s σ H Q I q=>h.run pos pins s σ H Q I (i σ H Q q)⟩
theorem zd4 {X:Cx} {e:Stmt} {t t':TS} (h:PS X e t) (i:∀ D σ H,t' D σ H->t D σ H):PS X e t':=⟨fun pins s σ H D I q=>h.run pins s σ H D I (i D σ H q)⟩
theorem zkI {X:Cx} {e:List Stmt} {t t':TS} (h:PSs X e t) (i:∀ D σ H,t' D σ H->t D σ H):PSs X e t':=⟨fun pins s σ H D I q=>h.run pins s σ H D I (i D σ H q)⟩
section
variable {K:PySem.W.Frag} {P:Program} {w:World} {H H':Hp}
theorem zdT {Q:VK} (l:Le H H'):∀ d S,dnE K P w H Q d S->dnE K P w H' Q d S:=fun _ _ h v H2 l2 r z=>h v H2 (l.trans l2) r z
theorem zlf {D:Ends} (l:Le H H'):zeg (dnF K P w H D) (dnF K P w H' D):=
 ⟨fun _ _ h σ H2 l2 e r=>h σ H2 (l.trans l2) e r,zdT l,fun _ _ h σ H2 l2 e r=>h σ H2 (l.trans l2) e r,fun _ _ h σ H2 l2 e r=>h σ H2 (l.trans l2) e r⟩
theorem zeg.refl (A:Fin):zeg A A:=⟨fun _ _ h=>h,fun _ _ h=>h,fun _ _ h=>h,fun _ _ h=>h⟩
end
section
variable {X:Cx} {B:Hp}
def zag (i:Nat):EM:=fun env S Q=>match env[i]? with
 | some (some d)=>Q d S
 | _=>False
theorem zab (i:Nat) {x:Str} {pos:Pos} (h:PE X (.Name x pos) (tVar i)):ME X B (.Name x pos) (zag i):=by
 refine ⟨zbu h fun σ H Q q=>?_,fun env S Q Q' i h=>?_⟩
 ·obtain ⟨_,env,S,r,z,q⟩:=q
  unfold zag at q
  split at q
  ·rename_i d e
   obtain ⟨v,e1,e2⟩:=r.at_ i d e
   exact ⟨v,e1,q v H (Le.refl H) z e2⟩
  ·exact q.elim
 ·unfold zag at h ⊢
  split at h
  ·exact i _ _ h
  ·exact h.elim
def mC (d:D):EM:=fun _ S Q=>Q d S
theorem zuj (d:D):zd2 (mC d):=fun _ S Q Q' i h=>i _ _ h
theorem zph {e:Expr} {d:D} {v:V} (h:PE X e (tC v)) (hd:∀ H,DV X.K H d v):ME X B e (mC d):=by
 refine ⟨zbu h fun σ H Q q=>?_,zuj d⟩
 obtain ⟨_,env,S,r,z,q⟩:=q
 exact q v H (Le.refl H) z (hd H)
theorem zaf {i j pos}:ME X B (.Constant (.int i) j pos) (mC (.int i)):=zph pe_int fun _=>.int i
theorem zbV {b j pos}:ME X B (.Constant (.bool b) j pos) (mC (.bl b)):=zph pe_bl fun _=>.bl b
theorem zhB {j pos}:ME X B (.Constant .none j pos) (mC .non):=zph pe_non fun _=>.non
theorem zam {x j pos} (ok:OkS x:=by exact ⟨by decide +kernel,by decide +kernel⟩):ME X B (.Constant (.str x) j pos) (mC (.str x)):=zph pe_str fun _=>.str x ok
abbrev BM:=D->D->Sto->DQ->Prop
structure OpD (X:Cx) (f:Value->Value->Sem Value) (r:BM):Prop where
 op:OpR X f fun x y H Q=>∃ d e S,DV X.K H d x∧DV X.K H e y∧Rp X.K X.prog X.w S H∧r d e S (dnE X.K X.prog X.w H Q)
 mono:∀ d e S (Q Q':DQ),(∀ d S,Q d S->Q' d S)->r d e S Q->r d e S Q'
def mOp (r:BM) (ma mb:EM):EM:=fun env S Q=>ma env S fun x S1=>mb env S1 fun y S2=>r x y S2 Q
theorem ziF {r:BM} {ma mb:EM} (hr:∀ d e S (Q Q':DQ),(∀ d S,Q d S->Q' d S)->r d e S Q->r d e S Q') (ha:zd2 ma) (hb:zd2 mb):zd2 (mOp r ma mb):=fun env S Q Q' i h=>
 ha env S _ _ (fun x S1 h1=>hb env S1 _ _ (fun y S2 h2=>hr x y S2 _ _ i h2) h1) h
variable {a b:Expr} {ma mb:EM} {pos:Pos}
theorem zji {K:PySem.W.Frag} {P:Program} {w:World} {r:BM} {R:R2} (ha:zd2 ma) (hb:zd2 mb) (hR:∀ x y H Q d e S,DV K H d x->DV K H e y->Rp K P w S H->r d e S (dnE K P w H Q)->R x y H Q)
  (hr:∀ d e S (Q Q':DQ),(∀ d S,Q d S->Q' d S)->r d e S Q->r d e S Q') {σ:L2.St} {H:Hp} {Q:VK} (h:up K P w B (mOp r ma mb) σ H Q):tOp R (up K P w B ma) (up K P w B mb) σ H Q:=by
 obtain ⟨lB,env,S,r0,z0,h⟩:=h
 refine ⟨lB,env,S,r0,z0,ha env S _ _ (fun x S1 h1 v H1 l1 z1 d1=>?_) h⟩
 refine ⟨lB.trans l1,env,S1,r0.le l1,z1,hb env S1 _ _ (fun y S2 h2 u H2 l2 z2 d2=>?_) h1⟩
 exact hR v u H2 Q x y S2 (d1.le l2) d2 z2 (hr _ _ _ _ _ (zdT (l1.trans l2)) h2)
theorem zaz {op:Operator} {r:BM} (ho:OpD X (binaryOp op) r) (ha:ME X B a ma) (hb:ME X B b mb):ME X B (.BinOp a op b pos) (mOp r ma mb):=
 ⟨zbu (pe_op ho.op ha.pe hb.pe) fun _ _ _ h=>zji ha.mono hb.mono (fun _ _ _ _ d e S h1 h2 h3 h4=>⟨d,e,S,h1,h2,h3,h4⟩) ho.mono h,ziF ho.mono ha.mono hb.mono⟩
theorem zd8 {op:CmpOp} {r:BM} (ho:OpD X (compareOp op) r) (ha:ME X B a ma) (hb:ME X B b mb) (hm:behindInMarks op b=false:=by first | exact nomark _ | rfl):ME X B (.Compare a [op] [b] pos) (mOp r ma mb):=
 ⟨zbu (pe_cmpR ho.op ha.pe hb.pe hm) fun _ _ _ h=>zji ha.mono hb.mono (fun _ _ _ _ d e S h1 h2 h3 h4=>⟨d,e,S,h1,h2,h3,h4⟩) ho.mono h,ziF ho.mono ha.mono hb.mono⟩
def mB (m:EM):TM:=fun env S Q=>m env S fun d S1=>match d with
 | .bl b=>Q b S1
 | _=>False
theorem zoD {m:EM} (h:zd2 m):zmE (mB m):=fun env S Q Q' i q=>h env S _ _ (fun d S1 z=>by
 cases d <;> first | exact i _ _ z | exact z.elim) q
theorem zat {op:CmpOp} {r:BM} (ho:OpD X (compareOp op) r) (ha:ME X B a ma) (hb:ME X B b mb) (hm:behindInMarks op b=false:=by first | exact nomark _ | rfl):MT X B (.Compare a [op] [b] pos) (mB (mOp r ma mb)):=by
 refine ⟨zix (pt_cmpR ho.op ha.pe hb.pe hm) fun σ H Q h=>?_,zoD (ziF ho.mono ha.mono hb.mono)⟩
 obtain ⟨lB,env,S,r0,z0,h⟩:=h
 refine zji (r:=r) ha.mono hb.mono (fun _ _ _ _ d e S h1 h2 h3 h4=>⟨d,e,S,h1,h2,h3,h4⟩) ho.mono ⟨lB,env,S,r0,z0,?_⟩
 refine ziF ho.mono ha.mono hb.mono env S _ _ (fun d S1 q v H' l r d1=>?_) h
 cases d1 <;> first | exact ⟨_,rfl,q H' l r⟩ | exact q.elim
end
section
variable {X:Cx}
theorem opd {f:Value->Value->Sem Value} {r:BM} (R:R2) (h:OpR X f R) (hR:∀ x y H Q d e S,DV X.K H d x->DV X.K H e y->Rp X.K X.prog X.w S H->r d e S (dnE X.K X.prog X.w H Q)->R x y H Q)
  (mono:∀ d e S (Q Q':DQ),(∀ d S,Q d S->Q' d S)->r d e S Q->r d e S Q'):OpD X f r:=⟨fun pins s σ H x y v u Q I rx ry q=>by
 obtain ⟨d,e,S,h1,h2,h3,h4⟩:=q
 exact h pins s σ H x y v u Q I rx ry (hR x y H Q d e S h1 h2 h3 h4),mono⟩
theorem zaD {K:PySem.W.Frag} {P:Program} {w:World} {H:Hp} {Q:VK} {S:Sto} {d:D} {v:V} (h:dnE K P w H Q d S) (r:Rp K P w S H) (z:DV K H d v):Q v H:=h v H (Le.refl H) r z
theorem zgf {K:PySem.W.Frag} {P:Program} {w:World} {H:Hp} {Q:VK} {S:Sto} {ds:List D} {vs:List V} (h:∀ p,S p=none->dnE K P w H Q (.ref p) (put S p (.lst ds))) (r:Rp K P w S H) (z:DVs K H ds vs):∀ p,H p=none->Q (.ref p) (upd H p (.lst vs)):=fun p hp=>
 h p (r.free hp) _ _ (Le.new hp) (r.new hp ⟨vs,upd_same,z.le (Le.new hp)⟩) (.ref p)
theorem zif {K:PySem.W.Frag} {P:Program} {w:World} {H:Hp} {Q:VK} {S:Sto} {ds:List D} {vs:List V} (h:dnE K P w H Q (.tup ds) S) (r:Rp K P w S H) (z:DVs K H ds vs):∀ p,H p=none->Q (.ref p) (upd H p (.tup vs)):=fun p hp=>
 h _ _ (Le.new hp) (r.more hp) (.tup (.inl (.inl upd_same)) (z.le (Le.new hp)) upd_same)
theorem OkS.append {a b:Str} (h:OkS a) (h':OkS b) (hl:a.length+b.length≤sizeLine):OkS (a++b):=by
 refine ⟨?_,?_⟩
 ·have h1:=h.1
  have h2:=h'.1
  unfold PyData.strOk at *
  show ((a.cps++b.cps).all _)=true
  rw [Array.all_append]
  rw [h1,h2]
  rfl
 ·show (a.cps++b.cps).size≤sizeLine
  rw [Array.size_append]
  exact hl
def zbK:BM:=fun d e S Q=>match d,e with
 | .int i,.int j=>Q (.int (i+j)) S
 | .str i,.str j=>i.length+j.length≤sizeLine∧Q (.str (i++j)) S
 | .tp f xs,.tp f' ys=>(f || f')=false∧xs.length+ys.length≤sizeLine∧Q (.tup (xs++ys)) S
 | .ref a,.ref b=>match S a,S b with
  | some (.lst xs),some (.lst ys)=>xs.length+ys.length≤sizeLine∧∀ p,S p=none->Q (.ref p) (put S p (.lst (xs++ys)))
  | _,_=>False
 | _,_=>False
theorem zoC:∀ d e S (Q Q':DQ),(∀ d S,Q d S->Q' d S)->zbK d e S Q->zbK d e S Q':=by
 intro d e S Q Q' i h
 cases d <;> cases e <;> first | exact h.elim | exact i _ _ h | exact ⟨h.1,i _ _ h.2⟩ | exact ⟨h.1,h.2.1,i _ _ h.2.2⟩ | skip
 rename_i a b
 unfold zbK at h ⊢
 dsimp only at h ⊢
 split at h
 ·exact ⟨h.1,fun p hp=>i _ _ (h.2 p hp)⟩
 ·exact h.elim
theorem zaB:OpD X (binaryOp .Add) zbK:=by
 refine opd _ ((op_add.or op_add_str).or (op_catA.or op_cat)) (fun x y H Q d e S h1 h2 r h=>?_) zoC
 cases h1 <;> cases h2 <;> first | exact h.elim | skip
 ·exact .inl (.inl ⟨_,_,rfl,rfl,zaD h r (.int _)⟩)
 ·rename_i i o1 j o2
  exact .inl (.inr ⟨_,_,rfl,rfl,h.1,zaD h.2 r (.str _ (o1.append o2 h.1))⟩)
 ·rename_i a vs ds f1 s1 z1 t1 b us es f2 s2 z2 t2
  obtain ⟨hf,h⟩:=h
  obtain ⟨rfl,rfl⟩:=Bool.or_eq_false_iff.mp hf
  have hl:vs.length+us.length≤sizeLine:=by rw [← z1.length,← z2.length];exact h.1
  refine .inr (.inl ⟨_,_,vs,us,rfl,rfl,s1,s2,hl,fun e=>?_,fun _ e=>?_,fun _ _=>zif h.2 r (z1.append z2)⟩)
  ·subst e
   cases z1
   exact zaD h.2 r (.tup s2 z2 t2)
  ·subst e
   cases z2
   exact zaD h.2 r (by rw [List.append_nil];exact .tup s1 z1 t1)
 ·rename_i a b
  unfold zbK at h
  dsimp only at h
  split at h
  ·rename_i xs ys e1 e2
   obtain ⟨vs,q1,z1⟩:=r _ _ e1
   obtain ⟨us,q2,z2⟩:=r _ _ e2
   refine .inr (.inr ⟨_,_,vs,us,rfl,rfl,q1,q2,by rw [← z1.length,← z2.length];exact h.1,zgf h.2 r (z1.append z2)⟩)
  ·exact h.elim
def vI (C:Int->Int->Prop) (g:Int->Int->D):BM:=fun d e S Q=>match d,e with
 | .int i,.int j=>C i j∧Q (g i j) S
 | _,_=>False
theorem zui {C:Int->Int->Prop} {g:Int->Int->D}:∀ d e S (Q Q':DQ),(∀ d S,Q d S->Q' d S)->vI C g d e S Q->vI C g d e S Q':=by
 intro d e S Q Q' i h
 cases d <;> cases e <;> first | exact h.elim | exact ⟨h.1,i _ _ h.2⟩
def vI0 (g:Int->Int->D):BM:=fun d e S Q=>match d,e with
 | .int i,.int j=>Q (g i j) S
 | _,_=>False
theorem zrr {g:Int->Int->D}:∀ d e S (Q Q':DQ),(∀ d S,Q d S->Q' d S)->vI0 g d e S Q->vI0 g d e S Q':=by
 intro d e S Q Q' i h
 cases d <;> cases e <;> first | exact h.elim | exact i _ _ h
theorem zue {f:Value->Value->Sem Value} {C:Int->Int->Prop} {g:Int->Int->Int} (h:OpR X f (rI C fun i j=>.int (g i j))):OpD X f (vI C fun i j=>.int (g i j)):=by
 refine opd _ h (fun x y H Q d e S h1 h2 r h=>?_) zui
 cases h1 <;> cases h2 <;> first | exact h.elim | exact ⟨_,_,rfl,rfl,h.1,zaD h.2 r (.int _)⟩
theorem zg3:OpD X (binaryOp .Sub) (vI0 fun i j=>.int (i - j)):=by
 refine opd _ op_sub (fun x y H Q d e S h1 h2 r h=>?_) zrr
 cases h1 <;> cases h2 <;> first | exact h.elim | exact ⟨_,_,rfl,rfl,zaD h r (.int _)⟩
theorem zgq:OpD X (binaryOp .Mod) (vI (fun _ j=>0 < j) fun i j=>.int (i % j)):=zue op_mod
theorem zfw:OpD X (binaryOp .FloorDiv) (vI CDivW fun i j=>.int (i / j)):=zue op_fdivW
theorem zkP:OpD X (binaryOp .Pow) (vI CPow fun i j=>.int (i ^ j.toNat)):=zue op_pow
def zjL:BM:=fun d e S Q=>match d,e with
 | .int i,.int j=>CMul i j∧Q (.int (i * j)) S
 | .ref a,.int k=>match S a with
  | some (.lst xs)=>-(2 ^ 63)≤k∧k < 2 ^ 63∧xs.length * k.toNat≤sizeLine∧∀ p,S p=none->Q (.ref p) (put S p (.lst (List.replicate k.toNat xs).flatten))
  | _=>False
 | _,_=>False
theorem zoy:∀ d e S (Q Q':DQ),(∀ d S,Q d S->Q' d S)->zjL d e S Q->zjL d e S Q':=by
 intro d e S Q Q' i h
 cases d <;> cases e <;> first | exact h.elim | exact ⟨h.1,i _ _ h.2⟩ | skip
 unfold zjL at h ⊢
 dsimp only at h ⊢
 split at h
 ·exact ⟨h.1,h.2.1,h.2.2.1,fun p hp=>i _ _ (h.2.2.2 p hp)⟩
 ·exact h.elim
theorem DVs.rep {K:PySem.W.Frag} {H:Hp} {ds:List D} {vs:List V} (h:DVs K H ds vs):∀ n:Nat,DVs K H (List.replicate n ds).flatten (List.replicate n vs).flatten
 | 0=>.nil
 | n+1=>by
  rw [List.replicate_succ,List.replicate_succ,List.flatten_cons,List.flatten_cons]
  exact h.append (DVs.rep h n)
theorem zhA:OpD X (binaryOp .Mult) zjL:=by
 refine opd _ (op_mul.or op_rep) (fun x y H Q d e S h1 h2 r h=>?_) zoy
 cases h1 <;> cases h2 <;> first | exact h.elim | skip
 ·exact .inl ⟨_,_,rfl,rfl,h.1,zaD h.2 r (.int _)⟩
 ·unfold zjL at h
  dsimp only at h
  split at h
  ·rename_i xs e1
   obtain ⟨vs,q1,z1⟩:=r _ _ e1
   exact .inr ⟨_,_,vs,rfl,rfl,q1,h.1,h.2.1,by rw [← z1.length];exact h.2.2.1,zgf h.2.2.2 r (z1.rep _)⟩
  ·exact h.elim
def znk (pi:Int->Int->Bool) (ps:List Nat->List Nat->Bool):BM:=fun d e S Q=>match d,e with
 | .int i,.int j=>Q (.bl (pi i j)) S
 | .str i,.str j=>Q (.bl (ps i.cps.toList j.cps.toList)) S
 | _,_=>False
theorem zox {pi:Int->Int->Bool} {ps:List Nat->List Nat->Bool}:∀ d e S (Q Q':DQ),(∀ d S,Q d S->Q' d S)->znk pi ps d e S Q->znk pi ps d e S Q':=by
 intro d e S Q Q' i h
 cases d <;> cases e <;> first | exact h.elim | exact i _ _ h
theorem zjq {f:Value->Value->Sem Value} {pi:Int->Int->Bool} {ps:List Nat->List Nat->Bool} (h1:OpR X f (rI0 fun i j=>.bl (pi i j))) (h2:OpR X f (fun x y H Q=>∃ i j,x = .str i∧y = .str j∧Q (.bl (ps i.cps.toList j.cps.toList)) H)):OpD X f (znk pi ps):=by
 refine opd _ (h1.or h2) (fun x y H Q d e S h1 h2 r h=>?_) zox
 cases h1 <;> cases h2 <;> first | exact h.elim | exact .inl ⟨_,_,rfl,rfl,zaD h r (.bl _)⟩ | exact .inr ⟨_,_,rfl,rfl,zaD h r (.bl _)⟩
abbrev vLt:BM:=znk (fun i j=>decide (i < j)) fun a b=>decide (a < b)
abbrev vLe:BM:=znk (fun i j=>decide (i≤j)) fun a b=>!decide (b < a)
abbrev vGt:BM:=znk (fun i j=>decide (j < i)) fun a b=>decide (b < a)
abbrev vGe:BM:=znk (fun i j=>decide (j≤i)) fun a b=>!decide (a < b)
theorem zkQ:OpD X (compareOp .Lt) vLt:=zjq op_lt op_lt_str
theorem zj3:OpD X (compareOp .LtE) vLe:=zjq op_le op_le_str
theorem ziE:OpD X (compareOp .Gt) vGt:=zjq op_gt op_gt_str
theorem zkR:OpD X (compareOp .GtE) vGe:=zjq op_ge op_ge_str
def rs (S:Sto):Nat->D->Option PyData
 | _,.non=>some .none
 | _,.bl b=>some (.bool b)
 | _,.int i=>some (.int i)
 | _,.str x=>some (.str x)
 | n+1,.tp _ ds=>(ds.mapM (rs S n)).map .tuple
 | n+1,.rol ds=>(ds.mapM (rs S n)).map .list
 | n+1,.ref a=>match S a with
  | some (.lst ds)=>(ds.mapM (rs S n)).map .list
  | _=>none
 | _,_=>none
theorem zhu {α β:Type} {f:α->Option β} {x:α} {xs:List α} {ys:List β} (h:(x :: xs).mapM f=some ys):∃ y r,f x=some y∧xs.mapM f=some r∧ys=y :: r:=by
 rw [List.mapM_cons] at h
 cases e:f x with
 | none=>rw [e] at h;cases h
 | some y=>
  rw [e] at h
  cases e2:xs.mapM f with
  | none=>rw [e2] at h;cases h
  | some r=>
   rw [e2] at h
   exact ⟨y,r,rfl,rfl,(Option.some.inj h).symm⟩
section
variable {K:PySem.W.Frag} {P:Program} {w:World} {S:Sto} {H:Hp}
def zwV (K:PySem.W.Frag) (H:Hp) (S:Sto) (n:Nat):Prop:=∀ d v p,DV K H d v->rs S n d=some p->Dp K H v p∧p.canLay0=true∧p.depth≤n
theorem zjn {n:Nat} (ih:zwV K H S n):∀ (ds:List D) (vs:List V) (ps:List PyData),DVs K H ds vs->ds.mapM (rs S n)=some ps->DpAll K H vs ps∧PyData.canLayAll0 ps=true∧PyData.depthAll ps≤n
 | [],vs,ps,h,e=>by
  cases h
  rw [List.mapM_nil] at e
  cases e
  exact ⟨.nil,rfl,Nat.zero_le _⟩
 | d :: ds,_,ps,h,e=>by
  cases h with
  | cons h1 h2=>
   obtain ⟨y,r,e1,e2,rfl⟩:=zhu e
   obtain ⟨a1,a2,a3⟩:=ih d _ y h1 e1
   obtain ⟨b1,b2,b3⟩:=zjn ih ds _ r h2 e2
   refine ⟨.cons a1 b1,?_,?_⟩
   ·show (y.canLay0 && PyData.canLayAll0 r)=true
    rw [a2,b2]
    rfl
   ·show max y.depth (PyData.depthAll r)≤n
    exact Nat.max_le.mpr ⟨a3,b3⟩
theorem zg8 {α β:Type} {f:α->β} {o:Option α} {y:β} (h:o.map f=some y):∃ x,o=some x∧y=f x:=by
 cases o with
 | none=>cases h
 | some x=>exact ⟨x,rfl,(Option.some.inj h).symm⟩
theorem zua (r:Rp K P w S H):∀ n,zwV K H S n:=by
 intro n
 induction n with
 | zero=>
  intro d v p h e
  cases h <;> first | (cases e;done) | skip
  ·cases e;exact ⟨.non,rfl,Nat.zero_le _⟩
  ·cases e;exact ⟨.bl _,rfl,Nat.zero_le _⟩
  ·cases e;exact ⟨.int _,rfl,Nat.zero_le _⟩
  ·rename_i x ok
   cases e;exact ⟨.str _,ok.1,Nat.zero_le _⟩
 | succ n ih=>
  intro d v p h e
  cases h with
  | non=>cases e;exact ⟨.non,rfl,Nat.zero_le _⟩
  | bl b=>cases e;exact ⟨.bl _,rfl,Nat.zero_le _⟩
  | int i=>cases e;exact ⟨.int _,rfl,Nat.zero_le _⟩
  | str x ok=>cases e;exact ⟨.str _,ok.1,Nat.zero_le _⟩
  | ty=>cases e
  | rod=>cases e
  | tup s z=>
   obtain ⟨ps,e1,rfl⟩:=zg8 (show (List.mapM (rs S n) _).map PyData.tuple=some p from e)
   obtain ⟨a1,a2,a3⟩:=zjn ih _ _ ps z e1
   exact ⟨.tup s a1,a2,Nat.succ_le_succ a3⟩
  | rol s z=>
   obtain ⟨ps,e1,rfl⟩:=zg8 (show (List.mapM (rs S n) _).map PyData.list=some p from e)
   obtain ⟨a1,a2,a3⟩:=zjn ih _ _ ps z e1
   exact ⟨.lst s.sq a1,a2,Nat.succ_le_succ a3⟩
  | ref a=>
   unfold rs at e
   split at e
   ·rename_i ds e0
    obtain ⟨vs,q,z⟩:=r _ _ e0
    obtain ⟨ps,e1,rfl⟩:=zg8 e
    obtain ⟨a1,a2,a3⟩:=zjn ih _ _ ps z e1
    exact ⟨.lst (SqL.of q) a1,a2,Nat.succ_le_succ a3⟩
   ·cases e
theorem zci (r:Rp K P w S H) {d:D} {v:V} {p:PyData} (h:DV K H d v) (e:rs S 40 d=some p):Dp K H v p∧SeqAt.shaped p=true:=by
 obtain ⟨a,b,c⟩:=zua r 40 d v p h e
 refine ⟨a,?_⟩
 show (p.canLay0 && decide (p.depth≤64))=true
 rw [b,decide_eq_true (Nat.le_trans c (by decide))]
 rfl
end
def zio (g:Bool->Bool):BM:=fun d e S Q=>match d,e with
 | .str x,.str y=>Q (.bl (g (decide (x=y)))) S
 | .int x,.int y=>Q (.bl (g (decide (x=y)))) S
 | .bl x,.bl y=>Q (.bl (g (decide (x=y)))) S
 | d,e=>match rs S 40 d,rs S 40 e with
  | some p,some q=>Q (.bl (g (PyData.eqv p q))) S
  | _,_=>False
theorem zoB {g:Bool->Bool}:∀ d e S (Q Q':DQ),(∀ d S,Q d S->Q' d S)->zio g d e S Q->zio g d e S Q':=by
 intro d e S Q Q' i h
 unfold zio at h ⊢
 split at h
 ·exact i _ _ h
 ·exact i _ _ h
 ·exact i _ _ h
 ·split at h
  ·exact i _ _ h
  ·exact h.elim
abbrev vEq:BM:=zio fun b=>b
abbrev vNe:BM:=zio fun b=>!b
theorem zfD (x y:Str):decide (x=y)=PyData.eqv (.str x) (.str y):=by
 show decide (x=y)=(x == y)
 rfl
theorem zmT {f:Value->Value->Sem Value} {g:Bool->Bool} (h1:OpR X f (fun x y H Q=>scal x y=true∧Q (.bl (g (decide (x=y)))) H))
  (h2:OpR X f (fun x y H Q=>∃ d e,Dp X.K H x d∧Dp X.K H y e∧SeqAt.shaped d=true∧SeqAt.shaped e=true∧Q (.bl (g (PyData.eqv d e))) H)):OpD X f (zio g):=by
 refine opd _ (h1.or h2) (fun x y H Q d e S h1 h2 r h=>?_) zoB
 unfold zio at h
 split at h
 ·rename_i a b
  cases h1;cases h2
  refine .inl ⟨rfl,?_⟩
  have:decide (V.str a=V.str b)=decide (a=b):=by
   by_cases q:a=b
   ·subst q;simp
   ·rw [decide_eq_false q,decide_eq_false (fun z=>q (V.str.inj z))]
  rw [this]
  exact zaD h r (.bl _)
 ·rename_i a b
  cases h1;cases h2
  refine .inl ⟨rfl,?_⟩
  have:decide (V.int a=V.int b)=decide (a=b):=by
   by_cases q:a=b
   ·subst q;simp
   ·rw [decide_eq_false q,decide_eq_false (fun z=>q (V.int.inj z))]
  rw [this]
  exact zaD h r (.bl _)
 ·rename_i a b
  cases h1;cases h2
  refine .inl ⟨rfl,?_⟩
  have:decide (V.bl a=V.bl b)=decide (a=b):=by
   by_cases q:a=b
   ·subst q;simp
   ·rw [decide_eq_false q,decide_eq_false (fun z=>q (V.bl.inj z))]
  rw [this]
  exact zaD h r (.bl _)
 ·split at h
  ·rename_i p q e1 e2
   obtain ⟨a1,a2⟩:=zci r h1 e1
   obtain ⟨b1,b2⟩:=zci r h2 e2
   exact .inr ⟨p,q,a1,b1,a2,b2,zaD h r (.bl _)⟩
  ·exact h.elim
theorem zbb (hu:X.A.units+64 < cLine):OpD X (compareOp .Eq) vEq:=zmT op_eq (op_eqD hu)
theorem ziD (hu:X.A.units+64 < cLine):OpD X (compareOp .NotEq) vNe:=zmT op_ne (op_neD hu)
def znl (g:Bool->Bool):BM:=fun d e S Q=>match d,e with
 | .non,.non=>Q (.bl (g true)) S
 | .bl x,.bl y=>Q (.bl (g (decide (x=y)))) S
 | _,.non=>Q (.bl (g false)) S
 | _,_=>False
theorem zoz {g:Bool->Bool}:∀ d e S (Q Q':DQ),(∀ d S,Q d S->Q' d S)->znl g d e S Q->znl g d e S Q':=by
 intro d e S Q Q' i h
 cases d <;> cases e <;> first | exact h.elim | exact i _ _ h
abbrev vIs:BM:=znl fun b=>b
abbrev zkm:BM:=znl fun b=>!b
theorem zrm {f:Value->Value->Sem Value} {g:Bool->Bool} (h1:OpR X f (fun x y H Q=>y = .non∧Q (.bl (g (decide (x = .non)))) H))
  (h2:OpR X f (fun x y H Q=>∃ a b:Bool,x = .bl a∧y = .bl b∧Q (.bl (g (decide (a=b)))) H)):OpD X f (znl g):=by
 refine opd _ (h1.or h2) (fun x y H Q d e S h1 h2 r h=>?_) zoz
 cases h2 <;> cases h1 <;> first | exact h.elim | exact .inl ⟨rfl,zaD h r (.bl _)⟩ | exact .inr ⟨_,_,rfl,rfl,zaD h r (.bl _)⟩
theorem zjs:OpD X (compareOp .IsNot) zkm:=zrm op_notN op_notBl
end
section
variable {X:Cx} {B:Hp}
def zse (S:Sto):D->Option Bool
 | .non=>some false
 | .bl b=>some b
 | .int i=>some (i != 0)
 | .str x=>some ((x.length:Int) != 0)
 | .tp _ xs=>some (!xs.isEmpty)
 | .rol xs=>some (!xs.isEmpty)
 | .ref a=>match S a with
  | some (.lst xs)=>some (!xs.isEmpty)
  | some (.dic xs)=>some (!xs.isEmpty)
  | _=>none
 | .ty _=>none
 | .rod _ _=>none
theorem zpz {K:PySem.W.Frag} {P:Program} {w:World} {H:Hp} {S:Sto} {d:D} {v:V} {b:Bool} (h:DV K H d v) (r:Rp K P w S H) (e:zse S d=some b):TruV K v H b:=by
 cases h with
 | non=>cases e;rfl
 | bl=>cases e;rfl
 | int=>cases e;rfl
 | str x ok=>cases e;exact ⟨ok.2,rfl⟩
 | ty=>cases e
 | rod=>cases e
 | tup s z=>
  cases e
  refine .inr (.inl ⟨_,s,?_⟩)
  cases z <;> rfl
 | rol s z=>
  cases e
  refine .inl ⟨_,s.sq,?_⟩
  cases z <;> rfl
 | ref a=>
  simp only [zse] at e
  split at e
  ·rename_i xs e0
   obtain ⟨vs,q,z⟩:=r _ _ e0
   cases e
   refine .inl ⟨_,SqL.of q,?_⟩
   cases z <;> rfl
  ·rename_i xs e0
   obtain ⟨vs,q,z⟩:=r _ _ e0
   cases e
   refine .inr (.inr ⟨_,q,?_⟩)
   cases z <;> rfl
  ·cases e
def zev (m:EM):TM:=fun env S Q=>m env S fun d S1=>match zse S1 d with
 | some b=>Q b S1
 | none=>False
theorem zov {m:EM} (h:zd2 m):zmE (zev m):=fun env S Q Q' i q=>h env S _ _ (fun d S1 z=>by
 split at z
 ·exact i _ _ z
 ·exact z.elim) q
theorem zaY {a:Expr} {m:EM} (h:ME X B a m) (he:∀ whole,isTrue a X.env whole=(do let v ← whole;standAt a.pos;holding [v] (truthy v)):=by intro _;rfl):MT X B a (zev m):=by
 refine ⟨zix (pt_truth h.pe he) fun σ H Q q=>?_,zov h.mono⟩
 obtain ⟨lB,env,S,r0,z0,q⟩:=q
 refine ⟨lB,env,S,r0,z0,h.mono env S _ _ (fun d S1 q v H1 l1 z1 d1=>?_) q⟩
 dsimp only at q
 split at q
 ·rename_i b e
  exact ⟨b,zpz d1 z1 e,q H1 l1 z1⟩
 ·exact q.elim
def zj6 (t u:TM):TM:=fun env S Q=>t env S fun c S1=>match c with
 | true=>u env S1 Q
 | false=>Q false S1
def mOr (t u:TM):TM:=fun env S Q=>t env S fun c S1=>match c with
 | true=>Q true S1
 | false=>u env S1 Q
def zeX (t:TM):TM:=fun env S Q=>t env S fun c S1=>Q (!c) S1
structure MW (X:Cx) (B:Hp) (e:Expr) (m:TM):Prop where
 pw:PW X e (upT X.K X.prog X.w B m)
 mono:zmE m
theorem MW.mt {e:Expr} {m:TM} (h:MW X B e m):MT X B e m:=⟨h.pw.pt,h.mono⟩
variable {a b:Expr} {rest:List Expr} {t u:TM} {pos:Pos}
theorem zgd (h:MT X B a t):MW X B (.BoolOp .And [a] pos) t:=⟨pw_and1 h.pt,h.mono⟩
theorem zb9 (h:MT X B a t):MW X B (.BoolOp .Or [a] pos) t:=⟨pw_or1 h.pt,h.mono⟩
theorem zg6 (h:MT X B a t) (h2:MW X B (.BoolOp .And (b :: rest) pos) u):MW X B (.BoolOp .And (a :: b :: rest) pos) (zj6 t u):=by
 refine ⟨zmO (pw_and h.pt h2.pw) fun σ H Q q=>?_,fun env S Q Q' i q=>h.mono env S _ _ (fun c S1 z=>?_) q⟩
 ·obtain ⟨lB,env,S,r0,z0,q⟩:=q
  refine ⟨lB,env,S,r0,z0,h.mono env S _ _ (fun c S1 q H1 l1 z1=>?_) q⟩
  cases c with
  | true=>
   show upT X.K X.prog X.w B u σ H1 Q
   exact ⟨lB.trans l1,env,S1,r0.le l1,z1,h2.mono env S1 _ _ (fun b S2 q H2 l2 z2=>q H2 (l1.trans l2) z2) q⟩
  | false=>exact q H1 l1 z1
 ·cases c with
  | true=>exact h2.mono env S1 _ _ i z
  | false=>exact i _ _ z
theorem zcU (h:MT X B a t) (h2:MW X B (.BoolOp .Or (b :: rest) pos) u):MW X B (.BoolOp .Or (a :: b :: rest) pos) (mOr t u):=by
 refine ⟨zmO (pw_or h.pt h2.pw) fun σ H Q q=>?_,fun env S Q Q' i q=>h.mono env S _ _ (fun c S1 z=>?_) q⟩
 ·obtain ⟨lB,env,S,r0,z0,q⟩:=q
  refine ⟨lB,env,S,r0,z0,h.mono env S _ _ (fun c S1 q H1 l1 z1=>?_) q⟩
  cases c with
  | false=>
   show upT X.K X.prog X.w B u σ H1 Q
   exact ⟨lB.trans l1,env,S1,r0.le l1,z1,h2.mono env S1 _ _ (fun b S2 q H2 l2 z2=>q H2 (l1.trans l2) z2) q⟩
  | true=>exact q H1 l1 z1
 ·cases c with
  | false=>exact h2.mono env S1 _ _ i z
  | true=>exact i _ _ z
theorem zaZ (h:MT X B a t):MT X B (.UnaryOp .Not a pos) (zeX t):=by
 refine ⟨zix (pt_not h.pt) fun σ H Q q=>?_,fun env S Q Q' i q=>h.mono env S _ _ (fun c S1 z=>i _ _ z) q⟩
 exact q
variable {ma mb:EM}
def kB (k:Bool->Sto->Prop):D->Sto->Prop:=fun d S=>match d with
 | .bl b=>k b S
 | _=>False
def zg9 (ma mb:EM):EM:=fun env S Q=>ma env S (kB fun c S1=>match c with
 | true=>mb env S1 Q
 | false=>Q (.bl false) S1)
def zsk (ma mb:EM):EM:=fun env S Q=>ma env S (kB fun c S1=>match c with
 | true=>Q (.bl true) S1
 | false=>mb env S1 Q)
def zmb (ma:EM):EM:=fun env S Q=>ma env S (kB fun c S1=>Q (.bl (!c)) S1)
theorem zic {k k':Bool->Sto->Prop} (h:∀ b S,k b S->k' b S):∀ d S,kB k d S->kB k' d S:=fun d S q=>by
 cases d <;> first | exact h _ _ q | exact (show False from q).elim
theorem zmo {k:Bool->Sto->Prop} {K:PySem.W.Frag} {H:Hp} {d:D} {v:V} {S:Sto} (q:kB k d S) (z:DV K H d v):∃ c,v = .bl c∧k c S:=by
 cases z <;> first | exact ⟨_,rfl,q⟩ | exact (show False from q).elim
theorem zgr {op} {m:EM} (h:ME X B a m):ME X B (.BoolOp op [a] pos) m:=⟨pe_one h.pe,h.mono⟩
theorem zgs (h:ME X B a ma) (h2:ME X B (.BoolOp .And (b :: rest) pos) mb):ME X B (.BoolOp .And (a :: b :: rest) pos) (zg9 ma mb):=by
 refine ⟨zbu (pe_and h.pe h2.pe) fun σ H Q q=>?_,fun env S Q Q' i q=>h.mono env S _ _ (zic fun c S1 z=>?_) q⟩
 ·obtain ⟨lB,env,S,r0,z0,q⟩:=q
  refine ⟨lB,env,S,r0,z0,h.mono env S _ _ (fun d S1 q v H1 l1 z1 d1=>?_) q⟩
  obtain ⟨c,rfl,q⟩:=zmo q d1
  refine ⟨c,rfl,?_⟩
  cases c with
  | true=>
   show up X.K X.prog X.w B mb σ H1 Q
   exact ⟨lB.trans l1,env,S1,r0.le l1,z1,h2.mono env S1 _ _ (zdT l1) q⟩
  | false=>exact q _ H1 l1 z1 (.bl _)
 ·cases c with
  | true=>exact h2.mono env S1 _ _ i z
  | false=>exact i _ _ z
theorem zul (h:ME X B a ma) (h2:ME X B (.BoolOp .Or (b :: rest) pos) mb):ME X B (.BoolOp .Or (a :: b :: rest) pos) (zsk ma mb):=by
 refine ⟨zbu (pe_or h.pe h2.pe) fun σ H Q q=>?_,fun env S Q Q' i q=>h.mono env S _ _ (zic fun c S1 z=>?_) q⟩
 ·obtain ⟨lB,env,S,r0,z0,q⟩:=q
  refine ⟨lB,env,S,r0,z0,h.mono env S _ _ (fun d S1 q v H1 l1 z1 d1=>?_) q⟩
  obtain ⟨c,rfl,q⟩:=zmo q d1
  refine ⟨c,rfl,?_⟩
  cases c with
  | false=>
   show up X.K X.prog X.w B mb σ H1 Q
   exact ⟨lB.trans l1,env,S1,r0.le l1,z1,h2.mono env S1 _ _ (zdT l1) q⟩
  | true=>exact q _ H1 l1 z1 (.bl _)
 ·cases c with
  | false=>exact h2.mono env S1 _ _ i z
  | true=>exact i _ _ z
theorem zrs (h:ME X B a ma):ME X B (.UnaryOp .Not a pos) (zmb ma):=by
 refine ⟨zbu (pe_not h.pe) fun σ H Q q=>?_,fun env S Q Q' i q=>h.mono env S _ _ (zic fun c S1 z=>i _ _ z) q⟩
 obtain ⟨lB,env,S,r0,z0,q⟩:=q
 refine ⟨lB,env,S,r0,z0,h.mono env S _ _ (fun d S1 q v H1 l1 z1 d1=>?_) q⟩
 obtain ⟨c,rfl,q⟩:=zmo q d1
 exact ⟨c,rfl,q _ H1 l1 z1 (.bl _)⟩
def zoI (t:TM) (ma mb:EM):EM:=fun env S Q=>t env S fun c S1=>match c with
 | true=>ma env S1 Q
 | false=>mb env S1 Q
theorem zl7 {c:Expr} (hc:MT X B c t) (ha:ME X B a ma) (hb:ME X B b mb):ME X B (.IfExp c a b pos) (zoI t ma mb):=by
 refine ⟨zbu (pe_ifExp hc.pt ha.pe hb.pe) fun σ H Q q=>?_,fun env S Q Q' i q=>hc.mono env S _ _ (fun c S1 z=>?_) q⟩
 ·obtain ⟨lB,env,S,r0,z0,q⟩:=q
  refine ⟨lB,env,S,r0,z0,hc.mono env S _ _ (fun c S1 q H1 l1 z1=>?_) q⟩
  cases c with
  | true=>
   show up X.K X.prog X.w B ma σ H1 Q
   exact ⟨lB.trans l1,env,S1,r0.le l1,z1,ha.mono env S1 _ _ (zdT l1) q⟩
  | false=>
   show up X.K X.prog X.w B mb σ H1 Q
   exact ⟨lB.trans l1,env,S1,r0.le l1,z1,hb.mono env S1 _ _ (zdT l1) q⟩
 ·cases c with
  | true=>exact ha.mono env S1 _ _ i z
  | false=>exact hb.mono env S1 _ _ i z
def zgt (r r':BM) (ma mb mc:EM):EM:=fun env S Q=>ma env S fun x S1=>mb env S1 fun y S2=>r x y S2 (kB fun k S3=>match k with
 | true=>mc env S3 fun z S4=>r' y z S4 Q
 | false=>Q (.bl false) S3)
theorem zkU {r r':BM} {ma mb mc:EM} (hr:∀ d e S (Q Q':DQ),(∀ d S,Q d S->Q' d S)->r d e S Q->r d e S Q') (hr':∀ d e S (Q Q':DQ),(∀ d S,Q d S->Q' d S)->r' d e S Q->r' d e S Q')
  (ha:zd2 ma) (hb:zd2 mb) (hc:zd2 mc):zd2 (zgt r r' ma mb mc):=fun env S Q Q' i q=>
 ha env S _ _ (fun x S1 q=>hb env S1 _ _ (fun y S2 q=>hr x y S2 _ _ (zic fun k S3 q=>by
  cases k with
  | true=>exact hc env S3 _ _ (fun z S4 q=>hr' y z S4 _ _ i q) q
  | false=>exact i _ _ q) q) q) q
theorem zlv {r r':BM} {mc:EM} {op op':CmpOp} (ho:OpD X (compareOp op) r) (ho':OpD X (compareOp op') r') (ha:zd2 ma) (hb:zd2 mb) (hc:zd2 mc) {σ:L2.St} {H:Hp} {Q:VK} (q:up X.K X.prog X.w B (zgt r r' ma mb mc) σ H Q) :
  tChain (fun x y H Q=>∃ d e S,DV X.K H d x∧DV X.K H e y∧Rp X.K X.prog X.w S H∧r d e S (dnE X.K X.prog X.w H Q)) (fun x y H Q=>∃ d e S,DV X.K H d x∧DV X.K H e y∧Rp X.K X.prog X.w S H∧r' d e S (dnE X.K X.prog X.w H Q))
   (up X.K X.prog X.w B ma) (up X.K X.prog X.w B mb) (up X.K X.prog X.w B mc) σ H Q:=by
 obtain ⟨lB,env,S,r0,z0,h⟩:=q
 refine ⟨lB,env,S,r0,z0,ha env S _ _ (fun x S1 h1 v H1 l1 z1 d1=>?_) h⟩
 refine ⟨lB.trans l1,env,S1,r0.le l1,z1,hb env S1 _ _ (fun y S2 h2 u H2 l2 z2 d2=>?_) h1⟩
 refine ⟨x,y,S2,d1.le l2,d2,z2,ho.mono _ _ _ _ _ (fun c S3 q v3 H3 l3 z3 d3=>?_) h2⟩
 obtain ⟨k,rfl,q⟩:=zmo q d3
 refine ⟨k,rfl,?_⟩
 have l03:Le H H3:=(l1.trans l2).trans l3
 cases k with
 | true=>
  show up X.K X.prog X.w B mc σ H3 _
  refine ⟨lB.trans l03,env,S3,r0.le l03,z3,hc env S3 _ _ (fun z S4 q v4 H4 l4 z4 d4=>?_) q⟩
  exact ⟨y,z,S4,d2.le (l3.trans l4),d4,z4,ho'.mono _ _ _ _ _ (zdT (l03.trans l4)) q⟩
 | false=>exact q _ H3 l03 z3 (.bl _)
theorem zh6 {c:Expr} {r r':BM} {mc:EM} {op op':CmpOp} (ho:OpD X (compareOp op) r) (ho':OpD X (compareOp op') r') (ha:ME X B a ma) (hb:ME X B b mb) (hc:ME X B c mc)
  (h:∀ {R R':R2} {ta tb tc:TE},OpR X (compareOp op) R->OpR X (compareOp op') R'->PE X a ta->PE X b tb->PE X c tc->PT X (.Compare a [op,op'] [b,c] pos) (tTest (tChain R R' ta tb tc)):=by intro R R' ta tb tc h1 h2 h3 h4 h5;exact pt_chain h1 h2 h3 h4 h5) :
  MT X B (.Compare a [op,op'] [b,c] pos) (mB (zgt r r' ma mb mc)):=by
 have mm:=zkU ho.mono ho'.mono ha.mono hb.mono hc.mono
 refine ⟨zix (h ho.op ho'.op ha.pe hb.pe hc.pe) fun σ H Q q=>?_,zoD mm⟩
 obtain ⟨lB,env,S,r0,z0,q⟩:=q
 refine zlv ho ho' ha.mono hb.mono hc.mono ⟨lB,env,S,r0,z0,mm env S _ _ (fun d S1 q v H' l r d1=>?_) q⟩
 cases d1 <;> first | exact ⟨_,rfl,q H' l r⟩ | exact q.elim
def zal:AM:=fun _ S Q=>Q [] S
def zac (m:EM) (r:AM):AM:=fun env S Q=>m env S fun d S1=>r env S1 fun ds S2=>Q (d :: ds) S2
theorem zae:MA X B [] zal:=⟨zmR pa_nil fun σ H Q q=>by
 obtain ⟨lB,env,S,r0,z0,q⟩:=q
 exact q [] H (Le.refl H) z0 .nil,fun env S Q Q' i q=>i _ _ q⟩
theorem zjz {m:EM} {r:AM} (h:zd2 m) (h2:zln r):zln (zac m r):=fun env S Q Q' i q=>h env S _ _ (fun d S1 z=>h2 env S1 _ _ (fun ds S2 z=>i _ _ z) z) q
theorem zaa {e:Expr} {es:List Expr} {m:EM} {r:AM} (h:ME X B e m) (h2:MA X B es r) (hs:starEach (e :: es) X.env=(false,eval e X.env) :: starEach es X.env:=by rfl):MA X B (e :: es) (zac m r):=by
 refine ⟨zmR (pa_cons h.pe h2.pa hs) fun σ H Q q=>?_,zjz h.mono h2.mono⟩
 obtain ⟨lB,env,S,r0,z0,q⟩:=q
 refine ⟨lB,env,S,r0,z0,h.mono env S _ _ (fun d S1 q v H1 l1 z1 d1=>?_) q⟩
 refine ⟨lB.trans l1,env,S1,r0.le l1,z1,h2.mono env S1 _ _ (fun ds S2 q vs H2 l2 z2 d2=>?_) q⟩
 exact q (v :: vs) H2 (l1.trans l2) z2 (.cons (d1.le l2) d2)
def zbW (m:AM):EM:=fun env S Q=>m env S fun ds S1=>ds.length≤sizeLine∧Q (.tup ds) S1
def zhk (m:AM):EM:=fun env S Q=>m env S fun ds S1=>ds.length≤sizeLine∧∀ p,S1 p=none->Q (.ref p) (put S1 p (.lst ds))
theorem zaC {es:List Expr} {m:AM} {x1} (h:MA X B es m):ME X B (.Tuple es x1 pos) (zbW m):=by
 refine ⟨zbu (pe_tup h.pa) fun σ H Q q=>?_,fun env S Q Q' i q=>h.mono env S _ _ (fun ds S1 z=>⟨z.1,i _ _ z.2⟩) q⟩
 obtain ⟨lB,env,S,r0,z0,q⟩:=q
 refine ⟨lB,env,S,r0,z0,h.mono env S _ _ (fun ds S1 q vs H1 l1 z1 d1=>?_) q⟩
 exact ⟨by rw [← d1.length];exact q.1,zif (zdT l1 _ _ q.2) z1 d1⟩
theorem zcm {es:List Expr} {m:AM} (h:MA X B es m):ME X B (.List es pos) (zhk m):=by
 refine ⟨zbu (pe_lst h.pa) fun σ H Q q=>?_,fun env S Q Q' i q=>h.mono env S _ _ (fun ds S1 z=>⟨z.1,fun p hp=>i _ _ (z.2 p hp)⟩) q⟩
 obtain ⟨lB,env,S,r0,z0,q⟩:=q
 refine ⟨lB,env,S,r0,z0,h.mono env S _ _ (fun ds S1 q vs H1 l1 z1 d1=>?_) q⟩
 exact ⟨by rw [← d1.length];exact q.1,zgf (fun p hp=>zdT l1 _ _ (q.2 p hp)) z1 d1⟩
abbrev CM:=List D->Sto->DQ->Prop
structure zf5 (X:Cx) (f:Value) (r:CM):Prop where
 cr:CallR X f fun xs H Q=>∃ ds S,DVs X.K H ds xs∧Rp X.K X.prog X.w S H∧r ds S (dnE X.K X.prog X.w H Q)
 mono:∀ ds S (Q Q':DQ),(∀ d S,Q d S->Q' d S)->r ds S Q->r ds S Q'
theorem zhw {f:Value} {r:CM} (R:List V->Hp->VK->Prop) (h:CallR X f R) (hR:∀ xs H Q ds S,DVs X.K H ds xs->Rp X.K X.prog X.w S H->r ds S (dnE X.K X.prog X.w H Q)->R xs H Q)
  (mono:∀ ds S (Q Q':DQ),(∀ d S,Q d S->Q' d S)->r ds S Q->r ds S Q'):zf5 X f r:=⟨fun pins s σ H xs us Q I rx q=>by
 obtain ⟨ds,S,h1,h3,h4⟩:=q
 exact h pins s σ H xs us Q I rx (hR xs H Q ds S h1 h3 h4),mono⟩
def mCB (r:CM) (m:AM):EM:=fun env S Q=>m env S fun ds S1=>r ds S1 Q
theorem zkV {r:CM} {m:AM} (hr:∀ ds S (Q Q':DQ),(∀ d S,Q d S->Q' d S)->r ds S Q->r ds S Q') (hm:zln m):zd2 (mCB r m):=fun env S Q Q' i q=>hm env S _ _ (fun ds S1 z=>hr _ _ _ _ i z) q
theorem zpy {r:CM} {m:AM} {K:PySem.W.Frag} {P:Program} {w:World} (hr:∀ ds S (Q Q':DQ),(∀ d S,Q d S->Q' d S)->r ds S Q->r ds S Q') (hm:zln m) {σ:L2.St} {H:Hp} {Q:VK} (q:up K P w B (mCB r m) σ H Q) :
  tCB (fun xs H Q=>∃ ds S,DVs K H ds xs∧Rp K P w S H∧r ds S (dnE K P w H Q)) (upA K P w B m) σ H Q:=by
 obtain ⟨lB,env,S,r0,z0,q⟩:=q
 refine ⟨lB,env,S,r0,z0,hm env S _ _ (fun ds S1 q vs H1 l1 z1 d1=>?_) q⟩
 exact ⟨ds,S1,d1,z1,hr _ _ _ _ (zdT l1) q⟩
variable {e:Expr} {es:List Expr} {m:AM} {r:CM} {x:Str} {p:Pos}
theorem zap {id:String} (hc:zf5 X (.builtin id) r) (ha:MA X B (e :: es) m)
  (h:∀ {R:List V->Hp->VK->Prop} {t:TA},CallR X (.builtin id) R->PA X (e :: es) t->PE X (.Call (.Name x p) (e :: es) [] pos) (tCB R t)):ME X B (.Call (.Name x p) (e :: es) [] pos) (mCB r m):=
 ⟨zbu (h hc.cr ha.pa) fun _ _ _ q=>zpy hc.mono ha.mono q,zkV hc.mono ha.mono⟩
theorem zaR {T:String} (hc:zf5 X (.type T) r) (ha:MA X B (e :: es) m)
  (h:∀ {R:List V->Hp->VK->Prop} {t:TA},CallR X (.type T) R->PA X (e :: es) t->PE X (.Call (.Name x p) (e :: es) [] pos) (tCB R t)):ME X B (.Call (.Name x p) (e :: es) [] pos) (mCB r m):=
 ⟨zbu (h hc.cr ha.pa) fun _ _ _ q=>zpy hc.mono ha.mono q,zkV hc.mono ha.mono⟩
theorem zkZ {T:String} (hc:zf5 X (.type T) r)
  (h:∀ {R:List V->Hp->VK->Prop},CallR X (.type T) R->PE X (.Call (.Name x p) [] [] pos) (tCB R tNil)):ME X B (.Call (.Name x p) [] [] pos) (mCB r zal):=
 ⟨zbu (h hc.cr) fun σ H Q q=>by
  obtain ⟨lB,env,S,r0,z0,q⟩:=q
  exact ⟨[],S,.nil,z0,q⟩,zkV hc.mono fun env S Q Q' i q=>i _ _ q⟩
theorem zjE {K:PySem.W.Frag} {H:Hp} {d:D} {vs:List V} (h:DVs K H [d] vs):∃ v,vs=[v]∧DV K H d v:=by
 cases h with
 | cons h1 h2=>cases h2;exact ⟨_,rfl,h1⟩
theorem zwR {K:PySem.W.Frag} {H:Hp} {d e:D} {vs:List V} (h:DVs K H [d,e] vs):∃ v u,vs=[v,u]∧DV K H d v∧DV K H e u:=by
 cases h with
 | cons h1 h2=>cases h2 with
  | cons h2 h3=>cases h3;exact ⟨_,_,rfl,h1,h2⟩
def zlC (S:Sto):D->Option (List D)
 | .tp _ xs=>some xs
 | .rol xs=>some xs
 | .ref a=>match S a with
  | some (.lst xs)=>some xs
  | _=>none
 | _=>none
def zmu:D->Bool
 | .tp f _=>f
 | _=>false
theorem zks {K:PySem.W.Frag} {P:Program} {w:World} {H:Hp} {S:Sto} {d:D} {v:V} {ds:List D} (h:DV K H d v) (r:Rp K P w S H) (e:zlC S d=some ds):∃ p vs,v = .ref p∧(SqL K H p vs∧zmu d=false ∨ SqT K H p vs∧TF H p vs (zmu d))∧DVs K H ds vs:=by
 cases h <;> first | (cases e;done) | skip
 ·rename_i s z t
  cases e
  exact ⟨_,_,rfl,.inr ⟨s,t⟩,z⟩
 ·rename_i s z
  cases e
  exact ⟨_,_,rfl,.inl ⟨s.sq,rfl⟩,z⟩
 ·simp only [zlC] at e
  split at e
  ·rename_i xs e0
   cases e
   obtain ⟨vs,q,z⟩:=r _ _ e0
   exact ⟨_,vs,rfl,.inl ⟨SqL.of q,rfl⟩,z⟩
  ·cases e
theorem zpE {K:PySem.W.Frag} {P:Program} {w:World} {H:Hp} {S:Sto} {d:D} {v:V} {ds:List D} (h:DV K H d v) (r:Rp K P w S H) (e:zlC S d=some ds):∃ p vs,v = .ref p∧(SqL K H p vs ∨ SqT K H p vs)∧DVs K H ds vs:=by
 obtain ⟨p,vs,e,s,z⟩:=zks h r e
 exact ⟨p,vs,e,s.imp (fun s=>s.1) fun s=>s.1,z⟩
def zrG (S:Sto):D->Option Nat
 | .str x=>some x.length
 | .tp _ xs=>some xs.length
 | .rol xs=>some xs.length
 | .ref a=>match S a with
  | some (.lst xs)=>some xs.length
  | some (.dic xs)=>some xs.length
  | _=>none
 | _=>none
def zcZ:CM:=fun ds S Q=>match ds with
 | [d]=>match zrG S d with
  | some n=>Q (.int n) S
  | none=>False
 | _=>False
theorem zaW:zf5 X (.builtin "len") zcZ:=by
 refine zhw _ (call_len.or call_lenD) (fun xs H Q ds S h r q=>?_) (fun ds S Q Q' i q=>?_)
 ·unfold zcZ at q
  split at q
  ·rename_i d
   obtain ⟨v,rfl,z⟩:=zjE h
   split at q
   ·rename_i n e
    cases z with
    | non=>cases e
    | bl=>cases e
    | int=>cases e
    | ty=>cases e
    | rod=>cases e
    | str x ok=>cases e;exact .inl ⟨_,_,rfl,⟨ok.2,rfl⟩,zaD q r (.int _)⟩
    | tup s z=>cases e;exact .inl ⟨_,_,rfl,.inr ⟨_,s,z.length⟩,zaD q r (.int _)⟩
    | rol s z=>cases e;exact .inl ⟨_,_,rfl,.inl ⟨_,s.sq,z.length⟩,zaD q r (.int _)⟩
    | ref a=>
     simp only [zrG] at e
     split at e
     ·rename_i xs e0
      cases e
      obtain ⟨vs,e1,z⟩:=r _ _ e0
      exact .inl ⟨_,_,rfl,.inl ⟨_,SqL.of e1,z.length⟩,zaD q r (.int _)⟩
     ·rename_i xs e0
      cases e
      obtain ⟨vs,e1,z⟩:=r _ _ e0
      exact .inr ⟨_,vs,rfl,e1,by rw [← z.length];exact zaD q r (.int _)⟩
     ·cases e
   ·exact q.elim
  ·exact q.elim
 ·unfold zcZ at q ⊢
  split at q
  ·split at q
   ·exact i _ _ q
   ·exact q.elim
  ·exact q.elim
def vI1 (g:Int->D):CM:=fun ds S Q=>match ds with
 | [.int i]=>Q (g i) S
 | _=>False
theorem zmX {g:Int->D}:∀ ds S (Q Q':DQ),(∀ d S,Q d S->Q' d S)->vI1 g ds S Q->vI1 g ds S Q':=fun ds S Q Q' i q=>by
 unfold vI1 at q ⊢
 split at q
 ·exact i _ _ q
 ·exact q.elim
theorem znh:zf5 X (.builtin "abs") (vI1 fun i=>.int (if i < 0 then -i else i)):=by
 refine zhw _ call_abs (fun xs H Q ds S h r q=>?_) zmX
 unfold vI1 at q
 split at q
 ·obtain ⟨v,rfl,z⟩:=zjE h
  cases z
  exact ⟨_,rfl,zaD q r (.int _)⟩
 ·exact q.elim
theorem zgE:zf5 X (.type "int") (vI1 fun i=>.int i):=by
 refine zhw _ call_int1 (fun xs H Q ds S h r q=>?_) zmX
 unfold vI1 at q
 split at q
 ·obtain ⟨v,rfl,z⟩:=zjE h
  cases z
  exact .inl ⟨_,rfl,zaD q r (.int _)⟩
 ·exact q.elim
def vI2 (g:Int->Int->D):CM:=fun ds S Q=>match ds with
 | [.int i,.int j]=>Q (g i j) S
 | _=>False
theorem zrq {g:Int->Int->D}:∀ ds S (Q Q':DQ),(∀ d S,Q d S->Q' d S)->vI2 g ds S Q->vI2 g ds S Q':=fun ds S Q Q' i q=>by
 unfold vI2 at q ⊢
 split at q
 ·exact i _ _ q
 ·exact q.elim
theorem zng (hc:X.calm=true):zf5 X (.builtin "max") (vI2 fun i j=>.int (if j > i then j else i)):=by
 refine zhw _ (call_max2 hc) (fun xs H Q ds S h r q=>?_) zrq
 unfold vI2 at q
 split at q
 ·obtain ⟨v,u,rfl,z,z'⟩:=zwR h
  cases z;cases z'
  exact ⟨_,_,rfl,zaD q r (.int _)⟩
 ·exact q.elim
def zfN:CM:=fun ds S Q=>match ds with
 | [d]=>match zlC S d with
  | some xs=>∀ p,S p=none->Q (.ref p) (put S p (.lst xs))
  | none=>False
 | _=>False
theorem zfF:zf5 X (.type "list") zfN:=by
 refine zhw _ call_list_of (fun xs H Q ds S h r q=>?_) (fun ds S Q Q' i q=>?_)
 ·unfold zfN at q
  split at q
  ·obtain ⟨v,rfl,z⟩:=zjE h
   split at q
   ·rename_i xs e
    obtain ⟨p,vs,rfl,s,z⟩:=zpE z r e
    exact ⟨p,vs,rfl,s,zgf q r z⟩
   ·exact q.elim
  ·exact q.elim
 ·unfold zfN at q ⊢
  split at q
  ·split at q
   ·exact fun p hp=>i _ _ (q p hp)
   ·exact q.elim
  ·exact q.elim
def zdz:CM:=fun ds S Q=>match ds with
 | [d]=>match zlC S d with
  | some xs=>Q (.tp (zmu d) xs) S
  | none=>False
 | _=>False
theorem zgR:zf5 X (.type "tuple") zdz:=by
 refine zhw _ call_tuple_of (fun xs H Q ds S h r q=>?_) (fun ds S Q Q' i q=>?_)
 ·unfold zdz at q
  split at q
  ·obtain ⟨v,rfl,z⟩:=zjE h
   split at q
   ·rename_i xs e
    obtain ⟨p,vs,rfl,s,z⟩:=zks z r e
    rcases s with ⟨s,ef⟩ | ⟨s,t⟩
    ·rw [ef] at q
     exact ⟨p,vs,rfl,.inl ⟨s,zif q r z⟩⟩
    ·exact ⟨p,vs,rfl,.inr ⟨s,zaD q r (.tup s z t)⟩⟩
   ·exact q.elim
  ·exact q.elim
 ·unfold zdz at q ⊢
  split at q
  ·split at q
   ·exact i _ _ q
   ·exact q.elim
  ·exact q.elim
end
def keyD:D->Option Key
 | .int i=>some (.inl i)
 | .str x=>some (.inr x)
 | _=>none
theorem zgu {K:PySem.W.Frag} {H:Hp} {d:D} {v:V} {k:Key} (h:DV K H d v) (e:keyD d=some k):v=kV k:=by
 cases h <;> first | (cases e;rfl) | cases e
section
variable {κ:Type} [DecidableEq κ]
def putD (kvs:List (κ×D)) (k:κ) (v:D):List (κ×D):=
 if (kvs.any fun kv=>decide (kv.1=k))=true then kvs.map (fun kv=>if kv.1=k then (kv.1,v) else kv) else kvs++[(k,v)]
def zyB (kvs:List (κ×D)) (k:κ):List (κ×D):=kvs.filter fun kv=>decide (kv.1≠k)
variable {K:PySem.W.Frag} {H:Hp} {ds:List (κ×D)} {vs:List (κ×V)}
theorem KVs.val (h:KVs K H ds vs) (k:κ):(∀ d,valD ds k=some d->∃ v,valV vs k=some v∧DV K H d v)∧(valD ds k=none->valV vs k=none):=by
 induction h with
 | nil=>exact ⟨(fun d e=>nomatch e),fun _=>rfl⟩
 | @cons k' d v ds vs h1 h2 ih=>
  by_cases hk:k'=k
  ·subst hk
   have e1:valD ((k',d) :: ds) k'=some d:=by simp [valD]
   rw [e1,valV_pos rfl]
   exact ⟨fun d' e=>by cases e;exact ⟨v,rfl,h1⟩,(fun e=>nomatch e)⟩
  ·have e1:valD ((k',d) :: ds) k=valD ds k:=by simp [valD,hk]
   rw [e1,valV_neg hk]
   exact ih
theorem KVs.any (h:KVs K H ds vs) (k:κ):(ds.any fun kv=>decide (kv.1=k))=(vs.any fun kv=>decide (kv.1=k)):=by
 induction h with
 | nil=>rfl
 | cons h1 h2 ih=>simp only [List.any_cons,ih]
theorem KVs.map (h:KVs K H ds vs) (k:κ) {d:D} {v:V} (z:DV K H d v):KVs K H (ds.map fun kv=>if kv.1=k then (kv.1,d) else kv) (vs.map fun kv=>if kv.1=k then (kv.1,v) else kv):=by
 induction h with
 | nil=>exact .nil
 | @cons k' d' v' ds vs h1 h2 ih=>
  rw [List.map_cons,List.map_cons]
  by_cases hk:k'=k
  ·rw [if_pos (show (k',d').1=k from hk),if_pos (show (k',v').1=k from hk)]
   exact .cons z ih
  ·rw [if_neg (show ¬ (k',d').1=k from hk),if_neg (show ¬ (k',v').1=k from hk)]
   exact .cons h1 ih
theorem KVs.append {ds':List (κ×D)} {vs':List (κ×V)} (h:KVs K H ds vs) (h':KVs K H ds' vs'):KVs K H (ds++ds') (vs++vs'):=by
 induction h with
 | nil=>exact h'
 | cons h1 h2 ih=>exact .cons h1 ih
theorem KVs.put (h:KVs K H ds vs) (k:κ) {d:D} {v:V} (z:DV K H d v):KVs K H (putD ds k d) (putK vs k v):=by
 unfold putD putK
 rw [h.any k]
 split
 ·exact h.map k z
 ·exact h.append (.cons z .nil)
end
theorem DVs.atI {K:PySem.W.Frag} {H:Hp} {ds:List D} {vs:List V} {i:Int} {d:D} (h:DVs K H ds vs) (e:L2.atI ds i=some d):∃ v,L2.atI vs i=some v∧DV K H d v:=by
 unfold L2.atI at e ⊢
 rw [← h.length]
 cases q:ixN ds.length i with
 | none=>rw [q] at e;cases e
 | some j=>
  rw [q] at e
  exact h.get (show ds[j]? = some d from e)
theorem OkS.one {x:Str} {i:Int} {c:Nat} (h:OkS x) (e:L2.atI x.cps.toList i=some c):OkS ⟨#[c]⟩:=by
 refine ⟨?_,(show 1≤sizeLine by decide)⟩
 have hm:c∈x.cps:=by
  unfold L2.atI at e
  cases q:ixN x.cps.toList.length i with
  | none=>rw [q] at e;cases e
  | some j=>
   rw [q] at e
   have e':x.cps.toList[j]? = some c:=e
   simpa using List.mem_of_getElem? e'
 have h1:x.cps.all (· < 0x110000)=true:=h.1
 rw [Array.all_eq_true_iff_forall_mem] at h1
 have h2:=h1 c hm
 show (#[c]:Array Nat).all (· < 0x110000)=true
 simpa using h2
section
variable {X:Cx} {B:Hp}
def vIx:BM:=fun d e S Q=>match d,e with
 | .tp _ xs,.int i=>match atI xs i with
  | some x=>Q x S
  | none=>False
 | .rol xs,.int i=>match atI xs i with
  | some x=>Q x S
  | none=>False
 | .str x,.int i=>match atI x.cps.toList i with
  | some c=>Q (.str ⟨#[c]⟩) S
  | none=>False
 | .ref a,e=>match S a,e with
  | some (.lst xs),.int i=>match atI xs i with
   | some x=>Q x S
   | none=>False
  | some (.dic kvs),e=>match keyD e with
   | some k=>match valD kvs k with
    | some x=>Q x S
    | none=>False
   | none=>False
  | _,_=>False
 | _,_=>False
theorem zjx:∀ d e S (Q Q':DQ),(∀ d S,Q d S->Q' d S)->vIx d e S Q->vIx d e S Q':=by
 intro d e S Q Q' i h
 unfold vIx at h ⊢
 split at h
 ·split at h
  ·exact i _ _ h
  ·exact h.elim
 ·split at h
  ·exact i _ _ h
  ·exact h.elim
 ·split at h
  ·exact i _ _ h
  ·exact h.elim
 ·split at h
  ·split at h
   ·exact i _ _ h
   ·exact h.elim
  ·split at h
   ·split at h
    ·exact i _ _ h
    ·exact h.elim
   ·exact h.elim
  ·exact h.elim
 ·exact h.elim
theorem zoR (hu:X.A.units+1 < cLine):IxR X (fun x y H Q=>∃ a v,x = .ref a∧DGet H a y (some v)∧Q v H):=by
 intro value slice pins s σ H x y v u Q I rx ry h hs
 obtain ⟨a,z,rfl,g,q⟩:=h
 obtain rfl:v=Value.ref a:=rx
 refine PyProof.Rows.tail_any (ops:=[.ref a,u]) (dict_typeIs I g) PySem.F.slot_dict_getitem.lookup (d_getItem hu I g ry fun w' s3 I3 rw'=>?_) hs
 exact ⟨z,H,I3,rw',q⟩
theorem zan {a b:Expr} {ma mb:EM} {pos:Pos} (hu:X.A.units+1 < cLine) (ha:ME X B a ma) (hb:ME X B b mb) (hs:PlainIx b:=by exact fun _ _=>rfl):ME X B (.Subscript a b pos) (mOp vIx ma mb):=by
 refine ⟨zbu (pe_ix (ix_seq.or (zoR hu)) ha.pe hb.pe hs) fun σ H Q h=>zji ha.mono hb.mono (fun x y H Q d e S h1 h2 r h=>?_) zjx h,ziF zjx ha.mono hb.mono⟩
 unfold vIx at h
 split at h
 ·split at h
  ·rename_i e0
   cases h2
   cases h1 with
   | tup s z=>
    obtain ⟨v,e1,z1⟩:=z.atI e0
    exact .inl (.inr (.inl ⟨_,_,_,v,rfl,rfl,s,e1,zaD h r z1⟩))
  ·exact h.elim
 ·split at h
  ·rename_i e0
   cases h2
   cases h1 with
   | rol s z=>
    obtain ⟨v,e1,z1⟩:=z.atI e0
    exact .inl (.inl ⟨_,_,_,v,rfl,rfl,s.sq,e1,zaD h r z1⟩)
  ·exact h.elim
 ·split at h
  ·rename_i e0
   cases h2
   cases h1 with
   | str x ok=>
    exact .inl (.inr (.inr ⟨_,_,_,rfl,rfl,ok.2,e0,zaD h r (.str _ (ok.one e0))⟩))
  ·exact h.elim
 ·split at h
  ·rename_i xs i e1
   split at h
   ·rename_i e0
    cases h1
    cases h2
    obtain ⟨vs,q1,z1⟩:=r _ _ e1
    obtain ⟨v,e2,z2⟩:=z1.atI e0
    exact .inl (.inl ⟨_,vs,_,v,rfl,rfl,SqL.of q1,e2,zaD h r z2⟩)
   ·exact h.elim
  ·rename_i kvs e e1
   split at h
   ·rename_i k ek
    split at h
    ·rename_i x0 e0
     cases h1
     obtain ⟨vs,q1,z1⟩:=r _ _ e1
     obtain ⟨v,e2,z2⟩:=(z1.val k).1 _ e0
     rw [zgu h2 ek]
     exact .inr ⟨_,v,rfl,by rw [← e2];exact DGet.k q1,zaD h r z2⟩
    ·exact h.elim
   ·exact h.elim
  ·exact h.elim
 ·exact h.elim
def zlB (S:Sto) (o i v:D):Option Sto:=match o with
 | .ref a=>match S a with
  | some (.lst xs)=>match i with
   | .int k=>match ixN xs.length k with
    | some j=>some (put S a (.lst (xs.set j v)))
    | none=>none
   | _=>none
  | some (.dic kvs)=>match keyD i with
   | some k=>if kvs.length < sizeLine then some (put S a (.dic (putD kvs k v))) else none
   | none=>none
  | _=>none
 | _=>none
def zxn (H0:V->V->V->Hp->(Hp->Prop)->Prop):TSet:=H0
theorem set_dict (hu:X.A.units+1 < cLine):PSet X (fun o i v H Q=>∃ a H',o = .ref a∧DPut H a i v H'∧Q H'):=by
 intro pins s σ H o i v ov iv u Q I ro ri rv h
 obtain ⟨a,H',rfl,g,q⟩:=h
 obtain rfl:ov=Value.ref a:=ro
 exact d_setItem hu I g ri rv fun s4 I4=>⟨H',I4,q⟩
def zub (X:Cx):TSet:=fun o i v H Q=>∃ do_ di dv S S',DV X.K H do_ o∧DV X.K H di i∧DV X.K H dv v∧Rp X.K X.prog X.w S H∧zlB S do_ di dv=some S'∧∀ H',Le H H'->Rp X.K X.prog X.w S' H'->Q H'
theorem zkr (hu:X.A.units+1 < cLine):PSet X (zub X):=by
 intro pins s σ H o i v ov iv u Q I ro ri rv h
 obtain ⟨do_,di,dv,S,S',h1,h2,h3,r,e,q⟩:=h
 unfold zlB at e
 split at e
 ·rename_i a
  cases h1
  split at e
  ·rename_i xs e0
   split at e
   ·rename_i k
    cases h2
    split at e
    ·rename_i j ej
     cases e
     obtain ⟨vs,q1,z1⟩:=r _ _ e0
     have mu:Mut (H a):=by rw [q1];trivial
     refine set_list pins s σ H _ _ v ov iv u Q I ro ri rv ⟨a,vs,k,j,rfl,rfl,q1,by rw [← z1.length];exact ej,q _ (Le.mut mu) (r.wr mu ⟨_,upd_same,(z1.set h3 j).le (Le.mut mu)⟩)⟩
    ·cases e
   ·cases e
  ·rename_i kvs e0
   split at e
   ·rename_i k ek
    split at e
    ·rename_i hl
     cases e
     obtain ⟨vs,q1,z1⟩:=r _ _ e0
     have mu:Mut (H a):=by rw [q1];trivial
     have ev:=zgu h2 ek
     subst ev
     exact set_dict hu pins s σ H _ _ v ov iv u Q I ro ri rv ⟨a,_,rfl,DPut.k q1 (by rw [← z1.length];exact hl),q _ (Le.mut mu) (r.wr mu ⟨_,upd_same,(z1.put k h3).le (Le.mut mu)⟩)⟩
    ·cases e
   ·cases e
  ·cases e
 ·cases e
abbrev OM:=Slo->Sto->(Option Int->Sto->Prop)->Prop
structure MO (X:Cx) (B:Hp) (e:Option Expr) (m:OM):Prop where
 po:PO X e (fun σ H Q=>Le B H∧∃ env S,zdk X.K H env σ∧Rp X.K X.prog X.w S H∧m env S fun o S'=>∀ H',Le H H'->Rp X.K X.prog X.w S' H'->Q o H')
 mono:∀ env S (Q Q':Option Int->Sto->Prop),(∀ d S,Q d S->Q' d S)->m env S Q->m env S Q'
def ziH:OM:=fun _ S Q=>Q none S
def mP (m:EM):OM:=fun env S Q=>m env S fun d S1=>match d with
 | .int i=>Q (some i) S1
 | _=>False
theorem zmP {e:Option Expr} {t t':TO} (h:PO X e t) (i:∀ σ H Q,t' σ H Q->t σ H Q):PO X e t':=⟨fun pins s σ H Q I q=>h.run pins s σ H Q I (i σ H Q q)⟩
theorem zcl:MO X B none ziH:=⟨zmP po_none fun σ H Q q=>by
 obtain ⟨lB,env,S,r0,z0,q⟩:=q
 exact q H (Le.refl H) z0,fun env S Q Q' i q=>i _ _ q⟩
theorem zck {e:Expr} {m:EM} (h:ME X B e m):MO X B (some e) (mP m):=by
 refine ⟨zmP (po_some h.pe) fun σ H Q q=>?_,fun env S Q Q' i q=>h.mono env S _ _ (fun d S1 z=>?_) q⟩
 ·obtain ⟨lB,env,S,r0,z0,q⟩:=q
  refine ⟨lB,env,S,r0,z0,h.mono env S _ _ (fun d S1 q v H1 l1 z1 d1=>?_) q⟩
  cases d1 <;> first | exact ⟨_,rfl,q H1 l1 z1⟩ | exact q.elim
 ·cases d <;> first | exact i _ _ z | exact z.elim
def cutD (xs:List D) (lo hi:Option Int):List D:=(xs.drop (HT.sIx xs.length 0 lo)).take (HT.sIx xs.length xs.length hi - HT.sIx xs.length 0 lo)
theorem DVs.cut {K:PySem.W.Frag} {H:Hp} {ds:List D} {vs:List V} (h:DVs K H ds vs) (lo hi:Option Int):DVs K H (cutD ds lo hi) (cutV vs lo hi):=by
 unfold cutD cutV
 rw [← h.length]
 exact (h.drop _).take _
theorem OkS.cut {x:Str} (h:OkS x) (lo hi:Option Int):OkS (cutS x lo hi):=by
 refine ⟨?_,?_⟩
 ·have h1:x.cps.all (· < 0x110000)=true:=h.1
  rw [Array.all_eq_true_iff_forall_mem] at h1
  show ((List.take _ (List.drop _ x.cps.toList)).toArray).all (· < 0x110000)=true
  rw [Array.all_eq_true_iff_forall_mem]
  intro c hc
  refine h1 c ?_
  have hc':=List.mem_of_mem_drop (List.mem_of_mem_take (by simpa using hc))
  simpa using hc'
 ·refine Nat.le_trans ?_ h.2
  show ((List.take _ (List.drop _ x.cps.toList)).toArray).size≤x.cps.size
  rw [List.size_toArray,List.length_take,List.length_drop,Array.length_toList]
  omega
def vSl (d:D) (lo hi:Option Int) (S:Sto) (Q:DQ):Prop:=match d with
 | .tp f xs=>f=false∧Q (.tup (cutD xs lo hi)) S
 | .rol xs=>∀ p,S p=none->Q (.ref p) (put S p (.lst (cutD xs lo hi)))
 | .str x=>Q (.str (cutS x lo hi)) S
 | .ref a=>match S a with
  | some (.lst xs)=>∀ p,S p=none->Q (.ref p) (put S p (.lst (cutD xs lo hi)))
  | _=>False
 | _=>False
theorem zmW (d:D) (lo hi:Option Int) (S:Sto) (Q Q':DQ) (i:∀ d S,Q d S->Q' d S) (h:vSl d lo hi S Q):vSl d lo hi S Q':=by
 unfold vSl at h ⊢
 split at h
 ·exact ⟨h.1,i _ _ h.2⟩
 ·exact fun p hp=>i _ _ (h p hp)
 ·exact i _ _ h
 ·split at h
  ·exact fun p hp=>i _ _ (h p hp)
  ·exact h.elim
 ·exact h.elim
theorem zkj (xs:List D) (lo hi:Option Int) (h:HT.sIx xs.length 0 lo=0∧HT.sIx xs.length xs.length hi=xs.length):cutD xs lo hi=xs:=by
 unfold cutD
 rw [h.1,h.2]
 simp
def mSl (m:EM) (lo hi:OM):EM:=fun env S Q=>m env S fun d S1=>lo env S1 fun l S2=>hi env S2 fun h S3=>vSl d l h S3 Q
theorem zfV {e:Expr} {lo hi:Option Expr} {m:EM} {ml mh:OM} {p2 pos:Pos} (h:ME X B e m) (hl:MO X B lo ml) (hh:MO X B hi mh):ME X B (.Subscript e (.Slice lo hi none p2) pos) (mSl m ml mh):=by
 refine ⟨zbu (pe_slice (sl_list.or (sl_tupA.or sl_str)) h.pe hl.po hh.po) fun σ H Q q=>?_,
  fun env S Q Q' i q=>h.mono env S _ _ (fun d S1 q=>hl.mono env S1 _ _ (fun l S2 q=>hh.mono env S2 _ _ (fun u S3 q=>zmW _ _ _ _ _ _ i q) q) q) q⟩
 obtain ⟨lB,env,S,r0,z0,q⟩:=q
 refine ⟨lB,env,S,r0,z0,h.mono env S _ _ (fun d S1 q v H1 l1 z1 d1=>?_) q⟩
 refine ⟨lB.trans l1,env,S1,r0.le l1,z1,hl.mono env S1 _ _ (fun l S2 q H2 l2 z2=>?_) q⟩
 refine ⟨lB.trans (l1.trans l2),env,S2,r0.le (l1.trans l2),z2,hh.mono env S2 _ _ (fun u S3 q H3 l3 z3=>?_) q⟩
 have l03:=(l1.trans l2).trans l3
 have dv:=d1.le (l2.trans l3)
 have q:=zmW _ _ _ _ _ _ (zdT l03) q
 unfold vSl at q
 split at q
 ·cases dv with
  | @tup a vs ds f s z t=>
   obtain ⟨ef,qq⟩:=q
   subst ef
   refine .inr (.inl ⟨_,vs,rfl,s,fun hw=>?_,fun _=>zif qq z3 (z.cut l u)⟩)
   refine zaD qq z3 ?_
   rw [← z.length] at hw
   rw [zkj _ _ _ hw]
   exact .tup s z t
 ·cases dv with
  | rol s z=>exact .inl ⟨_,_,rfl,s.sq,zgf q z3 (z.cut l u)⟩
 ·cases dv with
  | str x ok=>exact .inr (.inr ⟨_,rfl,ok.2,zaD q z3 (.str _ (ok.cut l u))⟩)
 ·cases dv
  split at q
  ·rename_i xs e0
   obtain ⟨vs,q1,z⟩:=z3 _ _ e0
   exact .inl ⟨_,vs,rfl,SqL.of q1,zgf q z3 (z.cut l u)⟩
  ·exact q.elim
 ·exact q.elim
def zhl (g:Bool->Bool):BM:=fun d e S Q=>match e with
 | .tp f xs=>match rs S 40 d,rs S 40 (.tp f xs) with
  | some p,some (.tuple ps)=>Q (.bl (g (ps.any fun z=>PyData.eqv z p))) S
  | _,_=>False
 | .rol xs=>match rs S 40 d,rs S 40 (.rol xs) with
  | some p,some (.list ps)=>Q (.bl (g (ps.any fun z=>PyData.eqv z p))) S
  | _,_=>False
 | .str z=>match d with
  | .str y=>match y.cps.toList with
   | [c]=>Q (.bl (g (decide (c∈z.cps.toList)))) S
   | _=>False
  | _=>False
 | .ref a=>match S a with
  | some (.lst _)=>match rs S 40 d,rs S 40 (.ref a) with
   | some p,some (.list ps)=>Q (.bl (g (ps.any fun z=>PyData.eqv z p))) S
   | _,_=>False
  | some (.dic kvs)=>match keyD d with
   | some k=>Q (.bl (g (valD kvs k).isSome)) S
   | none=>False
  | some (.set f _)=>match keyD d with
   | some k=>Q (.bl (g (f k))) S
   | none=>False
  | _=>False
 | _=>False
theorem zoA {g:Bool->Bool}:∀ d e S (Q Q':DQ),(∀ d S,Q d S->Q' d S)->zhl g d e S Q->zhl g d e S Q':=by
 intro d e S Q Q' i h
 unfold zhl at h ⊢
 split at h
 ·split at h
  ·exact i _ _ h
  ·exact h.elim
 ·split at h
  ·exact i _ _ h
  ·exact h.elim
 ·split at h
  ·split at h
   ·exact i _ _ h
   ·exact h.elim
  ·exact h.elim
 ·split at h
  ·split at h
   ·exact i _ _ h
   ·exact h.elim
  ·split at h
   ·exact i _ _ h
   ·exact h.elim
  ·split at h
   ·exact i _ _ h
   ·exact h.elim
  ·exact h.elim
 ·exact h.elim
theorem zrk (hu:X.A.units+65 < cLine):OpR X (compareOp .In) (fun x y H Q=>∃ d ds,Dp X.K H x d∧Dp X.K H y (.tuple ds)∧SeqAt.shaped d=true∧SeqAt.shaped (.tuple ds)=true∧Q (.bl (ds.any fun z=>PyData.eqv z d)) H):=by
 intro pins s σ H x y v u Q I rx ry h
 obtain ⟨d,ds,hd,he,sd,se,q⟩:=h
 obtain ⟨as,r1⟩:=Dp.reads I d x v hd rx
 obtain ⟨bs,r2⟩:=Dp.reads I (.tuple ds) y u he ry
 exact SeqAt.in_tuple_reads r2 r1 (SeqAt.canLay_of_shaped se) (SeqAt.canLay_of_shaped sd) (PyProof.Rows.room_in_shaped sd hu) ⟨.bl _,H,I,rfl,q⟩
theorem ziz (hu:X.A.units+65 < cLine):OpR X (compareOp .NotIn) (fun x y H Q=>∃ d ds,Dp X.K H x d∧Dp X.K H y (.tuple ds)∧SeqAt.shaped d=true∧SeqAt.shaped (.tuple ds)=true∧Q (.bl (!ds.any fun z=>PyData.eqv z d)) H):=by
 intro pins s σ H x y v u Q I rx ry h
 obtain ⟨d,ds,hd,he,sd,se,q⟩:=h
 obtain ⟨as,r1⟩:=Dp.reads I d x v hd rx
 obtain ⟨bs,r2⟩:=Dp.reads I (.tuple ds) y u he ry
 exact SeqAt.notIn_tuple_reads r2 r1 (SeqAt.canLay_of_shaped se) (SeqAt.canLay_of_shaped sd) (PyProof.Rows.room_in_shaped sd hu) ⟨.bl _,H,I,rfl,q⟩
theorem zol (hu:X.A.units+1 < cLine):OpR X (compareOp .In) (fun x y H Q=>∃ a o,y = .ref a∧DGet H a x o∧Q (.bl o.isSome) H):=by
 intro pins s σ H x y v u Q I rx ry h
 obtain ⟨a,o,rfl,g,q⟩:=h
 obtain rfl:u=Value.ref a:=ry
 exact d_in hu I g rx fun s3 I3=>⟨.bl o.isSome,H,I3,rfl,q⟩
theorem zj1 (hu:X.A.units+1 < cLine):OpR X (compareOp .NotIn) (fun x y H Q=>∃ a o,y = .ref a∧DGet H a x o∧Q (.bl (!o.isSome)) H):=by
 intro pins s σ H x y v u Q I rx ry h
 obtain ⟨a,o,rfl,g,q⟩:=h
 obtain rfl:u=Value.ref a:=ry
 exact d_notIn hu I g rx fun s3 I3=>⟨.bl (!o.isSome),H,I3,rfl,q⟩
theorem zhH {κ:Type} [DecidableEq κ] {K:PySem.W.Frag} {H:Hp} {ds:List (κ×D)} {vs:List (κ×V)} (h:KVs K H ds vs) (k:κ):(valV vs k).isSome=(valD ds k).isSome:=by
 obtain ⟨h1,h2⟩:=h.val k
 cases e:valD ds k with
 | none=>rw [h2 e];rfl
 | some d=>
  obtain ⟨v,e1,_⟩:=h1 d e
  rw [e1]
  rfl
theorem zmS {f:Value->Value->Sem Value} {g:Bool->Bool}
  (hT:OpR X f (fun x y H Q=>∃ d ds,Dp X.K H x d∧Dp X.K H y (.tuple ds)∧SeqAt.shaped d=true∧SeqAt.shaped (.tuple ds)=true∧Q (.bl (g (ds.any fun z=>PyData.eqv z d))) H))
  (hL:OpR X f (fun x y H Q=>∃ d ds,Dp X.K H x d∧Dp X.K H y (.list ds)∧SeqAt.shaped d=true∧SeqAt.shaped (.list ds)=true∧Q (.bl (g (ds.any fun z=>PyData.eqv z d))) H))
  (hS:OpR X f (fun x y H Q=>∃ (c:Nat) (z:Str),x = .str ⟨#[c]⟩∧y = .str z∧Q (.bl (g (decide (c∈z.cps.toList)))) H))
  (hD:OpR X f (fun x y H Q=>∃ a o,y = .ref a∧DGet H a x o∧Q (.bl (g o.isSome)) H))
  (hK:OpR X f (fun x y H Q=>∃ (k:Key) (a:Addr) (S:Key->Bool) (n:Nat),x=kV k∧y=V.ref a∧H a=some (SetK X.prog X.w a S n)∧Q (.bl (g (S k))) H)):OpD X f (zhl g):=by
 refine opd _ ((hT.or hL).or (hS.or (hD.or hK))) (fun x y H Q d e S h1 h2 r h=>?_) zoA
 unfold zhl at h
 split at h
 ·split at h
  ·rename_i p ps e1 e2
   obtain ⟨a1,a2⟩:=zci r h1 e1
   obtain ⟨b1,b2⟩:=zci r h2 e2
   exact .inl (.inl ⟨p,ps,a1,b1,a2,b2,zaD h r (.bl _)⟩)
  ·exact h.elim
 ·split at h
  ·rename_i p ps e1 e2
   obtain ⟨a1,a2⟩:=zci r h1 e1
   obtain ⟨b1,b2⟩:=zci r h2 e2
   exact .inl (.inr ⟨p,ps,a1,b1,a2,b2,zaD h r (.bl _)⟩)
  ·exact h.elim
 ·split at h
  ·rename_i y0
   cases h1
   cases h2
   split at h
   ·rename_i c ec
    have ey:y0=⟨#[c]⟩:=by
     obtain ⟨⟨l⟩⟩:=y0
     have:l=[c]:=ec
     subst this
     rfl
    subst ey
    exact .inr (.inl ⟨c,_,rfl,rfl,zaD h r (.bl _)⟩)
   ·exact h.elim
  ·exact h.elim
 ·split at h
  ·split at h
   ·rename_i p ps e1 e2
    obtain ⟨a1,a2⟩:=zci r h1 e1
    obtain ⟨b1,b2⟩:=zci r h2 e2
    exact .inl (.inr ⟨p,ps,a1,b1,a2,b2,zaD h r (.bl _)⟩)
   ·exact h.elim
  ·rename_i kvs e0
   split at h
   ·rename_i k ek
    cases h2
    obtain ⟨vs,q1,z1⟩:=r _ _ e0
    rw [zgu h1 ek]
    exact .inr (.inr (.inl ⟨_,_,rfl,DGet.k q1,by rw [zhH z1];exact zaD h r (.bl _)⟩))
   ·exact h.elim
  ·rename_i f0 n0 e0
   split at h
   ·rename_i k ek
    cases h2
    have q1:=r _ _ e0
    rw [zgu h1 ek]
    exact .inr (.inr (.inr ⟨k,_,f0,n0,rfl,rfl,q1,zaD h r (.bl _)⟩))
   ·exact h.elim
  ·exact h.elim
 ·exact h.elim
abbrev vIn:BM:=zhl fun b=>b
abbrev zkl:BM:=zhl fun b=>!b
theorem zg4 (hu:X.A.units+65 < cLine):OpD X (compareOp .In) vIn:=zmS (zrk hu) (op_inD hu) op_in_sign (zol (by omega)) or_sinK
theorem zjr (hu:X.A.units+65 < cLine):OpD X (compareOp .NotIn) zkl:=zmS (ziz hu) (op_notInD hu) op_notIn_sign (zj1 (by omega)) or_snotinK
def tyD (S:Sto):D->Option String
 | .non=>some "NoneType"
 | .bl _=>some "bool"
 | .int _=>some "int"
 | .str _=>some "str"
 | .tp _ _=>some "tuple"
 | .rol _=>some "list"
 | .ref a=>match S a with
  | some (.lst _)=>some "list"
  | some (.dic _)=>some "dict"
  | some (.dit _)=>some "dict"
  | _=>none
 | .ty _=>none
 | .rod _ _=>none
def zne (a b:String):Option Bool:=match b with
 | "str" => some (a == "str")
 | "tuple" => some (a == "tuple")
 | "list" => some (a == "list")
 | "dict" => some (a == "dict")
 | "bool" => some (a == "bool")
 | "int" => some (a == "int" || a == "bool")
 | _=>none
def zfM:CM:=fun ds S Q=>match ds with
 | [d,.ty b]=>match tyD S d with
  | some a=>match zne a b with
   | some c=>Q (.bl c) S
   | none=>False
  | none=>False
 | _=>False
def zjl:List String:=["NoneType", "bool", "int", "str", "tuple", "list", "dict"]
theorem zoS:∀ a∈zjl,∀ b∈["str", "tuple", "list", "dict", "bool", "int"],kitB a b=zne a b:=by decide +kernel
theorem zs3 {K:PySem.W.Frag} {P:Program} {w:World} {H:Hp} {S:Sto} {d:D} {v:V} {a:String} (h:DV K H d v) (r:Rp K P w S H) (e:tyD S d=some a):TyX K H v (.type a)∧a∈zjl:=by
 cases h with
 | non=>cases e;exact ⟨.base .non,by decide⟩
 | bl=>cases e;exact ⟨.base (.bl _),by decide⟩
 | int=>cases e;exact ⟨.base (.int _),by decide⟩
 | str=>cases e;exact ⟨.base (.str _),by decide⟩
 | ty=>cases e
 | rod=>cases e
 | tup s z=>
  cases e
  refine ⟨?_,by decide⟩
  rcases s with (s | ⟨o,s⟩) | ⟨o,its,n,h1,h2,_⟩
  ·exact .base (.tup s)
  ·exact .fTuple s
  ·exact .kTuple h1 h2
 | rol s z=>
  cases e
  refine ⟨?_,by decide⟩
  rcases s with ⟨o,s⟩ | ⟨o,its,n,h1,h2,_⟩
  ·exact .base (.frz s)
  ·exact .kList h1 h2
 | ref a=>
  simp only [tyD] at e
  split at e
  ·rename_i xs e0
   obtain ⟨vs,q,z⟩:=r _ _ e0
   cases e
   exact ⟨.base (.lst q),by decide⟩
  ·rename_i xs e0
   obtain ⟨vs,q,z⟩:=r _ _ e0
   cases e
   exact ⟨.base (.dK q),by decide⟩
  ·rename_i xs e0
   obtain ⟨vs,q,z⟩:=r _ _ e0
   cases e
   exact ⟨.base (.dT q),by decide⟩
  ·cases e
theorem zmp {a b:String} {c:Bool} (e:zne a b=some c):b∈["str", "tuple", "list", "dict", "bool", "int"]:=by
 unfold zne at e
 split at e <;> first | decide | cases e
theorem zbZ:zf5 X (.builtin "isinstance") zfM:=by
 refine zhw _ call_isi (fun xs H Q ds S h r q=>?_) (fun ds S Q Q' i q=>?_)
 ·unfold zfM at q
  split at q
  ·obtain ⟨v,u,rfl,z,z'⟩:=zwR h
   cases z'
   split at q
   ·rename_i a e1
    split at q
    ·rename_i c e2
     obtain ⟨t1,t2⟩:=zs3 z r e1
     exact ⟨_,_,_,_,c,rfl,.ty _,t1,kit_ty ((zoS _ t2 _ (zmp e2)).trans e2),zaD q r (.bl _)⟩
    ·exact q.elim
   ·exact q.elim
  ·exact q.elim
 ·unfold zfM at q ⊢
  split at q
  ·split at q
   ·split at q
    ·exact i _ _ q
    ·exact q.elim
   ·exact q.elim
  ·exact q.elim
end
section
variable {X:Cx} {B:Hp} {st:Stmt} {rest:List Stmt} {m n:SM} {e:Expr} {me:EM} {pos:Pos}
def mNx:SM:=fun A env S=>A.nx env S
def zav (m n:SM):SM:=fun A env S=>m { A with nx:=n A } env S
theorem zro:zmF mNx:=fun A B env S l h=>l.nx _ _ h
theorem zmF.go (h:zmF m) {A A':Fin} {env:Slo} {S:Sto} (q:m A env S) (l:zeg A A'):m A' env S:=h A A' env S l q
theorem zow (h1:zmF m) (h2:zmF n):zmF (zav m n):=fun A B env S l h=>
 h1.go (A:={ A with nx:=n A }) (A':={ B with nx:=n B }) h ⟨fun e s q=>h2 A B e s l q,l.rt,l.bk,l.ct⟩
theorem zaq:MSs X B [] mNx:=⟨zkI pss_nil fun D σ H q=>by
 obtain ⟨lB,env,S,r0,z0,q⟩:=q
 exact q σ H (Le.refl H) r0 z0,zro⟩
theorem zad (h1:MS X B st m) (h2:MSs X B rest n):MSs X B (st :: rest) (zav m n):=by
 refine ⟨zkI (pss_cons h1.ps h2.ps) fun D σ H q=>?_,zow h1.mono h2.mono⟩
 obtain ⟨lB,env,S,r0,z0,q⟩:=q
 refine ⟨lB,env,S,r0,z0,h1.mono.go (A:={ dnF X.K X.prog X.w H D with nx:=n (dnF X.K X.prog X.w H D) }) q ⟨fun e s q σ' H' l r z=>?_,fun _ _ q=>q,fun _ _ q=>q,fun _ _ q=>q⟩⟩
 exact ⟨lB.trans l,e,s,r,z,h2.mono.go q (zlf l)⟩
theorem zah (h1:MS X B st m):MSs X B [st] m:=⟨pss_one h1.ps,h1.mono⟩
def zvt:SM:=fun A env S=>A.bk env S
def zvs:SM:=fun A env S=>A.ct env S
def zcn (m:EM):SM:=fun A env S=>m env S fun _ S1=>A.nx env S1
theorem zaV (h:ME X B e me) (hs:swapsWith e none pos.line X.env=pure false:=by rfl):MS X B (.Expr e pos) (zcn me):=by
 refine ⟨zd4 (ps_expr h.pe hs) fun D σ H q=>?_,fun A B env S l q=>h.mono env S _ _ (fun d S1 q=>l.nx _ _ q) q⟩
 obtain ⟨lB,env,S,r0,z0,q⟩:=q
 exact ⟨lB,env,S,r0,z0,h.mono env S _ _ (fun d S1 q v H1 l z dv=>q σ H1 l (r0.le l) z) q⟩
def zbg (m:EM):SM:=fun A env S=>m env S A.rt
theorem zar (h:ME X B e me):MS X B (.Return (some e) pos) (zbg me):=by
 refine ⟨zd4 (ps_ret h.pe) fun D σ H q=>?_,fun A B env S l q=>h.mono env S _ _ (fun d S1 q=>l.rt _ _ q) q⟩
 obtain ⟨lB,env,S,r0,z0,q⟩:=q
 exact ⟨lB,env,S,r0,z0,q⟩
def zrx:SM:=fun A _ S=>A.rt .non S
def mIf (t:TM) (m n:SM):SM:=fun A env S=>t env S fun b S1=>match b with
 | true=>m A env S1
 | false=>n A env S1
theorem zaF {c:Expr} {a b:List Stmt} {t:TM} (hc:MT X B c t) (ha:MSs X B a m) (hb:MSs X B b n):MS X B (.If c a b pos) (mIf t m n):=by
 refine ⟨zd4 (ps_if hc.pt ha.ps hb.ps) fun D σ H q=>?_,fun A B env S l q=>hc.mono env S _ _ (fun c S1 z=>?_) q⟩
 ·obtain ⟨lB,env,S,r0,z0,q⟩:=q
  refine ⟨lB,env,S,r0,z0,hc.mono env S _ _ (fun c S1 q H1 l z=>?_) q⟩
  cases c with
  | true=>
   show upS X.K X.prog X.w B m D σ H1
   exact ⟨lB.trans l,env,S1,r0.le l,z,ha.mono _ _ env S1 (zlf l) q⟩
  | false=>
   show upS X.K X.prog X.w B n D σ H1
   exact ⟨lB.trans l,env,S1,r0.le l,z,hb.mono _ _ env S1 (zlf l) q⟩
 ·cases c with
  | true=>exact ha.mono _ _ env S1 l z
  | false=>exact hb.mono _ _ env S1 l z
abbrev GM:=D->Slo->Sto->(Slo->Sto->Prop)->Prop
abbrev GsM:=List D->Slo->Sto->(Slo->Sto->Prop)->Prop
def dnN (K:PySem.W.Frag) (P:Program) (w:World) (H:Hp) (Q:L2.St->Hp->Prop):Slo->Sto->Prop:=fun env' S'=>∀ σ' H',Le H H'->zdk K H' env' σ'->Rp K P w S' H'->Q σ' H'
structure MG (X:Cx) (B:Hp) (tg:Expr) (g:GM):Prop where
 pg:PG X tg fun v σ H Q=>Le B H∧∃ d env S,DV X.K H d v∧zdk X.K H env σ∧Rp X.K X.prog X.w S H∧g d env S (dnN X.K X.prog X.w H Q)
 mono:∀ d env S (Q Q':Slo->Sto->Prop),(∀ e S,Q e S->Q' e S)->g d env S Q->g d env S Q'
structure MGs (X:Cx) (B:Hp) (tg:List Expr) (g:GsM):Prop where
 pg:PGs X tg fun v σ H Q=>Le B H∧∃ d env S,DVs X.K H d v∧zdk X.K H env σ∧Rp X.K X.prog X.w S H∧g d env S (dnN X.K X.prog X.w H Q)
 mono:∀ d env S (Q Q':Slo->Sto->Prop),(∀ e S,Q e S->Q' e S)->g d env S Q->g d env S Q'
theorem zkL {tg:Expr} {t t':TG} (h:PG X tg t) (i:∀ v σ H Q,t' v σ H Q->t v σ H Q):PG X tg t':=⟨fun pins s σ H v u Q I r q=>h.run pins s σ H v u Q I r (i v σ H Q q)⟩
theorem zkK {tg:List Expr} {t t':TGs} (h:PGs X tg t) (i:∀ v σ H Q,t' v σ H Q->t v σ H Q):PGs X tg t':=⟨fun pins s σ H v u Q I r q=>h.run pins s σ H v u Q I r (i v σ H Q q)⟩
def gNm (i:Nat):GM:=fun d env S Q=>Q (env.set i (some d)) S
theorem zaJ {i:Nat} {x:Str} (h:PG X (.Name x pos) (gName i)):MG X B (.Name x pos) (gNm i):=by
 refine ⟨zkL h fun v σ H Q q=>?_,fun d env S Q Q' i q=>i _ _ q⟩
 obtain ⟨lB,d,env,S,dv,r0,z0,q⟩:=q
 exact q _ H (Le.refl H) (r0.set dv i) z0
def gN:GsM:=fun ds env S Q=>match ds with
 | []=>Q env S
 | _=>False
def gC (g:GM) (gs:GsM):GsM:=fun ds env S Q=>match ds with
 | d :: r=>g d env S fun env' S'=>gs r env' S' Q
 | _=>False
theorem zfz:MGs X B [] gN:=by
 refine ⟨zkK pgs_nil fun v σ H Q q=>?_,fun d env S Q Q' i q=>?_⟩
 ·obtain ⟨lB,d,env,S,dv,r0,z0,q⟩:=q
  cases dv with
  | nil=>exact ⟨rfl,q _ H (Le.refl H) r0 z0⟩
  | cons=>exact q.elim
 ·cases d with
  | nil=>exact i _ _ q
  | cons=>exact q.elim
theorem zbE {e:Expr} {es:List Expr} {g:GM} {gs:GsM} (h1:MG X B e g) (h2:MGs X B es gs) (hs:(assignEach (e :: es) X.env).map (·.2)=assign e X.env :: (assignEach es X.env).map (·.2):=by rfl):MGs X B (e :: es) (gC g gs):=by
 refine ⟨zkK (pgs_cons h1.pg h2.pg hs) fun v σ H Q q=>?_,fun d env S Q Q' i q=>?_⟩
 ·obtain ⟨lB,d,env,S,dv,r0,z0,q⟩:=q
  cases dv with
  | nil=>exact q.elim
  | @cons d ds v vs dv dvs=>
   refine ⟨v,vs,rfl,lB,d,env,S,dv,r0,z0,h1.mono _ _ _ _ _ (fun env' S' q σ' H' l r z=>?_) q⟩
   exact ⟨lB.trans l,ds,env',S',dvs.le l,r,z,h2.mono _ _ _ _ _ (fun e s q σ2 H2 l2 r2 z2=>q σ2 H2 (l.trans l2) r2 z2) q⟩
 ·cases d with
  | nil=>exact q.elim
  | cons d ds=>exact h1.mono _ _ _ _ _ (fun e s q=>h2.mono _ _ _ _ _ i q) q
def gT (n:Nat) (gs:GsM):GM:=fun d env S Q=>match d with
 | .tp _ ds=>ds.length=n∧gs ds env S Q
 | _=>False
theorem zg7 {es:List Expr} {k n:Nat} {gs:GsM} (hc:X.calm=true) (h:MGs X B es gs) (hn:(assignEach es X.env).length=n:=by rfl) (hst:(assignEach es X.env).findIdx? (·.1)=none:=by rfl):MG X B (.Tuple es k pos) (gT n gs):=by
 refine ⟨zkL (pg_tup hc h.pg hn hst) fun v σ H Q q=>?_,fun d env S Q Q' i q=>?_⟩
 ·obtain ⟨lB,d,env,S,dv,r0,z0,q⟩:=q
  cases dv with
  | tup s z=>exact ⟨_,_,rfl,s,by rw [← z.length];exact q.1,lB,_,env,S,z,r0,z0,q.2⟩
  | _=>exact (show False from q).elim
 ·cases d with
  | tp _ ds=>exact ⟨q.1,h.mono _ _ _ _ _ i q.2⟩
  | _=>exact (show False from q).elim
def gIx (mo mi:EM):GM:=fun d env S Q=>mo env S fun o S1=>mi env S1 fun i S2=>match zlB S2 o i d with
 | some S3=>Q env S3
 | none=>False
theorem zeW {o i:Expr} {mo mi:EM} (hu:X.A.units+1 < cLine) (ho:ME X B o mo) (hi:ME X B i mi)
  (ha:∀ v,assign (.Subscript o i pos) X.env v=(do
   let ov ← holding [v] (eval o X.env)
   let iv ← holding [v,ov] (eval i X.env)
   standAt pos
   holding [v,ov,iv] (setItem ov iv v)
   release [v,ov,iv] []):=by intro _;rfl):MG X B (.Subscript o i pos) (gIx mo mi):=by
 refine ⟨zkL (pg_sub ho.pe hi.pe (zkr hu) ha) fun v σ H Q q=>?_,fun d env S Q Q' i q=>ho.mono env S _ _ (fun o S1 q=>hi.mono env S1 _ _ (fun j S2 q=>?_) q) q⟩
 ·obtain ⟨lB,d,env,S,dv,r0,z0,q⟩:=q
  refine ⟨lB,env,S,r0,z0,ho.mono env S _ _ (fun o S1 q v1 H1 l1 z1 d1=>?_) q⟩
  refine ⟨lB.trans l1,env,S1,r0.le l1,z1,hi.mono env S1 _ _ (fun j S2 q v2 H2 l2 z2 d2=>?_) q⟩
  split at q
  ·rename_i S3 e
   exact ⟨o,j,d,S2,S3,d1.le l2,d2,dv.le (l1.trans l2),z2,e,fun H3 l3 z3=>q _ H3 ((l1.trans l2).trans l3) (r0.le ((l1.trans l2).trans l3)) z3⟩
  ·exact q.elim
 ·split at q
  ·exact i _ _ q
  ·exact q.elim
def zaN (m:EM) (g:GM):SM:=fun A env S=>m env S fun d S1=>g d env S1 A.nx
theorem zeU {tg:Expr} {g:GM} (he:ME X B e me) (hg:MG X B tg g) (hs:swapsWithSole [tg] e pos.line X.env=pure false:=by rfl) (hw:swappedStores [tg] e X.env=pure none:=by rfl)
  (h1:(assignEach [tg] X.env).map (·.2)=[assign tg X.env]:=by rfl):MS X B (.Assign [tg] e pos) (zaN me g):=by
 refine ⟨zd4 (ps_asg he.pe hg.pg hs hw h1) fun D σ H q=>?_,fun A B env S l q=>he.mono env S _ _ (fun d S1 q=>hg.mono _ _ _ _ _ l.nx q) q⟩
 obtain ⟨lB,env,S,r0,z0,q⟩:=q
 refine ⟨lB,env,S,r0,z0,he.mono env S _ _ (fun d S1 q v H1 l z dv=>?_) q⟩
 exact ⟨lB.trans l,d,env,S1,dv,r0.le l,z,hg.mono _ _ _ _ _ (fun e s q σ2 H2 l2 r2 z2=>q σ2 H2 (l.trans l2) r2 z2) q⟩
theorem zao {i:Nat} {x:Str} {pos':Pos} (he:ME X B e me) (h:∀ {te:TE},PE X e te->PS X (.Assign [.Name x pos'] e pos) (tAsg te (gName i))):MS X B (.Assign [.Name x pos'] e pos) (zaN me (gNm i)):=by
 refine ⟨zd4 (h he.pe) fun D σ H q=>?_,fun A B env S l q=>he.mono env S _ _ (fun d S1 q=>l.nx _ _ q) q⟩
 obtain ⟨lB,env,S,r0,z0,q⟩:=q
 refine ⟨lB,env,S,r0,z0,he.mono env S _ _ (fun d S1 q v H1 l z dv=>?_) q⟩
 exact q _ H1 l ((r0.le l).set dv i) z
theorem zoo:OpD X (inplaceOp .Add) (fun d e S Q=>match d,e with
  | .int i,.int j=>Q (.int (i+j)) S
  | .str i,.str j=>i.length+j.length≤sizeLine∧Q (.str (i++j)) S
  | _,_=>False):=by
 refine opd _ (iop_add.or iop_add_str) (fun x y H Q d e S h1 h2 r h=>?_) (fun d e S Q Q' i h=>?_)
 ·cases h1 <;> cases h2 <;> first | exact h.elim | skip
  ·exact .inl ⟨_,_,rfl,rfl,zaD h r (.int _)⟩
  ·rename_i i o1 j o2
   exact .inr ⟨_,_,rfl,rfl,h.1,zaD h.2 r (.str _ (o1.append o2 h.1))⟩
 ·cases d <;> cases e <;> first | exact h.elim | exact i _ _ h | exact ⟨h.1,i _ _ h.2⟩
def ziZ:BM:=fun d e S Q=>match d,e with
  | .int i,.int j=>Q (.int (i+j)) S
  | .str i,.str j=>i.length+j.length≤sizeLine∧Q (.str (i++j)) S
  | _,_=>False
theorem zjt:OpD X (inplaceOp .Add) ziZ:=zoo
def zm9 (i:Nat) (m:EM) (r:BM):SM:=fun A env S=>match env[i]? with
 | some (some d)=>m env S fun y S1=>r d y S1 fun z S2=>A.nx (env.set i (some z)) S2
 | _=>False
theorem zmV {i:Nat} {x:Str} {op:Operator} {r:BM} {pos':Pos} (he:ME X B e me) (ho:OpD X (inplaceOp op) r) (h:∀ {te:TE} {ti:TIp},PE X e te->PIp X op ti->PS X (.AugAssign (.Name x pos') op e pos) (tAug i te ti)) :
  MS X B (.AugAssign (.Name x pos') op e pos) (zm9 i me r):=by
 refine ⟨zd4 (h he.pe ho.op) fun D σ H q=>?_,fun A B env S l q=>?_⟩
 ·obtain ⟨lB,env,S,r0,z0,q⟩:=q
  unfold zm9 at q
  split at q
  ·rename_i d ed
   obtain ⟨v,ev,dv⟩:=r0.at_ _ _ ed
   refine ⟨v,ev,lB,env,S,r0,z0,he.mono env S _ _ (fun y S1 q u H1 l1 z1 d1=>?_) q⟩
   refine ⟨d,y,S1,dv.le l1,d1,z1,ho.mono _ _ _ _ _ (fun z S2 q v2 H2 l2 z2 d2=>?_) q⟩
   exact q _ H2 (l1.trans l2) ((r0.le (l1.trans l2)).set d2 i) z2
  ·exact q.elim
 ·unfold zm9 at q ⊢
  split at q
  ·exact he.mono env S _ _ (fun y S1 q=>ho.mono _ _ _ _ _ (fun z S2 q=>l.nx _ _ q) q) q
  ·exact q.elim
theorem zoU (hu:X.A.units+1 < cLine):PGet X (fun o i H Q=>∃ d e S,DV X.K H d o∧DV X.K H e i∧Rp X.K X.prog X.w S H∧(∃ a,d = .ref a)∧(∀ k,e = .int k->0≤k)∧vIx d e S (dnE X.K X.prog X.w H Q)):=by
 intro pins s σ H o i ov iv Q I ro ri h
 obtain ⟨d,e,S,h1,h2,r,⟨a,rfl⟩,h0,q⟩:=h
 cases h1
 obtain rfl:ov=Value.ref a:=ro
 unfold vIx at q
 dsimp only at q
 split at q
 ·rename_i xs k e1
  split at q
  ·rename_i x0 e0
   cases h2
   obtain ⟨t,rfl⟩:=ri
   obtain ⟨vs,q1,z1⟩:=r _ _ e1
   obtain ⟨v,e2,z2⟩:=z1.atI e0
   obtain ⟨its,rv,pl,hz⟩:=I.list (SqL.of q1)
   obtain ⟨j,g1,g2,g3,g4,g5⟩:=atI_get e2
   obtain ⟨u,ew,rw'⟩:=rv.get g2
   have hk:=h0 _ rfl
   have hj:k.toNat=j:=by
    rw [seqIndex_of hk g5] at g1
    exact Option.some.inj g1
   have hl:=rv.length
   have hn:=line63
   refine wpAny_getItem_list pl.isList hk (by omega) (by rw [hj];simpa using ew) ?_
   exact ⟨v,H,I,rw',zaD q r z2⟩
  ·exact q.elim
 ·rename_i kvs e e1
  split at q
  ·rename_i k ek
   split at q
   ·rename_i x0 e0
    obtain ⟨vs,q1,z1⟩:=r _ _ e1
    obtain ⟨v,e2,z2⟩:=(z1.val k).1 _ e0
    have ev:=zgu h2 ek
    subst ev
    refine d_getItem hu I (by rw [← e2];exact DGet.k q1) ri fun w' s3 I3 rw'=>⟨v,H,I3,rw',zaD q r z2⟩
   ·exact q.elim
  ·exact q.elim
 ·exact q.elim
def zj5 (mo mi m:EM) (r:BM):SM:=fun A env S=>mo env S fun o S1=>mi env S1 fun i S2=>(match o with
 | .ref _=>True
 | _=>False)∧(match i with
 | .int k=>0≤k
 | _=>True)∧vIx o i S2 fun x S3=>m env S3 fun y S4=>r x y S4 fun z S5=>match zlB S5 o i z with
  | some S6=>A.nx env S6
  | none=>False
theorem zkS {o i:Expr} {mo mi:EM} {op:Operator} {r:BM} {tpos:Pos} (hu:X.A.units+1 < cLine) (ho:ME X B o mo) (hi:ME X B i mi) (he:ME X B e me) (hop:OpD X (inplaceOp op) r)
  (ha:∀ ov iv new,augStore i ov iv new=(do holding [new,ov,iv] (setItem ov iv new);release [new,ov,iv] [];pure .next):=by intros;rfl):MS X B (.AugAssign (.Subscript o i tpos) op e pos) (zj5 mo mi me r):=by
 refine ⟨zd4 (ps_augS ho.pe hi.pe (zoU hu) he.pe hop.op (zkr hu) ha) fun D σ H q=>?_,fun A B env S l q=>ho.mono env S _ _ (fun o S1 q=>hi.mono env S1 _ _ (fun j S2 q=>⟨q.1,q.2.1,zjx _ _ _ _ _ (fun x S3 q=>he.mono env S3 _ _ (fun y S4 q=>hop.mono _ _ _ _ _ (fun z S5 q=>?_) q) q) q.2.2⟩) q) q⟩
 ·obtain ⟨lB,env,S,r0,z0,q⟩:=q
  refine ⟨lB,env,S,r0,z0,ho.mono env S _ _ (fun o S1 q v1 H1 l1 z1 d1=>?_) q⟩
  refine ⟨lB.trans l1,env,S1,r0.le l1,z1,hi.mono env S1 _ _ (fun j S2 q v2 H2 l2 z2 d2=>?_) q⟩
  obtain ⟨q1,q2,q⟩:=q
  have eo:∃ a,o = .ref a:=by
   cases o <;> first | exact ⟨_,rfl⟩ | exact q1.elim
  refine ⟨o,j,S2,d1.le l2,d2,z2,eo,fun k ek=>by subst ek;exact q2,zjx _ _ _ _ _ (fun x S3 q v3 H3 l3 z3 d3=>?_) q⟩
  have l03:=(l1.trans l2).trans l3
  refine ⟨lB.trans l03,env,S3,r0.le l03,z3,he.mono env S3 _ _ (fun y S4 q v4 H4 l4 z4 d4=>?_) q⟩
  refine ⟨x,y,S4,d3.le l4,d4,z4,hop.mono _ _ _ _ _ (fun z S5 q v5 H5 l5 z5 d5=>?_) q⟩
  split at q
  ·rename_i S6 e6
   have l25:=l3.trans (l4.trans l5)
   exact ⟨o,j,z,S5,S6,d1.le (l2.trans l25),d2.le l25,d5,z5,e6,fun H6 l6 z6=>q _ H6 ((l1.trans l2).trans (l25.trans l6)) (r0.le ((l1.trans l2).trans (l25.trans l6))) z6⟩
  ·exact q.elim
 ·split at q
  ·exact l.nx _ _ q
  ·exact q.elim
def zvo (t:TM) (m:SM):SM:=fun A env S=>∃ W:Nat->Slo->Sto->Prop,(∃ k,W k env S)∧∀ k env S,W k env S->t env S fun b S1=>match b with
 | true=>m { A with nx:=fun e s=>∃ k',k' < k∧W k' e s,ct:=fun e s=>∃ k',k' < k∧W k' e s,bk:=A.nx } env S1
 | false=>A.nx env S1
abbrev IM:=Slo->Sto->(List D->(Sto->Prop)->Sto->Prop)->Prop
structure WkD (K:PySem.W.Frag) (P:Program) (w:World) (H1:Hp) (J:It) (xs:List D) (G:Sto->Prop):Prop where
 go:∀ i S H,i < xs.length->Le H1 H->Rp K P w S H->G S->J.go i H
 stop:∀ S H,Le H1 H->Rp K P w S H->G S->J.stop xs.length H
 yld:∀ i S H x H',i < xs.length->Le H1 H->Rp K P w S H->G S->J.yld i H x H'->Le H H'∧Rp K P w S H'∧∃ d,xs[i]? = some d∧DV K H' d x
structure MI (X:Cx) (B:Hp) (tg iter:Expr) (m:IM):Prop where
 pi:PI X tg iter fun σ H R=>Le B H∧∃ env S,zdk X.K H env σ∧Rp X.K X.prog X.w S H∧m env S fun xs G S1=>∀ J H1,Le H H1->Rp X.K X.prog X.w S1 H1->WkD X.K X.prog X.w H1 J xs G->R J H1
 mono:∀ env S (Q Q':List D->(Sto->Prop)->Sto->Prop),(∀ xs G S,Q xs G S->Q' xs G S)->m env S Q->m env S Q'
theorem zjp {tg iter:Expr} {t t':TI} (h:PI X tg iter t) (i:∀ σ H R,t' σ H R->t σ H R):PI X tg iter t':=⟨fun pins s σ H R I q=>h.run pins s σ H R I (i σ H R q)⟩
def forL (g:GM) (m:SM) (G:Sto->Prop) (A:Fin):List D->Slo->Sto->Prop
 | [],env,S=>G S∧A.nx env S
 | x :: xs,env,S=>G S∧g x env S fun env2 S2=>m { A with nx:=forL g m G A xs,ct:=forL g m G A xs,bk:=A.nx } env2 S2
theorem zha {g:GM} {m:SM} {G:Sto->Prop} (hg:∀ d env S (Q Q':Slo->Sto->Prop),(∀ e S,Q e S->Q' e S)->g d env S Q->g d env S Q') (hm:zmF m) {A A':Fin} (l:zeg A A'):∀ xs env S,forL g m G A xs env S->forL g m G A' xs env S
 | [],env,S,h=>⟨h.1,l.nx _ _ h.2⟩
 | x :: xs,env,S,h=>⟨h.1,hg _ _ _ _ _ (fun e s q=>hm.go (A:={ A with nx:=forL g m G A xs,ct:=forL g m G A xs,bk:=A.nx }) (A':={ A' with nx:=forL g m G A' xs,ct:=forL g m G A' xs,bk:=A'.nx }) q ⟨zha hg hm l xs,l.rt,l.nx,zha hg hm l xs⟩) h.2⟩
def zfA (mi:IM) (g:GM) (m:SM):SM:=fun A env S=>mi env S fun xs G S1=>forL g m G A xs env S1
theorem zbc {tg iter:Expr} {body:List Stmt} {mi:IM} {g:GM} (hp:PassesOwn (model X.prog X.w) X.A X.env X.xe) (hc:X.calm=true) (hi:MI X B tg iter mi) (hg:MG X B tg g) (hb:MSs X B body m)
  (h:∀ {wi:TI} {g:TG} {tb:TS},PI X tg iter wi->PG X tg g->PSs X body tb->PS X (.For tg iter body [] pos) (tFor wi g tb):=by intro wi g tb h1 h2 h3;exact ps_for (by assumption) (by assumption) h1 h2 h3):MS X B (.For tg iter body [] pos) (zfA mi g m):=by
 refine ⟨zd4 (h hi.pi hg.pg hb.ps) fun D σ H q=>?_,fun A B env S l q=>hi.mono env S _ _ (fun xs G S1 q=>zha hg.mono hb.mono l _ _ _ q) q⟩
 obtain ⟨lB,env,S,r0,z0,q⟩:=q
 refine ⟨lB,env,S,r0,z0,hi.mono env S _ _ (fun xs G S1 q J H1 l1 z1 wk=>?_) q⟩
 refine ⟨fun i k σ' H'=>i≤xs.length∧k=xs.length - i∧Le H1 H'∧∃ env S,zdk X.K H' env σ'∧Rp X.K X.prog X.w S H'∧forL g m G (dnF X.K X.prog X.w H D) (xs.drop i) env S,
  ⟨xs.length,Nat.zero_le _,rfl,Le.refl H1,env,S1,r0.le l1,z1,q⟩,fun i k σ' H' h=>?_⟩
 obtain ⟨hi,rfl,l2,env,S,r2,z2,q⟩:=h
 by_cases hlt:i < xs.length
 ·have ed:xs.drop i=xs[i] :: xs.drop (i+1):=(List.drop_eq_getElem_cons hlt)
  rw [ed] at q
  refine .inr ⟨wk.go i S H' hlt l2 z2 q.1,fun σ3 H3=>Le H1 H3∧∃ env S,zdk X.K H3 env σ3∧Rp X.K X.prog X.w S H3∧forL g m G (dnF X.K X.prog X.w H D) (xs.drop (i+1)) env S,
   fun σ3 H3 h=>⟨xs.length - (i+1),by omega,hlt,rfl,h⟩,fun x H3 hy=>?_⟩
  obtain ⟨l3,z3,d,ex,dv⟩:=wk.yld i S H' x H3 hlt l2 z2 q.1 hy
  have e':d=xs[i]:=by
   rw [List.getElem?_eq_getElem hlt] at ex
   exact (Option.some.inj ex).symm
  subst e'
  have l13:=l2.trans l3
  refine ⟨lB.trans (l1.trans l13),_,env,S,dv,r2.le l3,z3,hg.mono _ _ _ _ _ (fun e s q σ4 H4 l4 r4 z4=>?_) q.2⟩
  have l14:=l13.trans l4
  refine ⟨lB.trans (l1.trans l14),e,s,r4,z4,hb.mono.go (A:={ dnF X.K X.prog X.w H D with nx:=forL g m G (dnF X.K X.prog X.w H D) (xs.drop (i+1)),ct:=forL g m G (dnF X.K X.prog X.w H D) (xs.drop (i+1)),bk:=(dnF X.K X.prog X.w H D).nx }) q ⟨fun e s q σ5 H5 l5 r5 z5=>⟨l14.trans l5,e,s,r5,z5,q⟩,zdT (l1.trans l14),fun e s q σ5 H5 l5 r5 z5=>q σ5 H5 ((l1.trans l14).trans l5) r5 z5,fun e s q σ5 H5 l5 r5 z5=>⟨l14.trans l5,e,s,r5,z5,q⟩⟩⟩
 ·have ei:i=xs.length:=by omega
  subst ei
  rw [List.drop_length] at q
  exact .inl ⟨wk.stop S H' l2 z2 q.1,q.2 σ' H' (l1.trans l2) r2 z2⟩
variable {tg:Expr}
def zkf (x:Str):List D:=x.cps.toList.map fun c=>.str ⟨#[c]⟩
def ziV (m:EM):IM:=fun env S R=>m env S fun d S1=>match d with
 | .tp _ xs=>R xs (fun _=>True) S1
 | .rol xs=>R xs (fun _=>True) S1
 | .str x=>R (zkf x) (fun _=>True) S1
 | .ref a=>match S1 a with
  | some (.lst xs)=>R xs (fun S=>S a=some (.lst xs)) S1
  | _=>False
 | _=>False
theorem zl4 {m:EM} (h:zd2 m):∀ env S (Q Q':List D->(Sto->Prop)->Sto->Prop),(∀ xs G S,Q xs G S->Q' xs G S)->ziV m env S Q->ziV m env S Q':=fun env S Q Q' i q=>
 h env S _ _ (fun d S1 q=>by
  split at q
  ·exact i _ _ _ q
  ·exact i _ _ _ q
  ·exact i _ _ _ q
  ·split at q
   ·exact i _ _ _ q
   ·exact q.elim
  ·exact q.elim) q
theorem zpo {K:PySem.W.Frag} {P:Program} {w:World} {H1:Hp} {a:Addr} {vs:List V} {ds:List D} (s:SqT K H1 a vs) (z:DVs K H1 ds vs):WkD K P w H1 (Itt K a) ds fun _=>True where
 go:=fun i S H hi l _ _=>by
  rw [z.length] at hi
  exact (walk_tup (xs:=vs)).goes i H hi (zhi l s)
 stop:=fun S H l _ _=>by
  rw [z.length]
  exact (walk_tup (xs:=vs)).stops H (zhi l s)
 yld:=fun i S H x H' hi l r _ y=>by
  rw [z.length] at hi
  obtain ⟨e1,e2⟩:=(walk_tup (xs:=vs)).yields i H x H' hi (zhi l s) y
  subst e1
  refine ⟨Le.refl _,r,?_⟩
  rw [← z.length] at hi
  obtain ⟨v,e3,dv⟩:=(z.le l).get (List.getElem?_eq_getElem hi)
  rw [e2] at e3
  cases e3
  exact ⟨_,List.getElem?_eq_getElem hi,dv⟩
theorem zpq {K:PySem.W.Frag} {P:Program} {w:World} {H1:Hp} {a:Addr} {vs:List V} {ds:List D} (s:RoL K H1 a vs) (z:DVs K H1 ds vs):WkD K P w H1 (Itl K a) ds fun _=>True where
 go:=fun i S H hi l _ _=>by
  rw [z.length] at hi
  exact (walk_list (xs:=vs)).goes i H hi (s.le l).sq
 stop:=fun S H l _ _=>by
  rw [z.length]
  exact (walk_list (xs:=vs)).stops H (s.le l).sq
 yld:=fun i S H x H' hi l r _ y=>by
  rw [z.length] at hi
  obtain ⟨e1,e2⟩:=(walk_list (xs:=vs)).yields i H x H' hi (s.le l).sq y
  subst e1
  refine ⟨Le.refl _,r,?_⟩
  rw [← z.length] at hi
  obtain ⟨v,e3,dv⟩:=(z.le l).get (List.getElem?_eq_getElem hi)
  rw [e2] at e3
  cases e3
  exact ⟨_,List.getElem?_eq_getElem hi,dv⟩
theorem zps {K:PySem.W.Frag} {P:Program} {w:World} {H1:Hp} {a:Addr} {ds:List D}:WkD K P w H1 (Itl K a) ds fun S=>S a=some (.lst ds) where
 go:=fun i S H hi l r g=>by
  obtain ⟨vs,q,z⟩:=r _ _ g
  rw [z.length] at hi
  exact (walk_list (xs:=vs)).goes i H hi (SqL.of q)
 stop:=fun S H l r g=>by
  obtain ⟨vs,q,z⟩:=r _ _ g
  rw [z.length]
  exact (walk_list (xs:=vs)).stops H (SqL.of q)
 yld:=fun i S H x H' hi l r g y=>by
  obtain ⟨vs,q,z⟩:=r _ _ g
  rw [z.length] at hi
  obtain ⟨e1,e2⟩:=(walk_list (xs:=vs)).yields i H x H' hi (SqL.of q) y
  subst e1
  refine ⟨Le.refl _,r,?_⟩
  rw [← z.length] at hi
  obtain ⟨v,e3,dv⟩:=z.get (List.getElem?_eq_getElem hi)
  rw [e2] at e3
  cases e3
  exact ⟨_,List.getElem?_eq_getElem hi,dv⟩
theorem OkS.sign {x:Str} {c:Nat} (h:OkS x) (hm:c∈x.cps):OkS ⟨#[c]⟩:=by
 refine ⟨?_,(show 1≤sizeLine by decide)⟩
 have h1:x.cps.all (· < 0x110000)=true:=h.1
 rw [Array.all_eq_true_iff_forall_mem] at h1
 have h2:=h1 c hm
 show (#[c]:Array Nat).all (· < 0x110000)=true
 simpa using h2
theorem zpp {K:PySem.W.Frag} {P:Program} {w:World} {H1:Hp} {x:Str} (ok:OkS x):WkD K P w H1 (Its x) (zkf x) fun _=>True where
 go:=fun i S H hi _ _ _=>by
  refine (walk_str (z:=x)).goes i H ?_ trivial
  simpa [zkf] using hi
 stop:=fun S H _ _ _=>by
  have e:(zkf x).length=x.cps.size:=by simp [zkf]
  rw [e]
  exact (walk_str (z:=x)).stops H trivial
 yld:=fun i S H v H' hi l r _ y=>by
  have hi':i < x.cps.size:=by simpa [zkf] using hi
  obtain ⟨e1,c,e2,e3⟩:=(walk_str (z:=x)).yields i H v H' hi' trivial y
  subst e1 e3
  refine ⟨Le.refl _,r,.str ⟨#[c]⟩,?_,.str _ (ok.sign (Array.mem_of_getElem? e2))⟩
  simp [zkf,e2]
def zoT (K:PySem.W.Frag) (tl:TE):TI:=fun σ H R=>tl σ H fun x H1=>(∃ a,x = .ref a∧(((∃ xs,SqL K H1 a xs)∧R (Itl K a) H1) ∨ ((∃ xs,SqT K H1 a xs)∧R (Itt K a) H1))) ∨ ∃ z,x = .str z∧R (Its z) H1
theorem zkJ {l:Expr} {tl:TE} (hl:PE X l tl):PI X tg l (zoT X.K tl):=by
 refine ⟨fun pins s σ H R I h=>?_⟩
 have h1:=hl.run pins s σ H _ I h
 refine thn h1 fun v s1 ⟨x,H1,I1,r1,q0⟩=>?_
 rcases q0 with ⟨a,ex,q⟩ | ⟨z,ex,q⟩
 rotate_left
 ·subst ex
  obtain ⟨t,rfl⟩:=r1
  cases ha:z.cps.all (· < 128)
  ·exact wpAny_pyIter_wide ha (pi_one (tk:=s1.toks) I1 _ (turn_str _ z t "str_iterator" (.inr rfl)) ⟨_,Heap.get?_push_size _ rfl,rfl,rfl⟩ q)
  ·exact wpAny_pyIter_ascii ha (pi_one (tk:=s1.toks) I1 _ (turn_str _ z t "str_ascii_iterator" (.inl rfl)) ⟨_,Heap.get?_push_size _ rfl,rfl,rfl⟩ q)
 subst ex
 rcases q with ⟨⟨xs,hq⟩,q⟩ | ⟨⟨xs,hq⟩,q⟩
 ·cases r1
  obtain ⟨its,rv,p,hz⟩:=I1.list hq
  refine wpAny_pyIter_list p.isList ?_
  refine ⟨s1.heap.objs.size,[s1.heap.objs.size],_,_,H1,rfl,I1.kept (t':=s1.toks) fun b o e=>Heap.get?_push_of_some _ e,turn_list a _,⟨_,Heap.get?_push_size _ rfl,rfl,rfl⟩,fun b hb=>?_,q⟩
  have e:b=s1.heap.objs.size:=by simpa using hb
  subst e
  exact I1.fpOk (Nat.le_refl _) (I1.hok.fresh (Nat.le_refl _))
 ·cases r1
  obtain ⟨its,rv,p,hz⟩:=I1.tuple hq
  refine wpAny_pyIter_tuple (show s1.heap.IsTuple a its.toArray from p) ?_
  refine ⟨s1.heap.objs.size,[s1.heap.objs.size],_,_,H1,rfl,I1.kept (t':=s1.toks) fun b o e=>Heap.get?_push_of_some _ e,turn_tuple a _,⟨_,Heap.get?_push_size _ rfl,rfl,rfl⟩,fun b hb=>?_,q⟩
  have e:b=s1.heap.objs.size:=by simpa using hb
  subst e
  exact I1.fpOk (Nat.le_refl _) (I1.hok.fresh (Nat.le_refl _))
theorem zeV {l:Expr} {m:EM} (h:ME X B l m):MI X B tg l (ziV m):=by
 refine ⟨zjp (zkJ h.pe) fun σ H R q=>?_,zl4 h.mono⟩
 obtain ⟨lB,env,S,r0,z0,q⟩:=q
 refine ⟨lB,env,S,r0,z0,h.mono env S _ _ (fun d S1 q v H1 l1 z1 d1=>?_) q⟩
 dsimp only at q
 split at q
 ·cases d1 with
  | tup s z=>exact .inl ⟨_,rfl,.inr ⟨⟨_,s⟩,q _ H1 l1 z1 (zpo s z)⟩⟩
 ·cases d1 with
  | rol s z=>exact .inl ⟨_,rfl,.inl ⟨⟨_,s.sq⟩,q _ H1 l1 z1 (zpq s z)⟩⟩
 ·cases d1 with
  | str x ok=>exact .inr ⟨_,rfl,q _ H1 l1 z1 (zpp ok)⟩
 ·cases d1
  split at q
  ·rename_i xs e0
   obtain ⟨vs,q1,z⟩:=z1 _ _ e0
   exact .inl ⟨_,rfl,.inl ⟨⟨_,SqL.of q1⟩,q _ H1 l1 z1 zps⟩⟩
  ·exact q.elim
 ·exact q.elim
def zi3 (lo:Int) (n:Nat):List D:=(List.range n).map fun (i:Nat)=>.int (lo+(i:Int))
theorem zpr {K:PySem.W.Frag} {P:Program} {w:World} {H1:Hp} {lo:Int} {n:Nat}:WkD K P w H1 (Itr lo n) (zi3 lo n) fun _=>True where
 go:=fun i S H hi _ _ _=>by
  show i < n
  simpa [zi3] using hi
 stop:=fun S H _ _ _=>by
  simp [zi3,Itr]
 yld:=fun i S H x H' hi l r _ y=>by
  obtain ⟨e1,e2⟩:=y
  subst e1 e2
  have hi':i < n:=by simpa [zi3] using hi
  exact ⟨Le.refl _,r,.int (lo+i),by simp [zi3,hi'],.int _⟩
def zcw (m:AM):IM:=fun env S R=>m env S fun ds S1=>match ds with
 | [.int j]=>-(2 ^ 62)≤j∧j < 2 ^ 62∧R (zi3 0 j.toNat) (fun _=>True) S1
 | _=>False
def zu6 (m:AM):IM:=fun env S R=>m env S fun ds S1=>match ds with
 | [.int i,.int j]=>(-(2 ^ 62)≤i∧i < 2 ^ 62∧-(2 ^ 62)≤j∧j < 2 ^ 62)∧R (zi3 i (j - i).toNat) (fun _=>True) S1
 | _=>False
theorem zbY {a:Expr} {m:AM} {p:Pos} (ha:MA X B [a] m) (h:∀ {ta:TA},PA X [a] ta->PI X tg (.Call (.Name "range" p) [a] [] pos) (iRng1 ta)):MI X B tg (.Call (.Name "range" p) [a] [] pos) (zcw m):=by
 refine ⟨zjp (h ha.pa) fun σ H R q=>?_,fun env S Q Q' i q=>ha.mono env S _ _ (fun d S1 q=>?_) q⟩
 ·obtain ⟨lB,env,S,r0,z0,q⟩:=q
  refine ⟨lB,env,S,r0,z0,ha.mono env S _ _ (fun ds S1 q vs H1 l1 z1 d1=>?_) q⟩
  split at q
  ·obtain ⟨v,rfl,dv⟩:=zjE d1
   cases dv
   exact ⟨_,rfl,q.1,q.2.1,q.2.2 _ H1 l1 z1 zpr⟩
  ·exact q.elim
 ·split at q
  ·exact ⟨q.1,q.2.1,i _ _ _ q.2.2⟩
  ·exact q.elim
end
abbrev XQ:=Value->List (Str×D)->Sto->Prop
abbrev SpD:=List D->Sto->DQ->XQ->Prop
def zfa (sp:SpD):Prop:=∀ ds S (Q Q':DQ) (E E':XQ),(∀ d S,Q d S->Q' d S)->(∀ c f S,E c f S->E' c f S)->sp ds S Q E->sp ds S Q' E'
def zil (K:PySem.W.Frag) (P:Program) (w:World) (sp:SpD):Sp:=fun vs H Q E=>∃ ds S,DVs K H ds vs∧Rp K P w S H∧sp ds S (dnE K P w H Q) fun c fs S'=>∀ dd H',Le H H'->Rp K P w S' H'->XdR K H' dd fs->E c dd H'
section
variable {X:Cx} {B:Hp} {W:XW}
abbrev Tk (X:Cx) (B:Hp) (W:XW):Prop:=Takes X (upW X.K X.prog X.w B W)
def WN:XW:=fun _ _ _ _=>False
def zas (sp:SpD) (W:XW) (m:AM):EM:=fun env S Q=>m env S fun ds S1=>sp ds S1 Q fun c fs S'=>W c fs env S'
theorem zjA {sp:SpD} {m:AM} (hs:zfa sp) (hm:zln m):zd2 (zas sp W m):=fun env S Q Q' i q=>hm env S _ _ (fun ds S1 q=>hs _ _ _ _ _ _ i (fun _ _ _ h=>h) q) q
theorem zkp {K:PySem.W.Frag} {P:Program} {w:World} {sp:SpD} (hs:zfa sp) {env:Slo} {σ:L2.St} {H H1:Hp} {S1:Sto} {ds:List D} {vs:List V} {Q:VK} (lB:Le B H) (r0:zdk K H env σ) (l1:Le H H1) (z1:Rp K P w S1 H1) (d1:DVs K H1 ds vs)
  (q:sp ds S1 (dnE K P w H Q) fun c fs S'=>W c fs env S'):zil K P w sp vs H1 Q (WE (upW K P w B W) σ):=
 ⟨ds,S1,d1,z1,hs _ _ _ _ _ _ (zdT l1) (fun c fs S' hW dd H' l2 z2 x=>⟨lB.trans (l1.trans l2),env,S',fs,r0.le (l1.trans l2),z2,x,hW⟩) q⟩
variable {k:Nat} {f C:Addr} {fd:FuncData} {ps:List Str} {sp:SpD} {x m:Str} {p pos apos:Pos} {e o:Expr} {es:List Expr} {ma:AM} {mo:EM}
theorem znp {m:AM} (hs:zfa sp) (hm:zln m) {σ:L2.St} {H:Hp} {Q:VK} {K:PySem.W.Frag} {P:Program} {w:World} (q:up K P w B (zas sp W m) σ H Q):tCallS (zil K P w sp) (WE (upW K P w B W)) (upA K P w B m) σ H Q:=by
 obtain ⟨lB,env,S,r0,z0,q⟩:=q
 refine ⟨lB,env,S,r0,z0,hm env S _ _ (fun ds S1 q vs H1 l1 z1 d1=>?_) q⟩
 exact zkp hs lB r0 l1 z1 d1 q
theorem zoH (F:FnOk X.prog X.w X.K X.mg X.base (L2.CX X.prog X.w) k f fd ps (zil X.K X.prog X.w sp)) (hs:zfa sp) (hr:Room k X.A) (tk:Tk X B W) (hg:Gl X x) (hm:X.mg x=some (.ref f)) (hk:PySem.W.keepIn X.K (.ref f)=true) (hb:Binds X.K fd ps [])
  (ha:MA X B (e :: es) ma) (hdb:(x == ("__debug__" : Str))=false:=by decide) (he:starEach (e :: es) X.env=(false,eval e X.env) :: starEach es X.env:=by rfl) (hpl:(backTo pos (starEach es X.env)).any (·.1)=false:=by rfl) :
  ME X B (.Call (.Name x p) (e :: es) [] pos) (zas sp W ma):=
 ⟨zbu (pe_callS F hr hg hm hk hb (fun σ=>passAt tk σ) ha.pa hdb he hpl) fun _ _ _ q=>znp hs ha.mono q,zjA hs ha.mono⟩
theorem zl8 (F:FnOk X.prog X.w X.K X.mg X.base (L2.CX X.prog X.w) k f fd ps (zil X.K X.prog X.w sp)) (hs:zfa sp) (hr:Room k X.A) (tk:Tk X B W) (hg:Gl X x) (hm:X.mg x=some (.ref f)) (hk:PySem.W.keepIn X.K (.ref f)=true) (hb:Binds X.K fd ps [])
  (hdb:(x == ("__debug__" : Str))=false:=by decide):ME X B (.Call (.Name x p) [] [] pos) (zas sp W zal):=by
 refine ⟨⟨fun pins s σ H Q I h=>?_⟩,zjA hs fun env S Q Q' i q=>i _ _ q⟩
 obtain ⟨lB,env,S,r0,z0,q⟩:=h
 refine wpAny_Call_Name_kw (ld_glob I hg hm ?_ hdb)
 refine PySem.W.callWith_K0 I.kIn hk ?_
 exact run_fnS (us:=[]) F hr hb (passAt tk σ) I .nil (zkp hs lB r0 (Le.refl H) z0 .nil q)
def tMethS (C:Addr) (m:Str) (sp:Sp) (E:L2.St->XK) (ta:TE) (t:TA):TE:=fun σ H Q=>ta σ H fun x H1=>∃ a dx fs,x = .ref a∧H1 a=some (.ins C dx fs)∧fs.lookup m=none∧t σ H1 fun vs H2=>sp (x :: vs) H2 Q (E σ)
theorem pe_methS {CX:CXT} {sp:Sp} {E:L2.St->XK} {ta:TE} {t:TA} {pl:Sem Bool} (he:PE X o ta) (c:Cls X.K C) (hm:Meth X.K C m f) (F:FnOk X.prog X.w X.K X.mg X.base CX k f fd ps sp) (hr:Room k X.A) (hb:Binds X.K fd ps []) (hx:∀ σ,PassesAt CX X σ (E σ)) (ha:PA X (e :: es) t)
  (hst:starEach (e :: es) X.env=(false,eval e X.env) :: starEach es X.env:=by rfl) (hpl:(backTo pos (starEach es X.env)).any (·.1)=false:=by rfl)
  (ht:eval (.Call (.Attribute o m apos) (e :: es) [] pos) X.env=(do
   let ov ← eval o X.env
   standAt apos.atName
   let (f,first) ← holding [ov] (getMethod ov m pl)
   callWith pos f first (backTo pos (starEach (e :: es) X.env)) (backToKw pos (keywordEach [] X.env))):=by rfl) :
  PE X (.Call (.Attribute o m apos) (e :: es) [] pos) (tMethS C m sp E ta t):=by
 refine ⟨fun pins s σ H Q I h=>?_⟩
 refine PySem.W.methodCall_KW (pl:=pl) (thn (he.run pins s σ H _ I h) fun u s1 ⟨x,H1,I1,rx,a,dx,fs,ex,ea,l,q⟩=>?_) ht
 subst ex
 obtain rfl:u=Value.ref a:=rx
 refine getmeth_ok I1 ea c hm l ?_
 refine PySem.W.callWith_K (first:=[.ref a]) (h₀:=X.base) I.ok.mod.kin hm.kp (thn (ha.run pos pins s1 σ H1 _ I1 q) fun us s2 ⟨vs,H2,I2,r,q2⟩=>⟨I2.kIn,?_⟩) hst hpl
 exact run_fnS (us:=.ref a :: us) (vs:=.ref a :: vs) F hr hb (hx σ) I2 (.cons rfl r) q2
theorem zkM {CX:CXT} {sp:Sp} {E:L2.St->XK} {ta:TE} {pl:Sem Bool} (he:PE X o ta) (c:Cls X.K C) (hm:Meth X.K C m f) (F:FnOk X.prog X.w X.K X.mg X.base CX k f fd ps sp) (hr:Room k X.A) (hb:Binds X.K fd ps []) (hx:∀ σ,PassesAt CX X σ (E σ))
  (ht:eval (.Call (.Attribute o m apos) [] [] pos) X.env=(do
   let ov ← eval o X.env
   standAt apos.atName
   let (f,first) ← holding [ov] (getMethod ov m pl)
   callWith pos f first (backTo pos (starEach [] X.env)) (backToKw pos (keywordEach [] X.env))):=by rfl) :
  PE X (.Call (.Attribute o m apos) [] [] pos) (tMethS C m sp E ta tNil):=by
 refine ⟨fun pins s σ H Q I h=>?_⟩
 refine PySem.W.methodCall_KW (pl:=pl) (thn (he.run pins s σ H _ I h) fun u s1 ⟨x,H1,I1,rx,a,dx,fs,ex,ea,l,q⟩=>?_) ht
 subst ex
 obtain rfl:u=Value.ref a:=rx
 refine getmeth_ok I1 ea c hm l ?_
 refine PySem.W.callWith_K0 (first:=[.ref a]) I1.kIn hm.kp ?_
 exact run_fnS (us:=[.ref a]) (vs:=[.ref a]) F hr hb (hx σ) I1 (.cons rfl .nil) q
def zew (C:Addr) (m:Str) (sp:SpD) (W:XW) (mo:EM) (ma:AM):EM:=fun env S Q=>mo env S fun d S1=>match d with
 | .ref a=>match S1 a with
  | some (.ins C' fs)=>C'=C∧fs.lookup m=none∧ma env S1 fun ds S2=>sp (.ref a :: ds) S2 Q fun c fs S'=>W c fs env S'
  | _=>False
 | _=>False
theorem zjw (hs:zfa sp) (ho:zd2 mo) (hm:zln ma):zd2 (zew C m sp W mo ma):=fun env S Q Q' i q=>ho env S _ _ (fun d S1 q=>by
 split at q
 ·split at q
  ·exact ⟨q.1,q.2.1,hm env S1 _ _ (fun ds S2 q=>hs _ _ _ _ _ _ i (fun _ _ _ h=>h) q) q.2.2⟩
  ·exact q.elim
 ·exact q.elim) q
theorem KVs.lookup {K:PySem.W.Frag} {H:Hp} {ds:List (Str×D)} {vs:List (Str×V)} (h:KVs K H ds vs) (f:Str):(∀ d,ds.lookup f=some d->∃ v,vs.lookup f=some v∧DV K H d v)∧(ds.lookup f=none->vs.lookup f=none):=by
 induction h with
 | nil=>exact ⟨(fun d e=>nomatch e),fun _=>rfl⟩
 | @cons k' d v ds vs h1 h2 ih=>
  rw [List.lookup_cons,List.lookup_cons]
  cases hk:f == k' with
  | true=>exact ⟨fun d' e=>by cases e;exact ⟨v,rfl,h1⟩,(fun e=>nomatch e)⟩
  | false=>exact ih
theorem znm (hs:zfa sp) (ho:zd2 mo) (hm:zln ma) {σ:L2.St} {H:Hp} {Q:VK} {K:PySem.W.Frag} {P:Program} {w:World} (q:up K P w B (zew C m sp W mo ma) σ H Q):tMethS C m (zil K P w sp) (WE (upW K P w B W)) (up K P w B mo) (upA K P w B ma) σ H Q:=by
 obtain ⟨lB,env,S,r0,z0,q⟩:=q
 refine ⟨lB,env,S,r0,z0,ho env S _ _ (fun d S1 q v H1 l1 z1 d1=>?_) q⟩
 split at q
 ·cases d1
  split at q
  ·rename_i _ C' fs e0
   obtain ⟨rfl,q1,q⟩:=q
   obtain ⟨dx,vs,e1,kv⟩:=z1 _ _ e0
   refine ⟨_,dx,vs,rfl,e1,(kv.lookup m).2 q1,lB.trans l1,env,S1,r0.le l1,z1,hm env S1 _ _ (fun ds S2 q us H2 l2 z2 d2=>?_) q⟩
   exact zkp hs lB r0 (l1.trans l2) z2 (.cons (.ref _) d2) q
  ·exact q.elim
 ·exact q.elim
theorem zoF {pl:Sem Bool} (ho:ME X B o mo) (c:Cls X.K C) (hm:Meth X.K C m f) (F:FnOk X.prog X.w X.K X.mg X.base (L2.CX X.prog X.w) k f fd ps (zil X.K X.prog X.w sp)) (hs:zfa sp) (hr:Room k X.A) (tk:Tk X B W) (hb:Binds X.K fd ps []) (ha:MA X B (e :: es) ma)
  (hst:starEach (e :: es) X.env=(false,eval e X.env) :: starEach es X.env:=by rfl) (hpl:(backTo pos (starEach es X.env)).any (·.1)=false:=by rfl)
  (ht:eval (.Call (.Attribute o m apos) (e :: es) [] pos) X.env=(do
   let ov ← eval o X.env
   standAt apos.atName
   let (f,first) ← holding [ov] (getMethod ov m pl)
   callWith pos f first (backTo pos (starEach (e :: es) X.env)) (backToKw pos (keywordEach [] X.env))):=by rfl):ME X B (.Call (.Attribute o m apos) (e :: es) [] pos) (zew C m sp W mo ma):=
 ⟨zbu (pe_methS ho.pe c hm F hr hb (fun σ=>passAt tk σ) ha.pa hst hpl ht) fun _ _ _ q=>znm hs ho.mono ha.mono q,zjw hs ho.mono ha.mono⟩
theorem zl6 {pl:Sem Bool} (ho:ME X B o mo) (c:Cls X.K C) (hm:Meth X.K C m f) (F:FnOk X.prog X.w X.K X.mg X.base (L2.CX X.prog X.w) k f fd ps (zil X.K X.prog X.w sp)) (hs:zfa sp) (hr:Room k X.A) (tk:Tk X B W) (hb:Binds X.K fd ps [])
  (ht:eval (.Call (.Attribute o m apos) [] [] pos) X.env=(do
   let ov ← eval o X.env
   standAt apos.atName
   let (f,first) ← holding [ov] (getMethod ov m pl)
   callWith pos f first (backTo pos (starEach [] X.env)) (backToKw pos (keywordEach [] X.env))):=by rfl):ME X B (.Call (.Attribute o m apos) [] [] pos) (zew C m sp W mo zal):=by
 refine ⟨zbu (zkM ho.pe c hm F hr hb (fun σ=>passAt tk σ) ht) fun σ H Q q=>?_,zjw hs ho.mono fun env S Q Q' i q=>i _ _ q⟩
 obtain ⟨lB,env,S,r0,z0,q⟩:=q
 refine ⟨lB,env,S,r0,z0,ho.mono env S _ _ (fun d S1 q v H1 l1 z1 d1=>?_) q⟩
 split at q
 ·cases d1
  split at q
  ·rename_i _ C' fs e0
   obtain ⟨rfl,q1,q⟩:=q
   obtain ⟨dx,vs,e1,kv⟩:=z1 _ _ e0
   exact ⟨_,dx,vs,rfl,e1,(kv.lookup m).2 q1,zkp hs lB r0 l1 z1 (.cons (.ref _) .nil) q⟩
  ·exact q.elim
 ·exact q.elim
def FOk (K:PySem.W.Frag) (C:Addr) (f:Str):Prop:=Cls K C∧NoAttr K C f
def zj4 (K:PySem.W.Frag) (m:EM) (f:Str):EM:=fun env S Q=>m env S fun d S1=>match d with
 | .ref a=>match S1 a with
  | some (.ins C fs)=>match fs.lookup f with
   | some v=>FOk K C f∧Q v S1
   | none=>False
  | _=>False
 | _=>False
theorem zfl {f:Str} (h:ME X B e mo) (hb:attributeBase e f X.env (eval e X.env)=eval e X.env:=by rfl):ME X B (.Attribute e f pos) (zj4 X.K mo f):=by
 refine ⟨zbu (pe_fld h.pe hb) fun σ H Q q=>?_,fun env S Q Q' i q=>h.mono env S _ _ (fun d S1 q=>?_) q⟩
 ·obtain ⟨lB,env,S,r0,z0,q⟩:=q
  refine ⟨lB,env,S,r0,z0,h.mono env S _ _ (fun d S1 q v H1 l1 z1 d1=>?_) q⟩
  split at q
  ·cases d1
   split at q
   ·rename_i _ C fs e0
    split at q
    ·rename_i x0 ex
     obtain ⟨dx,vs,e1,kv⟩:=z1 _ _ e0
     obtain ⟨u,eu,du⟩:=(kv.lookup f).1 _ ex
     exact ⟨_,C,dx,vs,u,rfl,e1,q.1.1,q.1.2,eu,q.2 u H1 l1 z1 du⟩
    ·exact q.elim
   ·exact q.elim
  ·exact q.elim
 ·split at q
  ·split at q
   ·split at q
    ·exact ⟨q.1,i _ _ q.2⟩
    ·exact q.elim
   ·exact q.elim
  ·exact q.elim
def zeP (f:Str) (v:D):List (Str×D)->List (Str×D)
 | []=>[(f,v)]
 | (g,u) :: r=>if g=f then (g,v) :: r else (g,u) :: zeP f v r
end
open PySem PySem.Spec PyProof.Rows L2
def spB (n m:Nat) (b:XW->SM):SpD:=fun ds S Q E=>∃ (Q0:DQ) (E0:XQ),(∀ d S,Q0 d S->Q d S)∧(∀ c f S,E0 c f S->E c f S)∧ds.length=n∧
 b (fun c fs _ S'=>E0 c fs S') { nx:=fun _ S'=>Q0 .non S',rt:=Q0 } (ds.map some++List.replicate m none) S
theorem zkT {n m:Nat} {b:XW->SM}:zfa (spB n m b):=fun ds S Q Q' E E' i j h=>by
 obtain ⟨Q0,E0,h1,h2,h3,h4⟩:=h
 exact ⟨Q0,E0,fun d S q=>i _ _ (h1 d S q),fun c f S q=>j _ _ _ (h2 c f S q),h3,h4⟩
theorem zaH {n m:Nat} {b:XW->SM} {ds:List D} {S:Sto} {Q:DQ} {E:XQ} (hl:ds.length=n) (h:b (fun c fs _ S'=>E c fs S') { nx:=fun _ S'=>Q .non S',rt:=Q } (ds.map some++List.replicate m none) S):spB n m b ds S Q E:=
 ⟨Q,E,fun _ _ q=>q,fun _ _ _ q=>q,hl,h⟩
structure Fd (P:Program) (w:World) (K:PySem.W.Frag) (mg:Str->Option Value) (base:Heap) (k:Nat) (f:Addr) (sp:SpD):Prop where
 ex:∃ fd ps,FnOk P w K mg base (L2.CX P w) k f fd ps (zil K P w sp)∧Binds K fd ps []
 kp:PySem.W.keepIn K (.ref f)=true
 mono:zfa sp
section
variable {P:Program} {w:World} {K:PySem.W.Frag} {mg:Str->Option Value} {base:Heap}
theorem Fd.more {j k:Nat} {f:Addr} {sp:SpD} (F:Fd P w K mg base j f sp) (h:j≤k):Fd P w K mg base k f sp:=by
 obtain ⟨fd,ps,F1,b⟩:=F.ex
 exact ⟨⟨fd,ps,F1.mono h,b⟩,F.kp,F.mono⟩
theorem zhb {H:Hp} {ds:List D} {vs:List V} {N:List Str} {m:Nat} (h:DVs K H ds vs) (hN:N.length=ds.length+m):zdk K H (ds.map some++List.replicate m none) (L2.start N vs):=by
 have hl:=h.length
 refine ⟨by simp [L2.start,hl];omega,fun i d e=>?_⟩
 have hi:i < ds.length:=by
  by_cases hi:i < ds.length
  ·exact hi
  ·rw [List.getElem?_append_right (by simpa using hi),List.getElem?_replicate] at e
   split at e <;> cases e
 rw [List.getElem?_append_left (by simpa using hi),List.getElem?_map] at e
 cases q:ds[i]? with
 | none=>rw [q] at e;cases e
 | some x=>
  rw [q] at e
  cases e
  obtain ⟨v,e1,e2⟩:=h.get q
  refine ⟨v,?_,e2⟩
  unfold L2.start
  rw [List.getElem?_append_left (by rw [hl] at hi;simpa using hi),List.getElem?_map,e1]
  rfl
theorem zaQ {x qual:Str} {params:Arguments} {body:List Stmt} {scope:Scope} {dvs:List V} {kws:List (Str×V)} {f:Addr} {fd:FuncData} {N ps:List Str} {k n m:Nat} {b:XW->SM} (F:FunD K x qual params body scope dvs kws f fd) (S:FnScope N ps scope) (bi:Binds K fd ps [])
  (hn:ps.length=n) (hN:N.length=n+m)
  (hb:∀ (cdv:Value) (A:Around) (outer:List Env) (s:Shared) (H:Hp) (E:XK),Room k (A.deeper (envOfC qual scope s.heap.objs.size f cdv))->∀ (X:Cx) (eX:X=cxOf (L2.CX P w) P w K mg base N qual scope f cdv A outer s H E) (W:XW),Tk X H W->PassesOwn (model X.prog X.w) X.A X.env X.xe->MSs X H body (b W)):Fd P w K mg base (k+1) f (spB n m b):=by
 refine ⟨⟨fd,ps,F.ok S (fun vs H Q E h=>?_) (fun cdv A outer s H vs Q E hr h=>?_),bi⟩,F.kp,zkT⟩
 ·obtain ⟨ds,S0,h1,h2,Q0,E0,_,_,h3,_⟩:=h
  rw [← h1.length,h3,hn]
 ·obtain ⟨ds,S0,h1,h2,Q0,E0,i1,i2,h3,h4⟩:=h
  have tk0:Takes (cxOf (L2.CX P w) P w K mg base N qual scope f cdv A outer s H E) (fun cls d _ H=>E cls d H):=takes_of rfl rfl rfl rfl
  have tk:Tk (cxOf (L2.CX P w) P w K mg base N qual scope f cdv A outer s H E) H (fun c fs _ S'=>E0 c fs S'):=tk0.imp fun c d σ H' z=>by
   obtain ⟨l,env,S',fs,_,z1,z2,z3⟩:=z
   exact i2 _ _ _ z3 d H' l z1 z2
  have Z:=hb cdv A outer s H E hr _ rfl _ tk (passes_of rfl)
  refine ⟨_,Z.ps,Le.refl H,_,S0,zhb h1 (by rw [h3];exact hN),h2,Z.mono.go h4 ⟨fun e S' q σ H' l r z=>?_,fun d S' q v H' l z dv=>i1 _ _ q v H' l z dv,fun _ _ q=>q.elim,fun _ _ q=>q.elim⟩⟩
  exact i1 _ _ q _ H' l z .non
end
section
variable {X:Cx} {B:Hp} {W:XW} {k:Nat} {f C:Addr} {sp:SpD} {x m:Str} {p pos apos:Pos} {e o:Expr} {es:List Expr} {ma:AM} {mo me:EM}
theorem zay (F:Fd X.prog X.w X.K X.mg X.base k f sp) (hr:Room k X.A) (tk:Tk X B W) (hm:X.mg x=some (.ref f)) (ha:MA X B (e :: es) ma) (hg:Gl X x:=by rfl)
  (hdb:(x == ("__debug__" : Str))=false:=by decide) (he:starEach (e :: es) X.env=(false,eval e X.env) :: starEach es X.env:=by rfl) (hpl:(backTo pos (starEach es X.env)).any (·.1)=false:=by rfl) :
  ME X B (.Call (.Name x p) (e :: es) [] pos) (zas sp W ma):=by
 obtain ⟨fd,ps,F1,b⟩:=F.ex
 exact zoH F1 F.mono hr tk hg hm F.kp b ha hdb he hpl
theorem zru (F:Fd X.prog X.w X.K X.mg X.base k f sp) (hr:Room k X.A) (tk:Tk X B W) (hm:X.mg x=some (.ref f)) (hg:Gl X x:=by rfl)
  (hdb:(x == ("__debug__" : Str))=false:=by decide):ME X B (.Call (.Name x p) [] [] pos) (zas sp W zal):=by
 obtain ⟨fd,ps,F1,b⟩:=F.ex
 exact zl8 F1 F.mono hr tk hg hm F.kp b hdb
theorem zht {pl:Sem Bool} (ho:ME X B o mo) (c:Cls X.K C) (hm:Meth X.K C m f) (F:Fd X.prog X.w X.K X.mg X.base k f sp) (hr:Room k X.A) (tk:Tk X B W) (ha:MA X B (e :: es) ma)
  (hst:starEach (e :: es) X.env=(false,eval e X.env) :: starEach es X.env:=by rfl) (hpl:(backTo pos (starEach es X.env)).any (·.1)=false:=by rfl)
  (ht:eval (.Call (.Attribute o m apos) (e :: es) [] pos) X.env=(do
   let ov ← eval o X.env
   standAt apos.atName
   let (f,first) ← holding [ov] (getMethod ov m pl)
   callWith pos f first (backTo pos (starEach (e :: es) X.env)) (backToKw pos (keywordEach [] X.env))):=by rfl):ME X B (.Call (.Attribute o m apos) (e :: es) [] pos) (zew C m sp W mo ma):=by
 obtain ⟨fd,ps,F1,b⟩:=F.ex
 exact zoF ho c hm F1 F.mono hr tk b ha hst hpl ht
theorem zrt {pl:Sem Bool} (ho:ME X B o mo) (c:Cls X.K C) (hm:Meth X.K C m f) (F:Fd X.prog X.w X.K X.mg X.base k f sp) (hr:Room k X.A) (tk:Tk X B W)
  (ht:eval (.Call (.Attribute o m apos) [] [] pos) X.env=(do
   let ov ← eval o X.env
   standAt apos.atName
   let (f,first) ← holding [ov] (getMethod ov m pl)
   callWith pos f first (backTo pos (starEach [] X.env)) (backToKw pos (keywordEach [] X.env))):=by rfl):ME X B (.Call (.Attribute o m apos) [] [] pos) (zew C m sp W mo zal):=by
 obtain ⟨fd,ps,F1,b⟩:=F.ex
 exact zl6 ho c hm F1 F.mono hr tk b ht
def mNo:SM:=fun _ _ _=>False
theorem zeu {st:Stmt}:MS X B st mNo:=⟨⟨fun pins s σ H D I h=>by
 obtain ⟨_,_,_,_,_,q⟩:=h
 exact q.elim⟩,fun _ _ _ _ _ h=>h⟩
def eNo:EM:=fun _ _ _=>False
theorem KVs.putF {K:PySem.W.Frag} {H:Hp} {ds:List (Str×D)} {vs:List (Str×V)} {f:Str} {d:D} {v:V} (h:KVs K H ds vs) (hd:DV K H d v):KVs K H (zeP f d ds) (L2.putF f v vs):=by
 induction h with
 | nil=>exact .cons hd .nil
 | @cons k' d' v' ds vs h1 h2 ih=>
  unfold zeP L2.putF
  by_cases q:k'=f
  ·simp only [q,if_true]
   exact .cons hd h2
  ·simp only [q,if_false]
   exact .cons h1 ih
def zfX (K:PySem.W.Frag) (mo me:EM) (f:Str):SM:=fun A env S=>me env S fun y S1=>mo env S1 fun d S2=>match d with
 | .ref a=>match S2 a with
  | some (.ins C fs)=>FOk K C f∧fs.length < 1000∧A.nx env (put S2 a (.ins C (zeP f y fs)))
  | _=>False
 | _=>False
theorem zeT {f:Str} {pos':Pos} (ho:ME X B o mo) (he:ME X B e me) (hs:swapsWith e (some (.Attribute o f pos')) pos.line X.env=pure false:=by rfl):MS X B (.Assign [.Attribute o f pos'] e pos) (zfX X.K mo me f):=by
 refine ⟨zd4 (ps_fld ho.pe he.pe hs) fun D σ H q=>?_,fun A B env S l q=>he.mono env S _ _ (fun y S1 q=>ho.mono env S1 _ _ (fun d S2 q=>?_) q) q⟩
 ·obtain ⟨lB,env,S,r0,z0,q⟩:=q
  refine ⟨lB,env,S,r0,z0,he.mono env S _ _ (fun y S1 q v H1 l1 z1 d1=>?_) q⟩
  refine ⟨lB.trans l1,env,S1,r0.le l1,z1,ho.mono env S1 _ _ (fun d S2 q u H2 l2 z2 d2=>?_) q⟩
  split at q
  ·cases d2
   split at q
   ·rename_i a _ C fs e0
    obtain ⟨dx,vs,e1,kv⟩:=z2 _ _ e0
    have hmut:Mut (H2 a):=by rw [e1];exact trivial
    refine ⟨_,C,dx,vs,rfl,e1,q.1.1,q.1.2,by rw [← kv.length];exact q.2.1,?_⟩
    have l3:=Le.mut (o:=.ins C dx (L2.putF f v vs)) hmut
    have l123:=(l1.trans l2).trans l3
    exact q.2.2 σ _ l123 (r0.le l123) (z2.wr hmut ⟨dx,_,upd_same,(kv.putF (d1.le l2)).le l3⟩)
   ·exact q.elim
  ·exact q.elim
 ·split at q
  ·split at q
   ·exact ⟨q.1,q.2.1,l.nx _ _ q.2.2⟩
   ·exact q.elim
  ·exact q.elim
end
def zdV (env:Slo):List Nat->Slo
 | []=>env
 | v :: vs=>(zdV env vs).set v none
theorem zdk.wipe {K:PySem.W.Frag} {H:Hp} {env:Slo} {σ:L2.St} (r:zdk K H env σ):∀ vs:List Nat,zdk K H (zdV env vs) (L2.wipe σ vs)
 | []=>r
 | v :: vs=>(zdk.wipe r vs).unset v
theorem zgS {σ:L2.St} {i:Nat} {a:Option V}:∀ vs:List Nat,(L2.wipe (σ.set i a) vs).set i none=(L2.wipe σ vs).set i none
 | []=>by simp [L2.wipe]
 | v :: r=>by
  unfold L2.wipe
  by_cases h:v=i
  ·subst h
   rw [List.set_set,List.set_set]
   exact zgS r
  ·rw [List.set_comm _ _ h,List.set_comm _ _ h,zgS r]
theorem zjg {σ:L2.St} {i:Nat} {a:Option V}:∀ {vs:List Nat},i∈vs->L2.wipe (σ.set i a) vs=L2.wipe σ vs
 | v :: r,h=>by
  rcases List.mem_cons.mp h with e | h
  ·subst e
   exact zgS r
  ·show (L2.wipe (σ.set i a) r).set v none=_
   rw [zjg h]
   rfl
theorem ziX {σ:L2.St} {j:Nat} (hj:j < σ.length):∀ {vs:List Nat},j∈vs->(L2.wipe σ vs)[j]? = some none
 | v :: r,h=>by
  unfold L2.wipe
  by_cases e:v=j
  ·subst e
   exact List.getElem?_set_self (by rw [L2.wipe_length];exact hj)
  ·rw [List.getElem?_set_ne e]
   rcases List.mem_cons.mp h with q | h
   ·exact absurd q.symm e
   ·exact ziX hj h
theorem zki {σ:L2.St} {vs:List Nat}:L2.wipe (L2.wipe σ vs) vs=L2.wipe σ vs:=by
 apply List.ext_getElem?
 intro j
 by_cases hj:j < σ.length
 ·by_cases h:j∈vs
  ·rw [ziX (by rw [L2.wipe_length];exact hj) h,ziX hj h]
  ·rw [L2.wipe_out h]
 ·rw [List.getElem?_eq_none (by rw [L2.wipe_length,L2.wipe_length];omega),List.getElem?_eq_none (by rw [L2.wipe_length];omega)]
def TgD (K:PySem.W.Frag) (vs:List Nat) (t:TG) (g:GM):Prop:=∀ d x env σ S H (Q:Slo->Sto->Prop),DV K H d x->zdk K H env σ->g d env S Q->t x σ H fun σ2 H2=>L2.wipe σ2 vs=L2.wipe σ vs∧H2=H∧∃ env2,zdk K H env2 σ2∧Q env2 S
def zyD (K:PySem.W.Frag) (vs:List Nat) (t:TGs) (g:GsM):Prop:=∀ ds xs env σ S H (Q:Slo->Sto->Prop),DVs K H ds xs->zdk K H env σ->g ds env S Q->t xs σ H fun σ2 H2=>L2.wipe σ2 vs=L2.wipe σ vs∧H2=H∧∃ env2,zdk K H env2 σ2∧Q env2 S
section
variable {K:PySem.W.Frag} {vs:List Nat}
theorem zs5 {i:Nat} (hi:i∈vs:=by decide):TgD K vs (gName i) (gNm i):=fun d x env σ S H Q hd r q=>⟨zjg hi,rfl,_,r.set hd i,q⟩
end
structure MTs (X:Cx) (B:Hp) (ifs:List Expr) (t:TM):Prop where
 pts:PTs X ifs (upT X.K X.prog X.w B t)
 mono:zmE t
def zsi:TM:=fun _ S Q=>Q true S
theorem zos {X:Cx} {B:Hp}:MTs X B [] zsi:=by
 refine ⟨⟨fun pins s σ H Q I h=>pts_nil.run pins s σ H Q I ?_⟩,fun _ _ _ _ i h=>i _ _ h⟩
 obtain ⟨_,env,S,_,z,q⟩:=h
 exact q H (Le.refl H) z
def lcL (g:GM) (t:TM) (m:EM) (G:Sto->Prop) (p:Addr) (Q:DQ) (env:Slo):List D->Sto->Prop
 | [],S=>G S∧Q (.ref p) S
 | x :: xs,S=>G S∧g x env S fun env2 S2=>t env2 S2 fun b S3=>match b with
  | true=>m env2 S3 fun d S4=>match S4 p with
   | some (.lst ys)=>ys.length < sizeLine∧lcL g t m G p Q env xs (put S4 p (.lst (ys++[d])))
   | _=>False
  | false=>lcL g t m G p Q env xs S3
def mLc (mi:IM) (g:GM) (t:TM) (m:EM) (vs:List Nat):EM:=fun env S Q=>mi env S fun xs G S1=>∀ p,S1 p=none->lcL g t m G p Q (zdV env vs) xs (put S1 p (.lst []))
section
variable {X:Cx} {B:Hp} {elt tg iter:Expr} {ifs:List Expr} {scope:Scope} {own:List (Str×Nat)} {pos:Pos} {mi:IM} {g:GM} {t:TM} {m:EM}
abbrev zsa (tt:TG):Prop:=∀ x σ H (Q Q':L2.St->Hp->Prop),(∀ s h,Q s h->Q' s h)->tt x σ H Q->tt x σ H Q'
theorem zmt {i:Nat}:zsa (gName i):=fun x σ H Q Q' i q=>i _ _ q
theorem zu7 {i:Nat}:∀ d env S (Q Q':Slo->Sto->Prop),(∀ e S,Q e S->Q' e S)->gNm i d env S Q->gNm i d env S Q':=fun _ _ _ _ _ i q=>i _ _ q
structure BT (K:PySem.W.Frag) (vs:List Nat) (tt:TG) (g:GM):Prop where
 td:TgD K vs tt g
 mt:zsa tt
 mg:∀ d env S (Q Q':Slo->Sto->Prop),(∀ e S,Q e S->Q' e S)->g d env S Q->g d env S Q'
theorem zva {K:PySem.W.Frag} {vs:List Nat} {i:Nat} (hi:i∈vs:=by decide):BT K vs (gName i) (gNm i):=⟨zs5 hi,zmt,zu7⟩
structure BTs (K:PySem.W.Frag) (vs:List Nat) (ts:TGs) (gs:GsM):Prop where
 td:zyD K vs ts gs
 mt:∀ xs σ H (Q Q':L2.St->Hp->Prop),(∀ s h,Q s h->Q' s h)->ts xs σ H Q->ts xs σ H Q'
 mg:∀ d env S (Q Q':Slo->Sto->Prop),(∀ e S,Q e S->Q' e S)->gs d env S Q->gs d env S Q'
abbrev Blk (X:Cx) (scope:Scope) (R:Cx->Prop):Prop:=∀ (s:Shared) (H:Hp) (C:Addr) (cl:List (Str×Addr)) (fp:List Addr),R (X.blk s H scope (compEnvC scope cl C X.env) fp)
end
def zvc (K:PySem.W.Frag) (k0:Int) (a:Addr):It:=
 ⟨fun i H=>∃ (xs:List V) (x:V),SqT K H a xs∧xs[i]? = some x,fun i H v H'=>∃ T x,v = .ref T∧H T=none∧H'=upd H T (.tup [.int (k0+(i:Nat)),x])∧∀ xs,SqT K H a xs->xs[i]? = some x,fun i H=>∃ xs:List V,SqT K H a xs∧xs.length≤i⟩
theorem zjN {P:Program} {w:World} {K:PySem.W.Frag} {elts:List Expr} {kk:Nat} {tpos:Pos} (k0:Int) (a e it:Addr) :
  Turn P w K (.Tuple elts kk tpos) (zvc K k0 a) [e,it] e (fun i h=>(∃ old,IsEnum h e it (k0+(i:Nat)) old)∧h.IsTupleIter it a i∧e≠it) where
 mem:=by simp
 obj:=fun i h st b hb=>by
  obtain ⟨⟨old,he⟩,⟨o,ho,hc,hd⟩,_⟩:=st
  have e':b=e ∨ b=it:=by simpa using hb
  rcases e' with z | z
  ·rw [z];exact ⟨_,he,fun v q=>nomatch q⟩
  ·rw [z];exact ⟨o,ho,fun v q=>by rw [hd] at q;cases q⟩
 keep:=fun i h h' st k=>let ⟨⟨old,he⟩,hi,hne⟩:=st;⟨⟨old,k e (by simp) _ he⟩,hi.at fun o q=>k it (by simp) o q,hne⟩
 item:=by
  intro X hP hw hK hc i pins s σ H E I hf st hg
  subst hP hw hK
  obtain ⟨⟨old,he⟩,hit,hne⟩:=st
  obtain ⟨xs,x,hq,hx⟩:=hg
  obtain ⟨its,rv,p,hz⟩:=I.tuple hq
  obtain ⟨u,hu,ru⟩:=rv.get hx
  have hp:s.heap.IsTuple a its.toArray:=p
  have hel:e < s.heap.objs.size:=Heap.lt_size he
  have hil:it < s.heap.objs.size:=by obtain ⟨_,q,_⟩:=hit;exact Heap.lt_size q
  have ai:a≠it:=fun q=>by
   obtain ⟨o,ho,hcl,_⟩:=hit
   obtain ⟨o2,ho2,hc2,_⟩:=hp
   rw [q,ho] at ho2
   cases ho2
   rw [hcl] at hc2
   exact absurd hc2 (by decide)
  have ae:e≠a:=fun q=>by
   obtain ⟨o2,ho2,hc2,_⟩:=hp
   have he':=he
   rw [q] at he'
   have z:=Option.some.inj (he'.symm.trans ho2)
   rw [← z] at hc2
   exact absurd (show Value.type "enumerate" = Value.type "tuple" from hc2) (by decide)
  have hh:X.A.in1.handled=none:=I.ok.hd hc
  have hlt:i < its.toArray.size:=by
   have:=(List.getElem?_eq_some_iff.mp hu).1
   simpa using this
  have D:=Draws.tuple (prog:=X.prog) (w:=X.w) (A:=X.A.in1) hh it a ai its.toArray
  refine wpAny_pyNext_enum_itemC (c:=k0+(i:Nat)) D he ⟨hit,hp⟩ hlt hne (by simp [hne,ae]) fun x' h' tk hPx ho hst' hT hsz hk=>?_
  have ex:x'=u:=by
   have h1:its.toArray[i]? = some u:=by simpa using hu
   exact Option.some.inj (hPx.symm.trans h1)
  subst ex
  refine ⟨_,rfl,wpAny_letOwnedTupleGo_enum (s:={ s with heap:=h',toks:=tk+1 }) ho fun h'' he' sb=>?_⟩
  have hT2:h''.get? s.heap.objs.size=some { cls:=.type "tuple", data:=.seq #[.int (k0+(i:Nat)) tk,x'] }:=(sb.2 _ (Nat.ne_of_gt hel)).trans hT
  have new:ObjOk X.prog X.w (upd H s.heap.objs.size (.tup [.int (k0+(i:Nat)),x])) h'' s.heap.objs.size (.tup [.int (k0+(i:Nat)),x]):=
   ⟨by show 2≤sizeLine;decide,[.int (k0+(i:Nat)) tk,x'],.cons ⟨_,rfl⟩ (.cons ru .nil),⟨_,hT2,rfl,_,rfl⟩⟩
  have I1:Inv X pins σ (upd H s.heap.objs.size (.tup [.int (k0+(i:Nat)),x])) { s with heap:=h'',toks:=tk+1 }:=
   I.turnedNew (ch:=[e,it]) (fun b ob hb q=>(sb.2 b (fun z=>hb (by simp [z]))).trans (hk b ob (fun z=>hb (by simp [z])) (fun z=>hb (by simp [z])) q)) hf (Nat.le_refl _) new
  refine ⟨.ref s.heap.objs.size,_,I1,rfl,⟨_,x,rfl,I.hok.fresh (Nat.le_refl _),rfl,fun ys hy=>by rw [I.tuple_inj hy hq];exact hx⟩,⟨⟨x',?_⟩,hst'.1.at fun o q=>(sb.2 it (Ne.symm hne)).trans q,hne⟩,fun b hb=>?_⟩
  ·have e1:k0+((i+1:Nat):Int)=k0+(i:Nat)+1:=by omega
   rw [e1];exact he'
  ·have hb':b < s.heap.objs.size:=by
    have e':b=e ∨ b=it:=by simpa using hb
    rcases e' with z | z
    ·rw [z];exact hel
    ·rw [z];exact hil
   rw [upd_ne (Nat.ne_of_lt hb')]
   exact (hf b hb).1
 done:=by
  intro X hP hw hK hc i pins s σ H E I hf st hg
  subst hP hw hK
  obtain ⟨⟨old,he⟩,hit,hne⟩:=st
  obtain ⟨xs,hq,hx⟩:=hg
  obtain ⟨its,rv,p,hz⟩:=I.tuple hq
  obtain ⟨f0,f1,f2,f3,f4,f5⟩:=hf it (by simp)
  have hp:s.heap.IsTuple a its.toArray:=p
  have hl:=rv.length
  have hh:X.A.in1.handled=none:=I.ok.hd hc
  have hT:s.TypeIs (.ref e) "enumerate" := ⟨_,he,rfl⟩
  unfold pyNext
  refine wpAny_bind (wpAny_attempt (wpAny_callSpecial?_slot (name:=Str.ofString "__next__") hT F.slot_enumerate_next
   (wpAny_call_entry F.slot_enumerate_next hT F.entry_enumerate_next ?_ (F.args_enumerate_next_1 _))))
  show wpAny _ _ (field (.ref e) 2 >>= _) _ _ _
  refine wpAny_bind (wpAny_field he rfl (x:=.ref it) rfl ?_)
  refine wpAny_bind (wpAny_nextOf_tuple_end (A:=X.A.in1) hh hit hp (by simp;omega) fun h' x eb hx'=>?_)
  obtain ⟨o,ho,hc⟩:=hx'
  refine wpAny_bind (wpAny_isInstance (T := "StopIteration") (b:=true) ⟨o,ho,hc⟩ isSubtype_stop ?_)
  exact wpAny_pure ⟨rfl,I.turned (t':=s.toks) (fun b o hb q=>eb b o hb q) f0 f1 f3 f4 f5⟩
 self:=fun A i s Q E st h=>let ⟨⟨_,he⟩,_⟩:=st;wpAny_pyIter_enum he h
def zsY (K:PySem.W.Frag) (k0:Int) (a:Addr):It:=
 ⟨fun i H=>∃ (xs:List V) (x:V),SqL K H a xs∧xs[i]? = some x,fun i H v H'=>∃ T x,v = .ref T∧H T=none∧H'=upd H T (.tup [.int (k0+(i:Nat)),x])∧∀ xs,SqL K H a xs->xs[i]? = some x,fun i H=>∃ xs:List V,SqL K H a xs∧xs.length≤i⟩
theorem zjO {P:Program} {w:World} {K:PySem.W.Frag} {elts:List Expr} {kk:Nat} {tpos:Pos} (k0:Int) (a e it:Addr) :
  Turn P w K (.Tuple elts kk tpos) (zsY K k0 a) [e,it] e (fun i h=>(∃ old,IsEnum h e it (k0+(i:Nat)) old)∧h.IsListIter it a i∧e≠it) where
 mem:=by simp
 obj:=fun i h st b hb=>by
  obtain ⟨⟨old,he⟩,⟨o,ho,hc,hd⟩,_⟩:=st
  have e':b=e ∨ b=it:=by simpa using hb
  rcases e' with z | z
  ·rw [z];exact ⟨_,he,fun v q=>nomatch q⟩
  ·rw [z];exact ⟨o,ho,fun v q=>by rw [hd] at q;cases q⟩
 keep:=fun i h h' st k=>let ⟨⟨old,he⟩,hi,hne⟩:=st;⟨⟨old,k e (by simp) _ he⟩,hi.at fun o q=>k it (by simp) o q,hne⟩
 item:=by
  intro X hP hw hK hc i pins s σ H E I hf st hg
  subst hP hw hK
  obtain ⟨⟨old,he⟩,hit,hne⟩:=st
  obtain ⟨xs,x,hq,hx⟩:=hg
  obtain ⟨its,rv,p,hz⟩:=I.list hq
  obtain ⟨u,hu,ru⟩:=rv.get hx
  have hp:s.heap.IsList a its.toArray:=p.isList
  have hel:e < s.heap.objs.size:=Heap.lt_size he
  have hil:it < s.heap.objs.size:=by obtain ⟨_,q,_⟩:=hit;exact Heap.lt_size q
  have ai:a≠it:=fun q=>by
   obtain ⟨o,ho,hcl,_⟩:=hit
   obtain ⟨o2,ho2,hc2,_⟩:=hp
   rw [q,ho] at ho2
   cases ho2
   rw [hcl] at hc2
   exact absurd hc2 (by decide)
  have ae:e≠a:=fun q=>by
   obtain ⟨o2,ho2,hc2,_⟩:=hp
   have he':=he
   rw [q] at he'
   have z:=Option.some.inj (he'.symm.trans ho2)
   rw [← z] at hc2
   exact absurd (show Value.type "enumerate" = Value.type "list" from hc2) (by decide)
  have hh:X.A.in1.handled=none:=I.ok.hd hc
  have hlt:i < its.toArray.size:=by
   have:=(List.getElem?_eq_some_iff.mp hu).1
   simpa using this
  have D:=Draws.list (prog:=X.prog) (w:=X.w) (A:=X.A.in1) hh it a ai its.toArray
  refine wpAny_pyNext_enum_itemC (c:=k0+(i:Nat)) D he ⟨hit,hp⟩ hlt hne (by simp [hne,ae]) fun x' h' tk hPx ho hst' hT hsz hk=>?_
  have ex:x'=u:=by
   have h1:its.toArray[i]? = some u:=by simpa using hu
   exact Option.some.inj (hPx.symm.trans h1)
  subst ex
  refine ⟨_,rfl,wpAny_letOwnedTupleGo_enum (s:={ s with heap:=h',toks:=tk+1 }) ho fun h'' he' sb=>?_⟩
  have hT2:h''.get? s.heap.objs.size=some { cls:=.type "tuple", data:=.seq #[.int (k0+(i:Nat)) tk,x'] }:=(sb.2 _ (Nat.ne_of_gt hel)).trans hT
  have new:ObjOk X.prog X.w (upd H s.heap.objs.size (.tup [.int (k0+(i:Nat)),x])) h'' s.heap.objs.size (.tup [.int (k0+(i:Nat)),x]):=
   ⟨by show 2≤sizeLine;decide,[.int (k0+(i:Nat)) tk,x'],.cons ⟨_,rfl⟩ (.cons ru .nil),⟨_,hT2,rfl,_,rfl⟩⟩
  have I1:Inv X pins σ (upd H s.heap.objs.size (.tup [.int (k0+(i:Nat)),x])) { s with heap:=h'',toks:=tk+1 }:=
   I.turnedNew (ch:=[e,it]) (fun b ob hb q=>(sb.2 b (fun z=>hb (by simp [z]))).trans (hk b ob (fun z=>hb (by simp [z])) (fun z=>hb (by simp [z])) q)) hf (Nat.le_refl _) new
  refine ⟨.ref s.heap.objs.size,_,I1,rfl,⟨_,x,rfl,I.hok.fresh (Nat.le_refl _),rfl,fun ys hy=>by rw [I.list_inj hy hq];exact hx⟩,⟨⟨x',?_⟩,hst'.1.at fun o q=>(sb.2 it (Ne.symm hne)).trans q,hne⟩,fun b hb=>?_⟩
  ·have e1:k0+((i+1:Nat):Int)=k0+(i:Nat)+1:=by omega
   rw [e1];exact he'
  ·have hb':b < s.heap.objs.size:=by
    have e':b=e ∨ b=it:=by simpa using hb
    rcases e' with z | z
    ·rw [z];exact hel
    ·rw [z];exact hil
   rw [upd_ne (Nat.ne_of_lt hb')]
   exact (hf b hb).1
 done:=by
  intro X hP hw hK hc i pins s σ H E I hf st hg
  subst hP hw hK
  obtain ⟨⟨old,he⟩,hit,hne⟩:=st
  obtain ⟨xs,hq,hx⟩:=hg
  obtain ⟨its,rv,p,hz⟩:=I.list hq
  obtain ⟨f0,f1,f2,f3,f4,f5⟩:=hf it (by simp)
  have hp:s.heap.IsList a its.toArray:=p.isList
  have hl:=rv.length
  have hh:X.A.in1.handled=none:=I.ok.hd hc
  have hT:s.TypeIs (.ref e) "enumerate" := ⟨_,he,rfl⟩
  unfold pyNext
  refine wpAny_bind (wpAny_attempt (wpAny_callSpecial?_slot (name:=Str.ofString "__next__") hT F.slot_enumerate_next
   (wpAny_call_entry F.slot_enumerate_next hT F.entry_enumerate_next ?_ (F.args_enumerate_next_1 _))))
  show wpAny _ _ (field (.ref e) 2 >>= _) _ _ _
  refine wpAny_bind (wpAny_field he rfl (x:=.ref it) rfl ?_)
  refine wpAny_bind (wpAny_nextOf_list_end (A:=X.A.in1) hh hit hp (by simp;omega) fun h' x eb hx'=>?_)
  obtain ⟨o,ho,hc⟩:=hx'
  refine wpAny_bind (wpAny_isInstance (T := "StopIteration") (b:=true) ⟨o,ho,hc⟩ isSubtype_stop ?_)
  exact wpAny_pure ⟨rfl,I.turned (t':=s.toks) (fun b o hb q=>eb b o hb q) f0 f1 f3 f4 f5⟩
 self:=fun A i s Q E st h=>let ⟨⟨_,he⟩,_⟩:=st;wpAny_pyIter_enum he h
theorem zja {v:Value} {o:Obj} {H:Heap->Prop} (B:Begins v o H) :
  Meets (Builtin.«enumerate.__new__» ⟨[.type "enumerate", v],[]⟩) (fun _ R s=>H s.heap∧
   R (.ok (.ret (.ref (s.heap.push o).objs.size))) { s with heap:=(s.heap.push o).push { cls:=.type "enumerate", data:=.fields #[.none,.bool false,.ref s.heap.objs.size,rawInt 0,.none,.none] } }):=
 .of_wp fun prog w A R s h=>by
  obtain ⟨hp,g,d,tk,os⟩:=s;obtain ⟨h1,h⟩:=h
  have hsub:=sub_enumerate
  have q1:∀ {A':Around} {E:Value->Shared->Prop} {Q:Value->Shared->Prop},Q (.ref hp.objs.size) ⟨hp.push o,g,d,tk,os⟩->wpAny (model prog w) A' (pyIter v) Q E ⟨hp,g,d,tk,os⟩:=
   fun q=>B.iter prog w _ _ ⟨hp,g,d,tk,os⟩ _ h1 q
  wp_walk using q1
  refine wpAny_stack_any fun st=>wpAny_pure ?_
  split
  ·rename_i c _ _ _ _ _
   cases (c == Value.type "enumerate")
   ·wp_walk using q1
    exact ⟨_,rfl,h⟩
   ·wp_walk using q1
    exact ⟨_,rfl,h⟩
  ·wp_walk using q1
   exact ⟨_,rfl,h⟩
theorem zgw {prog:Program} {w:World} {A:Around} {E:Value->Shared->Prop} {s:Shared} {v:Value} {o:Obj} {H:Heap->Prop} {Q:Value->Shared->Prop} (B:Begins v o H) (h1:H s.heap)
  (h:∀ h',IsEnum h' (s.heap.objs.size+1) s.heap.objs.size 0 .none->h'.get? s.heap.objs.size=some o->h'.objs.size=s.heap.objs.size+2 ->
   (∀ b o,s.heap.get? b=some o->h'.get? b=some o)->Q (.ref (s.heap.objs.size+1)) { s with heap:=h' }) :
  wpAny (model prog w) A (call (.type "enumerate") [v]) Q E s:=by
 refine callType_new F.called_enumerate (by decide) (F.typeCall_enumerate_1 _) (F.newCall_enumerate_1 _) (fun obj=>F.args_object_init_2 obj _) F.entry_enumerate_new
  (zja B) ⟨h1,?_⟩
 have hz:(s.heap.push o).objs.size=s.heap.objs.size+1:=Heap.size_push ..
 show _∧_
 rw [hz]
 have he:IsEnum ((s.heap.push o).push { cls:=.type "enumerate", data:=.fields #[.none,.bool false,.ref s.heap.objs.size,rawInt 0,.none,.none] }) (s.heap.objs.size+1) s.heap.objs.size 0 .none:=by
  have:=Heap.get?_push_size (s.heap.push o) (o:={ cls:=.type "enumerate", data:=.fields #[.none,.bool false,.ref s.heap.objs.size,rawInt 0,.none,.none] }) rfl
  rw [hz] at this;exact this
 refine ⟨⟨_,he,rfl⟩,h _ he (Heap.get?_push_of_some _ (Heap.get?_push_size _ B.free)) (by rw [Heap.size_push,hz]) fun b o x=>Heap.get?_push_of_some _ (Heap.get?_push_of_some _ x)⟩
def zr0 (K:PySem.W.Frag) (ta:TA):TI:=fun σ H R=>ta σ H fun vs H1=>∃ a,vs=[.ref a]∧((∃ xs,SqL K H1 a xs∧R (zsY K 0 a) H1) ∨ ∃ xs,SqT K H1 a xs∧R (zvc K 0 a) H1)
theorem zlW {X:Cx} {e:Expr} {ta:TA} {p pos tpos:Pos} {elts:List Expr} {kk:Nat} (hg:Gl X "enumerate") (hm:X.mg "enumerate" = none) (ha:PA X [e] ta) (hs:starEach [e] X.env=[(false,eval e X.env)]:=by rfl) :
  PI X (.Tuple elts kk tpos) (.Call (.Name "enumerate" p) [e] [] pos) (zr0 X.K ta):=by
 refine ⟨fun pins s σ H R I h=>?_⟩
 refine Call_ (ld_blt I hg hm boot_enumerate (PyProof.Rows.callWith_type1 (thn (ha.run pos pins s σ H _ I h) fun us s1 ⟨vs,H1,I1,r1,q1⟩=>?_) hs rfl))
 obtain ⟨a,ex,q⟩:=q1
 subst ex
 cases r1 with
 | cons r rr=>
  cases rr
  cases r
  have fpo:∀ b∈[s1.heap.objs.size+1,s1.heap.objs.size],FpOk X pins H1 b:=fun b hb=>by
   have e':b=s1.heap.objs.size+1 ∨ b=s1.heap.objs.size:=by simpa using hb
   have hle:s1.heap.objs.size≤b:=by
    rcases e' with z | z
    ·rw [z];exact Nat.le_add_right _ _
    ·rw [z];exact Nat.le_refl _
   exact I1.fpOk hle (I1.hok.fresh hle)
  rcases q with ⟨xs,hq,q⟩ | ⟨xs,hq,q⟩
  ·obtain ⟨its,rv,p',hz⟩:=I1.list hq
   refine zgw (begins_list a its.toArray) p'.isList fun h' he hit hsz hk=>wpAny_pyIter_enum he ?_
   have I2:Inv X pins σ H1 { s1 with heap:=h' }:=I1.kept (t':=s1.toks) hk
   exact ⟨s1.heap.objs.size+1,[s1.heap.objs.size+1,s1.heap.objs.size],_,_,H1,rfl,I2,zjO 0 a (s1.heap.objs.size+1) s1.heap.objs.size,⟨⟨.none,he⟩,⟨_,hit,rfl,rfl⟩,Nat.succ_ne_self _⟩,fpo,q⟩
  ·obtain ⟨its,rv,p',hz⟩:=I1.tuple hq
   refine zgw (begins_tuple a its.toArray) (show s1.heap.IsTuple a its.toArray from p') fun h' he hit hsz hk=>wpAny_pyIter_enum he ?_
   have I2:Inv X pins σ H1 { s1 with heap:=h' }:=I1.kept (t':=s1.toks) hk
   exact ⟨s1.heap.objs.size+1,[s1.heap.objs.size+1,s1.heap.objs.size],_,_,H1,rfl,I2,zjN 0 a (s1.heap.objs.size+1) s1.heap.objs.size,⟨⟨.none,he⟩,⟨_,hit,rfl,rfl⟩,Nat.succ_ne_self _⟩,fpo,q⟩
def zhs (k0:Int):List D->List D
 | []=>[]
 | x :: xs=>.tup [.int k0,x] :: zhs (k0+1) xs
theorem zbq:∀ (k0:Int) (xs:List D),(zhs k0 xs).length=xs.length
 | _,[]=>rfl
 | k0,x :: xs=>by simp [zhs,zbq]
theorem zfS:∀ (k0:Int) (xs:List D) (i:Nat),(zhs k0 xs)[i]? = (xs[i]?).map fun x=>.tup [.int (k0+i),x]
 | _,[],i=>by simp [zhs]
 | k0,x :: xs,0=>by simp [zhs]
 | k0,x :: xs,i+1=>by
  simp only [zhs,List.getElem?_cons_succ,zfS (k0+1) xs i]
  congr 1
  funext y
  have:k0+1+(i:Int)=k0+((i+1:Nat):Int):=by omega
  rw [this]
section
variable {K:PySem.W.Frag} {P:Program} {w:World} {H1:Hp} {a:Addr} {vs:List V} {ds:List D} {k0:Int}
theorem zhZ {S:Sto} {H:Hp} {T:Addr} {x y:V} {d e:D} (r:Rp K P w S H) (hT:H T=none) (h1:DV K H d x) (h2:DV K H e y):Le H (upd H T (.tup [x,y]))∧Rp K P w S (upd H T (.tup [x,y]))∧DV K (upd H T (.tup [x,y])) (.tup [d,e]) (.ref T):=
 ⟨Le.new hT,r.more hT,.tup (.inl (.inl upd_same)) (.cons (h1.le (Le.new hT)) (.cons (h2.le (Le.new hT)) .nil)) upd_same⟩
theorem zls (s:SqT K H1 a vs) (z:DVs K H1 ds vs):WkD K P w H1 (zvc K k0 a) (zhs k0 ds) fun _=>True where
 go:=fun i S H hi l _ _=>by
  rw [zbq,z.length] at hi
  exact ⟨vs,vs[i],zhi l s,List.getElem?_eq_getElem hi⟩
 stop:=fun S H l _ _=>by
  rw [zbq,z.length]
  exact ⟨vs,zhi l s,Nat.le_refl _⟩
 yld:=fun i S H x H' hi l r _ y=>by
  obtain ⟨T,x',rfl,hT,rfl,hx⟩:=y
  rw [zbq] at hi
  obtain ⟨v,e3,dv⟩:=(z.le l).get (List.getElem?_eq_getElem hi)
  have hx':=hx vs (zhi l s)
  rw [e3] at hx'
  cases hx'
  obtain ⟨p1,p2,p3⟩:=zhZ r hT (.int (k0+(i:Nat))) dv
  exact ⟨p1,p2,_,by rw [zfS,List.getElem?_eq_getElem hi];rfl,p3⟩
theorem zlt (s:RoL K H1 a vs) (z:DVs K H1 ds vs):WkD K P w H1 (zsY K k0 a) (zhs k0 ds) fun _=>True where
 go:=fun i S H hi l _ _=>by
  rw [zbq,z.length] at hi
  exact ⟨vs,vs[i],(s.le l).sq,List.getElem?_eq_getElem hi⟩
 stop:=fun S H l _ _=>by
  rw [zbq,z.length]
  exact ⟨vs,(s.le l).sq,Nat.le_refl _⟩
 yld:=fun i S H x H' hi l r _ y=>by
  obtain ⟨T,x',rfl,hT,rfl,hx⟩:=y
  rw [zbq] at hi
  obtain ⟨v,e3,dv⟩:=(z.le l).get (List.getElem?_eq_getElem hi)
  have hx':=hx vs (s.le l).sq
  rw [e3] at hx'
  cases hx'
  obtain ⟨p1,p2,p3⟩:=zhZ r hT (.int (k0+(i:Nat))) dv
  exact ⟨p1,p2,_,by rw [zfS,List.getElem?_eq_getElem hi];rfl,p3⟩
theorem zlu:WkD K P w H1 (zsY K k0 a) (zhs k0 ds) fun S=>S a=some (.lst ds) where
 go:=fun i S H hi l r g=>by
  obtain ⟨vs,q,z⟩:=r _ _ g
  rw [zbq,z.length] at hi
  exact ⟨vs,vs[i],SqL.of q,List.getElem?_eq_getElem hi⟩
 stop:=fun S H l r g=>by
  obtain ⟨vs,q,z⟩:=r _ _ g
  rw [zbq,z.length]
  exact ⟨vs,SqL.of q,Nat.le_refl _⟩
 yld:=fun i S H x H' hi l r g y=>by
  obtain ⟨vs,q,z⟩:=r _ _ g
  obtain ⟨T,x',rfl,hT,rfl,hx⟩:=y
  rw [zbq] at hi
  obtain ⟨v,e3,dv⟩:=z.get (List.getElem?_eq_getElem hi)
  have hx':=hx vs (SqL.of q)
  rw [e3] at hx'
  cases hx'
  obtain ⟨p1,p2,p3⟩:=zhZ r hT (.int (k0+(i:Nat))) dv
  exact ⟨p1,p2,_,by rw [zfS,List.getElem?_eq_getElem hi];rfl,p3⟩
end
section
variable {X:Cx} {B:Hp} {p pos tpos:Pos} {elts:List Expr} {kk:Nat}
def zfm (m:AM):IM:=fun env S R=>m env S fun ds S1=>match ds with
 | [.tp _ xs]=>R (zhs 0 xs) (fun _=>True) S1
 | [.rol xs]=>R (zhs 0 xs) (fun _=>True) S1
 | [.ref a]=>match S1 a with
  | some (.lst xs)=>R (zhs 0 xs) (fun S=>S a=some (.lst xs)) S1
  | _=>False
 | _=>False
theorem zfy {e:Expr} {m:AM} (ha:MA X B [e] m) (hm:X.mg "enumerate" = none) (hg:Gl X "enumerate" := by rfl) (hs:starEach [e] X.env=[(false,eval e X.env)]:=by rfl):MI X B (.Tuple elts kk tpos) (.Call (.Name "enumerate" p) [e] [] pos) (zfm m):=by
 refine ⟨zjp (zlW hg hm ha.pa hs) fun σ H R q=>?_,fun env S Q Q' i q=>ha.mono env S _ _ (fun d S1 q=>?_) q⟩
 ·obtain ⟨lB,env,S,r0,z0,q⟩:=q
  refine ⟨lB,env,S,r0,z0,ha.mono env S _ _ (fun ds S1 q vs H1 l1 z1 d1=>?_) q⟩
  split at q
  ·obtain ⟨v,rfl,dv⟩:=zjE d1
   cases dv with
   | tup s z=>exact ⟨_,rfl,.inr ⟨_,s,q _ H1 l1 z1 (zls s z)⟩⟩
  ·obtain ⟨v,rfl,dv⟩:=zjE d1
   cases dv with
   | rol s z=>exact ⟨_,rfl,.inl ⟨_,s.sq,q _ H1 l1 z1 (zlt s z)⟩⟩
  ·obtain ⟨v,rfl,dv⟩:=zjE d1
   cases dv
   split at q
   ·rename_i xs e0
    obtain ⟨vs,q1,z⟩:=z1 _ _ e0
    exact ⟨_,rfl,.inl ⟨_,SqL.of q1,q _ H1 l1 z1 zlu⟩⟩
   ·exact q.elim
  ·exact q.elim
 ·split at q
  ·exact i _ _ _ q
  ·exact i _ _ _ q
  ·split at q
   ·exact i _ _ _ q
   ·exact q.elim
  ·exact q.elim
def zrZ (m:AM):IM:=fun env S R=>m env S fun ds S1=>match ds with
 | [.tp _ xs,.tp _ ys]=>R (List.zipWith (fun x y=>.tup [x,y]) xs ys) (fun _=>True) S1
 | _=>False
end
abbrev MM:=D->List D->Sto->DQ->Prop
structure zsb (X:Cx) (id:String) (r:MM):Prop where
 mt:MtR X id fun x xs H Q=>∃ d ds S,DV X.K H d x∧DVs X.K H ds xs∧Rp X.K X.prog X.w S H∧r d ds S (dnE X.K X.prog X.w H Q)
 mono:∀ d ds S (Q Q':DQ),(∀ d S,Q d S->Q' d S)->r d ds S Q->r d ds S Q'
section
variable {X:Cx} {B:Hp}
theorem zuk {id:String} {r:MM} (R:V->List V->Hp->VK->Prop) (h:MtR X id R) (hR:∀ x xs H Q d ds S,DV X.K H d x->DVs X.K H ds xs->Rp X.K X.prog X.w S H->r d ds S (dnE X.K X.prog X.w H Q)->R x xs H Q)
  (mono:∀ d ds S (Q Q':DQ),(∀ d S,Q d S->Q' d S)->r d ds S Q->r d ds S Q'):zsb X id r:=⟨fun pins s σ H x xs v us Q I rx rxs q=>by
 obtain ⟨d,ds,S,h1,h2,h3,h4⟩:=q
 exact h pins s σ H x xs v us Q I rx rxs (hR x xs H Q d ds S h1 h2 h3 h4),mono⟩
def zgP (ok:D->Sto->Prop) (r:MM) (mo:EM) (ma:AM):EM:=fun env S Q=>mo env S fun d S1=>ok d S1∧ma env S1 fun ds S2=>r d ds S2 Q
variable {o e:Expr} {es:List Expr} {name:Str} {apos cpos pos:Pos} {T id:String} {r:MM} {mo:EM} {ma:AM} {ok:D->Sto->Prop} {ty:V->Hp->Prop}
theorem zkY (ht:TyOk X T ty) (hty:∀ d x S H,DV X.K H d x->Rp X.K X.prog X.w S H->ok d S->ty x H) (pa:PlainAttrs T) (slot:Slot T name id) (htd:typeOf (.builtin id)=pure (.type "method_descriptor")) (hm:zsb X id r) (ho:ME X B o mo) (ha:MA X B (e :: es) ma)
  (hbase:attributeBase o name X.env (eval o X.env)=eval o X.env:=by rfl)
  (hfew:((backTo cpos (starEach (e :: es) X.env)).all (fun x=>!x.1) && (backToKw cpos (keywordEach [] X.env)).all (fun x=>x.1.isSome)
   && decide ((e :: es).length+([]:List Keyword).length+(if ([]:List Keyword).isEmpty then 0 else 1) < 30))=true:=by rfl)
  (hline:(apos.endLine == cpos.line)=true:=by rfl) (hs:starEach (e :: es) X.env=(false,eval e X.env) :: starEach es X.env:=by rfl) (hplain:(backTo cpos (starEach es X.env)).any (·.1)=false:=by rfl) :
  ME X B (.Call (.Attribute o name apos) (e :: es) [] cpos) (zgP ok r mo ma):=by
 refine ⟨zbu (pe_mG ht pa slot htd hm.mt ho.pe ha.pa hbase hfew hline hs hplain) fun σ H Q q=>?_,fun env S Q Q' i q=>ho.mono env S _ _ (fun d S1 q=>⟨q.1,ha.mono env S1 _ _ (fun ds S2 q=>hm.mono _ _ _ _ _ i q) q.2⟩) q⟩
 obtain ⟨lB,env,S,r0,z0,q⟩:=q
 refine ⟨lB,env,S,r0,z0,ho.mono env S _ _ (fun d S1 q v H1 l1 z1 d1=>?_) q⟩
 refine ⟨hty _ _ _ _ d1 z1 q.1,lB.trans l1,env,S1,r0.le l1,z1,ha.mono env S1 _ _ (fun ds S2 q vs H2 l2 z2 d2=>?_) q.2⟩
 exact ⟨d,ds,S2,d1.le l2,d2,z2,hm.mono _ _ _ _ _ (zdT (l1.trans l2)) q⟩
def okL (d:D) (S:Sto):Prop:=match d with
 | .ref a=>match S a with
  | some (.lst _)=>True
  | _=>False
 | _=>False
theorem zs4 {T:String}:TyOk X T (tyV X.K T):=fun pins σ H s x v I r ty=>tyV_is I r ty
theorem zkn:∀ d x S H,DV X.K H d x->Rp X.K X.prog X.w S H->okL d S->tyV X.K "list" x H:=fun d x S H h r q=>by
 unfold okL at q
 split at q
 ·cases h
  split at q
  ·rename_i a e0
   obtain ⟨vs,e,_⟩:=r _ _ e0
   exact .inl ⟨rfl,vs,SqL.of e⟩
  ·exact q.elim
 ·exact q.elim
theorem zkh {K:PySem.W.Frag} {P:Program} {w:World} {S:Sto} {H:Hp} {Q:VK} {a:Addr} {us ws:List V} {ds:List D} {d:D} {v:V} (r:Rp K P w S H) (e:H a=some (.lst us)) (z:DVs K H ds ws) (dv:DV K H d v) (q:dnE K P w H Q d (put S a (.lst ds))):Q v (upd H a (.lst ws)):=by
 have hmut:Mut (H a):=by rw [e];exact trivial
 have l:=Le.mut (o:=.lst ws) hmut
 exact q v _ l (r.wr (o:=.lst ds) hmut ⟨ws,upd_same,z.le l⟩) (dv.le l)
def zhV:MM:=fun d ds S Q=>match d,ds with
 | .ref a,[y]=>match S a with
  | some (.lst xs)=>xs.length < sizeLine∧Q .non (put S a (.lst (xs++[y])))
  | _=>False
 | _,_=>False
theorem zk1:zsb X "list.append" zhV:=by
 refine zuk _ mt_append (fun x xs H Q d ds S h1 h2 r q=>?_) (fun d ds S Q Q' i q=>?_)
 ·unfold zhV at q
  split at q
  ·rename_i a y
   obtain ⟨v,rfl,dv⟩:=zjE h2
   cases h1
   split at q
   ·rename_i ys e0
    obtain ⟨us,e,z⟩:=r _ _ e0
    exact ⟨_,us,v,rfl,rfl,e,by rw [← z.length];exact q.1,zkh r e (z.append (.cons dv .nil)) .non q.2⟩
   ·exact q.elim
  ·exact q.elim
 ·unfold zhV at q ⊢
  split at q
  ·split at q
   ·exact ⟨q.1,i _ _ q.2⟩
   ·exact q.elim
  ·exact q.elim
def zlq:MM:=fun d ds S Q=>match d,ds with
 | .ref a,[.ref b]=>match S a,S b with
  | some (.lst xs),some (.lst ys)=>xs.length+ys.length≤sizeLine∧Q .non (put S a (.lst (xs++ys)))
  | _,_=>False
 | _,_=>False
theorem zk0:zsb X "list.extend" zlq:=by
 refine zuk _ mt_extend (fun x xs H Q d ds S h1 h2 r q=>?_) (fun d ds S Q Q' i q=>?_)
 ·unfold zlq at q
  split at q
  ·rename_i a b
   obtain ⟨v,rfl,dv⟩:=zjE h2
   cases h1
   cases dv
   split at q
   ·rename_i ys zs e0 e1
    obtain ⟨us,e,z⟩:=r _ _ e0
    obtain ⟨us',e',z'⟩:=r _ _ e1
    exact ⟨_,_,us,us',rfl,rfl,e,e',by rw [← z.length,← z'.length];exact q.1,zkh r e (z.append z') .non q.2⟩
   ·exact q.elim
  ·exact q.elim
 ·unfold zlq at q ⊢
  split at q
  ·split at q
   ·exact ⟨q.1,i _ _ q.2⟩
   ·exact q.elim
  ·exact q.elim
def zyU:MM:=fun d ds S Q=>match d,ds with
 | .ref a,[]=>match S a with
  | some (.lst xs)=>Q .non (put S a (.lst xs.reverse))
  | _=>False
 | _,_=>False
theorem zbv (ho:ME X B o mo) (ha:MA X B [e] ma) (hbase:attributeBase o "append" X.env (eval o X.env)=eval o X.env:=by rfl)
  (hfew:((backTo cpos (starEach [e] X.env)).all (fun x=>!x.1) && (backToKw cpos (keywordEach [] X.env)).all (fun x=>x.1.isSome)
   && decide ([e].length+([]:List Keyword).length+(if ([]:List Keyword).isEmpty then 0 else 1) < 30))=true:=by rfl)
  (hline:(apos.endLine == cpos.line)=true:=by rfl) (hs:starEach [e] X.env=(false,eval e X.env) :: starEach [] X.env:=by rfl) (hplain:(backTo cpos (starEach [] X.env)).any (·.1)=false:=by rfl) :
  ME X B (.Call (.Attribute o "append" apos) [e] [] cpos) (zgP okL zhV mo ma):=zkY zs4 zkn F.plainAttrs_list F.slot_list_append F.type_list_append zk1 ho ha hbase hfew hline hs hplain
theorem zfW (ho:ME X B o mo) (ha:MA X B [e] ma) (hbase:attributeBase o "extend" X.env (eval o X.env)=eval o X.env:=by rfl)
  (hfew:((backTo cpos (starEach [e] X.env)).all (fun x=>!x.1) && (backToKw cpos (keywordEach [] X.env)).all (fun x=>x.1.isSome)
   && decide ([e].length+([]:List Keyword).length+(if ([]:List Keyword).isEmpty then 0 else 1) < 30))=true:=by rfl)
  (hline:(apos.endLine == cpos.line)=true:=by rfl) (hs:starEach [e] X.env=(false,eval e X.env) :: starEach [] X.env:=by rfl) (hplain:(backTo cpos (starEach [] X.env)).any (·.1)=false:=by rfl) :
  ME X B (.Call (.Attribute o "extend" apos) [e] [] cpos) (zgP okL zlq mo ma):=zkY zs4 zkn F.plainAttrs_list F.slot_list_extend F.type_list_extend zk0 ho ha hbase hfew hline hs hplain
def znj:CM:=fun ds S Q=>match ds with
 | []=>∀ p,S p=none->Q (.ref p) (put S p (.set (fun _=>false) 0))
 | _=>False
theorem zpa:zf5 X (.type "set") znj:=by
 refine zhw _ cr_set0K (fun xs H Q ds S h r q=>?_) (fun ds S Q Q' i q=>?_)
 ·cases h with
  | nil=>exact ⟨rfl,fun p hp=>q p (r.free hp) _ _ (Le.new hp) (r.new hp upd_same) (.ref p)⟩
  | cons=>exact q.elim
 ·cases ds with
  | nil=>exact fun p hp=>i _ _ (q p hp)
  | cons=>exact q.elim
theorem zor {K:PySem.W.Frag} {P:Program} {w:World} {H:Hp} {a:Addr} {f:Key->Bool} {n:Nat} (e:OOk K P w H a (.set f n)):Mut (H a):=by
 have e':H a=some (SetK P w a f n):=e
 rw [e']
 exact trivial
def okS (d:D) (S:Sto):Prop:=match d with
 | .ref a=>match S a with
  | some (.set _ _)=>True
  | _=>False
 | _=>False
def zsl (mo:EM) (ma:AM):EM:=fun env S Q=>mo env S fun d S1=>okS d S1∧ma env S1 fun ds S2=>match d,ds with
 | .ref a,[y]=>match S2 a,keyD y with
  | some (.set f n),some k=>n+1 < scanBound∧Q .non (put S2 a (.set (fun j=>f j || decide (j=k)) (if f k=true then n else n+1)))
  | _,_=>False
 | _,_=>False
theorem zrv (ho:ME X B o mo) (ha:MA X B [e] ma) (hbase:attributeBase o "add" X.env (eval o X.env)=eval o X.env:=by rfl)
  (hfew:((backTo cpos (starEach [e] X.env)).all (fun x=>!x.1) && (backToKw cpos (keywordEach [] X.env)).all (fun x=>x.1.isSome)
   && decide ([e].length+([]:List Keyword).length+(if ([]:List Keyword).isEmpty then 0 else 1) < 30))=true:=by rfl)
  (hline:(apos.endLine == cpos.line)=true:=by rfl) (hs:starEach [e] X.env=(false,eval e X.env) :: starEach [] X.env:=by rfl) (hplain:(backTo cpos (starEach [] X.env)).any (·.1)=false:=by rfl) :
  ME X B (.Call (.Attribute o "add" apos) [e] [] cpos) (zsl mo ma):=by
 refine ⟨zbu (pe_saddK ho.pe ha.pa hbase hfew hline hs hplain) fun σ H Q q=>?_,fun env S Q Q' i q=>ho.mono env S _ _ (fun d S1 q=>⟨q.1,ha.mono env S1 _ _ (fun ds S2 q=>?_) q.2⟩) q⟩
 ·obtain ⟨lB,env,S,r0,z0,q⟩:=q
  refine ⟨lB,env,S,r0,z0,ho.mono env S _ _ (fun d S1 q v H1 l1 z1 d1=>?_) q⟩
  obtain ⟨q1,q⟩:=q
  refine ⟨?_,lB.trans l1,env,S1,r0.le l1,z1,ha.mono env S1 _ _ (fun ds S2 q vs H2 l2 z2 d2=>?_) q⟩
  ·unfold okS at q1
   split at q1
   ·cases d1
    split at q1
    ·rename_i f n e0
     exact ⟨_,f,n,rfl,z1 _ _ e0⟩
    ·exact q1.elim
   ·exact q1.elim
  ·split at q
   ·obtain ⟨u,rfl,du⟩:=zjE d2
    cases d1
    split at q
    ·rename_i f n k e0 ek
     have eu:=zgu du ek
     subst eu
     have e1:=z2 _ _ e0
     have hmut:=zor e1
     exact ⟨_,k,f,n,rfl,rfl,e1,q.1,q.2 _ _ ((l1.trans l2).trans (Le.mut hmut)) (z2.wr (o:=.set _ _) hmut upd_same) .non⟩
    ·exact q.elim
   ·exact q.elim
 ·split at q
  ·split at q
   ·exact ⟨q.1,i _ _ q.2⟩
   ·exact q.elim
  ·exact q.elim
def zxy:EM:=fun _ S Q=>∀ p,S p=none->Q (.ref p) (put S p (.dic []))
def zjM:CM:=fun ds S Q=>match ds with
 | [.ref a]=>match S a with
  | some (.dic kvs)=>∀ p,S p=none->Q (.ref p) (put S p (.dic kvs))
  | _=>False
 | _=>False
theorem zpb:zf5 X (.type "dict") zjM:=by
 refine zhw _ call_dictD (fun xs H Q ds S h r q=>?_) (fun ds S Q Q' i q=>?_)
 ·unfold zjM at q
  split at q
  ·obtain ⟨v,rfl,dv⟩:=zjE h
   cases dv
   split at q
   ·rename_i kvs e0
    obtain ⟨vs,e,z⟩:=r _ _ e0
    exact ⟨_,vs,rfl,.inl e,fun p hp=>q p (r.free hp) _ _ (Le.new hp) (r.new (o:=.dic kvs) hp ⟨vs,upd_same,z.le (Le.new hp)⟩) (.ref p)⟩
   ·exact q.elim
  ·exact q.elim
 ·unfold zjM at q ⊢
  split at q
  ·split at q
   ·exact fun p hp=>i _ _ (q p hp)
   ·exact q.elim
  ·exact q.elim
def mPs:List (EM×EM)->Slo->Sto->(List (D×D)->Sto->Prop)->Prop
 | [],_,S,Q=>Q [] S
 | (mk,mv) :: r,env,S,Q=>mk env S fun x S1=>mv env S1 fun y S2=>mPs r env S2 fun ps S3=>Q ((x,y) :: ps) S3
structure MPs (X:Cx) (B:Hp) (pos:Pos) (keys:List (Option Expr)) (values:List Expr) (ms:List (EM×EM)):Prop where
 pps:PPs X pos keys values (ms.map fun p=>(up X.K X.prog X.w B p.1,up X.K X.prog X.w B p.2))
 mono:∀ p∈ms,zd2 p.1∧zd2 p.2
theorem zou:MPs X B pos [] [] []:=⟨pps_nil,fun _ h=>nomatch h⟩
theorem zfU {k v:Expr} {ks:List (Option Expr)} {vs:List Expr} {mk mv:EM} {ms:List (EM×EM)} (hk:ME X B k mk) (hv:ME X B v mv) (hr:MPs X B pos ks vs ms):MPs X B pos (some k :: ks) (v :: vs) ((mk,mv) :: ms):=
 ⟨pps_cons hk.pe hv.pe hr.pps,fun p h=>by
  rcases List.mem_cons.mp h with e | h
  ·subst e;exact ⟨hk.mono,hv.mono⟩
  ·exact hr.mono p h⟩
def zj9:List (D×D)->Option (List (Key×D))
 | []=>some []
 | (k,v) :: r=>match keyD k,zj9 r with
  | some k,some r=>some ((k,v) :: r)
  | _,_=>none
def zdR (kvs more:List (Key×D)):List (Key×D):=more.foldl (fun acc kv=>putD acc kv.1 kv.2) kvs
def zoJ (ms:List (EM×EM)):EM:=fun env S Q=>∀ p,S p=none->mPs ms env (put S p (.dic [])) fun ps S2=>match zj9 ps with
 | some kvs=>S2 p=some (.dic [])∧kvs.length≤15∧Q (.ref p) (put S2 p (.dic (zdR [] kvs)))
 | none=>False
theorem zjv:∀ {ms:List (EM×EM)},(∀ p∈ms,zd2 p.1∧zd2 p.2)->∀ env S (Q Q':List (D×D)->Sto->Prop),(∀ ps S,Q ps S->Q' ps S)->mPs ms env S Q->mPs ms env S Q'
 | [],_,env,S,Q,Q',i,q=>i _ _ q
 | (mk,mv) :: r,h,env,S,Q,Q',i,q=>(h _ (List.mem_cons_self ..)).1 env S _ _ (fun x S1 q=>(h _ (List.mem_cons_self ..)).2 env S1 _ _ (fun y S2 q=>zjv (fun p hp=>h p (List.mem_cons_of_mem _ hp)) env S2 _ _ (fun ps S3 q=>i _ _ q) q) q) q
inductive DPs (K:PySem.W.Frag) (H:Hp):List (D×D)->List (V×V)->Prop
 | nil:DPs K H [] []
 | cons {a b:D} {x y:V} {r:List (D×D)} {s:List (V×V)}:DV K H a x->DV K H b y->DPs K H r s->DPs K H ((a,b) :: r) ((x,y) :: s)
theorem DPs.le {K:PySem.W.Frag} {H H':Hp} {r:List (D×D)} {s:List (V×V)} (l:Le H H') (h:DPs K H r s):DPs K H' r s:=by
 induction h with
 | nil=>exact .nil
 | cons h1 h2 _ ih=>exact .cons (h1.le l) (h2.le l) ih
theorem zpx {K:PySem.W.Frag} {P:Program} {w:World}:∀ {ms:List (EM×EM)},(∀ p∈ms,zd2 p.1∧zd2 p.2)->∀ {σ:L2.St} {H:Hp} {Q:List (V×V)->Hp->Prop} {env:Slo} {S:Sto},Le B H->zdk K H env σ->Rp K P w S H ->
  mPs ms env S (fun ps S'=>∀ vs H',Le H H'->Rp K P w S' H'->DPs K H' ps vs->Q vs H')->tPairs (ms.map fun p=>(up K P w B p.1,up K P w B p.2)) σ H Q
 | [],_,σ,H,Q,env,S,lB,r0,z0,q=>q [] H (Le.refl H) z0 .nil
 | (mk,mv) :: r,h,σ,H,Q,env,S,lB,r0,z0,q=>by
  refine ⟨lB,env,S,r0,z0,(h _ (List.mem_cons_self ..)).1 env S _ _ (fun x S1 q v H1 l1 z1 d1=>?_) q⟩
  refine ⟨lB.trans l1,env,S1,r0.le l1,z1,(h _ (List.mem_cons_self ..)).2 env S1 _ _ (fun y S2 q u H2 l2 z2 d2=>?_) q⟩
  refine zpx (fun p hp=>h p (List.mem_cons_of_mem _ hp)) (lB.trans (l1.trans l2)) (r0.le (l1.trans l2)) z2 (zjv (fun p hp=>h p (List.mem_cons_of_mem _ hp)) _ _ _ _ (fun ps S3 q vs H3 l3 z3 d3=>?_) q)
  exact q _ H3 ((l1.trans l2).trans l3) z3 (.cons (d1.le (l2.trans l3)) (d2.le l3) d3)
theorem zrI {K:PySem.W.Frag} {H:Hp} {ps:List (D×D)} {vs:List (V×V)} (h:DPs K H ps vs):∀ {kvs:List (Key×D)},zj9 ps=some kvs->∃ us:List (Key×V),vs=us.map (fun kv=>(kV kv.1,kv.2))∧KVs K H kvs us:=by
 induction h with
 | nil=>intro kvs e;cases e;exact ⟨[],rfl,.nil⟩
 | @cons a b x y r s h1 h2 h3 ih=>
  intro kvs e
  unfold zj9 at e
  split at e
  ·rename_i k r' ek er
   cases e
   obtain ⟨us,rfl,z⟩:=ih er
   have ex:=zgu h1 ek
   subst ex
   exact ⟨(k,y) :: us,rfl,.cons h2 z⟩
  ·cases e
theorem KVs.merge {K:PySem.W.Frag} {H:Hp} {more:List (Key×D)} {mv:List (Key×V)} (h:KVs K H more mv):∀ {ds:List (Key×D)} {vs:List (Key×V)},KVs K H ds vs->KVs K H (zdR ds more) (mergeK vs mv):=by
 induction h with
 | nil=>intro ds vs h;exact h
 | cons h1 _ ih=>intro ds vs h;exact ih (h.put _ h1)
theorem zoG {keys:List (Option Expr)} {values:List Expr} {ms:List (EM×EM)} (h:MPs X B pos keys values ms) (hall:keys.all (·.isSome)=true:=by rfl) (hl:keys.length=values.length:=by rfl) (h0:keys≠[]:=by simp)
  (h15:keys.length≤15:=by decide):ME X B (.Dict keys values pos) (zoJ ms):=by
 refine ⟨zbu (pe_disp h.pps hall hl h0 h15) fun σ H Q q=>?_,fun env S Q Q' i q p hp=>zjv h.mono _ _ _ _ (fun ps S2 q=>?_) (q p hp)⟩
 ·obtain ⟨lB,env,S,r0,z0,q⟩:=q
  intro p hp
  have l1:Le H (upd H p (.dK [])):=Le.new hp
  have z1:Rp X.K X.prog X.w (put S p (.dic [])) (upd H p (.dK [])):=z0.new (o:=.dic []) hp ⟨[],upd_same,.nil⟩
  refine zpx h.mono (lB.trans l1) (r0.le l1) z1 (zjv h.mono _ _ _ _ (fun ps S2 q vs H2 l2 z2 d2=>?_) (q p (z0.free hp)))
  split at q
  ·rename_i kvs ek
   obtain ⟨q1,q2,q3⟩:=q
   obtain ⟨us,rfl,zk⟩:=zrI d2 ek
   obtain ⟨ws,e1,e2⟩:=z2 _ _ q1
   have ew:ws=[]:=by cases e2;rfl
   subst ew
   have hmut:Mut (H2 p):=by rw [e1];exact trivial
   have l3:=Le.mut (o:=.dK (mergeK [] us)) hmut
   exact ⟨e1,us,rfl,by rw [← zk.length];exact q2,q3 _ _ ((l1.trans l2).trans l3) (z2.wr (o:=.dic (zdR [] kvs)) hmut ⟨_,upd_same,((zk.merge .nil)).le l3⟩) (.ref p)⟩
  ·exact q.elim
 ·split at q
  ·exact ⟨q.1,q.2.1,i _ _ q.2.2⟩
  ·exact q.elim
def zrl (d:D) (S:Sto):Prop:=match d with
 | .ref a=>match S a with
  | some (.dic _)=>True
  | _=>False
 | _=>False
def zrC (mo mk mx:EM):EM:=fun env S Q=>mo env S fun d S1=>zrl d S1∧mk env S1 fun k S2=>mx env S2 fun z S3=>match d with
 | .ref a=>match S3 a,keyD k with
  | some (.dic kvs),some kk=>Q ((valD kvs kk).getD z) S3
  | _,_=>False
 | _=>False
theorem zjb {x:Str} {i:Int} (h:∃ t,X.mg x=some (.int i t)) (hg:Gl X x:=by rfl) (hd:(x == ("__debug__" : Str))=false:=by decide):ME X B (.Name x pos) (mC (.int i)):=by
 obtain ⟨t,h⟩:=h
 exact zph (pe_glob (v:=.int i) hg h ⟨t,rfl⟩ hd) fun _=>.int i
end
def dcL (g:GM) (t:TM) (mk mv:EM) (G:Sto->Prop) (p:Addr) (Q:DQ) (env:Slo):List D->Sto->Prop
 | [],S=>G S∧Q (.ref p) S
 | x :: xs,S=>G S∧g x env S fun env2 S2=>t env2 S2 fun b S3=>match b with
  | true=>mk env2 S3 fun y S4=>mv env2 S4 fun z S5=>match S5 p,keyD y with
   | some (.dic kvs),some k=>kvs.length < sizeLine∧dcL g t mk mv G p Q env xs (put S5 p (.dic (putD kvs k z)))
   | _,_=>False
  | false=>dcL g t mk mv G p Q env xs S3
def mDc (mi:IM) (g:GM) (t:TM) (mk mv:EM) (vs:List Nat):EM:=fun env S Q=>mi env S fun xs G S1=>∀ p,S1 p=none->dcL g t mk mv G p Q (zdV env vs) xs (put S1 p (.dic []))
section
variable {X:Cx} {B:Hp} {kx vx tg iter:Expr} {ifs:List Expr} {scope:Scope} {own:List (Str×Nat)} {pos:Pos} {mi:IM} {g:GM} {t:TM} {mk mv:EM}
theorem zig {G:Sto->Prop} {p:Addr} {env:Slo} {Q Q':DQ} (hg:∀ d env S (Q Q':Slo->Sto->Prop),(∀ e S,Q e S->Q' e S)->g d env S Q->g d env S Q') (ht:zmE t) (hk:zd2 mk) (hm:zd2 mv) (i:∀ d S,Q d S->Q' d S):∀ xs S,dcL g t mk mv G p Q env xs S->dcL g t mk mv G p Q' env xs S
 | [],S,h=>⟨h.1,i _ _ h.2⟩
 | x :: xs,S,h=>⟨h.1,hg _ _ _ _ _ (fun e s q=>ht _ _ _ _ (fun b S3 q=>by
   cases b with
   | true=>
    refine hk _ _ _ _ (fun d S4 q=>hm _ _ _ _ (fun d S5 q=>?_) q) q
    split at q
    ·exact ⟨q.1,zig hg ht hk hm i xs _ q.2⟩
    ·exact q.elim
   | false=>exact zig hg ht hk hm i xs _ q) q) h.2⟩
theorem zs2 {K:PySem.W.Frag} {P:Program} {w:World} {wi:TI} {tt:TG} {vs:List Nat} (hwi:∀ σ H R,(Le B H∧∃ env S,zdk K H env σ∧Rp K P w S H∧mi env S fun xs G S1=>∀ J H1,Le H H1->Rp K P w S1 H1->WkD K P w H1 J xs G->R J H1)->wi σ H R)
  (hmi:∀ env S (Q Q':List D->(Sto->Prop)->Sto->Prop),(∀ xs G S,Q xs G S->Q' xs G S)->mi env S Q->mi env S Q') (bt:BT K vs tt g) (ht:zmE t) (hk:zd2 mk) (hm:zd2 mv) {σ:L2.St} {H:Hp} {Q:VK}
  (q:up K P w B (mDc mi g t mk mv vs) σ H Q):tDc wi tt (upT K P w B t) (up K P w B mk) (up K P w B mv) vs σ H Q:=by
 obtain ⟨lB,env,S,r0,z0,q⟩:=q
 refine hwi _ _ _ ⟨lB,env,S,r0,z0,hmi _ _ _ _ (fun xs G S1 q J H1 l1 z1 wk=>?_) q⟩
 intro p hp
 have l2:Le H1 (upd H1 p (.dK [])):=Le.new hp
 have z2:Rp K P w (put S1 p (.dic [])) (upd H1 p (.dK [])):=z1.new (o:=.dic []) hp ⟨[],upd_same,.nil⟩
 have q:=q p (z1.free hp)
 refine ⟨fun i k H'=>i≤xs.length∧k=xs.length - i∧Le (upd H1 p (.dK [])) H'∧∃ S,Rp K P w S H'∧dcL g t mk mv G p (dnE K P w H Q) (zdV env vs) (xs.drop i) S,⟨xs.length,Nat.zero_le _,rfl,Le.refl _,_,z2,q⟩,fun i k H' h=>?_⟩
 obtain ⟨hi,rfl,l3,S,z3,q⟩:=h
 have l23:=l2.trans l3
 by_cases hlt:i < xs.length
 ·have ed:xs.drop i=xs[i] :: xs.drop (i+1):=List.drop_eq_getElem_cons hlt
  rw [ed] at q
  refine .inr ⟨wk.go i S H' hlt l23 z3 q.1,fun H'=>Le (upd H1 p (.dK [])) H'∧∃ S,Rp K P w S H'∧dcL g t mk mv G p (dnE K P w H Q) (zdV env vs) (xs.drop (i+1)) S,fun H3 h=>⟨xs.length - (i+1),by omega,hlt,rfl,h⟩,fun x H3 hy=>?_⟩
  obtain ⟨l4,z4,d,ex,dv⟩:=wk.yld i S H' x H3 hlt l23 z3 q.1 hy
  have e':d=xs[i]:=by
   rw [List.getElem?_eq_getElem hlt] at ex
   exact (Option.some.inj ex).symm
  subst e'
  have l04:=l1.trans (l23.trans l4)
  refine bt.mt _ _ _ _ _ (fun σ2 H2 z=>?_) (bt.td _ x _ _ S H3 _ dv ((r0.le l04).wipe vs) q.2)
  obtain ⟨e2,rfl,env2,r2,q2⟩:=z
  refine ⟨e2.trans zki,lB.trans l04,env2,S,r2,z4,ht _ _ _ _ (fun b S3 q H5 l5 z5=>?_) q2⟩
  cases b with
  | false=>exact ⟨l3.trans (l4.trans l5),S3,z5,q⟩
  | true=>
   refine ⟨lB.trans (l04.trans l5),env2,S3,r2.le l5,z5,hk _ _ _ _ (fun d S4 q v H6 l6 z6 d6=>?_) q⟩
   refine ⟨lB.trans (l04.trans (l5.trans l6)),env2,S4,r2.le (l5.trans l6),z6,hm _ _ _ _ (fun d' S5 q v' H7 l7 z7 d7=>?_) q⟩
   split at q
   ·rename_i kvs kk ey ek
    obtain ⟨us,e1,e2⟩:=z7 _ _ ey
    have ev:=zgu d6 ek
    subst ev
    have hmut:Mut (H7 p):=by rw [e1];exact trivial
    have l8:=Le.mut (o:=.dK (putK us kk v')) hmut
    exact ⟨us,kk,rfl,e1,by rw [← e2.length];exact q.1,l3.trans (l4.trans (l5.trans (l6.trans (l7.trans l8)))),_,z7.wr (o:=.dic (putD kvs kk d')) hmut ⟨_,upd_same,(e2.put kk d7).le l8⟩,q.2⟩
   ·exact q.elim
 ·have ei:i=xs.length:=by omega
  subst ei
  rw [List.drop_length] at q
  exact .inl ⟨wk.stop S H' l23 z3 q.1,q.2 _ H' (l1.trans l23) z3 (.ref p)⟩
theorem zrp {vs:List Nat} (hmi:∀ env S (Q Q':List D->(Sto->Prop)->Sto->Prop),(∀ xs G S,Q xs G S->Q' xs G S)->mi env S Q->mi env S Q') (hg:∀ d env S (Q Q':Slo->Sto->Prop),(∀ e S,Q e S->Q' e S)->g d env S Q->g d env S Q') (ht:zmE t) (hk:zd2 mk) (hm:zd2 mv):zd2 (mDc mi g t mk mv vs):=fun env S Q Q' i q=>
 hmi _ _ _ _ (fun xs G S1 q p hp=>zig hg ht hk hm i _ _ (q p hp)) q
abbrev zwX (X:Cx) (B:Hp) (mi:IM):TI:=fun σ H R=>Le B H∧∃ env S,zdk X.K H env σ∧Rp X.K X.prog X.w S H∧mi env S fun xs G S1=>∀ J H1,Le H H1->Rp X.K X.prog X.w S1 H1->WkD X.K X.prog X.w H1 J xs G->R J H1
theorem zlV {i:Nat} {y:Str} {py spos:Pos} {wi:TI} {g:TG} {tt:TT} {tk tv:TE} (hc:X.calm=true) (hN:X.N.Nodup) (hy:X.N[i]? = some y) (hyl:X.env.scope.names.lookup y=some .local)
  (hsw:swapsWith (.DictComp kx vx [⟨tg,iter,ifs,0⟩] scope pos) (some (.Name y py)) spos.line X.env=pure true) (hi:PI X tg iter wi) (ok:BlkOk X.N X.env.scope scope own)
  (hg:Blk X scope fun Y=>PG Y tg g) (ht:Blk X scope fun Y=>PTs Y ifs tt) (hk:Blk X scope fun Y=>PE Y kx tk) (he:Blk X scope fun Y=>PE Y vx tv) (hs:∀ x,foldedSetIterable iter X.env x=pure x:=by intro _;rfl) :
  PS X (.Assign [.Name y py] (.DictComp kx vx [⟨tg,iter,ifs,0⟩] scope pos) spos) (tAsg (tDc wi g tt tk tv (own.map (·.2))) (gName i)):=by
 refine ⟨fun pins s σ H D I h=>?_⟩
 rw [exec_Assign_Name_used _ _ _ _ hsw]
 refine wpAny_bind (wpAny_standAt (wpAny_bind ?_))
 show wpAny _ X.A (do let _ ← comprehension (.DictComp kx vx [⟨tg,iter,ifs,0⟩] scope pos) scope X.env (firstIterPos [⟨tg,iter,ifs,0⟩] pos) newDict false (eval iter X.env) (some (assign (.Name y py) X.env))) _ _ s
 have h:tDc wi g tt tk tv (own.map (·.2)) σ H (fun x H1=>gName i x σ H1 D.nx):=h
 refine wpAny_bind (thn (dc_core (Qf:=fun _ s'=>SP X pins D .next s') hc hN I hi ok hg ht hk he hs h fun L C s' m H' I' q hn f=>?_) fun _ s' hq=>wpAny_pure (wpAny_pure hq))
 show wpAny _ _ (assign (.Name y py) X.env (.ref L)) _ _ _
 refine wpAny_assign_Name (store_ok2 (v:=V.ref L) I' hN hy (.inl hyl) rfl (fun s2 I2 ⟨a,sb,ha⟩=>?_) (.inr hyl))
 obtain ⟨f0,f1,f2,f3,f4,f5⟩:=f
 have haC:C≠a:=by
  rcases ha with z | z
  ·rw [z];exact f1
  ·exact fun e=>f4 y a z e.symm
 refine ⟨m,hn.sameBut sb haC,fun h3 sb3=>?_⟩
 exact ⟨_,H',I2.turned (t':=s2.toks) (fun b o hb e=>(sb3.2 b hb).trans e) f0 f1 f3 f4 f5,q⟩
theorem zl2 {tt:TG} {i:Nat} {y:Str} {py spos:Pos} (hc:X.calm=true) (hN:X.N.Nodup) (hi:MI X B tg iter mi) (ok:BlkOk X.N X.env.scope scope own) (bt:BT X.K (own.map (·.2)) tt g)
  (hg:Blk X scope fun Y=>PG Y tg tt) (hm:Blk X scope fun Y=>MTs Y B ifs t) (hk:Blk X scope fun Y=>ME Y B kx mk) (he:Blk X scope fun Y=>ME Y B vx mv) (hy:X.N[i]? = some y:=by rfl) (hyl:X.env.scope.names.lookup y=some .local:=by rfl)
  (hsw:swapsWith (.DictComp kx vx [⟨tg,iter,ifs,0⟩] scope pos) (some (.Name y py)) spos.line X.env=pure true:=by rfl) (hs:∀ x,foldedSetIterable iter X.env x=pure x:=by intro _;rfl) :
  MS X B (.Assign [.Name y py] (.DictComp kx vx [⟨tg,iter,ifs,0⟩] scope pos) spos) (zaN (mDc mi g t mk mv (own.map (·.2))) (gNm i)):=by
 have m1:zmE t:=(hm X.s_0 (fun _=>none) 0 [] []).mono
 have m2:zd2 mk:=(hk X.s_0 (fun _=>none) 0 [] []).mono
 have m3:zd2 mv:=(he X.s_0 (fun _=>none) 0 [] []).mono
 have m4:=zrp (vs:=own.map (·.2)) hi.mono bt.mg m1 m2 m3
 refine ⟨zd4 (zlV (wi:=zwX X B mi) (tt:=upT X.K X.prog X.w B t) (tk:=up X.K X.prog X.w B mk) (tv:=up X.K X.prog X.w B mv) hc hN hy hyl hsw hi.pi ok hg (fun s H C cl fp=>(hm s H C cl fp).pts) (fun s H C cl fp=>(hk s H C cl fp).pe) (fun s H C cl fp=>(he s H C cl fp).pe) hs)
  fun D σ H q=>?_,fun A B env S l q=>m4 _ _ _ _ (fun d S1 q=>l.nx _ _ q) q⟩
 obtain ⟨lB,env,S,r0,z0,q⟩:=q
 refine zs2 (B:=B) (mi:=mi) (g:=g) (t:=t) (mk:=mk) (mv:=mv) (fun _ _ _ z=>z) hi.mono bt m1 m2 m3 ⟨lB,env,S,r0,z0,m4 _ _ _ _ (fun d S1 q v H1 l z dv=>?_) q⟩
 exact q _ H1 l ((r0.le l).set dv i) z
end
section
variable {X:Cx} {B:Hp} {W:XW} {k:Nat} {f C:Addr} {fd:FuncData} {ps:List Str} {x:Str} {p pos:Pos} {e:Expr} {es:List Expr} {ma:AM}
theorem zkx {CX:CXT} {sp:Sp} {E:XK} {pins:List (Addr×Obj)} {σ:L2.St} {H:Hp} {s:Shared} {Q:VK} {us:List Value} {vs:List V} (M:Mk X.K C f) (F:FnOk X.prog X.w X.K X.mg X.base CX k f fd ps sp) (hr:Room (k+1) X.A) (hb:Binds X.K fd ps [])
  (hx:PassesAt CX X σ E) (I:Inv X pins σ H s) (r:Vals vs us)
  (h:∀ x dx,H x=none->H dx=none->dx≠x->sp (.ref x :: vs) (upd (upd H dx (.own x)) x (.ins C dx [])) (fun v H2=>v = .non∧Q (.ref x) H2) E) :
  wpAny (model X.prog X.w) X.A (call (.ref C) us) (EP X pins σ Q) X.xe s:=by
 have hq:=h (s.heap.objs.size+1) s.heap.objs.size (I.hok.fresh (Nat.le_succ _)) (I.hok.fresh (Nat.le_refl _)) (Nat.ne_of_lt (Nat.lt_succ_self _))
 have I2:=Inv.made (C:=C) I
 have r2:Vals (V.ref (s.heap.objs.size+1) :: vs) (Value.ref (s.heap.objs.size+1) :: us):=.cons rfl r
 have hl:(Value.ref (s.heap.objs.size+1) :: us).length=ps.length:=by
  have e:=r2.length
  rw [F.len _ _ _ _ hq] at e
  exact e.symm
 have hl':((Value.ref (s.heap.objs.size+1) :: us)++[]).length=ps.length:=by rw [List.append_nil];exact hl
 have hbb:=hb _ (Value.ref (s.heap.objs.size+1) :: us) I2.kIn hl'
 rw [List.append_nil] at hbb
 refine wpAny_call (make_map (f:=f) I.kIn M.makes M.init (beq_iff_eq.mp M.fn) (codeAny_mono (F.run _ X.stack _ _ ⟨Value.ref (s.heap.objs.size+1) :: us,[]⟩ (Value.ref (s.heap.objs.size+1) :: us) _ _ E (hr.make C us [])
  (I2.env0.make C us []) hbb r2 hq) fun r s' hq'=>?_))
 cases r with
 | error e=>exact hx pins _ _ e s' I2 hq'
 | ok fl=>
  cases fl with
  | ret u=>
   obtain ⟨v,H',I3,rv,ev,q3⟩:=I2.after hq'
   subst ev
   exact ⟨rv,⟨V.ref (s.heap.objs.size+1),H',I3,rfl,q3⟩⟩
  | next=>exact False.elim hq'
  | brk=>exact False.elim hq'
  | cont=>exact False.elim hq'
def ziI (C:Addr) (sp:SpD) (W:XW) (m:AM):EM:=fun env S Q=>m env S fun ds S1=>∀ p,S1 p=none->sp (.ref p :: ds) (put S1 p (.ins C [])) (fun v S2=>v = .non∧Q (.ref p) S2) fun c fs S'=>W c fs env S'
theorem zl3 {sp:SpD} {m:AM} (hs:zfa sp) (hm:zln m):zd2 (ziI C sp W m):=fun env S Q Q' i q=>hm env S _ _ (fun ds S1 q p hp=>hs _ _ _ _ _ _ (fun d S q=>⟨q.1,i _ _ q.2⟩) (fun _ _ _ h=>h) (q p hp)) q
theorem znn {sp:SpD} (hs:zfa sp) {K:PySem.W.Frag} {P:Program} {w:World} {env:Slo} {σ:L2.St} {H H1:Hp} {S1:Sto} {ds:List D} {vs:List V} {Q:VK} (lB:Le B H) (r0:zdk K H env σ) (l1:Le H H1) (z1:Rp K P w S1 H1) (d1:DVs K H1 ds vs)
  (q:∀ p,S1 p=none->sp (.ref p :: ds) (put S1 p (.ins C [])) (fun v S2=>v = .non∧dnE K P w H Q (.ref p) S2) fun c fs S'=>W c fs env S') (x dx:Addr) (hx:H1 x=none) (hdx:H1 dx=none) (hne:dx≠x) :
  zil K P w sp (.ref x :: vs) (upd (upd H1 dx (.own x)) x (.ins C dx [])) (fun v H2=>v = .non∧Q (.ref x) H2) (WE (upW K P w B W) σ):=by
 have hx2:upd H1 dx (.own x) x=none:=by rw [upd_ne (Ne.symm hne)];exact hx
 have l2:Le H1 (upd H1 dx (.own x)):=Le.new hdx
 have l3:Le (upd H1 dx (.own x)) (upd (upd H1 dx (.own x)) x (.ins C dx [])):=Le.new hx2
 have l13:=l2.trans l3
 have z3:Rp K P w (put S1 x (.ins C [])) (upd (upd H1 dx (.own x)) x (.ins C dx [])):=(z1.more hdx).new (o:=.ins C []) hx2 ⟨dx,[],upd_same,.nil⟩
 refine ⟨.ref x :: ds,_,.cons (.ref x) (d1.le l13),z3,hs _ _ _ _ _ _ (fun d S2 q v H2 l z dv=>?_) (fun c fs S' hW dd H' l z xx=>?_) (q x (z1.free hx))⟩
 ·obtain ⟨rfl,q⟩:=q
  cases dv
  exact ⟨rfl,q _ H2 ((l1.trans l13).trans l) z (.ref x)⟩
 ·exact ⟨lB.trans ((l1.trans l13).trans l),env,S',fs,r0.le ((l1.trans l13).trans l),z,xx,hW⟩
theorem zh7 {sp:SpD} (M:Mk X.K C f) (F:Fd X.prog X.w X.K X.mg X.base k f sp) (hr:Room (k+1) X.A) (tk:Tk X B W) (hm:X.mg x=some (.ref C)) (ha:MA X B (e :: es) ma) (hg:Gl X x:=by rfl)
  (hdb:(x == ("__debug__" : Str))=false:=by decide) (he:starEach (e :: es) X.env=(false,eval e X.env) :: starEach es X.env:=by rfl) (hpl:(backTo pos (starEach es X.env)).any (·.1)=false:=by rfl) :
  ME X B (.Call (.Name x p) (e :: es) [] pos) (ziI C sp W ma):=by
 obtain ⟨fd,ps,F1,b⟩:=F.ex
 refine ⟨⟨fun pins s σ H Q I h=>?_⟩,zl3 F.mono ha.mono⟩
 obtain ⟨lB,env,S,r0,z0,q⟩:=h
 refine wpAny_Call_Name_kw (ld_glob I hg hm ?_ hdb)
 refine PySem.W.callWith_K (h₀:=X.base) I.ok.mod.kin M.kp (thn (ha.pa.run pos pins s σ H (fun vs H1=>∀ x dx,H1 x=none->H1 dx=none->dx≠x->zil X.K X.prog X.w sp (.ref x :: vs) (upd (upd H1 dx (.own x)) x (.ins C dx [])) (fun v H2=>v = .non∧Q (.ref x) H2) (WE (upW X.K X.prog X.w B W) σ)) I ⟨lB,env,S,r0,z0,ha.mono env S _ _ (fun ds S1 q vs H1 l1 z1 d1=>?_) q⟩) fun us s1 ⟨vs,H1,I1,r,q⟩=>⟨I1.kIn,?_⟩) he hpl
 ·exact znn F.mono lB r0 l1 z1 d1 q
 ·exact zkx M F1 hr b (passAt tk σ) I1 r q
end
def hitsD (S:Sto) (kb:List (Key×D)):List (Key×D)->Option Bool
 | []=>some true
 | (k,v) :: r=>match valD kb k with
  | none=>some false
  | some u=>match rs S 40 v,rs S 40 u,hitsD S kb r with
   | some p,some q,some b=>some (PyData.eqv p q && b)
   | _,_,_=>none
def zyA (S:Sto) (d e:D):Option Bool:=match d,e with
 | .ref a,.ref b=>match S a,S b with
  | some (.dic ka),some (.dic kb)=>if ka.length=kb.length then hitsD S kb ka else some false
  | _,_=>none
 | _,_=>none
def zyO (g:Bool->Bool):BM:=fun d e S Q=>match zyA S d e with
 | some b=>Q (.bl (g b)) S
 | none=>zio g d e S Q
section
variable {X:Cx}
end
theorem ziP {k:Nat} {A:Around} (hr:Room k A):A.units+65 < cLine:=by have:=hr.un;omega
theorem zcN {k:Nat} {A:Around} (hr:Room k A):A.units+64 < cLine:=by have:=hr.un;omega
theorem hu1 {k:Nat} {A:Around} (hr:Room k A):A.units+1 < cLine:=by have:=hr.un;omega
abbrev zlo:BM:=vI0 fun i j=>.int (i - j)
abbrev zlp:BM:=vI (fun _ j=>0 < j) fun i j=>.int (i % j)
abbrev zhM:BM:=vI CDivW fun i j=>.int (i / j)
abbrev zpv:BM:=vI CPow fun i j=>.int (i ^ j.toNat)
abbrev zsd:CM:=vI1 fun i=>.int (if i < 0 then -i else i)
abbrev vInt:CM:=vI1 fun i=>.int i
abbrev zsc:CM:=vI2 fun i j=>.int (if j > i then j else i)
abbrev zyH:CM:=vI2 fun i j=>.int (if j < i then j else i)
section
variable {X:Cx} {B:Hp} {pos:Pos}
theorem zdY {x:Str} {n:String} (hm:X.mg x=none) (hv:bootBuiltins x=some (.type n)) (hg:Gl X x:=by rfl) (hn:x ≠ "__name__" := by decide) (hd:(x == ("__debug__" : Str))=false:=by decide):ME X B (.Name x pos) (mC (.ty n)):=
 zph (pe_bltn (v:=.ty n) hg hm hv rfl hn hd) fun _=>.ty n
end
theorem zkb {P:Program} {w:World} {K:PySem.W.Frag} {mg:Str->Option Value} {base:Heap} {k:Nat} {f:Addr} {fd:FuncData} {ps:List Str} (b:Binds K fd ps []) (kp:PySem.W.keepIn K (.ref f)=true):Fd P w K mg base k f (fun _ _ _ _=>False):=
 ⟨⟨fd,ps,⟨fun vs H Q E h=>(by obtain ⟨_,_,_,_,z⟩:=h;exact z.elim),fun A outer s H args us vs Q E _ _ _ _ h=>(by obtain ⟨_,_,_,_,z⟩:=h;exact z.elim)⟩,b⟩,kp,fun _ _ _ _ _ _ _ _ h=>h⟩
structure Tx (fa:List He.Fa) (fn:List He.DefD) (K:PySem.W.Frag) (mg:Str->Option Value):Prop where
 ex:∃ h:Heap,K.In h∧h.Ns mainGlobals mg∧He.SaysD fa fn K
section
variable {fa:List He.Fa} {fn:List He.DefD} {K:PySem.W.Frag} {mg:Str->Option Value}
theorem Tx.glo (T:Tx fa fn K mg) (i:Nat) {x:Str} (h:fa[i]? = some (.glo x):=by rfl):mg x=some (.ref (He.ga K x)):=by
 obtain ⟨_,X,G,c⟩:=T.ex
 exact He.glo_ok X G (c.fact i h)
theorem Tx.free (T:Tx fa fn K mg) (i:Nat) {x:Str} (h:fa[i]? = some (.free x):=by rfl):mg x=none:=by
 obtain ⟨_,X,G,c⟩:=T.ex
 exact He.free_ok X G (c.fact i h)
theorem Tx.int (T:Tx fa fn K mg) (i:Nat) {x:Str} {n:Int} (h:fa[i]? = some (.int x n):=by rfl):∃ t,mg x=some (.int n t):=by
 obtain ⟨_,X,G,c⟩:=T.ex
 exact He.int_ok X G (c.fact i h)
theorem Tx.cls (T:Tx fa fn K mg) (i:Nat) {x:Str} (h:fa[i]? = some (.cls x):=by rfl):Cls K (He.ga K x):=by
 obtain ⟨_,X,G,c⟩:=T.ex
 exact He.cls_ok (c.fact i h)
theorem Tx.noat (T:Tx fa fn K mg) (i:Nat) {x f:Str} (h:fa[i]? = some (.noat x f):=by rfl):NoAttr K (He.ga K x) f:=by
 obtain ⟨_,X,G,c⟩:=T.ex
 exact He.noat_ok (c.fact i h)
theorem Tx.meth (T:Tx fa fn K mg) (i:Nat) {x m:Str} (h:fa[i]? = some (.meth x m):=by rfl):Meth K (He.ga K x) m (He.ma K (He.ga K x) m):=by
 obtain ⟨_,X,G,c⟩:=T.ex
 exact He.meth_ok (c.fact i h)
theorem Tx.mkr (T:Tx fa fn K mg) (i:Nat) {x:Str} (h:fa[i]? = some (.mkr x):=by rfl):Mk K (He.ga K x) (He.ma K (He.ga K x) "__init__"):=by
 obtain ⟨_,X,G,c⟩:=T.ex
 exact He.mkr_ok (c.fact i h)
theorem Tx.df (T:Tx fa fn K mg) (i:Nat) {d:He.DefD} (h:fn[i]? = some d:=by rfl):∃ fd,FunD K d.name d.qual d.params d.body d.scope (d.dvs K) (d.kws K) (He.fAd K d.at_) fd:=by
 obtain ⟨_,X,G,c⟩:=T.ex
 exact c.def_ i h
end
section
variable {env:Slo} {S:Sto} {Q:DQ} {A:Fin} {m n:SM} {me mf mg' ma mb:EM} {g:GM} {t u:TM} {r:BM} {c:CM} {ms:AM} {d e:D} {TQ:Bool->Sto->Prop} {AQ:List D->Sto->Prop} {a:Addr} {x:D} {i j k:Nat} {K:PySem.W.Frag} {W:XW} {sp:SpD} {C:Addr} {f:Str}
theorem zfh (h:m { A with nx:=n A } env S):zav m n A env S:=h
def zoQ (g:GM) (env:Slo) (A:Fin):DQ:=fun d S1=>g d env S1 A.nx
theorem s_asg (h:me env S (zoQ g env A)):zaN me g A env S:=h
theorem znS (h:A.nx (env.set i (some d)) S):zoQ (gNm i) env A d S:=h
theorem zqJ (h:g d env S A.nx):zoQ g env A d S:=h
def kIf (m n:SM) (A:Fin) (env:Slo):Bool->Sto->Prop:=fun b S1=>match b with
 | true=>m A env S1
 | false=>n A env S1
theorem s_if (h:t env S (kIf m n A env)):mIf t m n A env S:=h
theorem zxc (h:m A env S):kIf m n A env true S:=h
theorem ztD (h:n A env S):kIf m n A env false S:=h
theorem zeq {p:Prop} {_:Decidable p} (h1:p->m A env S) (h2:¬ p->n A env S):kIf m n A env (decide p) S:=by
 by_cases q:p
 ·rw [decide_eq_true q];exact h1 q
 ·rw [decide_eq_false q];exact h2 q
theorem zfi {b:Bool} (h1:b=true->m A env S) (h2:b=false->n A env S):kIf m n A env b S:=by
 cases b
 ·exact h2 rfl
 ·exact h1 rfl
theorem zvm (h:A.nx env S):mNx A env S:=h
theorem zt5 (h:A.bk env S):zvt A env S:=h
theorem zt4 (h:A.ct env S):zvs A env S:=h
theorem s_ret (h:me env S A.rt):zbg me A env S:=h
theorem zpN (h:A.rt .non S):zrx A env S:=h
def zmk (env:Slo) (A:Fin):DQ:=fun _ S1=>A.nx env S1
theorem s_drop (h:me env S (zmk env A)):zcn me A env S:=h
theorem znL (h:A.nx env S):zmk env A d S:=h
def zoP (i:Nat) (d:D) (r:BM) (env:Slo) (A:Fin):DQ:=fun y S1=>r d y S1 fun z S2=>A.nx (env.set i (some z)) S2
theorem s_aug (e0:env[i]? = some (some d)) (h:me env S (zoP i d r env A)):zm9 i me r A env S:=by
 unfold zm9
 rw [e0]
 exact h
def zk7 (i:Nat) (env:Slo) (A:Fin):DQ:=fun z S2=>A.nx (env.set i (some z)) S2
theorem znR (h:r d x S (zk7 i env A)):zoP i d r env A x S:=h
theorem znQ (h:A.nx (env.set i (some d)) S):zk7 i env A d S:=h
def zpk (a:Addr) (i:Int) (env:Slo) (A:Fin):DQ:=fun z S5=>match zlB S5 (.ref a) (.int i) z with
 | some S6=>A.nx env S6
 | none=>False
def zrX (a:Addr) (i:Int) (x:D) (r:BM) (env:Slo) (A:Fin):DQ:=fun y S4=>r x y S4 (zpk a i env A)
def zux (a:Addr) (i:Int) (me:EM) (r:BM) (env:Slo) (A:Fin):DQ:=fun x S3=>me env S3 (zrX a i x r env A)
theorem zn9 {v:Nat} {z:Int} (e0:env[v]? = some (some (.ref a))) (hz:0≤z) (h:vIx (.ref a) (.int z) S (zux a z me r env A)):zj5 (zag v) (mC (.int z)) me r A env S:=by
 unfold zj5 zag mC
 rw [e0]
 exact ⟨trivial,hz,h⟩
theorem zqM {z:Int} (h:me env S (zrX a z x r env A)):zux a z me r env A x S:=h
theorem zqL {z:Int} (h:r d x S (zpk a z env A)):zrX a z d r env A x S:=h
theorem zqK {z:Int} {xs:List D} (e0:S a=some (.lst xs)) (ei:ixN xs.length z=some j) (h:A.nx env (put S a (.lst (xs.set j d)))):zpk a z env A d S:=by
 unfold zpk zlB
 simp only [e0,ei]
 exact h
def kFor (g:GM) (m:SM) (A:Fin) (env:Slo):List D->(Sto->Prop)->Sto->Prop:=fun xs G S1=>forL g m G A xs env S1
theorem zq2 {mi:IM} (h:mi env S (kFor g m A env)):zfA mi g m A env S:=h
theorem zmJ {xs:List D} {G:Sto->Prop} (h:forL g m G A xs env S):kFor g m A env xs G S:=h
def zk6 (R:List D->(Sto->Prop)->Sto->Prop):DQ:=fun d S1=>match d with
 | .tp _ xs=>R xs (fun _=>True) S1
 | .rol xs=>R xs (fun _=>True) S1
 | .str x=>R (zkf x) (fun _=>True) S1
 | .ref a=>match S1 a with
  | some (.lst xs)=>R xs (fun S=>S a=some (.lst xs)) S1
  | _=>False
 | _=>False
variable {R:List D->(Sto->Prop)->Sto->Prop} {xs ys:List D} {fl fl':Bool}
theorem zqT (h:me env S (zk6 R)):ziV me env S R:=h
theorem zny (h:R xs (fun _=>True) S):zk6 R (.tp fl xs) S:=h
theorem znA (h:R xs (fun _=>True) S):zk6 R (.rol xs) S:=h
theorem znz {x:Str} (h:R (zkf x) (fun _=>True) S):zk6 R (.str x) S:=h
theorem znB (e0:S a=some (.lst xs)) (h:R xs (fun S=>S a=some (.lst xs)) S):zk6 R (.ref a) S:=by
 unfold zk6
 simp only [e0]
 exact h
def kR1 (R:List D->(Sto->Prop)->Sto->Prop):List D->Sto->Prop:=fun ds S1=>match ds with
 | [.int j]=>-(2 ^ 62)≤j∧j < 2 ^ 62∧R (zi3 0 j.toNat) (fun _=>True) S1
 | _=>False
theorem ztU (h:ms env S (kR1 R)):zcw ms env S R:=h
theorem zho {j:Int} (h1:-(2 ^ 62)≤j) (h2:j < 2 ^ 62) (h:R (zi3 0 j.toNat) (fun _=>True) S):kR1 R [.int j] S:=⟨h1,h2,h⟩
def kEn (R:List D->(Sto->Prop)->Sto->Prop):List D->Sto->Prop:=fun ds S1=>match ds with
 | [.tp _ xs]=>R (zhs 0 xs) (fun _=>True) S1
 | [.rol xs]=>R (zhs 0 xs) (fun _=>True) S1
 | [.ref a]=>match S1 a with
  | some (.lst xs)=>R (zhs 0 xs) (fun S=>S a=some (.lst xs)) S1
  | _=>False
 | _=>False
theorem ztW (h:ms env S (kEn R)):zfm ms env S R:=h
theorem zmK (h:R (zhs 0 xs) (fun _=>True) S):kEn R [.tp fl xs] S:=h
theorem zmL (e0:S a=some (.lst xs)) (h:R (zhs 0 xs) (fun S=>S a=some (.lst xs)) S):kEn R [.ref a] S:=by
 unfold kEn
 simp only [e0]
 exact h
def kZi (R:List D->(Sto->Prop)->Sto->Prop):List D->Sto->Prop:=fun ds S1=>match ds with
 | [.tp _ xs,.tp _ ys]=>R (List.zipWith (fun x y=>.tup [x,y]) xs ys) (fun _=>True) S1
 | _=>False
theorem ztS (h:ms env S (kZi R)):zrZ ms env S R:=h
theorem ztw (h:R (List.zipWith (fun x y=>.tup [x,y]) xs ys) (fun _=>True) S):kZi R [.tp fl xs,.tp fl' ys] S:=h
variable {NQ:Slo->Sto->Prop} {gs:GsM}
theorem zgJ (h:NQ (env.set i (some d)) S):gNm i d env S NQ:=h
theorem zxf (hl:xs.length=k) (h:gs xs env S NQ):gT k gs (.tp fl xs) env S NQ:=⟨hl,h⟩
def kgC (gs:GsM) (xs:List D) (NQ:Slo->Sto->Prop):Slo->Sto->Prop:=fun env' S'=>gs xs env' S' NQ
theorem zxh (h:g d env S (kgC gs xs NQ)):gC g gs (d :: xs) env S NQ:=h
theorem ztv (h:gs xs env S NQ):kgC gs xs NQ env S:=h
theorem zxg (h:NQ env S):gN [] env S NQ:=h
def zna (d o:D) (env:Slo) (NQ:Slo->Sto->Prop):DQ:=fun i S2=>match zlB S2 o i d with
 | some S3=>NQ env S3
 | none=>False
def zsp (d:D) (mi:EM) (env:Slo) (NQ:Slo->Sto->Prop):DQ:=fun o S1=>mi env S1 (zna d o env NQ)
theorem ztZ {mo mi:EM} (h:mo env S (zsp d mi env NQ)):gIx mo mi d env S NQ:=h
theorem zp6 {mi:EM} (h:mi env S (zna d e env NQ)):zsp d mi env NQ e S:=h
theorem zp5 {z:Int} (e0:S a=some (.lst xs)) (ei:ixN xs.length z=some j) (h:NQ env (put S a (.lst (xs.set j d)))):zna d (.ref a) env NQ (.int z) S:=by
 unfold zna zlB
 simp only [e0,ei]
 exact h
theorem zgk {kvs:List (Key×D)} {kk:Key} (e0:S a=some (.dic kvs)) (ek:keyD e=some kk) (hl:kvs.length < sizeLine) (h:NQ env (put S a (.dic (putD kvs kk d)))):zna d (.ref a) env NQ e S:=by
 unfold zna zlB
 simp only [e0,ek,hl,if_true]
 exact h
theorem zta (e0:env[i]? = some (some d)) (h:Q d S):zag i env S Q:=by
 unfold zag
 rw [e0]
 exact h
theorem s_C (h:Q d S):mC d env S Q:=h
def zmh (r:BM) (x:D) (Q:DQ):DQ:=fun y S2=>r x y S2 Q
def zsy (r:BM) (mb:EM) (env:Slo) (Q:DQ):DQ:=fun x S1=>mb env S1 (zmh r x Q)
theorem zxa (h:ma env S (zsy r mb env Q)):mOp r ma mb env S Q:=h
theorem zqp (h:mb env S (zmh r d Q)):zsy r mb env Q d S:=h
theorem zqo (h:r d e S Q):zmh r d Q e S:=h
theorem s_B (h:me env S (kB TQ)):mB me env S TQ:=h
theorem zxe {b:Bool} (h:TQ b S):kB TQ (.bl b) S:=h
def zoO (TQ:Bool->Sto->Prop):DQ:=fun d S1=>match zse S1 d with
 | some b=>TQ b S1
 | none=>False
theorem ztc (h:me env S (zoO TQ)):zev me env S TQ:=h
def znd (u:TM) (env:Slo) (TQ:Bool->Sto->Prop):Bool->Sto->Prop:=fun c S1=>match c with
 | true=>u env S1 TQ
 | false=>TQ false S1
def kOr (u:TM) (env:Slo) (TQ:Bool->Sto->Prop):Bool->Sto->Prop:=fun c S1=>match c with
 | true=>TQ true S1
 | false=>u env S1 TQ
def zsz (TQ:Bool->Sto->Prop):Bool->Sto->Prop:=fun c S1=>TQ (!c) S1
theorem zt6 (h:t env S (znd u env TQ)):zj6 t u env S TQ:=h
theorem zw9 (h:t env S (kOr u env TQ)):mOr t u env S TQ:=h
theorem ztk (h:t env S (zsz TQ)):zeX t env S TQ:=h
theorem zqq {b:Bool} (h:TQ (!b) S):zsz TQ b S:=h
theorem znU (h:u env S TQ):znd u env TQ true S:=h
theorem znV (h:TQ false S):znd u env TQ false S:=h
theorem zqm (h:TQ true S):kOr u env TQ true S:=h
theorem zqn (h:u env S TQ):kOr u env TQ false S:=h
theorem zbp {b:Bool} (h1:b=true->u env S TQ) (h2:b=false->TQ false S):znd u env TQ b S:=by
 cases b
 ·exact h2 rfl
 ·exact h1 rfl
theorem zeC {b:Bool} (h1:b=true->TQ true S) (h2:b=false->u env S TQ):kOr u env TQ b S:=by
 cases b
 ·exact h2 rfl
 ·exact h1 rfl
def ziM (mb:EM) (env:Slo) (Q:DQ):Bool->Sto->Prop:=fun c S1=>match c with
 | true=>mb env S1 Q
 | false=>Q (.bl false) S1
def znb (mb:EM) (env:Slo) (Q:DQ):Bool->Sto->Prop:=fun c S1=>match c with
 | true=>Q (.bl true) S1
 | false=>mb env S1 Q
def zmi (Q:DQ):Bool->Sto->Prop:=fun c S1=>Q (.bl (!c)) S1
theorem zra (h:ma env S (kB (ziM mb env Q))):zg9 ma mb env S Q:=h
theorem ztj (h:ma env S (kB (znb mb env Q))):zsk ma mb env S Q:=h
theorem zpQ (h:ma env S (kB (zmi Q))):zmb ma env S Q:=h
theorem znG {b:Bool} (h:Q (.bl (!b)) S):zmi Q b S:=h
theorem zlK (h:mb env S Q):ziM mb env Q true S:=h
theorem zlL (h:Q (.bl false) S):ziM mb env Q false S:=h
theorem znE (h:Q (.bl true) S):znb mb env Q true S:=h
theorem znF (h:mb env S Q):znb mb env Q false S:=h
theorem zb1 {b:Bool} (h1:b=true->mb env S Q) (h2:b=false->Q (.bl false) S):ziM mb env Q b S:=by
 cases b
 ·exact h2 rfl
 ·exact h1 rfl
theorem zcQ {b:Bool} (h1:b=true->Q (.bl true) S) (h2:b=false->mb env S Q):znb mb env Q b S:=by
 cases b
 ·exact h2 rfl
 ·exact h1 rfl
def znc (ma mb:EM) (env:Slo) (Q:DQ):Bool->Sto->Prop:=fun c S1=>match c with
 | true=>ma env S1 Q
 | false=>mb env S1 Q
theorem ztR (h:t env S (znc ma mb env Q)):zoI t ma mb env S Q:=h
theorem znJ (h:ma env S Q):znc ma mb env Q true S:=h
theorem znK (h:mb env S Q):znc ma mb env Q false S:=h
theorem zcR {b:Bool} (h1:b=true->ma env S Q) (h2:b=false->mb env S Q):znc ma mb env Q b S:=by
 cases b
 ·exact h2 rfl
 ·exact h1 rfl
def zmm (r':BM) (y:D) (mc:EM) (env:Slo) (Q:DQ):Bool->Sto->Prop:=fun k S3=>match k with
 | true=>mc env S3 (zmh r' y Q)
 | false=>Q (.bl false) S3
def zrW (r r':BM) (x:D) (mc:EM) (env:Slo) (Q:DQ):DQ:=fun y S2=>r x y S2 (kB (zmm r' y mc env Q))
def zsK (r r':BM) (mb mc:EM) (env:Slo) (Q:DQ):DQ:=fun x S1=>mb env S1 (zrW r r' x mc env Q)
variable {r':BM} {mc:EM}
theorem zn5 (h:ma env S (zsK r r' mb mc env Q)):zgt r r' ma mb mc env S Q:=h
theorem zqH (h:mb env S (zrW r r' d mc env Q)):zsK r r' mb mc env Q d S:=h
theorem zqG (h:r d e S (kB (zmm r' e mc env Q))):zrW r r' d mc env Q e S:=h
theorem znN (h:mc env S (zmh r' d Q)):zmm r' d mc env Q true S:=h
theorem znO (h:Q (.bl false) S):zmm r' d mc env Q false S:=h
theorem zcS {b:Bool} (h1:b=true->mc env S (zmh r' d Q)) (h2:b=false->Q (.bl false) S):zmm r' d mc env Q b S:=by
 cases b
 ·exact h2 rfl
 ·exact h1 rfl
theorem ztm (h:AQ [] S):zal env S AQ:=h
def kC2 (d:D) (AQ:List D->Sto->Prop):List D->Sto->Prop:=fun ds S2=>AQ (d :: ds) S2
def kC1 (ms:AM) (env:Slo) (AQ:List D->Sto->Prop):DQ:=fun d S1=>ms env S1 (kC2 d AQ)
theorem zq7 (h:me env S (kC1 ms env AQ)):zac me ms env S AQ:=h
theorem ztI (h:ms env S (kC2 d AQ)):kC1 ms env AQ d S:=h
theorem ztH (h:AQ (d :: xs) S):kC2 d AQ xs S:=h
def kCB (c:CM) (Q:DQ):List D->Sto->Prop:=fun ds S1=>c ds S1 Q
theorem zxk (h:ms env S (kCB c Q)):mCB c ms env S Q:=h
theorem ztG (h:c xs S Q):kCB c Q xs S:=h
def kSp (sp:SpD) (W:XW) (env:Slo) (Q:DQ):List D->Sto->Prop:=fun ds S1=>sp ds S1 Q fun c fs S'=>W c fs env S'
theorem s_call (h:ms env S (kSp sp W env Q)):zas sp W ms env S Q:=h
theorem zty (h:sp xs S Q fun c fs S'=>W c fs env S'):kSp sp W env Q xs S:=h
def kMk (C:Addr) (sp:SpD) (W:XW) (env:Slo) (Q:DQ):List D->Sto->Prop:=fun ds S1=>∀ p,S1 p=none->sp (.ref p :: ds) (put S1 p (.ins C [])) (fun v S2=>v = .non∧Q (.ref p) S2) fun c fs S'=>W c fs env S'
theorem zpW (h:ms env S (kMk C sp W env Q)):ziI C sp W ms env S Q:=h
theorem ztB (h:∀ p,S p=none->sp (.ref p :: xs) (put S p (.ins C [])) (fun v S2=>v = .non∧Q (.ref p) S2) fun c fs S'=>W c fs env S'):kMk C sp W env Q xs S:=h
end
section
variable {env:Slo} {S:Sto} {Q:DQ} {A:Fin} {me mo ma mb:EM} {ms:AM} {d e x:D} {AQ:List D->Sto->Prop} {a C:Addr} {K:PySem.W.Frag} {W:XW} {sp:SpD} {f:Str} {fl:Bool} {xs ys:List D} {fs:List (Str×D)} {kvs:List (Key×D)} {kk:Key}
def kTup (Q:DQ):List D->Sto->Prop:=fun ds S1=>Q (.tup ds) S1
theorem zp7 (h:Q (.tup xs) S):kTup Q xs S:=h
def zus (sp:SpD) (W:XW) (a:Addr) (env:Slo) (Q:DQ):List D->Sto->Prop:=fun ds S2=>sp (.ref a :: ds) S2 Q fun c fs S'=>W c fs env S'
def zrT (C:Addr) (f:Str) (sp:SpD) (W:XW) (ms:AM) (env:Slo) (Q:DQ):DQ:=fun d S1=>match d with
 | .ref a=>match S1 a with
  | some (.ins C' fs)=>C'=C∧fs.lookup f=none∧ms env S1 fun ds S2=>sp (.ref a :: ds) S2 Q fun c fs S'=>W c fs env S'
  | _=>False
 | _=>False
theorem zpV (h:mo env S (zrT C f sp W ms env Q)):zew C f sp W mo ms env S Q:=h
theorem zqw (e0:S a=some (.ins C fs)) (el:fs.lookup f=none) (h:ms env S (zus sp W a env Q)):zrT C f sp W ms env Q (.ref a) S:=by
 unfold zrT
 simp only [e0]
 exact ⟨trivial,el,h⟩
theorem zqv (h:sp (.ref a :: xs) S Q fun c fs S'=>W c fs env S'):zus sp W a env Q xs S:=h
def zrU (K:PySem.W.Frag) (f:Str) (Q:DQ):DQ:=fun d S1=>match d with
 | .ref a=>match S1 a with
  | some (.ins C fs)=>match fs.lookup f with
   | some v=>FOk K C f∧Q v S1
   | none=>False
  | _=>False
 | _=>False
theorem zt0 (h:me env S (zrU K f Q)):zj4 K me f env S Q:=h
theorem zqD (e0:S a=some (.ins C fs)) (el:fs.lookup f=some d) (ok:FOk K C f) (h:Q d S):zrU K f Q (.ref a) S:=by
 unfold zrU
 simp only [e0,el]
 exact ⟨ok,h⟩
def zrL (K:PySem.W.Frag) (f:Str) (y:D) (env:Slo) (A:Fin):DQ:=fun d S2=>match d with
 | .ref a=>match S2 a with
  | some (.ins C fs)=>FOk K C f∧fs.length < 1000∧A.nx env (put S2 a (.ins C (zeP f y fs)))
  | _=>False
 | _=>False
def zsr (K:PySem.W.Frag) (f:Str) (mo:EM) (env:Slo) (A:Fin):DQ:=fun y S1=>mo env S1 (zrL K f y env A)
theorem zpK (h:me env S (zsr K f mo env A)):zfX K mo me f A env S:=h
theorem zqb (h:mo env S (zrL K f d env A)):zsr K f mo env A d S:=h
theorem zeN (e0:S a=some (.ins C fs)) (ok:FOk K C f) (hl:fs.length < 1000) (h:A.nx env (put S a (.ins C (zeP f d fs)))):zrL K f d env A (.ref a) S:=by
 unfold zrL
 simp only [e0]
 exact ⟨ok,hl,h⟩
theorem ztJ {z:Int} (e0:atI xs z=some d) (h:Q d S):vIx (.tp fl xs) (.int z) S Q:=by
 unfold vIx
 simp only [e0]
 exact h
theorem ztL {z:Int} (e0:atI xs z=some d) (h:Q d S):vIx (.rol xs) (.int z) S Q:=by
 unfold vIx
 simp only [e0]
 exact h
theorem ztK {x:Str} {z:Int} {c:Nat} (e0:atI x.cps.toList z=some c) (h:Q (.str ⟨#[c]⟩) S):vIx (.str x) (.int z) S Q:=by
 unfold vIx
 simp only [e0]
 exact h
theorem zis {z:Int} (e0:S a=some (.lst xs)) (e1:atI xs z=some d) (h:Q d S):vIx (.ref a) (.int z) S Q:=by
 unfold vIx
 simp only [e0,e1]
 exact h
theorem ztM (e0:S a=some (.dic kvs)) (ek:keyD e=some kk) (e1:valD kvs kk=some d) (h:Q d S):vIx (.ref a) e S Q:=by
 unfold vIx
 cases e <;> simp_all
theorem zrb {i j:Int} (h:Q (.int (i+j)) S):zbK (.int i) (.int j) S Q:=h
theorem znY {i j:Int} (h:Q (.int (i+j)) S):ziZ (.int i) (.int j) S Q:=h
theorem ztd {i j:Int} (h:Q (.int (i - j)) S):zlo (.int i) (.int j) S Q:=h
theorem ztn {i j:Int} (hj:0 < j) (h:Q (.int (i % j)) S):zlp (.int i) (.int j) S Q:=⟨hj,h⟩
theorem zq3 {i j:Int} (hj:CDivW i j) (h:Q (.int (i / j)) S):zhM (.int i) (.int j) S Q:=⟨hj,h⟩
theorem zti {i j:Int} (hj:CPow i j) (h:Q (.int (i ^ j.toNat)) S):zpv (.int i) (.int j) S Q:=⟨hj,h⟩
theorem zpT {i j:Int} (hj:CMul i j) (h:Q (.int (i * j)) S):zjL (.int i) (.int j) S Q:=⟨hj,h⟩
theorem ztq {i j:Int} (h:Q (.bl (decide (i < j))) S):vLt (.int i) (.int j) S Q:=h
theorem ztt {i j:Int} (h:Q (.bl (decide (i≤j))) S):vLe (.int i) (.int j) S Q:=h
theorem zt8 {i:Int} (h:Q (.int (if i < 0 then -i else i)) S):zsd [.int i] S Q:=h
theorem ztO {i:Int} (h:Q (.int i) S):vInt [.int i] S Q:=h
theorem ztp {i j:Int} (h:Q (.int (if j > i then j else i)) S):zsc [.int i,.int j] S Q:=h
theorem zt1 {g:Bool->Bool} {i j:Str} (h:Q (.bl (g (decide (i=j)))) S):zio g (.str i) (.str j) S Q:=h
theorem zt2 {g:Bool->Bool} {i j:Int} (h:Q (.bl (g (decide (i=j)))) S):zio g (.int i) (.int j) S Q:=h
theorem zt3 {g:Bool->Bool} {i j:Bool} (h:Q (.bl (g (decide (i=j)))) S):zio g (.bl i) (.bl j) S Q:=h
theorem zp2 {n:Nat} (e0:zrG S d=some n) (h:Q (.int n) S):zcZ [d] S Q:=by
 unfold zcZ
 simp only [e0]
 exact h
theorem zmI (e0:zlC S d=some xs) (h:∀ p,S p=none->Q (.ref p) (put S p (.lst xs))):zfN [d] S Q:=by
 unfold zfN
 simp only [e0]
 exact h
theorem zkt (e0:zlC S d=some xs) (h:Q (.tp (zmu d) xs) S):zdz [d] S Q:=by
 unfold zdz
 simp only [e0]
 exact h
theorem ztX {i j:Int} (h:Q (.bl (decide (j < i))) S):vGt (.int i) (.int j) S Q:=h
theorem ztY {i j:Int} (h:Q (.bl (decide (j≤i))) S):vGe (.int i) (.int j) S Q:=h
theorem zts {i j:Str} (h:Q (.bl (!decide (j.cps.toList < i.cps.toList))) S):vLe (.str i) (.str j) S Q:=h
def kTp (Q:DQ):List D->Sto->Prop:=fun ds S1=>ds.length≤sizeLine∧Q (.tup ds) S1
def kLs (Q:DQ):List D->Sto->Prop:=fun ds S1=>ds.length≤sizeLine∧∀ p,S1 p=none->Q (.ref p) (put S1 p (.lst ds))
theorem ztb (h:ms env S (kTp Q)):zbW ms env S Q:=h
theorem zaL (hl:xs.length≤sizeLine) (h:Q (.tup xs) S):kTp Q xs S:=⟨hl,h⟩
theorem ztr (h:ms env S (kLs Q)):zhk ms env S Q:=h
theorem zdX (hl:xs.length≤sizeLine) (h:∀ p,S p=none->Q (.ref p) (put S p (.lst xs))):kLs Q xs S:=⟨hl,h⟩
theorem zkw {x y:Str} (hl:x.length+y.length≤sizeLine) (h:Q (.str (x++y)) S):zbK (.str x) (.str y) S Q:=⟨hl,h⟩
theorem zc1 (hl:xs.length+ys.length≤sizeLine) (h:Q (.tup (xs++ys)) S):zbK (.tup xs) (.tup ys) S Q:=⟨rfl,hl,h⟩
theorem zdN {b:Addr} (e0:S a=some (.lst xs)) (e1:S b=some (.lst ys)) (hl:xs.length+ys.length≤sizeLine) (h:∀ p,S p=none->Q (.ref p) (put S p (.lst (xs++ys)))):zbK (.ref a) (.ref b) S Q:=by
 unfold zbK
 simp only [e0,e1]
 exact ⟨hl,h⟩
def zsC (r:MM) (d:D) (Q:DQ):List D->Sto->Prop:=fun ds S2=>r d ds S2 Q
def zsD (ok:D->Sto->Prop) (r:MM) (ms:AM) (env:Slo) (Q:DQ):DQ:=fun d S1=>ok d S1∧ms env S1 (zsC r d Q)
variable {ok:D->Sto->Prop} {rm:MM}
theorem zto (h:mo env S (zsD ok rm ms env Q)):zgP ok rm mo ms env S Q:=h
theorem znH (e0:S a=some (.lst xs)) (h:ms env S (zsC rm (.ref a) Q)):zsD okL rm ms env Q (.ref a) S:=by
 refine ⟨?_,h⟩
 unfold okL
 simp only [e0]
theorem zqu (h:rm d xs S Q):zsC rm d Q xs S:=h
theorem s_app (e0:S a=some (.lst xs)) (hl:xs.length < sizeLine) (h:Q .non (put S a (.lst (xs++[d])))):zhV (.ref a) [d] S Q:=by
 unfold zhV
 simp only [e0]
 exact ⟨hl,h⟩
def zpj (d k:D) (Q:DQ):DQ:=fun z S3=>match d with
 | .ref a=>match S3 a,keyD k with
  | some (.dic kvs),some kk=>Q ((valD kvs kk).getD z) S3
  | _,_=>False
 | _=>False
def zsH (d:D) (mx:EM) (env:Slo) (Q:DQ):DQ:=fun k S2=>mx env S2 (zpj d k Q)
def zsI (mk mx:EM) (env:Slo) (Q:DQ):DQ:=fun d S1=>zrl d S1∧mk env S1 (zsH d mx env Q)
variable {mk mx:EM}
theorem zqW (h:mo env S (zsI mk mx env Q)):zrC mo mk mx env S Q:=h
theorem zqB (e0:S a=some (.dic kvs)) (h:mk env S (zsH (.ref a) mx env Q)):zsI mk mx env Q (.ref a) S:=by
 refine ⟨?_,h⟩
 unfold zrl
 simp only [e0]
theorem zqA (h:mx env S (zpj d e Q)):zsH d mx env Q e S:=h
theorem zqz (e0:S a=some (.dic kvs)) (ek:keyD e=some kk) (h:Q ((valD kvs kk).getD d) S):zpj (.ref a) e Q d S:=by
 unfold zpj
 simp only [e0,ek]
 exact h
def zrP (x y:D) (PQ:List (D×D)->Sto->Prop):List (D×D)->Sto->Prop:=fun ps S3=>PQ ((x,y) :: ps) S3
def zrO (x:D) (r:List (EM×EM)) (env:Slo) (PQ:List (D×D)->Sto->Prop):DQ:=fun y S2=>mPs r env S2 (zrP x y PQ)
def zsx (mv:EM) (r:List (EM×EM)) (env:Slo) (PQ:List (D×D)->Sto->Prop):DQ:=fun x S1=>mv env S1 (zrO x r env PQ)
variable {PQ:List (D×D)->Sto->Prop} {mps:List (EM×EM)} {ps:List (D×D)}
theorem zth (h:ma env S (zsx mb mps env PQ)):mPs ((ma,mb) :: mps) env S PQ:=h
theorem ztg (h:PQ [] S):mPs [] env S PQ:=h
theorem zqk (h:mb env S (zrO d mps env PQ)):zsx mb mps env PQ d S:=h
theorem zqj (h:mPs mps env S (zrP d e PQ)):zrO d mps env PQ e S:=h
theorem zql (h:PQ ((d,e) :: ps) S):zrP d e PQ ps S:=h
def kDi (p:Addr) (Q:DQ):List (D×D)->Sto->Prop:=fun ps S2=>match zj9 ps with
 | some kvs=>S2 p=some (.dic [])∧kvs.length≤15∧Q (.ref p) (put S2 p (.dic (zdR [] kvs)))
 | none=>False
theorem zq5 (h:∀ p,S p=none->mPs mps env (put S p (.dic [])) (kDi p Q)):zoJ mps env S Q:=h
theorem ztE (e0:zj9 ps=some kvs) (e1:S a=some (.dic [])) (hl:kvs.length≤15) (h:Q (.ref a) (put S a (.dic (zdR [] kvs)))):kDi a Q ps S:=by
 unfold kDi
 simp only [e0]
 exact ⟨e1,hl,h⟩
theorem zpL (h:∀ p,S p=none->Q (.ref p) (put S p (.set (fun _=>false) 0))):znj [] S Q:=h
theorem zq6 (e0:S a=some (.dic kvs)) (h:∀ p,S p=none->Q (.ref p) (put S p (.dic kvs))):zjM [.ref a] S Q:=by
 unfold zjM
 simp only [e0]
 exact h
def zsM (d:D) (Q:DQ):List D->Sto->Prop:=fun ds S2=>match d,ds with
 | .ref a,[y]=>match S2 a,keyD y with
  | some (.set f n),some k=>n+1 < scanBound∧Q .non (put S2 a (.set (fun j=>f j || decide (j=k)) (if f k=true then n else n+1)))
  | _,_=>False
 | _,_=>False
def zsN (ms:AM) (env:Slo) (Q:DQ):DQ:=fun d S1=>okS d S1∧ms env S1 (zsM d Q)
theorem zt7 (h:mo env S (zsN ms env Q)):zsl mo ms env S Q:=h
theorem zqO {fu:Key->Bool} {n:Nat} (e0:S a=some (.set fu n)) (h:ms env S (zsM (.ref a) Q)):zsN ms env Q (.ref a) S:=by
 refine ⟨?_,h⟩
 unfold okS
 simp only [e0]
theorem zqN {fu:Key->Bool} {n:Nat} (e0:S a=some (.set fu n)) (ek:keyD d=some kk) (hn:n+1 < scanBound) (h:Q .non (put S a (.set (fun j=>fu j || decide (j=kk)) (if fu kk=true then n else n+1)))):zsM (.ref a) Q [d] S:=by
 unfold zsM
 simp only [e0,ek]
 exact ⟨hn,h⟩
theorem ztQ {g:Bool->Bool} (e0:S a=some (.dic kvs)) (ek:keyD d=some kk) (h:Q (.bl (g (valD kvs kk).isSome)) S):zhl g d (.ref a) S Q:=by
 unfold zhl
 simp only [e0,ek]
 exact h
theorem znW {g:Bool->Bool} {fu:Key->Bool} {n:Nat} (e0:S a=some (.set fu n)) (ek:keyD d=some kk) (h:Q (.bl (g (fu kk))) S):zhl g d (.ref a) S Q:=by
 unfold zhl
 simp only [e0,ek]
 exact h
theorem znX {g:Bool->Bool} {p:PyData} {qs:List PyData} (e0:S a=some (.lst xs)) (e1:rs S 40 d=some p) (e2:rs S 40 (.ref a)=some (.list qs)) (h:Q (.bl (g (qs.any fun z=>PyData.eqv z p))) S):zhl g d (.ref a) S Q:=by
 unfold zhl
 simp only [e0,e1,e2]
 exact h
theorem zgX {g:Bool->Bool} {p:PyData} {qs:List PyData} (e1:rs S 40 d=some p) (e2:rs S 40 (.tp fl xs)=some (.tuple qs)) (h:Q (.bl (g (qs.any fun z=>PyData.eqv z p))) S):zhl g d (.tp fl xs) S Q:=by
 unfold zhl
 simp only [e1,e2]
 exact h
theorem ztN {g:Bool->Bool} (h:Q (.bl (g true)) S):znl g .non .non S Q:=h
theorem zjR {ty:String} {b:String} {c:Bool} (e0:tyD S d=some ty) (e1:zne ty b=some c) (h:Q (.bl c) S):zfM [d,.ty b] S Q:=by
 unfold zfM
 simp only [e0,e1]
 exact h
def zrJ (d:D) (l:Option Int) (Q:DQ):Option Int->Sto->Prop:=fun h S3=>vSl d l h S3 Q
def zrK (d:D) (hi:OM) (env:Slo) (Q:DQ):Option Int->Sto->Prop:=fun l S2=>hi env S2 (zrJ d l Q)
def zsq (lo hi:OM) (env:Slo) (Q:DQ):DQ:=fun d S1=>lo env S1 (zrK d hi env Q)
variable {lo hi:OM} {OQ:Option Int->Sto->Prop} {l h':Option Int}
theorem zw8 (h:me env S (zsq lo hi env Q)):mSl me lo hi env S Q:=h
theorem zqa (h:lo env S (zrK d hi env Q)):zsq lo hi env Q d S:=h
theorem zp9 (h:hi env S (zrJ d l Q)):zrK d hi env Q l S:=h
theorem zp8 (h:vSl d l h' S Q):zrJ d l Q h' S:=h
theorem ztl (h:OQ none S):ziH env S OQ:=h
def kP (OQ:Option Int->Sto->Prop):DQ:=fun d S1=>match d with
 | .int i=>OQ (some i) S1
 | _=>False
theorem s_P (h:me env S (kP OQ)):mP me env S OQ:=h
theorem zxd {i:Int} (h:OQ (some i) S):kP OQ (.int i) S:=h
theorem zpI (h:Q (.tup (cutD xs l h')) S):vSl (.tup xs) l h' S Q:=⟨rfl,h⟩
theorem zte (h:∀ p,S p=none->Q (.ref p) (put S p (.lst (cutD xs l h')))):vSl (.rol xs) l h' S Q:=h
theorem zgI (e0:S a=some (.lst xs)) (h:∀ p,S p=none->Q (.ref p) (put S p (.lst (cutD xs l h')))):vSl (.ref a) l h' S Q:=by
 unfold vSl
 simp only [e0]
 exact h
variable {g:GM} {t:TM} {G:Sto->Prop} {mi:IM} {vs:List Nat}
def kLc (g:GM) (t:TM) (me:EM) (vs:List Nat) (env:Slo) (Q:DQ):List D->(Sto->Prop)->Sto->Prop:=fun xs G S1=>∀ p,S1 p=none->lcL g t me G p Q (zdV env vs) xs (put S1 p (.lst []))
theorem zxb (h:mi env S (kLc g t me vs env Q)):mLc mi g t me vs env S Q:=h
theorem ztC (h:∀ p,S p=none->lcL g t me G p Q (zdV env vs) xs (put S p (.lst []))):kLc g t me vs env Q xs G S:=h
def kDc (g:GM) (t:TM) (mk mb:EM) (vs:List Nat) (env:Slo) (Q:DQ):List D->(Sto->Prop)->Sto->Prop:=fun xs G S1=>∀ p,S1 p=none->dcL g t mk mb G p Q (zdV env vs) xs (put S1 p (.dic []))
theorem zxj (h:mi env S (kDc g t mk mb vs env Q)):mDc mi g t mk mb vs env S Q:=h
theorem ztF (h:∀ p,S p=none->dcL g t mk mb G p Q (zdV env vs) xs (put S p (.dic []))):kDc g t mk mb vs env Q xs G S:=h
theorem zp0 (e0:S a=some (.lst xs)) (h:Q (.int xs.length) S):zcZ [.ref a] S Q:=zp2 (n:=xs.length) (by unfold zrG;simp only [e0]) h
theorem zp1 (e0:S a=some (.dic kvs)) (h:Q (.int kvs.length) S):zcZ [.ref a] S Q:=zp2 (n:=kvs.length) (by unfold zrG;simp only [e0]) h
theorem zpX (h:Q (.int xs.length) S):zcZ [.tp fl xs] S Q:=h
theorem zpZ (h:Q (.int xs.length) S):zcZ [.rol xs] S Q:=h
theorem zpY {x:Str} (h:Q (.int x.length) S):zcZ [.str x] S Q:=h
theorem zhQ (e0:S a=some (.lst xs)) (h:∀ p,S p=none->Q (.ref p) (put S p (.lst xs))):zfN [.ref a] S Q:=zmI (by unfold zlC;simp only [e0]) h
theorem zi0 (h:∀ p,S p=none->Q (.ref p) (put S p (.lst xs))):zfN [.tp fl xs] S Q:=zmI rfl h
theorem zlF (e0:S a=some (.lst xs)) (h:Q (.tup xs) S):zdz [.ref a] S Q:=zkt (by unfold zlC;simp only [e0]) h
theorem zlE (h:Q (.tup xs) S):zdz [.tup xs] S Q:=zkt rfl h
theorem zqP {b:String} {c:Bool} (e1:zne "tuple" b=some c) (h:Q (.bl c) S):zfM [.tp fl xs,.ty b] S Q:=zjR rfl e1 h
theorem zqQ {x:Str} {b:String} {c:Bool} (e1:zne "str" b=some c) (h:Q (.bl c) S):zfM [.str x,.ty b] S Q:=zjR rfl e1 h
theorem zqR {b:String} {c:Bool} (e0:S a=some (.lst xs)) (e1:zne "list" b=some c) (h:Q (.bl c) S):zfM [.ref a,.ty b] S Q:=zjR (by unfold tyD;simp only [e0]) e1 h
theorem znx {TQ:Bool->Sto->Prop} {b:Bool} (h:TQ b S):zoO TQ (.bl b) S:=h
end
structure zsW (N P:List Str) (sc:Scope):Prop where
 kind:sc.kind = .function
 co:sc.isCoroutine=false
 gen:sc.isGenerator=false
 nd:N.Nodup
 pre:N.take P.length=P
 par:∀ x∈P,sc.names.lookup x=some .local
 nocell:∀ y∈sc.names,y.2≠.cell
 free:∀ y∈sc.names,y.2 = .free->y.1 = "__class__"
 cls:sc.names.lookup ("__class__" : Str)=some .free
 sup:sc.names.lookup ("super" : Str)=some .globalImplicit
abbrev ziq (qual:Str) (scope:Scope) (L f:Addr) (cd:Value) (cc:Addr):Env:=PySem.W.ksEnv qual scope L f cd cc
def cxS (P:Program) (w:World) (K:PySem.W.Frag) (mg:Str->Option Value) (base:Heap) (N:List Str) (qual:Str) (scope:Scope) (f:Addr) (cd:Value) (cc:Addr) (A:Around) (outer:List Env) (s:Shared) (H:Hp) (E:XK):Cx where
 prog:=P
 w:=w
 K:=K
 mg:=mg
 base:=base
 A:=A.deeper (ziq qual scope s.heap.objs.size f cd cc)
 N:=N
 s_0:=s
 H_0:=H
 env:=ziq qual scope s.heap.objs.size f cd cc
 outer:=outer
 stack:=ziq qual scope s.heap.objs.size f cd cc :: outer
 ex:=[]
 calm:=true
 fn:=fun x=>!(x == ("__class__" : Str))
 pn:=[]
 xe:=fun e s'=>wpAny (model P w) (A.deeper (ziq qual scope s.heap.objs.size f cd cc)) (leaving (ziq qual scope s.heap.objs.size f cd cc) e) (fun _ s''=>L2.CX P w outer H s E e s'') (fun e' s''=>L2.CX P w outer H s E e' s'') s'
def zy2 (C:Addr) (sp:SpD) (W:XW) (ma:AM):EM:=fun env S Q=>zag 0 env S fun d S1=>match d with
 | .ref a=>(match S1 a with
  | some (.ins C' _)=>C'=C∧ma env S1 fun ds S2=>sp (.ref a :: ds) S2 Q fun c fs S'=>W c fs env S'
  | _=>False)
 | _=>False
structure zvb (env:Env) (p0 p1 pa pos pe:Pos) (e:Expr) (es:List Expr) (pl:Sem Bool):Prop where
 hi:interactive env=false
 hs:swapsWith (.Call (.Attribute (.Call (.Name "super" p0) [] [] p1) "__init__" pa) (e :: es) [] pos) none pe.line env=pure false
 he:eval (.Call (.Attribute (.Call (.Name "super" p0) [] [] p1) "__init__" pa) (e :: es) [] pos) env=(do
   let ov ← attributeBase (.Call (.Name "super" p0) [] [] p1) "__init__" env (eval (.Call (.Name "super" p0) [] [] p1) env)
   standAt pa.atName
   let (f,first) ← holding [ov] (getMethod ov "__init__" pl)
   callWith pos f first (backTo pos (starEach (e :: es) env)) [])
 st:starEach (e :: es) env=(false,eval e env) :: starEach es env
 pl_:(backTo pos (starEach es env)).any (·.1)=false
def zug (n:Nat) (fa:List He.Fa) (fn:List He.DefD) (su:List SuD) (file:Str) (g:Addr->Option Obj):AlS:=zpg fa fn su file (He.frG g (He.asD g n++[cStatics]))
def zyw (n:Nat) (fa:List He.Fa) (fn:List He.DefD) (su:List SuD) (file:Str):PySem.W.Hook where
 α:=AlS
 obs:=fun s=>zug n fa fn su file s.heap.get?
 val:=fun _=>zpf fn su
 says:=fun _ h=>∃ K:PySem.W.Frag,K.In h∧zpg fa fn su file K=zpf fn su
 of:=fun _ _ e=>⟨_,He.frG_in,e⟩
 keeps:=fun _ _ _ ⟨K,hK,c⟩ k=>⟨K,hK.keeps k,c⟩
structure Ty (fa:List He.Fa) (fn:List He.DefD) (su:List SuD) (file:Str) (K:PySem.W.Frag) (mg:Str->Option Value):Prop extends Tx fa fn K mg where
 say:zpg fa fn su file K=zpf fn su
theorem Ty.mk' {fa:List He.Fa} {fn:List He.DefD} {su:List SuD} {file:Str} {K:PySem.W.Frag} {mg:Str->Option Value} {h:Heap} (X:K.In h) (G:h.Ns mainGlobals mg) (c:zpg fa fn su file K=zpf fn su):Ty fa fn su file K mg:=
 ⟨⟨h,X,G,congrArg (fun z:AlS=>z.1) c⟩,c⟩
theorem Ty.su {fa:List He.Fa} {fn:List He.DefD} {su:List SuD} {file:Str} {K:PySem.W.Frag} {mg:Str->Option Value} (T:Ty fa fn su file K mg) (i:Nat) {d:SuD} (h:su[i]? = some d:=by rfl):zwU file K d:=by
 have c1:(su.all fun d=>d.ok file K)=true:=congrArg (fun z:AlS=>z.2.1) T.say
 have c2:(su.map fun d=>suW K (d.f K))=su.map SuD.val:=congrArg (fun z:AlS=>z.2.2) T.say
 have e2:(su.map fun d=>suW K (d.f K))[i]? = (su.map SuD.val)[i]?:=by rw [c2]
 rw [List.getElem?_map,List.getElem?_map,h] at e2
 exact SuD.get (Option.some.inj e2) (List.all_eq_true.mp c1 d (List.mem_of_getElem? h))
theorem zom {P:Program} {w:World} {K:PySem.W.Frag} {mg:Str->Option Value} {base:Heap} {x qual:Str} {params:Arguments} {body:List Stmt} {scope:Scope} {dvs:List V} {kws:List (Str×V)} {f:Addr} {fd:FuncData} {N ps:List Str} {k n m:Nat} {b:XW->SM} (F:FunD K x qual params body scope dvs kws f fd) (S:FnScope N ps scope)
  (hn:ps.length=n) (hN:N.length=n+m)
  (hb:∀ (cdv:Value) (A:Around) (outer:List Env) (s:Shared) (H:Hp) (E:XK),Room k (A.deeper (envOfC qual scope s.heap.objs.size f cdv))->∀ (X:Cx) (eX:X=cxOf (L2.CX P w) P w K mg base N qual scope f cdv A outer s H E) (W:XW),Tk X H W->PassesOwn (model X.prog X.w) X.A X.env X.xe->MSs X H body (b W)):FnOk P w K mg base (L2.CX P w) (k+1) f fd ps (zil K P w (spB n m b)):=by
 refine F.ok S (fun vs H Q E h=>?_) (fun cdv A outer s H vs Q E hr h=>?_)
 ·obtain ⟨ds,S0,h1,h2,Q0,E0,_,_,h3,_⟩:=h
  rw [← h1.length,h3,hn]
 ·obtain ⟨ds,S0,h1,h2,Q0,E0,i1,i2,h3,h4⟩:=h
  have tk0:Takes (cxOf (L2.CX P w) P w K mg base N qual scope f cdv A outer s H E) (fun cls d _ H=>E cls d H):=takes_of rfl rfl rfl rfl
  have tk:Tk (cxOf (L2.CX P w) P w K mg base N qual scope f cdv A outer s H E) H (fun c fs _ S'=>E0 c fs S'):=tk0.imp fun c d σ H' z=>by
   obtain ⟨l,env,S',fs,_,z1,z2,z3⟩:=z
   exact i2 _ _ _ z3 d H' l z1 z2
  have Z:=hb cdv A outer s H E hr _ rfl _ tk (passes_of rfl)
  refine ⟨_,Z.ps,Le.refl H,_,S0,zhb h1 (by rw [h3];exact hN),h2,Z.mono.go h4 ⟨fun e S' q σ H' l r z=>?_,fun d S' q v H' l z dv=>i1 _ _ q v H' l z dv,fun _ _ q=>q.elim,fun _ _ q=>q.elim⟩⟩
  exact i1 _ _ q _ H' l z .non
theorem zjD {K:PySem.W.Frag} {H:Hp}:∀ ns:List Int,DVs K H (ns.map D.int) (ns.map V.int)
 | []=>.nil
 | n :: ns=>.cons (.int n) (zjD ns)
theorem walk_of {l:PySem.W.OpenLaw} {n k:Nat} {q:Program} {loose:List Str} {XP:(Str->Option Value)->Heap->Prop} {YP:World->Heap->Prop} {d:DefRec} {x:Str} (hn:l.most=some n) (hz:n≤sizeLine)
  (hdf:d.params.defaults=[]) (hr:Room k callerA)
  (F:∀ (w:World) (mg:Str->Option Value) (fa:Addr) (h:Heap),YP w h->h.Ns mainGlobals mg->mg d.name=some (.ref fa)->∃ (K:PySem.W.Frag) (fd:FuncData) (sp:SpD),K.In h∧(∀ (s:Shared) (u:Value),BindsTo s fd ⟨[u],[]⟩ [(x,u)])∧
   (∀ ns:List Int,ns.length≤n->∀ (S:Sto) (Q:DQ) (E:XQ),(∀ S',Q (.bl true) S')->sp [.rol (ns.map D.int)] S Q E)∧∀ base:Heap,FnOk l.prog w K mg base (L2.CX l.prog w) k fa fd [x] (zil K l.prog w sp)) :
  PySem.W.WalkO q loose XP YP l.row.toRowW d [] (fun f vs=>PySem.call f vs):=by
 refine Att.attach_call hn hdf ?_
 intro w t0 t1 mg mb fa ob pm cd doc a vs ns ground hY hob hdt hcode hname hlist hare hmost hgens
 obtain ⟨K,fd,sp,kin,hb,hsp,hf⟩:=F w mg fa _ hY ground.T.g hname
 refine law_call kin ground.T.g ground.T.b ground.T.builtins ground.T.nolimit hgens hlist hare (Nat.le_trans hmost hz) hr (fun base _ _=>hf base) hb (fun H hO hS=>?_) fun H e s' hc=>?_
 ·refine ⟨[.rol (ns.map D.int)],fun _=>none,.cons (.rol (RoL.of hO hS) (zjD ns)) .nil,fun b o e=>(by cases e),hsp ns hmost _ _ _ fun S' v H' _ _ dv=>?_⟩
  cases dv
  rfl
 ·obtain ⟨_,_,_,_,_,_,_,_,_,_,_,_,z⟩:=hc
  exact z
structure ClH where
 c:Value
 i:Nat
 ts:Addr->Value->Option Addr->TS
def zrj (i:Nat) (D:Ends):Ends where
 nx:=fun σ H=>D.nx (σ.set i none) H
 rt:=D.rt
 bk:=fun σ H=>D.bk (σ.set i none) H
 ct:=fun σ H=>D.ct (σ.set i none) H
def wCl (K:PySem.W.Frag) (Wout:WX) (D:Ends):List ClH->WX
 | []=>Wout
 | q :: r=>fun cls d σ H=>∃ b,PySem.W.exmOne K cls q.c=some b∧(b=true->∀ a,H a=none->q.ts a cls d (zrj q.i D) (σ.set q.i (some (.ref a))) H)∧(b=false->wCl K Wout D r cls d σ H)
inductive ClOk (X:Cx):List ExceptHandler->List ClH->Prop
 | nil:ClOk X [] []
 | cons {x n:Str} {q:ClH} {st0:Stmt} {rest:List Stmt} {p1 p2:Pos} {hds:List ExceptHandler} {l:List ClH} (hi:X.N[q.i]? = some n) (hl:X.env.kindOf n=some .local) (hc:Names X x q.c)
   (hsu:∀ (a:Addr) (oe:Obj) (cls:Value) (d:Option Addr) (pn:List (Addr×Obj)),Zc cls d oe->(∃ vs,oe.data = .fields vs)->PSs (X.suite a ((a,oe) :: pn)) (st0 :: rest) (q.ts a cls d)) (r:ClOk X hds l) :
   ClOk X (.ExceptHandler (some (.Name x p1)) (some n) (st0 :: rest) p2 :: hds) (q :: l)
section
variable {X:Cx} {bd:List Stmt} {c0:ExceptHandler} {cs:List ExceptHandler} {l:List ClH} {pos:Pos} {tb:WX->TS} {Wout:WX}
theorem zjZ (hst:X.stack=X.env :: X.outer) (hfr:X.env.frame=some X.env.locals) (hN:X.N.Nodup) (tk:Takes X Wout)
  (hb:∀ (W:WX) (pn:List (Addr×Obj)) (xe:Value->Shared->Prop),Takes (X.tr pn xe) W->PassesOwn (model X.prog X.w) X.A X.env xe->PSs (X.tr pn xe) bd (tb W)) (hcl:ClOk X (c0 :: cs) l) :
  PS X (.Try bd (c0 :: cs) [] [] pos) (fun D σ H=>tb (wCl X.K Wout D l) D σ H):=by
 refine ⟨fun pins s0 σ0 H0 D I0 q0=>?_⟩
 have okX:=I0.ok
 have frX:X.A.frames=some (X.env :: X.outer):=okX.frames.trans (congrArg some hst)
 have body:=hb (wCl X.K Wout D l) (X.pn++pins) (fun e s₁=>wpAny (model X.prog X.w) X.A (noteFrame e X.env) (fun _ s₂=>wpAny (model X.prog X.w) X.A (setFlight e none) (fun _ s₃=>wpAny (model X.prog X.w) X.A (handleBy e X.env (c0 :: cs)) (SP X pins D) X.xe s₃) X.xe s₂) X.xe s₁) ?air PassesOwn.looking
 case air=>
  intro uu t ⟨a,B,sI,pins',σ1,H1,cls,d,eu,JI,nb,up,sky,na,eos,abg,wish⟩
  subst eu
  have J:=JI.ofTry okX
  refine Sky.land Zc.steady frX hfr (by rw [← hst];exact sky) fun g3 air3 up3=>?_
  have J3:Inv X pins σ1 H1 { t with heap:=g3 }:=J.landed nb air3.1 (up.trans up3) eos abg
  obtain ⟨o3,v3,at3,z3,dt3⟩:=air3.there
  have off:a∉frs (X.env :: X.outer):=fun hm=>by
   obtain ⟨_,o',e',hnf⟩:=air3.2.2.1.mem hm
   rw [at3] at e'
   cases e'
   exact hnf _ dt3
  have offL:a≠X.env.locals:=fun z=>off (List.mem_filterMap.mpr ⟨X.env,List.mem_cons_self,hfr.trans (congrArg some z.symm)⟩)
  have offF:a∉X.fs:=fun hm=>by
   obtain ⟨e,he,q⟩:=List.mem_filterMap.mp hm
   exact off (List.mem_filterMap.mpr ⟨e,List.mem_cons_of_mem _ he,q⟩)
  have inS:=J3.suite at3 dt3 na offL offF
  have each:∀ {hds:List ExceptHandler} {l':List ClH},ClOk X hds l'->wCl X.K Wout D l' cls d σ1 H1->wpAny (model X.prog X.w) X.A (handleBy (.ref a) X.env hds) (SP X pins D) X.xe { t with heap:=g3 }:=by
   intro hds l' hk
   induction hk with
   | nil=>
    intro wo
    refine wpAny_handleBy_nil ?_
    obtain ⟨_,_,_,oz,vz,Tz,_,_,atz,_,dtz,h1z,_⟩:=id air3
    unfold PySem.passOn
    refine wpAny_bind (wpAny_field atz dtz h1z ?_)
    rw [if_neg (by simp:¬ ((Value.ref Tz == Value.none)=true))]
    have out:wpAny (model X.prog X.w) X.A (setFlight (.ref a) X.env.frame) (fun _ s4=>wpAny (model X.prog X.w) X.A (throw (.ref a):Sem Flow) (SP X pins D) X.xe s4) X.xe { t with heap:=g3 }:=by
     rw [hfr]
     exact HandSPX.setFlight_upZ air3 fun g4 hg4 up4=>wpAny_throw (tk _ _ ⟨a,B,sI,pins,σ1,H1,cls,d,rfl,J,nb,(up.trans up3).trans up4,.inr (.inr (by rw [hst];exact hg4)),na,eos,abg,wo⟩)
    first
     | exact wpAny_bind (wpAny_pure (wpAny_bind out))
     | exact wpAny_bind out
   | @cons x n q st0 rest p1 p2 hds2 l2 hi hln hc hsu _ ih=>
    rintro ⟨b,hb1,yes,no⟩
    refine wpAny_handleBy_cons (codeAny_handlers_test ?_) (fun z=>by cases z)
    have isC:PySem.W.Looks (model X.prog X.w) g3 (typeOf (.ref a)) cls:=fun _ _ _ _ k w=>wpAny_typeOf_ref (k _ _ at3) (by rw [z3.1];exact w)
    have look:=PySem.W.exm_one (M:=model X.prog X.w) J3.kIn isC hb1
    have named:∀ {Q:Value->Shared->Prop} {E:Value->Shared->Prop},Q q.c { t with heap:=g3 }->wpAny (model X.prog X.w) (X.A.mark (some (.ref a))) (eval (.Name x p1) X.env) Q E { t with heap:=g3 }:=fun {Q E} w=>by
     rcases hc with ⟨c1,c2,c3 | ⟨c3,c4,c5⟩⟩
     ·exact ld_glob (X:=X.suite a ((a,o3) :: (X.pn++pins))) inS c1 c3 w c2
     ·exact ld_blt (X:=X.suite a ((a,o3) :: (X.pn++pins))) inS c1 c3 c4 w c5 c2
    refine named (look.here ?_)
    cases b with
    | false=>
     show wpAny _ X.A (handleBy (.ref a) X.env hds2) _ _ _
     exact ih (no rfl)
    | true=>
     refine codeAny_handlers_suite_as (HandSPX.lands_againZ air3 fun g4 air4 up4=>?_)
     have J4:Inv X pins σ1 H1 { t with heap:=g4 }:=J.landed nb air4.1 ((up.trans up3).trans up4) eos abg
     obtain ⟨o4,v4,at4,z4,dt4⟩:=air4.there
     refine store_ok (X:=X.suite a ((a,o4) :: (X.pn++pins))) (v:=.ref a) (J4.suite at4 dt4 na offL offF) hN hi (.inl hln) rfl (fun s5 S5=>?_) (.inr hln)
     refine wpAny_mono ((hsu a o4 cls d (X.pn++pins) z4 ⟨_,dt4⟩).run [] s5 _ H1 _ S5 (yes rfl a na)) (fun fl s6 hs6=>?_) (fun _ _ z=>z.elim)
     have fin:∀ {σ6:L2.St} {H6:Hp} {Q:Shared->Prop},Inv (X.suite a ((a,o4) :: (X.pn++pins))) [] σ6 H6 s6->(∀ s7,Inv X pins (σ6.set q.i none) H6 s7->Q s7)->wpAny (model X.prog X.w) X.A (do bindName X.env n .none;unbindBehindTheSuite X.env n p2) (fun _ s7=>Q s7) X.xe s6:=fun S6 hq=>gone_ok (S6.unsuite okX) hN hi hln hq
     cases fl with
     | next=>obtain ⟨_,_,S6,w6⟩:=hs6;exact fin S6 fun s7 J7=>⟨_,_,J7,w6⟩
     | brk=>obtain ⟨_,_,S6,w6⟩:=hs6;exact fin S6 fun s7 J7=>⟨_,_,J7,w6⟩
     | cont=>obtain ⟨_,_,S6,w6⟩:=hs6;exact fin S6 fun s7 J7=>⟨_,_,J7,w6⟩
     | ret u=>obtain ⟨_,_,_,S6,r6,w6⟩:=hs6;exact fin S6 fun s7 J7=>⟨_,_,_,J7,r6,w6⟩
  exact each hcl wish
 refine wpAny_Try_except (wpAny_mono (body.run [] s0 σ0 H0 D (I0.toTry _) q0) (fun fl s1 hs1=>?_) (fun _ _ z=>z))
 cases fl with
 | next=>obtain ⟨_,_,J,w⟩:=hs1;exact wpAny_execs_nil ⟨_,_,J.ofTry okX,w⟩
 | brk=>obtain ⟨_,_,J,w⟩:=hs1;exact ⟨_,_,J.ofTry okX,w⟩
 | cont=>obtain ⟨_,_,J,w⟩:=hs1;exact ⟨_,_,J.ofTry okX,w⟩
 | ret u=>obtain ⟨_,_,_,J,r,w⟩:=hs1;exact ⟨_,_,_,J.ofTry okX,r,w⟩
end
abbrev SuM:=Addr->Value->List (Str×D)->SM
structure Cl where
 C:Addr
 i:Nat
 su:SuM
def zoV (i:Nat) (A:Fin):Fin:={ nx:=fun e s=>A.nx (e.set i none) s,rt:=A.rt,bk:=fun e s=>A.bk (e.set i none) s,ct:=fun e s=>A.ct (e.set i none) s }
def zmH (K:PySem.W.Frag) (W:XW) (A:Fin):List Cl->XW
 | []=>W
 | q :: r=>fun c fs env S=>∃ b,PySem.W.exmOne K c (.ref q.C)=some b∧(b=true->∀ a,S a=none->q.su a c fs (zoV q.i A) (env.set q.i (some (.ref a))) S)∧(b=false->zmH K W A r c fs env S)
def zsj (K:PySem.W.Frag) (b:XW->SM) (l:List Cl) (W:XW):SM:=fun A env S=>∃ A0,zeg A0 A∧b (zmH K W A0 l) A0 env S
theorem zeg.trans {A B C:Fin} (h:zeg A B) (h':zeg B C):zeg A C:=⟨fun e S q=>h'.nx e S (h.nx e S q),fun e S q=>h'.rt e S (h.rt e S q),fun e S q=>h'.bk e S (h.bk e S q),fun e S q=>h'.ct e S (h.ct e S q)⟩
def tSu (K:PySem.W.Frag) (P:Program) (w:World) (su:SuM):Addr->Value->Option Addr->TS:=fun a cls d D' σ H=>∃ (fs:List (Str×D)) (A1:Fin) (env:Slo) (S:Sto),XdR K H d fs∧zeg A1 (dnF K P w H D')∧zdk K H env σ∧Rp K P w S H∧su a cls fs A1 env S
inductive HdM (X:Cx):List ExceptHandler->List Cl->Prop
 | nil:HdM X [] []
 | cons {x n:Str} {q:Cl} {st0:Stmt} {rest:List Stmt} {p1 p2:Pos} {hds:List ExceptHandler} {l:List Cl} (hi:X.N[q.i]? = some n) (hl:X.env.kindOf n=some .local) (hc:Names X x (.ref q.C))
   (hsu:∀ (a:Addr) (oe:Obj) (cls:Value) (d:Option Addr) (pn:List (Addr×Obj)),Zc cls d oe->(∃ vs,oe.data = .fields vs)->∀ (fs:List (Str×D)) (B':Hp),XdR X.K B' d fs->MSs (X.suite a ((a,oe) :: pn)) B' (st0 :: rest) (q.su a cls fs)) (r:HdM X hds l) :
   HdM X (.ExceptHandler (some (.Name x p1)) (some n) (st0 :: rest) p2 :: hds) (q :: l)
section
variable {X:Cx} {B:Hp} {W:XW}
theorem HdM.ok {hds:List ExceptHandler} {l:List Cl} (h:HdM X hds l):ClOk X hds (l.map fun q=>⟨.ref q.C,q.i,tSu X.K X.prog X.w q.su⟩):=by
 induction h with
 | nil=>exact .nil
 | cons hi hl hc hsu _ ih=>
  refine .cons hi hl hc (fun a oe cls d pn hz hf=>⟨fun pins s σ H D' I z=>?_⟩) ih
  obtain ⟨fs,A1,env,S,xd,le,er,rp,q⟩:=z
  have M:=hsu a oe cls d pn hz hf fs H xd
  exact M.ps.run pins s σ H D' I ⟨Le.refl H,env,S,er,rp,M.mono _ _ _ _ le q⟩
theorem zkk {K:PySem.W.Frag} {P:Program} {w:World} {H:Hp} {D':Ends} {A0:Fin} (le:zeg A0 (dnF K P w H D')) (lB:Le B H):∀ (l:List Cl) {cls:Value} {d:Option Addr} {σ:L2.St} {H1:Hp} {env:Slo} {S:Sto} {fs:List (Str×D)},Le H H1->zdk K H1 env σ->Rp K P w S H1->XdR K H1 d fs->zmH K W A0 l cls fs env S ->
  wCl K (upW K P w B W) D' (l.map fun q=>⟨.ref q.C,q.i,tSu K P w q.su⟩) cls d σ H1
 | [],cls,d,σ,H1,env,S,fs,l1,er,rp,xd,q=>⟨lB.trans l1,env,S,fs,er,rp,xd,q⟩
 | c :: l,cls,d,σ,H1,env,S,fs,l1,er,rp,xd,q=>by
  obtain ⟨b,hb,yes,no⟩:=q
  refine ⟨b,hb,fun e a na=>?_,fun e=>zkk le lB l l1 er rp xd (no e)⟩
  refine ⟨fs,_,_,S,xd,?_,er.set (.ref a) c.i,rp,yes e a (rp.free na)⟩
  exact ⟨fun e s q σ' H' l' r z=>le.nx _ _ q _ H' (l1.trans l') (r.unset c.i) z,fun x s q v H' l' z dv=>le.rt _ _ q v H' (l1.trans l') z dv,fun e s q σ' H' l' r z=>le.bk _ _ q _ H' (l1.trans l') (r.unset c.i) z,fun e s q σ' H' l' r z=>le.ct _ _ q _ H' (l1.trans l') (r.unset c.i) z⟩
theorem zmU {bd:List Stmt} {c0:ExceptHandler} {cs:List ExceptHandler} {l:List Cl} {pos:Pos} {b:XW->SM} (hst:X.stack=X.env :: X.outer) (hfr:X.env.frame=some X.env.locals) (hN:X.N.Nodup) (tk:Tk X B W)
  (hb:∀ (B':Hp) (W':XW) (pn:List (Addr×Obj)) (xe:Value->Shared->Prop),Tk (X.tr pn xe) B' W'->PassesOwn (model X.prog X.w) X.A X.env xe->MSs (X.tr pn xe) B' bd (b W')) (hcl:HdM X (c0 :: cs) l) :
  MS X B (.Try bd (c0 :: cs) [] [] pos) (zsj X.K b l W):=by
 refine ⟨zd4 (zjZ (tb:=fun WW D' σ H=>∃ (W':XW) (A0:Fin) (env:Slo) (S:Sto),(∀ cls d σ' H',upW X.K X.prog X.w H W' cls d σ' H'->WW cls d σ' H')∧zeg A0 (dnF X.K X.prog X.w H D')∧zdk X.K H env σ∧Rp X.K X.prog X.w S H∧b W' A0 env S) hst hfr hN tk (fun WW pn xe tk' po=>⟨fun pins s σ H D' I z=>?_⟩) hcl.ok) fun D' σ H q=>?_,fun A A' env S le q=>?_⟩
 ·obtain ⟨W',A0,env,S,imp,le,er,rp,q⟩:=z
  have M:=hb H W' pn xe (tk'.imp imp) po
  exact M.ps.run pins s σ H D' I ⟨Le.refl H,env,S,er,rp,M.mono _ _ _ _ le q⟩
 ·obtain ⟨lB,env,S,er,rp,A0,le,q⟩:=q
  refine ⟨zmH X.K W A0 l,A0,env,S,fun cls d σ' H' z=>?_,le,er,rp,q⟩
  obtain ⟨l1,env',S',fs,er',rp',xd,hw⟩:=z
  exact zkk le lB l l1 er' rp' xd hw
 ·obtain ⟨A0,le0,q⟩:=q
  exact ⟨A0,le0.trans le,q⟩
def mXf (i:Nat) (C a:Addr) (cls:Value) (fs:List (Str×D)) (f:Str):EM:=fun env S Q=>zag i env S fun x S1=>x = .ref a∧cls = .ref C∧match fs.lookup f with
 | some v=>Q v S1
 | none=>False
theorem ziG {i:Nat} {env:Slo} {S:Sto} {Q Q':DQ} (h:∀ d S,Q d S->Q' d S) (q:zag i env S Q):zag i env S Q':=by
 unfold zag at q ⊢
 split at q
 ·exact h _ _ q
 ·exact q.elim
theorem zoE {a C:Addr} {oe:Obj} {cls:Value} {d:Option Addr} {pn:List (Addr×Obj)} {e:Expr} {i:Nat} {f:Str} {pos:Pos} {fs:List (Str×D)} {B':Hp} (T:XfC X.K C) (hno:PySem.W.findIn X.K (.ref C) f=some none) (hz:Zc cls d oe) (hf:∃ vs,oe.data = .fields vs)
  (xd:XdR X.K B' d fs) (he:ME (X.suite a ((a,oe) :: pn)) B' e (zag i)) (hb:attributeBase e f X.env (eval e X.env)=eval e X.env:=by rfl):ME (X.suite a ((a,oe) :: pn)) B' (.Attribute e f pos) (mXf i C a cls fs f):=by
 refine ⟨zbu (pe_xf T hno hz hf he.pe hb) fun σ H Q q=>?_,fun env S Q Q' h q=>ziG (fun x S1 z=>?_) q⟩
 ·obtain ⟨lB,env,S,er,rp,q⟩:=q
  refine ⟨lB,env,S,er,rp,ziG (fun x S1 z v H1 l1 z1 dv=>?_) q⟩
  obtain ⟨ex,ec,hm⟩:=z
  subst ex
  cases dv
  refine ⟨rfl,ec,?_⟩
  split at hm
  ·rename_i y ey
   cases d with
   | none=>
    have e0:fs=[]:=xd
    subst e0
    cases ey
   | some dd=>
    obtain ⟨vs,e1,kv⟩:=xd
    obtain ⟨u,eu,du⟩:=(kv.lookup f).1 _ ey
    exact ⟨dd,vs,u,rfl,(lB.trans l1).xd _ _ e1,eu,hm u H1 l1 z1 (du.le (lB.trans l1))⟩
  ·exact hm.elim
 ·obtain ⟨ex,ec,hm⟩:=z
  refine ⟨ex,ec,?_⟩
  split at hm
  ·exact h _ _ hm
  ·exact hm.elim
end
def spX (K:PySem.W.Frag) (f:Str):Sp:=fun vs H Q _=>∃ (a:Addr) (y:V) (C:Addr),vs=[.ref a,y]∧OexC K C∧PySem.W.findIn K (.ref C) f=some none∧H a=some (exo a C none)∧∀ dx,H dx=none->dx≠a->Q .non (upd (upd H dx (exd dx [(f,y)])) a (exo a C (some dx)))
theorem zlb {P:Program} {w:World} {K:PySem.W.Frag} {mg:Str->Option Value} {base:Heap} {CX:CXT} {qual f pn:Str} {params:Arguments} {body:List Stmt} {scope:Scope} {fI:Addr} {fd:FuncData} {p0 p1 p2 p3:Pos} (F:FunD K "__init__" qual params body scope [] [] fI fd) (S:FnScope ["self", pn] ["self", pn] scope)
  (hb:body=[.Assign [.Attribute (.Name "self" p0) f p1] (.Name pn p2) p3])
  (h1:∀ (X:Cx),X.N=(["self", pn]:List Str)->X.env.scope=scope->PE X (.Name "self" p0) (tVar 0)∧PE X (.Name pn p2) (tVar 1)∧swapsWith (.Name pn p2) (some (.Attribute (.Name "self" p0) f p1)) p3.line X.env=pure false) :
  FnOk P w K mg base CX 1 fI fd ["self", pn] (spX K f):=by
 refine F.ok S (fun vs H Q E h=>?_) (fun cdv A outer s H vs Q E hr h=>?_)
 ·obtain ⟨a,y,C,rfl,_⟩:=h
  rfl
 ·obtain ⟨g1,g2,g3⟩:=h1 (cxOf CX P w K mg base ["self", pn] qual scope fI cdv A outer s H E) rfl rfl
  refine ⟨tOst K f (tVar 0) (tVar 1),?_,?_⟩
  ·rw [hb]
   exact pss_one (ps_ost g1 g2 g3)
  ·obtain ⟨a,y,C,rfl,T,hno,ea,hq⟩:=h
   exact ⟨y,rfl,.ref a,rfl,a,C,rfl,T,hno,.inl ⟨ea,fun dx hd hne=>hq dx hd hne⟩⟩
structure ExOk (P:Program) (w:World) (K:PySem.W.Frag) (mg:Str->Option Value) (base:Heap) (x f:Str):Prop where
 gC:mg x=some (.ref (He.ga K x))
 oex:OexC K (He.ga K x)
 iC:PySem.W.findIn K (.ref (He.ga K x)) "__init__" = some (some (.ref (He.ma K (He.ga K x) "__init__")))
 tI:PySem.W.typeIn K (.ref (He.ma K (He.ga K x) "__init__"))=some (.type "function")
 hno:PySem.W.findIn K (.ref (He.ga K x)) f=some none
 xf:XfC K (He.ga K x)
 fn:∃ fd ps,FnOk P w K mg base (L2.CX P w) 1 (He.ma K (He.ga K x) "__init__") fd ps (spX K f)∧Binds K fd ps []
def zhC (C:Addr) (f:Str) (W:XW) (ma:AM):SM:=fun _ env S=>ma env S fun ds S1=>match ds with
 | [y]=>W (.ref C) [(f,y)] env S1
 | _=>False
section
variable {X:Cx} {B:Hp} {W:XW} {ma:AM} {x f:Str} {p pos pos':Pos} {e:Expr}
theorem zgO (hc:X.calm=true) (tk:Tk X B W) (hr:Room 2 X.A) (U:ExOk X.prog X.w X.K X.mg X.base x f) (ha:MA X B [e] ma) (hg:Gl X x:=by rfl) (hdb:(x == ("__debug__" : Str))=false:=by decide)
  (he:starEach [e] X.env=(false,eval e X.env) :: starEach [] X.env:=by rfl) (hpl:(backTo pos (starEach [] X.env)).any (·.1)=false:=by rfl):MS X B (.Raise (some (.Call (.Name x p) [e] [] pos)) none pos') (zhC (He.ga X.K x) f W ma):=by
 obtain ⟨fd,ps,F1,bi⟩:=U.fn
 have none:Passes (L2.CX X.prog X.w) X (fun _ _ _=>False):=fun pins σ H s e s' I c=>by
  obtain ⟨_,_,_,_,_,_,_,_,_,_,_,_,z⟩:=c
  exact z.elim
 refine ⟨zd4 (ps_raise hc tk (pmk_oex U.oex U.iC U.tI F1 hr bi .nil none hg U.gC ha.pa hdb he hpl)) fun D' σ H q=>?_,fun A A' env S _ q=>q⟩
 obtain ⟨lB,env,S,er,rp,q⟩:=q
 refine ⟨lB,env,S,er,rp,ha.mono _ _ _ _ (fun ds S1 z vs H1 l1 z1 dv=>?_) q⟩
 split at z
 ·rename_i y
  cases dv with
  | @cons _ _ v _ d1 d2=>
   cases d2
   refine ⟨by simp,fun a na=>⟨a,v,He.ga X.K x,rfl,U.oex,U.hno,upd_same,fun dx hdx hne=>⟨rfl,dx,[(f,v)],upd_same,(upd_ne hne).trans upd_same,(upd_ne hne).symm.trans hdx,?_⟩⟩⟩
   have hd1:H1 dx = .none:=(upd_ne hne).symm.trans hdx
   have at_:∀ b,b≠a->b≠dx->upd (del (upd (upd (upd H1 a (exo a (He.ga X.K x) .none)) dx (exd dx [(f,v)])) a (exo a (He.ga X.K x) (some dx))) a) dx (.xd [(f,v)]) b=H1 b:=fun b h1 h2=>by
    rw [upd_ne h2,del_ne h1,upd_ne h1,upd_ne h2,upd_ne h1]
   have off:∀ b o,H1 b=some o->b≠a∧b≠dx:=fun b o eb=>⟨fun z=>(by subst z;rw [na] at eb;cases eb),fun z=>(by subst z;rw [hd1] at eb;cases eb)⟩
   have le:Le H1 (upd (del (upd (upd (upd H1 a (exo a (He.ga X.K x) .none)) dx (exd dx [(f,v)])) a (exo a (He.ga X.K x) (some dx))) a) dx (.xd [(f,v)])):=
    ⟨fun b xs eb=>(at_ b (off b _ eb).1 (off b _ eb).2).trans eb,fun b o u eb=>(at_ b (off b _ eb).1 (off b _ eb).2).trans eb,fun b u eb=>(at_ b (off b _ eb).1 (off b _ eb).2).trans eb⟩
   refine ⟨(lB.trans l1).trans le,env,S1,[(f,y)],(er.le l1).le le,fun b o eb=>?_,⟨[(f,v)],upd_same,.cons (d1.le le) .nil⟩,z⟩
   obtain ⟨u,eu,_⟩:=(z1 b o eb).some
   exact (z1 b o eb).at le (at_ b (off b _ eu).1 (off b _ eu).2)
 ·exact z.elim
end
theorem zon {K:PySem.W.Frag} {C:Addr} (h:zud K C=true):OexC K C:=by
 obtain ⟨h1,h⟩:=He.ba h
 obtain ⟨h2,h⟩:=He.ba h
 obtain ⟨h3,h⟩:=He.ba h
 obtain ⟨h4,h5⟩:=He.ba h
 refine ⟨?_,He.eqO_ok h2,of_decide_eq_true h3,of_decide_eq_true h4,h5⟩
 split at h1
 ·rename_i t dd cd sl e
  split at h1
  ·rename_i C' bm k0 k1 k2 k3 n k5 em es
   obtain ⟨j0,h1⟩:=He.ba h1
   obtain ⟨j1,h1⟩:=He.ba h1
   obtain ⟨j2,h1⟩:=He.ba h1
   obtain ⟨j3,h1⟩:=He.ba h1
   obtain ⟨j4,j5⟩:=He.ba h1
   have i0:=of_decide_eq_true j0
   have i1:=of_decide_eq_true j1
   have i2:=of_decide_eq_true j2
   have i3:cd.hasDel=false:=by simpa using j3
   subst i0 i1 i2
   obtain ⟨nm,bs,mro,ns,qn,hd,sn,sb,ab,col,del⟩:=cd
   dsimp only at em i3 j4
   subst em i3 j4
   have esl:sl = #[k0,k1,k2,k3,some (.builtin "ValueError.__new__"),k5]:=by
    rw [← Array.toList_inj]
    exact es
   subst esl
   exact ⟨_,_,_,_,_,_,_,_,_,_,_,_,_,_,_,e,j5⟩
  ·cases h1
 ·cases h1
def zuf (n:Nat) (fa:List He.Fa) (fn:List He.DefD) (su:List SuD) (file:Str) (ex:List Str) (g:Addr->Option Obj):AlX:=obsX fa fn su file ex (He.frG g (He.asD g n++[cStatics]))
def hookX (n:Nat) (fa:List He.Fa) (fn:List He.DefD) (su:List SuD) (file:Str) (ex:List Str):PySem.W.Hook where
 α:=AlX
 obs:=fun s=>zuf n fa fn su file ex s.heap.get?
 val:=fun _=>valX fn su
 says:=fun _ h=>∃ K:PySem.W.Frag,K.In h∧obsX fa fn su file ex K=valX fn su
 of:=fun _ _ e=>⟨_,He.frG_in,e⟩
 keeps:=fun _ _ _ ⟨K,hK,c⟩ k=>⟨K,hK.keeps k,c⟩
structure Tz (fa:List He.Fa) (fn:List He.DefD) (su:List SuD) (file:Str) (ec:List Str) (K:PySem.W.Frag) (mg:Str->Option Value):Prop extends Ty fa fn su file K mg where
 exs:∀ x∈ec,zwQ K x=true
theorem Tz.mk' {fa:List He.Fa} {fn:List He.DefD} {su:List SuD} {file:Str} {ex:List Str} {K:PySem.W.Frag} {mg:Str->Option Value} {h:Heap} (X:K.In h) (G:h.Ns mainGlobals mg) (c:obsX fa fn su file ex K=valX fn su):Tz fa fn su file ex K mg:=
 ⟨Ty.mk' X G (congrArg (fun z:AlX=>z.1) c),List.all_eq_true.mp (congrArg (fun z:AlX=>z.2) c)⟩
theorem Tz.exm {fa:List He.Fa} {fn:List He.DefD} {su:List SuD} {file:Str} {ex:List Str} {K:PySem.W.Frag} {mg:Str->Option Value} (T:Tz fa fn su file ex K mg) (i:Nat) {x y:Str} {b:Bool} (h:fa[i]? = some (.exm x y b):=by rfl):PySem.W.exmOne K (.ref (He.ga K x)) (.ref (He.ga K y))=some b:=by
 obtain ⟨_,X,G,c⟩:=T.ex
 exact of_decide_eq_true (c.fact i h)
theorem Tz.exc {fa:List He.Fa} {fn:List He.DefD} {su:List SuD} {file:Str} {ex:List Str} {K:PySem.W.Frag} {mg:Str->Option Value} {P:Program} {w:World} {base:Heap} (T:Tz fa fn su file ex K mg) {x f:Str} (j g m n:Nat) (hj:ex[j]? = some x) (hg:fa[g]? = some (.glo x)) (hm:fa[m]? = some (.meth x "__init__")) (hn:fa[n]? = some (.noat x f))
  (hf:∃ fd ps,FnOk P w K mg base (L2.CX P w) 1 (He.ma K (He.ga K x) "__init__") fd ps (spX K f)∧Binds K fd ps []):ExOk P w K mg base x f:=by
 obtain ⟨e1,e2⟩:=He.ba (T.exs x (List.mem_of_getElem? hj))
 have M:=T.meth m hm
 exact ⟨T.glo g hg,zon e1,M.at_,beq_iff_eq.mp M.fn,T.noat n hn,xfB_ok e2,hf⟩
section
variable {X:Cx} {B:Hp} {e:Expr} {pos:Pos}
def zpi (m:EM):EM:=fun env S Q=>m env S fun d S1=>match d with
 | .int i=>Q (.int (-i)) S1
 | _=>False
theorem zjB {m:EM} (h:ME X B e m):ME X B (.UnaryOp .USub e pos) (zpi m):=by
 refine ⟨zbu (pe_un un_neg h.pe) fun σ H Q q=>?_,fun env S Q Q' i q=>h.mono env S _ _ (fun d S1 z=>?_) q⟩
 ·obtain ⟨lB,env,S,er,rp,q⟩:=q
  refine ⟨lB,env,S,er,rp,h.mono env S _ _ (fun d S1 z v H1 l1 z1 dv=>?_) q⟩
  split at z
  ·cases dv
   exact ⟨_,rfl,z _ H1 l1 z1 (.int _)⟩
  ·exact z.elim
 ·split at z
  ·exact i _ _ z
  ·exact z.elim
def zvi:CM:=fun ds S Q=>match ds with
 | [.ref a]=>match S a with
  | some (.dic kvs)=>(∀ kv∈kvs,okK kv.1)∧∀ p,S p=none->Q (.ref p) (put S p (.lst (kvs.map fun kv=>kD kv.1)))
  | _=>False
 | _=>False
def zvf:CM:=fun ds S Q=>match ds with
 | [.ref a]=>∃ zs:List Str,S a=some (.lst (zs.map D.str))∧zs.length < 64∧∀ ys,ys.Perm zs->sortedS ys=true->∀ p,S p=none->Q (.ref p) (put S p (.lst (ys.map D.str)))
 | _=>False
end
section
variable {env:Slo} {S:Sto} {Q:DQ} {A:Fin} {ma:AM} {W:XW} {C a:Addr} {f:Str} {d:D} {K:PySem.W.Frag} {b:XW->SM} {l:List Cl} {m:EM} {i:Nat} {cls:Value} {fs:List (Str×D)} {c:Cl} {kvs:List (Key×D)}
def kRa (C:Addr) (f:Str) (W:XW) (env:Slo):List D->Sto->Prop:=fun ds S1=>match ds with
 | [y]=>W (.ref C) [(f,y)] env S1
 | _=>False
theorem zns (h:ma env S (kRa C f W env)):zhC C f W ma A env S:=h
theorem ztz (h:W (.ref C) [(f,d)] env S):kRa C f W env [d] S:=h
theorem znq (h:b (zmH K W A l) A env S):zsj K b l W A env S:=⟨A,zeg.refl A,h⟩
theorem zn2 (e0:PySem.W.exmOne K cls (.ref c.C)=some true) (h:∀ a,S a=none->c.su a cls fs (zoV c.i A) (env.set c.i (some (.ref a))) S):zmH K W A (c :: l) cls fs env S:=⟨true,e0,fun _=>h,fun z=>(by cases z)⟩
theorem zpU (e0:PySem.W.exmOne K cls (.ref c.C)=some false) (h:zmH K W A l cls fs env S):zmH K W A (c :: l) cls fs env S:=⟨false,e0,fun z=>(by cases z),fun _=>h⟩
theorem zs9 (e0:env[i]? = some (some (.ref a))) (el:fs.lookup f=some d) (h:Q d S):mXf i C a (.ref C) fs f env S Q:=by
 unfold mXf zag
 simp only [e0,el]
 exact ⟨trivial,trivial,h⟩
def zvw (Q:DQ):DQ:=fun d S1=>match d with
 | .int i=>Q (.int (-i)) S1
 | _=>False
theorem zku (h:m env S (zvw Q)):zpi m env S Q:=h
theorem zir {z:Int} (h:Q (.int (-z)) S):zvw Q (.int z) S:=h
end
section
variable {env:Slo} {S:Sto} {Q:DQ} {A:Fin} {m n:SM} {me mf mg' ma mb:EM} {g:GM} {t u:TM} {r:BM} {c:CM} {ms:AM} {d e:D} {TQ:Bool->Sto->Prop} {AQ:List D->Sto->Prop} {a:Addr} {x:D} {i j k:Nat} {K:PySem.W.Frag} {W:XW} {sp:SpD} {C:Addr} {f:Str}
instance zyr:St (zaN me g A env S) (me env S (zoQ g env A)):=⟨fun h=>s_asg h⟩
instance zzg:St (mIf t m n A env S) (t env S (kIf m n A env)):=⟨fun h=>s_if h⟩
instance zzc:St (kIf m n A env true S) (m A env S):=⟨fun h=>zxc h⟩
instance zze:St (kIf m n A env false S) (n A env S):=⟨fun h=>ztD h⟩
instance zza:St (mNx A env S) (A.nx env S):=⟨fun h=>zvm h⟩
instance zyq:St (zvt A env S) (A.bk env S):=⟨fun h=>zt5 h⟩
instance zyp:St (zvs A env S) (A.ct env S):=⟨fun h=>zt4 h⟩
instance zxL:St (zbg me A env S) (me env S A.rt):=⟨fun h=>s_ret h⟩
instance zvG:St (zrx A env S) (A.rt .non S):=⟨fun h=>zpN h⟩
instance zwC:St (zcn me A env S) (me env S (zmk env A)):=⟨fun h=>s_drop h⟩
instance zuO:St (zmk env A d S) (A.nx env S):=⟨fun h=>znL h⟩
instance zuT:St (zoP i d r env A x S) (r d x S (zk7 i env A)):=⟨fun h=>znR h⟩
instance zws {z:Int}:St (zux a z me r env A x S) (me env S (zrX a z x r env A)):=⟨fun h=>zqM h⟩
instance zwr {z:Int}:St (zrX a z d r env A x S) (r d x S (zpk a z env A)):=⟨fun h=>zqL h⟩
instance zyk {mi:IM}:St (zfA mi g m A env S) (mi env S (kFor g m A env)):=⟨fun h=>zq2 h⟩
instance zwl {xs:List D} {G:Sto->Prop}:St (kFor g m A env xs G S) (forL g m G A xs env S):=⟨fun h=>zmJ h⟩
variable {R:List D->(Sto->Prop)->Sto->Prop} {xs ys:List D}
instance zwu:St (ziV me env S R) (me env S (zk6 R)):=⟨fun h=>zqT h⟩
instance zuE:St (zk6 R (.tp fl xs) S) (R xs (fun _=>True) S):=⟨fun h=>zny h⟩
instance zuG:St (zk6 R (.rol xs) S) (R xs (fun _=>True) S):=⟨fun h=>znA h⟩
instance zuF {x:Str}:St (zk6 R (.str x) S) (R (zkf x) (fun _=>True) S):=⟨fun h=>znz h⟩
instance zye:St (zcw ms env S R) (ms env S (kR1 R)):=⟨fun h=>ztU h⟩
instance zyg:St (zfm ms env S R) (ms env S (kEn R)):=⟨fun h=>ztW h⟩
instance zwm:St (kEn R [.tp fl xs] S) (R (zhs 0 xs) (fun _=>True) S):=⟨fun h=>zmK h⟩
instance zyc:St (zrZ ms env S R) (ms env S (kZi R)):=⟨fun h=>ztS h⟩
instance zx1:St (kZi R [.tp fl xs,.tp fl' ys] S) (R (List.zipWith (fun x y=>.tup [x,y]) xs ys) (fun _=>True) S):=⟨fun h=>ztw h⟩
variable {NQ:Slo->Sto->Prop} {gs:GsM}
instance zzi:St (gC g gs (d :: xs) env S NQ) (g d env S (kgC gs xs NQ)):=⟨fun h=>zxh h⟩
instance zx0:St (kgC gs xs NQ env S) (gs xs env S NQ):=⟨fun h=>ztv h⟩
instance zzh:St (gN [] env S NQ) (NQ env S):=⟨fun h=>zxg h⟩
instance zyj {mo mi:EM}:St (gIx mo mi d env S NQ) (mo env S (zsp d mi env NQ)):=⟨fun h=>ztZ h⟩
instance zvS {mi:EM}:St (zsp d mi env NQ e S) (mi env S (zna d e env NQ)):=⟨fun h=>zp6 h⟩
instance i_C:St (mC d env S Q) (Q d S):=⟨fun h=>s_C h⟩
instance zy9:St (mOp r ma mb env S Q) (ma env S (zsy r mb env Q)):=⟨fun h=>zxa h⟩
instance zwa:St (zsy r mb env Q d S) (mb env S (zmh r d Q)):=⟨fun h=>zqp h⟩
instance zv9:St (zmh r d Q e S) (r d e S Q):=⟨fun h=>zqo h⟩
instance i_B:St (mB me env S TQ) (me env S (kB TQ)):=⟨fun h=>s_B h⟩
instance zzf {b:Bool}:St (kB TQ (.bl b) S) (TQ b S):=⟨fun h=>zxe h⟩
instance zxG:St (zev me env S TQ) (me env S (zoO TQ)):=⟨fun h=>ztc h⟩
instance zys:St (zj6 t u env S TQ) (t env S (znd u env TQ)):=⟨fun h=>zt6 h⟩
instance zy8:St (mOr t u env S TQ) (t env S (kOr u env TQ)):=⟨fun h=>zw9 h⟩
instance zxP:St (zeX t env S TQ) (t env S (zsz TQ)):=⟨fun h=>ztk h⟩
instance zwb {b:Bool}:St (zsz TQ b S) (TQ (!b) S):=⟨fun h=>zqq h⟩
instance zuU:St (znd u env TQ true S) (u env S TQ):=⟨fun h=>znU h⟩
instance zuV:St (znd u env TQ false S) (TQ false S):=⟨fun h=>znV h⟩
instance zv7:St (kOr u env TQ true S) (TQ true S):=⟨fun h=>zqm h⟩
instance zv8:St (kOr u env TQ false S) (u env S TQ):=⟨fun h=>zqn h⟩
instance zwH:St (zg9 ma mb env S Q) (ma env S (kB (ziM mb env Q))):=⟨fun h=>zra h⟩
instance zxO:St (zsk ma mb env S Q) (ma env S (kB (znb mb env Q))):=⟨fun h=>ztj h⟩
instance zvI:St (zmb ma env S Q) (ma env S (kB (zmi Q))):=⟨fun h=>zpQ h⟩
instance zuK {b:Bool}:St (zmi Q b S) (Q (.bl (!b)) S):=⟨fun h=>znG h⟩
instance zsS:St (ziM mb env Q true S) (mb env S Q):=⟨fun h=>zlK h⟩
instance zsT:St (ziM mb env Q false S) (Q (.bl false) S):=⟨fun h=>zlL h⟩
instance zuI:St (znb mb env Q true S) (Q (.bl true) S):=⟨fun h=>znE h⟩
instance zuJ:St (znb mb env Q false S) (mb env S Q):=⟨fun h=>znF h⟩
instance zyb:St (zoI t ma mb env S Q) (t env S (znc ma mb env Q)):=⟨fun h=>ztR h⟩
instance zuM:St (znc ma mb env Q true S) (ma env S Q):=⟨fun h=>znJ h⟩
instance zuN:St (znc ma mb env Q false S) (mb env S Q):=⟨fun h=>znK h⟩
variable {r':BM} {mc:EM}
instance zu2:St (zgt r r' ma mb mc env S Q) (ma env S (zsK r r' mb mc env Q)):=⟨fun h=>zn5 h⟩
instance zwp:St (zsK r r' mb mc env Q d S) (mb env S (zrW r r' d mc env Q)):=⟨fun h=>zqH h⟩
instance zwo:St (zrW r r' d mc env Q e S) (r d e S (kB (zmm r' e mc env Q))):=⟨fun h=>zqG h⟩
instance zuQ:St (zmm r' d mc env Q true S) (mc env S (zmh r' d Q)):=⟨fun h=>znN h⟩
instance zuR:St (zmm r' d mc env Q false S) (Q (.bl false) S):=⟨fun h=>znO h⟩
instance zxR:St (zal env S AQ) (AQ [] S):=⟨fun h=>ztm h⟩
instance zwD:St (zac me ms env S AQ) (me env S (kC1 ms env AQ)):=⟨fun h=>zq7 h⟩
instance zx8:St (kC1 ms env AQ d S) (ms env S (kC2 d AQ)):=⟨fun h=>ztI h⟩
instance zx7:St (kC2 d AQ xs S) (AQ (d :: xs) S):=⟨fun h=>ztH h⟩
instance zzl:St (mCB c ms env S Q) (ms env S (kCB c Q)):=⟨fun h=>zxk h⟩
instance zx6:St (kCB c Q xs S) (c xs S Q):=⟨fun h=>ztG h⟩
instance zwE:St (zas sp W ms env S Q) (ms env S (kSp sp W env Q)):=⟨fun h=>s_call h⟩
instance zx2:St (kSp sp W env Q xs S) (sp xs S Q fun c fs S'=>W c fs env S'):=⟨fun h=>zty h⟩
instance zvM:St (ziI C sp W ms env S Q) (ms env S (kMk C sp W env Q)):=⟨fun h=>zpW h⟩
instance zx3:St (kMk C sp W env Q xs S) (∀ p,S p=none->sp (.ref p :: xs) (put S p (.ins C [])) (fun v S2=>v = .non∧Q (.ref p) S2) fun c fs S'=>W c fs env S'):=⟨fun h=>ztB h⟩
end
section
variable {env:Slo} {S:Sto} {Q:DQ} {A:Fin} {me mo ma mb:EM} {ms:AM} {d e x:D} {AQ:List D->Sto->Prop} {a C:Addr} {K:PySem.W.Frag} {W:XW} {sp:SpD} {f:Str} {xs ys:List D} {fs:List (Str×D)} {kvs:List (Key×D)} {kk:Key}
instance zvT:St (kTup Q xs S) (Q (.tup xs) S):=⟨fun h=>zp7 h⟩
instance zvL:St (zew C f sp W mo ms env S Q) (mo env S (zrT C f sp W ms env Q)):=⟨fun h=>zpV h⟩
instance zwg:St (zus sp W a env Q xs S) (sp (.ref a :: xs) S Q fun c fs S'=>W c fs env S'):=⟨fun h=>zqv h⟩
instance zyl:St (zj4 K me f env S Q) (me env S (zrU K f Q)):=⟨fun h=>zt0 h⟩
instance zvE:St (zfX K mo me f A env S) (me env S (zsr K f mo env A)):=⟨fun h=>zpK h⟩
instance zvX:St (zsr K f mo env A d S) (mo env S (zrL K f d env A)):=⟨fun h=>zqb h⟩
instance zwI {i j:Int}:St (zbK (.int i) (.int j) S Q) (Q (.int (i+j)) S):=⟨fun h=>zrb h⟩
instance zuW {i j:Int}:St (ziZ (.int i) (.int j) S Q) (Q (.int (i+j)) S):=⟨fun h=>znY h⟩
instance zxI {i j:Int}:St (zlo (.int i) (.int j) S Q) (Q (.int (i - j)) S):=⟨fun h=>ztd h⟩
instance zxU {i j:Int}:St (vLt (.int i) (.int j) S Q) (Q (.bl (decide (i < j))) S):=⟨fun h=>ztq h⟩
instance zxX {i j:Int}:St (vLe (.int i) (.int j) S Q) (Q (.bl (decide (i≤j))) S):=⟨fun h=>ztt h⟩
instance zyu {i:Int}:St (zsd [.int i] S Q) (Q (.int (if i < 0 then -i else i)) S):=⟨fun h=>zt8 h⟩
instance zya {i:Int}:St (vInt [.int i] S Q) (Q (.int i) S):=⟨fun h=>ztO h⟩
instance zxT {i j:Int}:St (zsc [.int i,.int j] S Q) (Q (.int (if j > i then j else i)) S):=⟨fun h=>ztp h⟩
instance zym {g:Bool->Bool} {i j:Str}:St (zio g (.str i) (.str j) S Q) (Q (.bl (g (decide (i=j)))) S):=⟨fun h=>zt1 h⟩
instance zyn {g:Bool->Bool} {i j:Int}:St (zio g (.int i) (.int j) S Q) (Q (.bl (g (decide (i=j)))) S):=⟨fun h=>zt2 h⟩
instance zyo {g:Bool->Bool} {i j:Bool}:St (zio g (.bl i) (.bl j) S Q) (Q (.bl (g (decide (i=j)))) S):=⟨fun h=>zt3 h⟩
instance zyh {i j:Int}:St (vGt (.int i) (.int j) S Q) (Q (.bl (decide (j < i))) S):=⟨fun h=>ztX h⟩
instance zyi {i j:Int}:St (vGe (.int i) (.int j) S Q) (Q (.bl (decide (j≤i))) S):=⟨fun h=>ztY h⟩
instance zxW {i j:Str}:St (vLe (.str i) (.str j) S Q) (Q (.bl (!decide (j.cps.toList < i.cps.toList))) S):=⟨fun h=>zts h⟩
instance zxF:St (zbW ms env S Q) (ms env S (kTp Q)):=⟨fun h=>ztb h⟩
instance zxV:St (zhk ms env S Q) (ms env S (kLs Q)):=⟨fun h=>ztr h⟩
variable {ok:D->Sto->Prop} {rm:MM}
instance zxS:St (zgP ok rm mo ms env S Q) (mo env S (zsD ok rm ms env Q)):=⟨fun h=>zto h⟩
instance zwf:St (zsC rm d Q xs S) (rm d xs S Q):=⟨fun h=>zqu h⟩
variable {mk mx:EM}
instance zwx:St (zrC mo mk mx env S Q) (mo env S (zsI mk mx env Q)):=⟨fun h=>zqW h⟩
instance zwj:St (zsH d mx env Q e S) (mx env S (zpj d e Q)):=⟨fun h=>zqA h⟩
variable {PQ:List (D×D)->Sto->Prop} {mps:List (EM×EM)} {ps:List (D×D)}
instance zxN:St (mPs ((ma,mb) :: mps) env S PQ) (ma env S (zsx mb mps env PQ)):=⟨fun h=>zth h⟩
instance zxM:St (mPs [] env S PQ) (PQ [] S):=⟨fun h=>ztg h⟩
instance zv5:St (zsx mb mps env PQ d S) (mb env S (zrO d mps env PQ)):=⟨fun h=>zqk h⟩
instance zv4:St (zrO d mps env PQ e S) (mPs mps env S (zrP d e PQ)):=⟨fun h=>zqj h⟩
instance zv6:St (zrP d e PQ ps S) (PQ ((d,e) :: ps) S):=⟨fun h=>zql h⟩
instance zyt:St (zsl mo ms env S Q) (mo env S (zsN ms env Q)):=⟨fun h=>zt7 h⟩
instance zx9 {g:Bool->Bool}:St (znl g .non .non S Q) (Q (.bl (g true)) S):=⟨fun h=>ztN h⟩
variable {lo hi:OM} {OQ:Option Int->Sto->Prop} {l h':Option Int}
instance zy7:St (mSl me lo hi env S Q) (me env S (zsq lo hi env Q)):=⟨fun h=>zw8 h⟩
instance zvW:St (zsq lo hi env Q d S) (lo env S (zrK d hi env Q)):=⟨fun h=>zqa h⟩
instance zvV:St (zrK d hi env Q l S) (hi env S (zrJ d l Q)):=⟨fun h=>zp9 h⟩
instance zvU:St (zrJ d l Q h' S) (vSl d l h' S Q):=⟨fun h=>zp8 h⟩
instance zxQ:St (ziH env S OQ) (OQ none S):=⟨fun h=>ztl h⟩
instance i_P:St (mP me env S OQ) (me env S (kP OQ)):=⟨fun h=>s_P h⟩
instance zzd {i:Int}:St (kP OQ (.int i) S) (OQ (some i) S):=⟨fun h=>zxd h⟩
instance zxJ:St (vSl (.tup xs) l h' S Q) (Q (.tup (cutD xs l h')) S):=⟨fun h=>zpI h⟩
variable {g:GM} {t:TM} {G:Sto->Prop} {mi:IM} {vs:List Nat}
instance zzb:St (mLc mi g t me vs env S Q) (mi env S (kLc g t me vs env Q)):=⟨fun h=>zxb h⟩
instance zx4:St (kLc g t me vs env Q xs G S) (∀ p,S p=none->lcL g t me G p Q (zdV env vs) xs (put S p (.lst []))):=⟨fun h=>ztC h⟩
instance zzk:St (mDc mi g t mk mb vs env S Q) (mi env S (kDc g t mk mb vs env Q)):=⟨fun h=>zxj h⟩
instance zx5:St (kDc g t mk mb vs env Q xs G S) (∀ p,S p=none->dcL g t mk mb G p Q (zdV env vs) xs (put S p (.dic []))):=⟨fun h=>ztF h⟩
instance zvN:St (zcZ [.tp fl xs] S Q) (Q (.int xs.length) S):=⟨fun h=>zpX h⟩
instance zvP:St (zcZ [.rol xs] S Q) (Q (.int xs.length) S):=⟨fun h=>zpZ h⟩
instance zvO {x:Str}:St (zcZ [.str x] S Q) (Q (.int x.length) S):=⟨fun h=>zpY h⟩
instance zsO:St (zdz [.tup xs] S Q) (Q (.tup xs) S):=⟨fun h=>zlE h⟩
instance zuD {TQ:Bool->Sto->Prop} {b:Bool}:St (zoO TQ (.bl b) S) (TQ b S):=⟨fun h=>znx h⟩
end
section
variable {X:Cx} {B:Hp}
def zpw (f:List Bool->Bool):CM:=fun ds S Q=>match ds with
 | [.ref a]=>∃ bs:List Bool,S a=some (.lst (bs.map D.bl))∧Q (.bl (f bs)) S
 | _=>False
abbrev zyQ:CM:=zpw fun bs=>bs.all id
abbrev zyP:CM:=zpw fun bs=>bs.any id
def zjK:CM:=fun ds S Q=>match ds with
 | [.ref a]=>∃ xs,S a=some (.lst xs)∧Q (.tp true xs) S
 | _=>False
theorem zlk:CallR X (.type "tuple") (fun xs H Q=>∃ p ys,xs=[.ref p]∧SqL X.K H p ys∧∀ l o,H l=none->o.dict=none->Q (.ref l) (upd H l (.frz o (.tup ys)))):=by
 intro pins s σ H xs us Q I r h
 obtain ⟨p,ys,rfl,hq,q⟩:=h
 obtain ⟨u,rfl,rx⟩:=vals1 r
 cases rx
 obtain ⟨its,rv,pl,hz⟩:=I.list hq
 have hn:=rv.length
 refine call_tuple_list pl.isList (fun h1 kp=>?_) (by simp only [List.size_toArray] <;> omega)
 have I1:Inv X pins σ H { s with heap:=h1 }:=I.kept (t':=s.toks) kp
 refine ⟨.ref h1.objs.size,upd H h1.objs.size (.frz { cls:=.type "tuple", data:=.seq its.toArray } (.tup ys)),?_,rfl,q _ _ (I1.hok.fresh (Nat.le_refl _)) rfl⟩
 refine I1.laid (t':=s.toks) (fun b o e=>Heap.get?_push_of_some _ e) (Nat.le_refl _) ?_
 exact ⟨Heap.get?_push_size _ rfl,hz,its,rv,IsTup.new _ _⟩
theorem zo9:zf5 X (.type "tuple") zjK:=by
 refine zhw _ zlk (fun xs H Q ds S h r q=>?_) (fun ds S Q Q' i q=>?_)
 ·unfold zjK at q
  split at q
  ·obtain ⟨v,rfl,dv⟩:=zjE h
   cases dv
   obtain ⟨xs,e0,q⟩:=q
   obtain ⟨vs,e1,z⟩:=r _ _ e0
   refine ⟨_,vs,rfl,SqL.of e1,fun l o hl ho=>q _ _ (Le.new hl) (r.more hl) (.tup (.inl (.inr ⟨o,upd_same⟩)) (z.le (Le.new hl)) ⟨o,upd_same,ho⟩)⟩
  ·exact q.elim
 ·unfold zjK at q ⊢
  split at q
  ·obtain ⟨xs,e,q⟩:=q
   exact ⟨xs,e,i _ _ q⟩
  ·exact q.elim
def okT (d:D) (_:Sto):Prop:=match d with
 | .tp f _=>f=true
 | _=>False
def tyN (x:V) (H:Hp):Prop:=∃ a o vs,x = .ref a∧H a=some (.frz o (.tup vs))∧o.dict=none
def zyY:MM:=fun d ds S Q=>match d,ds with
 | .tp _ xs,[.str z]=>∃ (ys:List Str) (j:Nat),xs=ys.map D.str∧ys[j]? = some z∧(∀ m,m < j->ys[m]?≠some z)∧Q (.int (j:Nat)) S
 | _,_=>False
end
section
variable {K:PySem.W.Frag} {P:Program} {w:World} {H1:Hp} {a b:Addr} {ds es:List D}
end
section
variable {X:Cx} {B:Hp} {p pos tpos:Pos} {elts:List Expr} {kk:Nat}
def zrY (m:AM):IM:=fun env S R=>m env S fun ds S1=>match ds with
 | [.ref a,.ref b]=>∃ xs ys,S1 a=some (.lst xs)∧S1 b=some (.lst ys)∧R (List.zipWith (fun x y=>.tup [x,y]) xs ys) (fun S=>S a=some (.lst xs)∧S b=some (.lst ys)) S1
 | _=>False
end
section
variable {X:Cx} {B:Hp} {pos:Pos}
def zm5:EM:=fun _ S Q=>∀ p,S p=none->Q (.ref p) (put S p (.dit []))
def zmf:D->Option (List Key)
 | .tp f xs=>if f then none else xs.mapM keyD
 | _=>none
def setT (S:Sto) (o i v:D):Option Sto:=match o,zmf i with
 | .ref a,some k=>match S a with
  | some (.dit kvs)=>if kvs.length < sizeLine then some (put S a (.dit (putD kvs k v))) else none
  | _=>none
 | _,_=>none
def zxl (X:Cx):TSet:=fun o i v H Q=>∃ do_ di dv S S',DV X.K H do_ o∧DV X.K H di i∧DV X.K H dv v∧Rp X.K X.prog X.w S H∧setT S do_ di dv=some S'∧∀ H',Le H H'->Rp X.K X.prog X.w S' H'->Q H'
def zwO (mo mi:EM):GM:=fun d env S Q=>mo env S fun o S1=>mi env S1 fun i S2=>match setT S2 o i d with
 | some S3=>Q env S3
 | none=>False
def tFz (t:TE):TE:=fun σ H Q=>t σ H fun x H1=>∃ d u,H1 d=some u∧Mut (some u)∧∀ od,Q x (upd H1 d (.frz od u))
def zpm (S:Sto) (a:Addr):Sto:=fun b=>if b=a then none else S b
def mFz (m:EM):EM:=fun env S Q=>m env S fun d S1=>match d with
 | .ref a=>match S1 a with
  | some (.dit kvs)=>(∀ kv∈kvs,∀ x∈kv.1,okK x)∧Q (.rod (kvs.map (·.1)) (kvs.map (·.2))) (zpm S1 a)
  | _=>False
 | _=>False
def zyJ:BM:=fun d e S Q=>match d,zmf e with
 | .rod ks xs,some k=>match valD (ks.zip xs) k with
  | some x=>Q x S
  | none=>False
 | _,_=>False
def zwJ (m:EM):IM:=fun env S R=>m env S fun d S1=>match d with
 | .rod ks _=>R (ks.map fun k=>.tup (k.map kD)) (fun _=>True) S1
 | _=>False
end
def lcI (g:GM) (t:TM) (m:EM) (G:Sto->Prop) (p:Addr) (N:Sto->Prop) (env:Slo):List D->Sto->Prop
 | [],S=>G S∧N S
 | x :: xs,S=>G S∧g x env S fun env2 S2=>t env2 S2 fun b S3=>match b with
  | true=>m env2 S3 fun d S4=>match S4 p with
   | some (.lst ys)=>ys.length < sizeLine∧lcI g t m G p N env xs (put S4 p (.lst (ys++[d])))
   | _=>False
  | false=>lcI g t m G p N env xs S3
def lcO (g:GM) (t:TM) (mi1:IM) (g1:GM) (t1:TM) (m:EM) (vs1:List Nat) (G:Sto->Prop) (p:Addr) (Q:DQ) (env:Slo):List D->Sto->Prop
 | [],S=>G S∧Q (.ref p) S
 | x :: xs,S=>G S∧g x env S fun env2 S2=>t env2 S2 fun b S3=>match b with
  | true=>mi1 env2 S3 fun ys G1 S4=>lcI g1 t1 m G1 p (lcO g t mi1 g1 t1 m vs1 G p Q env xs) (zdV env2 vs1) ys S4
  | false=>lcO g t mi1 g1 t1 m vs1 G p Q env xs S3
def zvr (mi:IM) (g:GM) (t:TM) (mi1:IM) (g1:GM) (t1:TM) (m:EM) (vs vs1:List Nat):EM:=fun env S Q=>mi env S fun xs G S1=>∀ p,S1 p=none->lcO g t mi1 g1 t1 m vs1 G p Q (zdV env vs) xs (put S1 p (.lst []))
section
abbrev zzn (g:GM):Prop:=∀ d env S (Q Q':Slo->Sto->Prop),(∀ e S,Q e S->Q' e S)->g d env S Q->g d env S Q'
abbrev zzm (mi:IM):Prop:=∀ env S (Q Q':List D->(Sto->Prop)->Sto->Prop),(∀ xs G S,Q xs G S->Q' xs G S)->mi env S Q->mi env S Q'
variable {X:Cx} {B:Hp} {elt tg iter tg1 iter1:Expr} {ifs ifs1:List Expr} {scope:Scope} {own:List (Str×Nat)} {pos:Pos} {mi mi1:IM} {g g1:GM} {t t1:TM} {m:EM} {vs1:List Nat}
abbrev zwW (X:Cx) (B:Hp) (mi:IM):TI:=fun σ H R=>Le B H∧∃ env S,zdk X.K H env σ∧Rp X.K X.prog X.w S H∧mi env S fun xs G S1=>∀ J H1,Le H H1->Rp X.K X.prog X.w S1 H1->WkD X.K X.prog X.w H1 J xs G->R J H1
end
section
variable {prog:Program} {w:World} {A:Around} {E:Value->Shared->Prop} {s:Shared}
end
section
variable {X:Cx} {B:Hp}
def zw4 (K:PySem.W.Frag) (te:TE):TE:=fun σ H Q=>te σ H fun x H1=>∃ a xs,x = .ref a∧SqT K H1 a xs∧∀ p,H1 p=none->Q (.ref p) (upd H1 p (.tup xs.reverse))
def zrw (m:EM):EM:=fun env S Q=>m env S fun d S1=>match d with
 | .tp _ xs=>Q (.tup xs.reverse) S1
 | _=>False
end
section
variable {env:Slo} {S:Sto} {Q:DQ} {A:Fin} {me mo mi':EM} {ms:AM} {d e:D} {a b p:Addr} {xs ys:List D} {bs:List Bool} {R:List D->(Sto->Prop)->Sto->Prop} {ks:List (List Key)} {kvs:List (List Key×D)} {k:List Key} {NQ:Slo->Sto->Prop}
theorem zpF (e0:S a=some (.lst xs)) (h:Q (.tp true xs) S):zjK [.ref a] S Q:=⟨xs,e0,h⟩
def kZL (R:List D->(Sto->Prop)->Sto->Prop):List D->Sto->Prop:=fun ds S1=>match ds with
 | [.ref a,.ref b]=>∃ xs ys,S1 a=some (.lst xs)∧S1 b=some (.lst ys)∧R (List.zipWith (fun x y=>.tup [x,y]) xs ys) (fun S=>S a=some (.lst xs)∧S b=some (.lst ys)) S1
 | _=>False
theorem znZ (h:ms env S (kZL R)):zrY ms env S R:=h
theorem ztx (e1:S a=some (.lst xs)) (e2:S b=some (.lst ys)) (h:R (List.zipWith (fun x y=>.tup [x,y]) xs ys) (fun S=>S a=some (.lst xs)∧S b=some (.lst ys)) S):kZL R [.ref a,.ref b] S:=⟨xs,ys,e1,e2,h⟩
theorem zn3 (h:∀ p,S p=none->Q (.ref p) (put S p (.dit []))):zm5 env S Q:=h
def zuu (d o:D) (env:Slo) (NQ:Slo->Sto->Prop):DQ:=fun i S2=>match setT S2 o i d with
 | some S3=>NQ env S3
 | none=>False
def zsJ (d:D) (mi:EM) (env:Slo) (NQ:Slo->Sto->Prop):DQ:=fun o S1=>mi env S1 (zuu d o env NQ)
theorem zq0 (h:mo env S (zsJ d mi' env NQ)):zwO mo mi' d env S NQ:=h
theorem zqC (h:mi' env S (zuu d e env NQ)):zsJ d mi' env NQ e S:=h
def kFz (Q:DQ):DQ:=fun d S1=>match d with
 | .ref a=>match S1 a with
  | some (.dit kvs)=>(∀ kv∈kvs,∀ x∈kv.1,okK x)∧Q (.rod (kvs.map (·.1)) (kvs.map (·.2))) (zpm S1 a)
  | _=>False
 | _=>False
theorem zxi (h:me env S (kFz Q)):mFz me env S Q:=h
def zst (R:List D->(Sto->Prop)->Sto->Prop):DQ:=fun d S1=>match d with
 | .rod ks _=>R (ks.map fun k=>.tup (k.map kD)) (fun _=>True) S1
 | _=>False
theorem zqU (h:me env S (zst R)):zwJ me env S R:=h
theorem zqf (h:R (ks.map fun k=>.tup (k.map kD)) (fun _=>True) S):zst R (.rod ks xs) S:=h
def zmg (Q:DQ):DQ:=fun d S1=>match d with
 | .tp _ xs=>Q (.tup xs.reverse) S1
 | _=>False
theorem zpM (h:me env S (zmg Q)):zrw me env S Q:=h
theorem znC {f:Bool} (h:Q (.tup xs.reverse) S):zmg Q (.tp f xs) S:=h
def zvx (g:GM) (t:TM) (mi1:IM) (g1:GM) (t1:TM) (m:EM) (vs vs1:List Nat) (env:Slo) (Q:DQ):List D->(Sto->Prop)->Sto->Prop:=fun xs G S1=>∀ p,S1 p=none->lcO g t mi1 g1 t1 m vs1 G p Q (zdV env vs) xs (put S1 p (.lst []))
theorem ztu {mi mi1:IM} {g g1:GM} {t t1:TM} {m:EM} {vs vs1:List Nat} (h:mi env S (zvx g t mi1 g1 t1 m vs vs1 env Q)):zvr mi g t mi1 g1 t1 m vs vs1 env S Q:=h
instance zuX:St (zrY ms env S R) (ms env S (kZL R)):=⟨fun h=>znZ h⟩
instance zu0:St (zm5 env S Q) (∀ p,S p=none->Q (.ref p) (put S p (.dit []))):=⟨fun h=>zn3 h⟩
instance zwA:St (zwO mo mi' d env S NQ) (mo env S (zsJ d mi' env NQ)):=⟨fun h=>zq0 h⟩
instance zwk:St (zsJ d mi' env NQ e S) (mi' env S (zuu d e env NQ)):=⟨fun h=>zqC h⟩
instance zzj:St (mFz me env S Q) (me env S (kFz Q)):=⟨fun h=>zxi h⟩
instance zwv:St (zwJ me env S R) (me env S (zst R)):=⟨fun h=>zqU h⟩
instance zv1:St (zst R (.rod ks xs) S) (R (ks.map fun k=>.tup (k.map kD)) (fun _=>True) S):=⟨fun h=>zqf h⟩
instance zvF:St (zrw me env S Q) (me env S (zmg Q)):=⟨fun h=>zpM h⟩
instance zuH {f:Bool}:St (zmg Q (.tp f xs) S) (Q (.tup xs.reverse) S):=⟨fun h=>znC h⟩
instance zxZ {mi mi1:IM} {g g1:GM} {t t1:TM} {m:EM} {vs vs1:List Nat}:St (zvr mi g t mi1 g1 t1 m vs vs1 env S Q) (mi env S (zvx g t mi1 g1 t1 m vs vs1 env Q)):=⟨fun h=>ztu h⟩
end
def zyy (n:Nat) (fa:List He.Fa) (fn:List He.DefD) (su:List SuD) (file:Str) (ex:List Str):PySem.W.Hook where
 α:=AlX
 obs:=fun s=>obsX fa fn su file ex (kFr n s.heap.get?)
 val:=fun _=>valX fn su
 says:=fun _ h=>∃ K:PySem.W.Frag,K.In h∧obsX fa fn su file ex K=valX fn su
 of:=fun _ _ e=>⟨_,He.frG_in,e⟩
 keeps:=fun _ _ _ ⟨K,hK,c⟩ k=>⟨K,hK.keeps k,c⟩
section
variable {env:Slo} {S:Sto} {A:Fin} {m:SM} {t:TM}
def kWh (W:Nat->Slo->Sto->Prop) (k:Nat) (m:SM) (A:Fin) (env:Slo):Bool->Sto->Prop:=fun b S1=>match b with
 | true=>m { A with nx:=fun e s=>∃ k',k' < k∧W k' e s,ct:=fun e s=>∃ k',k' < k∧W k' e s,bk:=A.nx } env S1
 | false=>A.nx env S1
end
theorem zo5 {a:D} {l:List D}:List.map some (a :: l)=some a :: List.map some l:=rfl
theorem zo4:List.map (some:D->Option D) []=[]:=rfl
theorem zo6 {a:Option D} {l m:List (Option D)}:(a :: l)++m=a :: (l++m):=rfl
theorem zo3 {m:List (Option D)}:[]++m=m:=rfl
theorem zo2 {n:Nat}:List.replicate (n+1) (none:Option D)=none :: List.replicate n none:=rfl
theorem zo1:List.replicate 0 (none:Option D)=[]:=rfl
theorem zo0 {a b:Option D} {l:List (Option D)}:List.set (a :: l) 0 b=b :: l:=rfl
theorem zoZ {a b:Option D} {l:List (Option D)} {n:Nat}:List.set (a :: l) (n+1) b=a :: List.set l n b:=rfl
theorem zoY {env:Slo}:zdV env []=env:=rfl
theorem zoX {env:Slo} {v:Nat} {vs:List Nat}:zdV env (v :: vs)=(zdV env vs).set v none:=rfl
section
variable {env env':Slo} {S:Sto} {A:Fin} {d:D} {i:Nat} {NQ:Slo->Sto->Prop}
theorem znT (e:env.set i (some d)=env') (h:A.nx env' S):zoQ (gNm i) env A d S:=by subst e;exact h
theorem zqZ (e:env.set i (some d)=env') (h:NQ env' S):gNm i d env S NQ:=by subst e;exact h
theorem zlJ (e:env.set i (some d)=env') (h:A.nx env' S):zk7 i env A d S:=by subst e;exact h
end
theorem zm0 {α β γ:Type} {f:α->β} {h:β->Option γ} {g:α->γ}:∀ {xs:List α},(∀ a∈xs,h (f a)=some (g a))->(xs.map f).mapM h=some (xs.map g)
 | [],_=>rfl
 | x :: xs,e=>by
  rw [List.map_cons,List.mapM_cons,e x (List.mem_cons_self ..),zm0 fun a ha=>e a (List.mem_cons_of_mem _ ha)]
  rfl
section
variable {S:Sto} {Q:DQ} {g:Bool->Bool} {p q:PyData} {a b:Addr} {fl fl':Bool} {xs ys:List D}
theorem zrc {n:Nat} {ps:List PyData} (e:S a=some (.lst xs)) (h:xs.mapM (rs S n)=some ps):rs S (n+1) (.ref a)=some (.list ps):=by
 unfold rs
 simp only [e,h]
 rfl
theorem zt9 {n:Nat} {ps:List PyData} (h:xs.mapM (rs S n)=some ps):rs S (n+1) (.tp fl xs)=some (.tuple ps):=by
 unfold rs
 simp only [h]
 rfl
end
section
variable {X:Cx} {B:Hp}
def zyC (f f':Bool) (xs ys:List D):Bool:=if xs.isEmpty then f' else if ys.isEmpty then f else false
def zw3:BM:=fun d e S Q=>match d,e with
 | .tp f xs,.tp f' ys=>xs.length+ys.length≤sizeLine∧Q (.tp (zyC f f' xs ys) (xs++ys)) S
 | _,_=>False
def zvh (d:D) (lo hi:Option Int) (S:Sto) (Q:DQ):Prop:=match d with
 | .tp f xs=>∀ g,(g=true->f=true)->Q (.tp g (cutD xs lo hi)) S
 | _=>False
def zvp (m:EM) (lo hi:OM):EM:=fun env S Q=>m env S fun d S1=>lo env S1 fun l S2=>hi env S2 fun h S3=>zvh d l h S3 Q
end
section
variable {env:Slo} {S:Sto} {Q:DQ} {me:EM} {lo hi:OM} {xs ys:List D} {f f':Bool} {l h':Option Int} {d:D}
def zup (d:D) (l:Option Int) (Q:DQ):Option Int->Sto->Prop:=fun h S3=>zvh d l h S3 Q
def zrM (d:D) (hi:OM) (env:Slo) (Q:DQ):Option Int->Sto->Prop:=fun l S2=>hi env S2 (zup d l Q)
def zss (lo hi:OM) (env:Slo) (Q:DQ):DQ:=fun d S1=>lo env S1 (zrM d hi env Q)
theorem ztf (h:me env S (zss lo hi env Q)):zvp me lo hi env S Q:=h
theorem zqe (h:lo env S (zrM d hi env Q)):zss lo hi env Q d S:=h
theorem zqd (h:hi env S (zup d l Q)):zrM d hi env Q l S:=h
instance zxK:St (zvp me lo hi env S Q) (me env S (zss lo hi env Q)):=⟨fun h=>ztf h⟩
instance zv0:St (zss lo hi env Q d S) (lo env S (zrM d hi env Q)):=⟨fun h=>zqe h⟩
instance zvZ:St (zrM d hi env Q l S) (hi env S (zup d l Q)):=⟨fun h=>zqd h⟩
end
section
variable {X:Cx} {B:Hp} {o e:Expr} {mo:EM} {ma:AM} {apos cpos pos:Pos} {tg:Expr}
def rPp:MM:=fun d ds S Q=>match d,ds with
 | .ref a,[]=>match S a with
  | some (.lst xs)=>match xs[xs.length - 1]? with
   | some y=>Q y (put S a (.lst xs.dropLast))
   | none=>False
  | _=>False
 | _,_=>False
theorem DVs.dropLast {K:PySem.W.Frag} {H:Hp} {ds:List D} {vs:List V} (h:DVs K H ds vs):DVs K H ds.dropLast vs.dropLast:=by
 rw [List.dropLast_eq_take,List.dropLast_eq_take,← h.length]
 exact h.take _
def rPa:MM:=fun d ds S Q=>match d,ds with
 | .ref a,[.int i]=>match S a with
  | some (.lst xs)=>-(2 ^ 63)≤i∧i < 2 ^ 63∧∃ k y,seqIndex? i xs.length=some k∧xs[k]? = some y∧Q y (put S a (.lst (xs.eraseIdx k)))
  | _=>False
 | _,_=>False
theorem zl9:zsb X "list.pop" rPa:=by
 refine zuk _ mt_popAt (fun x xs H Q d ds S h1 h2 r q=>?_) (fun d ds S Q Q' i q=>?_)
 ·unfold rPa at q
  split at q
  ·rename_i a i
   cases h2 with
   | cons d1 d2=>
   cases d2
   cases d1
   cases h1
   split at q
   ·rename_i ys e0
    obtain ⟨us,e,z⟩:=r _ _ e0
    obtain ⟨b1,b2,k,y,hk,hy,q⟩:=q
    obtain ⟨v,ev,dv⟩:=z.get hy
    rw [z.length] at hk
    exact ⟨_,us,i,k,v,rfl,rfl,e,b1,b2,hk,ev,zkh r e (z.eraseIdx k) dv q⟩
   ·exact q.elim
  ·exact q.elim
 ·unfold rPa at q ⊢
  split at q
  ·split at q
   ·obtain ⟨b1,b2,k,y,hk,hy,q⟩:=q
    exact ⟨b1,b2,k,y,hk,hy,i _ _ q⟩
   ·exact q.elim
  ·exact q.elim
theorem zl5 (ho:ME X B o mo) (ha:MA X B [e] ma) (hbase:attributeBase o "pop" X.env (eval o X.env)=eval o X.env:=by rfl)
  (hfew:((backTo cpos (starEach [e] X.env)).all (fun x=>!x.1) && (backToKw cpos (keywordEach [] X.env)).all (fun x=>x.1.isSome)
   && decide ([e].length+([]:List Keyword).length+(if ([]:List Keyword).isEmpty then 0 else 1) < 30))=true:=by rfl)
  (hline:(apos.endLine == cpos.line)=true:=by rfl) (hs:starEach [e] X.env=(false,eval e X.env) :: starEach [] X.env:=by rfl) (hplain:(backTo cpos (starEach [] X.env)).any (·.1)=false:=by rfl) :
  ME X B (.Call (.Attribute o "pop" apos) [e] [] cpos) (zgP okL rPa mo ma):=zkY zs4 zkn F.plainAttrs_list F.slot_list_pop F.type_list_pop zl9 ho ha hbase hfew hline hs hplain
def zkg (lo c:Int) (n:Nat):List D:=(List.range n).map fun (i:Nat)=>.int (lo+(i:Int) * c)
theorem zni {K:PySem.W.Frag} {P:Program} {w:World} {H1:Hp} {lo c:Int} {n:Nat}:WkD K P w H1 (Itc lo c n) (zkg lo c n) fun _=>True where
 go:=fun i S H hi _ _ _=>by
  show i < n
  simpa [zkg] using hi
 stop:=fun S H _ _ _=>by
  simp [zkg,Itc]
 yld:=fun i S H x H' hi l r _ y=>by
  obtain ⟨e1,e2⟩:=y
  subst e1 e2
  have hi':i < n:=by simpa [zkg] using hi
  exact ⟨Le.refl _,r,.int (lo+i * c),by simp [zkg,hi'],.int _⟩
def zie (m:AM):IM:=fun env S R=>m env S fun ds S1=>match ds with
 | [.int i,.int j,.int c]=>∃ n,RgC i j c n∧R (zkg i c n) (fun _=>True) S1
 | _=>False
theorem zkX {a b c:Expr} {m:AM} {p:Pos} (ha:MA X B [a,b,c] m) (h:∀ {ta:TA},PA X [a,b,c] ta->PI X tg (.Call (.Name "range" p) [a,b,c] [] pos) (iRng3 ta)):MI X B tg (.Call (.Name "range" p) [a,b,c] [] pos) (zie m):=by
 refine ⟨zjp (h ha.pa) fun σ H R q=>?_,fun env S Q Q' i q=>ha.mono env S _ _ (fun d S1 q=>?_) q⟩
 ·obtain ⟨lB,env,S,r0,z0,q⟩:=q
  refine ⟨lB,env,S,r0,z0,ha.mono env S _ _ (fun ds S1 q vs H1 l1 z1 d1=>?_) q⟩
  split at q
  ·cases d1 with
   | cons dv d1=>
   cases d1 with
   | cons dv' d1=>
   cases d1 with
   | cons dv'' d1=>
   cases d1
   cases dv;cases dv';cases dv''
   obtain ⟨n,hn,q⟩:=q
   exact ⟨_,_,_,n,rfl,hn,q _ H1 l1 z1 zni⟩
  ·exact q.elim
 ·split at q
  ·obtain ⟨n,hn,q⟩:=q
   exact ⟨n,hn,i _ _ _ q⟩
  ·exact q.elim
end
def zjh (K:PySem.W.Frag) (C:Addr) (su:SuM) (W:XW) (A:Fin):XW:=fun c fs env S=>∃ b,PySem.W.exmOne K c (.ref C)=some b∧(b=true->∀ a,S a=none->su a c fs A env S)∧(b=false->W c fs env S)
def zma (K:PySem.W.Frag) (b:XW->SM) (C:Addr) (su:SuM) (W:XW):SM:=fun A env S=>∃ A0,zeg A0 A∧b (zjh K C su W A0) A0 env S
section
variable {X:Cx} {B:Hp} {W:XW}
theorem zot {bd:List Stmt} {x:Str} {st0:Stmt} {rest:List Stmt} {np pos pos':Pos} {b:XW->SM} {C:Addr} {su:SuM} (hst:X.stack=X.env :: X.outer) (hfr:X.env.frame=some X.env.locals) (hc:Names X x (.ref C)) (tk:Tk X B W)
  (hb:∀ (B':Hp) (W':XW) (pn:List (Addr×Obj)) (xe:Value->Shared->Prop),Tk (X.tr pn xe) B' W'->PassesOwn (model X.prog X.w) X.A X.env xe->MSs (X.tr pn xe) B' bd (b W'))
  (hsu:∀ (a:Addr) (oe:Obj) (cls:Value) (d:Option Addr) (pn:List (Addr×Obj)),Zc cls d oe->(∃ vs,oe.data = .fields vs)->∀ (fs:List (Str×D)) (B':Hp),XdR X.K B' d fs->MSs (X.suite a ((a,oe) :: pn)) B' (st0 :: rest) (su a cls fs)) :
  MS X B (.Try bd [.ExceptHandler (some (.Name x np)) none (st0 :: rest) pos'] [] [] pos) (zma X.K b C su W):=by
 refine ⟨zd4 (ps_try_only (ts:=tSu X.K X.prog X.w su) (tb:=fun WW D' σ H=>∃ (W':XW) (A0:Fin) (env:Slo) (S:Sto),(∀ cls d σ' H',upW X.K X.prog X.w H W' cls d σ' H'->WW cls d σ' H')∧zeg A0 (dnF X.K X.prog X.w H D')∧zdk X.K H env σ∧Rp X.K X.prog X.w S H∧b W' A0 env S) hst hfr hc tk (fun WW pn xe tk' po=>⟨fun pins s σ H D' I z=>?_⟩) (fun a oe cls d pn hz hf=>⟨fun pins s σ H D' I z=>?_⟩)) fun D' σ H q=>?_,fun A A' env S le q=>?_⟩
 ·obtain ⟨W',A0,env,S,imp,le,er,rp,q⟩:=z
  have M:=hb H W' pn xe (tk'.imp imp) po
  exact M.ps.run pins s σ H D' I ⟨Le.refl H,env,S,er,rp,M.mono _ _ _ _ le q⟩
 ·obtain ⟨fs,A1,env,S,xd,le,er,rp,q⟩:=z
  have M:=hsu a oe cls d pn hz hf fs H xd
  exact M.ps.run pins s σ H D' I ⟨Le.refl H,env,S,er,rp,M.mono _ _ _ _ le q⟩
 ·obtain ⟨lB,env,S,er,rp,A0,le,q⟩:=q
  refine ⟨zjh X.K C su W A0,A0,env,S,fun cls d σ' H' z=>?_,le,er,rp,q⟩
  obtain ⟨l1,env',S',fs,er',rp',xd,b',hb',yes,no⟩:=z
  refine ⟨b',hb',fun e a na=>?_,fun e=>⟨lB.trans l1,env',S',fs,er',rp',xd,no e⟩⟩
  refine ⟨fs,_,_,S',xd,?_,er',rp',yes e a (rp'.free na)⟩
  exact ⟨fun e s q σ' H' l' r z=>le.nx _ _ q _ H' (l1.trans l') r z,fun x s q v H' l' z dv=>le.rt _ _ q v H' (l1.trans l') z dv,fun e s q σ' H' l' r z=>le.bk _ _ q _ H' (l1.trans l') r z,fun e s q σ' H' l' r z=>le.ct _ _ q _ H' (l1.trans l') r z⟩
 ·obtain ⟨A0,le0,q⟩:=q
  exact ⟨A0,le0.trans le,q⟩
structure TabOk (K:PySem.W.Frag) (w:World) (a:Addr) (kvs:List (Str×Int)):Prop where
 kd:∃ es n,KDict K w a es n
 at_:∀ k i,kvs.lookup k=some i->∃ t,PySem.W.nsIn K a k=some (some (.int i t))
def zvd (kvs:List (Str×Int)) (m:EM):EM:=fun env S Q=>m env S fun d S1=>match d with
 | .str z=>(match kvs.lookup z with
  | some i=>Q (.int i) S1
  | none=>False)
 | _=>False
end
def zyx (n:Nat) (fa:List He.Fa) (fn:List He.DefD) (su:List SuD) (file:Str) (ex:List Str) (tb:List zfr):PySem.W.Hook where
 α:=AlG
 obs:=fun s=>obsG fa fn su file ex tb (kFr n s.heap.get?)
 val:=fun w=>zpu fn su tb w
 says:=fun w h=>∃ K:PySem.W.Frag,K.In h∧obsG fa fn su file ex tb K=zpu fn su tb w
 of:=fun _ _ e=>⟨_,He.frG_in,e⟩
 keeps:=fun _ _ _ ⟨K,hK,c⟩ k=>⟨K,hK.keeps k,c⟩
structure Tg (fa:List He.Fa) (fn:List He.DefD) (su:List SuD) (file:Str) (ec:List Str) (tb:List zfr) (w:World) (K:PySem.W.Frag) (mg:Str->Option Value):Prop extends Tz fa fn su file ec K mg where
 tabs:∀ t∈tb,TabOk K w (He.ga K t.1) t.2
theorem lookup_mem {kvs:List (Str×Int)} {k:Str} {i:Int} (h:kvs.lookup k=some i):(k,i)∈kvs:=by
 induction kvs with
 | nil=>cases h
 | cons a r ih=>
  rw [List.lookup_cons] at h
  split at h
  ·rename_i e
   have e':k=a.1:=by simpa using e
   cases h
   subst e'
   exact List.mem_cons_self
  ·exact List.mem_cons_of_mem _ (ih h)
theorem Tg.mk' {fa:List He.Fa} {fn:List He.DefD} {su:List SuD} {file:Str} {ex:List Str} {tb:List zfr} {w:World} {K:PySem.W.Frag} {mg:Str->Option Value} {h:Heap} (X:K.In h) (G:h.Ns mainGlobals mg) (c:obsG fa fn su file ex tb K=zpu fn su tb w):Tg fa fn su file ex tb w K mg:=by
 refine ⟨Tz.mk' X G (congrArg (fun z:AlG=>z.1) c),fun t ht=>⟨?_,fun k i e=>?_⟩⟩
 ·have c2:(tb.map fun t=>He.dicW K (He.ga K t.1))=tb.map fun t=>some (He.keysIn w.params (t.2.map (·.1))):=congrArg (fun z:AlG=>z.2.2) c
  obtain ⟨i,hi⟩:=List.getElem?_of_mem ht
  have e2:(tb.map fun t=>He.dicW K (He.ga K t.1))[i]? = (tb.map fun t=>some (He.keysIn w.params (t.2.map (·.1))))[i]?:=by rw [c2]
  rw [List.getElem?_map,List.getElem?_map,hi] at e2
  exact He.dicW_ok (Option.some.inj e2)
 ·have c1:tb.all (zvk K)=true:=congrArg (fun z:AlG=>z.2.1) c
  have c3:=List.all_eq_true.mp (List.all_eq_true.mp c1 t ht) _ (lookup_mem e)
  dsimp only at c3
  split at c3
  ·rename_i j tt e3
   have:=of_decide_eq_true c3
   subst this
   exact ⟨tt,e3⟩
  ·cases c3
theorem Tx.str {fa:List He.Fa} {fn:List He.DefD} {K:PySem.W.Frag} {mg:Str->Option Value} (T:Tx fa fn K mg) (i:Nat) {x z:Str} (h:fa[i]? = some (.str x z):=by rfl):∃ t,mg x=some (.str z t):=by
 obtain ⟨_,X,G,c⟩:=T.ex
 exact He.str_ok X G (c.fact i h)
section
variable {K:PySem.W.Frag} {b:XW->SM} {C:Addr} {su:SuM} {W:XW} {A:Fin} {env:Slo} {S:Sto} {Q:DQ} {m:EM} {kvs:List (Str×Int)}
theorem zpG (h:b (zjh K C su W A) A env S):zma K b C su W A env S:=⟨A,zeg.refl A,h⟩
end
structure Enc {α:Type} [DecidableEq α] (k:Nat) (f:α->D) (g:α->PyData):Prop where
 rd:∀ (S:Sto) (n:Nat) (a:α),k≤n->rs S n (f a)=some (g a)
 eq:∀ a b,PyData.eqv (g a) (g b)=decide (a=b)
theorem zeZ:Enc 0 D.str PyData.str:=⟨fun S n a _=>by cases n <;> rfl,fun a b=>(zfD a b).symm⟩
theorem zld:Enc 0 D.int PyData.int:=⟨fun S n a _=>by cases n <;> rfl,fun a b=>by
 show decide (a=b)=_
 rfl⟩
theorem zlc:Enc 0 (fun (i:Nat)=>D.int (i:Int)) (fun (i:Nat)=>PyData.int (i:Int)):=⟨fun S n a _=>by cases n <;> rfl,fun a b=>by
 show decide ((a:Int)=(b:Int))=_
 by_cases h:a=b
 ·subst h;simp
 ·rw [decide_eq_false h,decide_eq_false (by omega)]⟩
section
variable {α β:Type} [DecidableEq α] [DecidableEq β] {k k':Nat} {f:α->D} {g:α->PyData} {f':β->D} {g':β->PyData}
theorem Enc.mono (h:Enc k f g) (hk:k≤k'):Enc k' f g:=⟨fun S n a hn=>h.rd S n a (by omega),h.eq⟩
theorem Enc.all (h:Enc k f g):∀ xs ys:List α,PyData.eqvAll (xs.map g) (ys.map g)=decide (xs=ys)
 | [],[]=>by simp [PyData.eqvAll]
 | [],y :: ys=>by simp [PyData.eqvAll]
 | x :: xs,[]=>by simp [PyData.eqvAll]
 | x :: xs,y :: ys=>by
  rw [List.map_cons,List.map_cons,PyData.eqvAll,h.eq,h.all xs ys]
  by_cases e:x=y
  ·subst e;simp
  ·simp [e]
theorem Enc.many (h:Enc k f g) (S:Sto) {n:Nat} (hn:k≤n) (xs:List α):(xs.map f).mapM (rs S n)=some (xs.map g):=zm0 fun a _=>h.rd S n a hn
theorem Enc.tup (h:Enc k f g) (fl:Bool):Enc (k+1) (fun xs:List α=>D.tp fl (xs.map f)) (fun xs=>.tuple (xs.map g)):=⟨fun S n a hn=>by
 obtain ⟨n,rfl⟩:∃ m,n=m+1:=⟨n - 1,by omega⟩
 show ((a.map f).mapM (rs S n)).map PyData.tuple=_
 rw [h.many S (by omega)]
 rfl,fun a b=>by rw [PyData.eqv,h.all]⟩
theorem Enc.cons (h:Enc k f g) (h':Enc k f' g') (fl:Bool):Enc (k+1) (fun z:α×List β=>D.tp fl (f z.1 :: z.2.map f')) (fun z=>.tuple (g z.1 :: z.2.map g')):=⟨fun S n a hn=>by
 obtain ⟨n,rfl⟩:∃ m,n=m+1:=⟨n - 1,by omega⟩
 show ((f a.1 :: a.2.map f').mapM (rs S n)).map PyData.tuple=_
 rw [List.mapM_cons,h.rd S n _ (by omega),h'.many S (by omega)]
 rfl,fun a b=>by
 obtain ⟨a1,a2⟩:=a
 obtain ⟨b1,b2⟩:=b
 rw [PyData.eqv,PyData.eqvAll,h.eq,h'.all]
 by_cases e:a1=b1
 ·subst e
  by_cases e2:a2=b2
  ·subst e2;simp
  ·simp [e2]
 ·simp [e]⟩
theorem Enc.pair (h:Enc k f g) (h':Enc k f' g') (fl:Bool):Enc (k+1) (fun z:α×β=>D.tp fl [f z.1,f' z.2]) (fun z=>.tuple [g z.1,g' z.2]):=⟨fun S n a hn=>by
 obtain ⟨n,rfl⟩:∃ m,n=m+1:=⟨n - 1,by omega⟩
 show ([f a.1,f' a.2].mapM (rs S n)).map PyData.tuple=_
 rw [List.mapM_cons,List.mapM_cons,h.rd S n _ (by omega),h'.rd S n _ (by omega)]
 rfl,fun a b=>by
 obtain ⟨a1,a2⟩:=a
 obtain ⟨b1,b2⟩:=b
 rw [PyData.eqv,PyData.eqvAll,PyData.eqvAll,PyData.eqvAll,h.eq,h'.eq]
 by_cases e:a1=b1
 ·subst e
  by_cases e2:a2=b2
  ·subst e2;simp
  ·simp [e2]
 ·simp [e]⟩
theorem Enc.any (h:Enc k f g) (z:α):∀ zs:List α,((zs.map g).any fun y=>PyData.eqv y (g z))=decide (z∈zs)
 | []=>by simp
 | y :: zs=>by
  rw [List.map_cons,List.any_cons,h.any z zs,h.eq]
  by_cases e:y=z
  ·subst e;simp
  ·have e2:¬ z=y:=fun q=>e q.symm
   simp [e,e2]
variable {S:Sto} {Q:DQ} {u:Bool->Bool} {a b:Addr} {z y:α} {zs ys:List α}
theorem Enc.inL (h:Enc k f g) (hk:k≤39) (e0:S a=some (.lst (zs.map f))) (q:Q (.bl (u (decide (z∈zs)))) S):zhl u (f z) (.ref a) S Q:=
 znX e0 (h.rd S 40 z (by omega)) (zrc e0 (h.many S (by omega) zs)) (by rw [h.any];exact q)
theorem Enc.inT (h:Enc k f g) (hk:k≤39) {fl:Bool} (q:Q (.bl (u (decide (z∈zs)))) S):zhl u (f z) (.tp fl (zs.map f)) S Q:=
 zgX (h.rd S 40 z (by omega)) (zt9 (h.many S (by omega) zs)) (by rw [h.any];exact q)
theorem zq4 {d e:D} {p q:PyData} (e1:rs S 40 d=some p) (e2:rs S 40 e=some q) (h:Q (.bl (u (PyData.eqv p q))) S):zio u d e S Q:=by
 unfold zio
 split
 ·cases e1;cases e2
  rw [zfD];exact h
 ·cases e1;cases e2
  exact h
 ·cases e1;cases e2
  rename_i x y
  have e:PyData.eqv (.bool x) (.bool y)=decide (x=y):=by
   cases x <;> cases y <;> rfl
  rw [e] at h
  exact h
 ·simp only [e1,e2]
  exact h
theorem Enc.eqv (h:Enc k f g) (hk:k≤40) (q:Q (.bl (u (decide (z=y)))) S):zio u (f z) (f y) S Q:=
 zq4 (h.rd S 40 z hk) (h.rd S 40 y hk) (by rw [h.eq];exact q)
end
section
variable {env:Slo} {S:Sto} {Q:DQ} {ms:AM} {R:List D->(Sto->Prop)->Sto->Prop} {xs:List D} {a:Addr}
def kR3 (R:List D->(Sto->Prop)->Sto->Prop):List D->Sto->Prop:=fun ds S1=>match ds with
 | [.int i,.int j,.int c]=>∃ n,RgC i j c n∧R (zkg i c n) (fun _=>True) S1
 | _=>False
theorem ztT (h:ms env S (kR3 R)):zie ms env S R:=h
theorem ztA {i j c:Int} {n:Nat} (hn:RgC i j c n) (h:R (zkg i c n) (fun _=>True) S):kR3 R [.int i,.int j,.int c] S:=⟨n,hn,h⟩
instance zyd:St (zie ms env S R) (ms env S (kR3 R)):=⟨fun h=>ztT h⟩
theorem zoc {lo c:Int} {n i:Nat} {x:D} (h:(zkg lo c n)[i]? = some x):x = .int (lo+i * c)∧i < n:=by
 unfold zkg at h
 rw [List.getElem?_map] at h
 cases e:(List.range n)[i]? with
 | none=>rw [e] at h;cases h
 | some j=>
  rw [e] at h
  obtain ⟨h1,h2⟩:=List.getElem?_eq_some_iff.mp e
  rw [List.getElem_range] at h2
  subst h2
  cases h
  exact ⟨rfl,by simpa using h1⟩
theorem zlT {lo c:Int} {n:Nat}:(zkg lo c n).length=n:=by simp [zkg]
theorem znt {i:Int} {k:Nat} {y:D} (e0:S a=some (.lst xs)) (b1:-(2 ^ 63)≤i) (b2:i < 2 ^ 63) (hk:seqIndex? i xs.length=some k) (hy:xs[k]? = some y) (h:Q y (put S a (.lst (xs.eraseIdx k)))):rPa (.ref a) [.int i] S Q:=by
 unfold rPa
 simp only [e0]
 exact ⟨b1,b2,k,y,hk,hy,h⟩
theorem zpP {k:Nat} {y:D} (e0:S a=some (.lst xs)) (hl:xs.length≤1000000) (hy:xs[k]? = some y) (h:Q y (put S a (.lst (xs.eraseIdx k)))):rPa (.ref a) [.int (k:Int)] S Q:=by
 have hk:k < xs.length:=(List.getElem?_eq_some_iff.mp hy).1
 refine znt e0 (by omega) (by omega) ?_ hy h
 unfold seqIndex?
 have h1:¬ (k:Int) < 0:=by omega
 simp [h1,hk]
variable {K:PySem.W.Frag} {b:XW->SM} {C:Addr} {su:SuM} {W:XW} {A:Fin} {m:EM} {kvs:List (Str×Int)}
instance zvD:St (zma K b C su W A env S) (b (zjh K C su W A) A env S):=⟨fun h=>zpG h⟩
def zvu (kvs:List (Str×Int)) (Q:DQ):DQ:=fun d S1=>match d with
 | .str z=>(match kvs.lookup z with
  | some i=>Q (.int i) S1
  | none=>False)
 | _=>False
theorem zpH (h:m env S (zvu kvs Q)):zvd kvs m env S Q:=h
instance zxH:St (zvd kvs m env S Q) (m env S (zvu kvs Q)):=⟨fun h=>zpH h⟩
end
def zyG (C:Addr) (sp:SpD) (g:Bool->Bool):BM:=fun d e S Q=>match d,e with
 | .ref a,.ref b=>(∃ fs,S a=some (.ins C fs))∧(∃ fs,S b=some (.ins C fs))∧sp [.ref a,.ref b] S (fun v S'=>∃ r,v = .bl r∧Q (.bl (g r)) S') (fun _ _ _=>False)
 | _,_=>False
structure EqC (K:PySem.W.Frag) (C f:Addr):Prop where
 hs:PySem.W.findIn K (.ref C) "__eq__" = some (some (.ref f))
 hf:PySem.W.isFn K (.ref f)=true
 own:∀ h:Heap,K.In h->∀ x o,h.get? x=some o->o.cls = .ref C->h.OwnEqNoNe x C f "object" [.type "object"]
section
variable {X:Cx} {k:Nat} {C f:Addr} {sp:SpD}
end
def zw5 (K:PySem.W.Frag) (f g:Str):Sp:=fun vs H Q _=>∃ (a:Addr) (y z:V) (C:Addr),vs=[.ref a,y,z]∧OexC K C∧PySem.W.findIn K (.ref C) f=some none∧PySem.W.findIn K (.ref C) g=some none∧H a=some (exo a C none)∧
 ∀ dx,H dx=none->dx≠a->Q .non (upd (upd (upd H dx (exd dx [(f,y)])) a (exo a C (some dx))) dx (exd dx [(g,z),(f,y)]))
structure zyE (P:Program) (w:World) (K:PySem.W.Frag) (mg:Str->Option Value) (base:Heap) (x f g:Str):Prop where
 gC:mg x=some (.ref (He.ga K x))
 oex:OexC K (He.ga K x)
 iC:PySem.W.findIn K (.ref (He.ga K x)) "__init__" = some (some (.ref (He.ma K (He.ga K x) "__init__")))
 tI:PySem.W.typeIn K (.ref (He.ma K (He.ga K x) "__init__"))=some (.type "function")
 hno1:PySem.W.findIn K (.ref (He.ga K x)) f=some none
 hno2:PySem.W.findIn K (.ref (He.ga K x)) g=some none
 xf:XfC K (He.ga K x)
 fn:∃ fd ps,FnOk P w K mg base (L2.CX P w) 1 (He.ma K (He.ga K x) "__init__") fd ps (zw5 K f g)∧Binds K fd ps []
def zk3 (C:Addr) (f g:Str) (W:XW) (ma:AM):SM:=fun _ env S=>ma env S fun ds S1=>match ds with
 | [y,z]=>W (.ref C) [(g,z),(f,y)] env S1
 | _=>False
section
variable {X:Cx} {B:Hp} {W:XW} {ma:AM} {x f g:Str} {p pos pos':Pos} {e e2:Expr}
end
structure IsC (K:PySem.W.Frag) (C:Addr):Prop where
 cl:Cls K C
 ha:PySem.W.findIn K (.ref C) "__class__" = some (some (.builtin "object.__class__"))
 hn:PySem.W.specialIn K (.builtin "object.__class__") "__get__" = some (some (.builtin "getset_descriptor.__get__"))
 htk:PySem.W.takesIn K (.builtin "object.__class__")=some true
 hm:PySem.W.mroIn K C (.type "object")=some true
def zyM (C:Addr):CM:=fun ds S Q=>match ds with
 | [.ref a,.ref c]=>c=C∧(∃ fs,S a=some (.ins C fs))∧Q (.bl true) S
 | _=>False
def hookE (n:Nat) (fa:List He.Fa) (fn:List He.DefD) (su:List SuD) (file:Str) (ex:List Str) (tb:List zfr) (eq:List Str):PySem.W.Hook where
 α:=AlE
 obs:=fun s=>obsE fa fn su file ex tb eq (kFr n s.heap.get?)
 val:=fun w=>valE fn su tb w
 says:=fun w h=>∃ K:PySem.W.Frag,K.In h∧obsE fa fn su file ex tb eq K=valE fn su tb w
 of:=fun _ _ e=>⟨_,He.frG_in,e⟩
 keeps:=fun _ _ _ ⟨K,hK,c⟩ k=>⟨K,hK.keeps k,c⟩
structure Te (fa:List He.Fa) (fn:List He.DefD) (su:List SuD) (file:Str) (ec:List Str) (tb:List zfr) (eq:List Str) (w:World) (K:PySem.W.Frag) (mg:Str->Option Value):Prop extends Tg fa fn su file ec tb w K mg where
 eqs:∀ x∈eq,(neB K (He.ga K x) && isB K (He.ga K x))=true
theorem Te.mk' {fa:List He.Fa} {fn:List He.DefD} {su:List SuD} {file:Str} {ex:List Str} {tb:List zfr} {eq:List Str} {w:World} {K:PySem.W.Frag} {mg:Str->Option Value} {h:Heap} (X:K.In h) (G:h.Ns mainGlobals mg) (c:obsE fa fn su file ex tb eq K=valE fn su tb w):Te fa fn su file ex tb eq w K mg:=
 ⟨Tg.mk' X G (congrArg (fun z:AlE=>z.1) c),List.all_eq_true.mp (congrArg (fun z:AlE=>z.2) c)⟩
section
variable {env:Slo} {S:Sto} {Q:DQ} {ma:AM} {A:Fin} {C:Addr} {f g':Str} {W:XW} {d e:D}
def zsu (C:Addr) (f g:Str) (W:XW) (env:Slo):List D->Sto->Prop:=fun ds S1=>match ds with
 | [y,z]=>W (.ref C) [(g,z),(f,y)] env S1
 | _=>False
theorem zlG (h:ma env S (zsu C f g' W env)):zk3 C f g' W ma A env S:=h
theorem zqg (h:W (.ref C) [(g',e),(f,d)] env S):zsu C f g' W env [d,e] S:=h
instance zsP:St (zk3 C f g' W ma A env S) (ma env S (zsu C f g' W env)):=⟨fun h=>zlG h⟩
instance zv2:St (zsu C f g' W env [d,e] S) (W (.ref C) [(g',e),(f,d)] env S):=⟨fun h=>zqg h⟩
end
section
open PyProof.Rows
variable {prog:Program} {w:World} {A:Around} {E:Value->Shared->Prop} {s:Shared}
end
section
variable {X:Cx}
end
section
variable {X:Cx} {B:Hp} {pos:Pos}
def zyI:BM:=fun d e S Q=>match d,zmf e with
 | .ref a,some k=>match S a with
  | some (.dit kvs)=>match valD kvs k with
   | some v=>Q v S
   | none=>False
  | _=>False
 | _,_=>False
def zw1 (g:Bool->Bool):BM:=fun d e S Q=>match zmf d,e with
 | some k,.ref a=>match S a with
  | some (.dit kvs)=>Q (.bl (g (valD kvs k).isSome)) S
  | _=>False
 | _,_=>False
def zvg:CM:=fun ds S Q=>match ds with
 | [.tp _ xs]=>∃ ns:List Int,xs=ns.map D.int∧ns.length < 64∧∀ ns':List Int,ns'.Perm ns->ns'.Pairwise (·≤·)->∀ p,S p=none->Q (.ref p) (put S p (.lst (ns'.map D.int)))
 | _=>False
def zrE (m:EM):EM:=fun env S Q=>m env S fun d S1=>match d with
 | .int i=>Q (.int (Builtin.Int.intBits i:Nat)) S1
 | _=>False
end
def gTL (n:Nat) (gs:GsM):GM:=fun d env S Q=>match d with
 | .ref a=>match S a with
  | some (.lst ds)=>ds.length=n∧gs ds env S Q
  | _=>False
 | _=>False
section
variable {X:Cx} {B:Hp} {pos:Pos}
end
def zy3 (i j:Nat) (ma:AM):SM:=fun A env S=>ma env S fun ds S1=>match ds with
 | [d,e]=>A.nx ((env.set i (some d)).set j (some e)) S1
 | _=>False
section
variable {X:Cx} {B:Hp} {pos:Pos}
end
section
variable {env:Slo} {S:Sto} {ma:AM} {A:Fin} {i j:Nat} {d e:D}
def zy6 (i j:Nat) (A:Fin) (env:Slo):List D->Sto->Prop:=fun ds S1=>match ds with
 | [d,e]=>A.nx ((env.set i (some d)).set j (some e)) S1
 | _=>False
end
section
variable {env:Slo} {S:Sto} {Q:DQ} {a:Addr} {d:D} {m:EM} {kvs:List (List Key×D)} {k:List Key} {v:D}
def zmn (Q:DQ):DQ:=fun d S1=>match d with
 | .int i=>Q (.int (Builtin.Int.intBits i:Nat)) S1
 | _=>False
theorem zq8 (h:m env S (zmn Q)):zrE m env S Q:=h
theorem znP {i:Int} (h:Q (.int (Builtin.Int.intBits i:Nat)) S):zmn Q (.int i) S:=h
instance zwF:St (zrE m env S Q) (m env S (zmn Q)):=⟨fun h=>zq8 h⟩
instance zuS {i:Int}:St (zmn Q (.int i) S) (Q (.int (Builtin.Int.intBits i:Nat)) S):=⟨fun h=>znP h⟩
end
open PyProof.Rows (sortedS envOfC)
section
open PyProof.Rows
variable {prog:Program} {w:World} {A:Around} {E:Value->Shared->Prop} {s:Shared}
end
section
variable {X:Cx}
def zve:CM:=fun ds S Q=>match ds with
 | [.tp _ xs]=>∃ zs:List Str,xs=zs.map D.str∧zs.length < 64∧∀ ys,ys.Perm zs->sortedS ys=true->∀ p,S p=none->Q (.ref p) (put S p (.lst (ys.map D.str)))
 | _=>False
def eqz (k:Str) (v:Value):Bool:=match v with
 | .str n _=>n.cps.toList == k.cps.toList
 | _=>false
def zxo:V->List V->Hp->VK->Prop:=fun x xs H Q=>∃ (l:Addr) (ns:List Str) (k:Str) (j:Nat),x = .ref l∧xs=[.str k]∧H l=some (.lst (ns.map V.str))∧ns[j]? = some k∧(∀ m:Nat,m < j->ns[m]?≠some k)∧Q .non (upd H l (.lst ((ns.eraseIdx j).map V.str)))
def zyV:MM:=fun d ds S Q=>match d,ds with
 | .ref a,[.str k]=>∃ (zs:List Str) (j:Nat),S a=some (.lst (zs.map D.str))∧zs[j]? = some k∧(∀ m:Nat,m < j->zs[m]?≠some k)∧Q .non (put S a (.lst ((zs.eraseIdx j).map D.str)))
 | _,_=>False
end
section
variable {X:Cx} {B:Hp} {pos cpos apos:Pos} {o e value:Expr} {mo me:EM}
def zrF (K:PySem.W.Frag) (mo me:EM) (f:Str) (r:BM):SM:=fun A env S=>mo env S fun d S1=>match d with
 | .ref a=>match S1 a with
  | some (.ins C fs)=>match fs.lookup f with
   | some v=>FOk K C f∧me env S1 fun y S2=>r v y S2 fun z S3=>match S3 a with
    | some (.ins C' fs')=>C'=C∧fs'.length < 1000∧A.nx env (put S3 a (.ins C (zeP f z fs')))
    | _=>False
   | none=>False
  | _=>False
 | _=>False
end
section
variable {X:Cx} {B:Hp} {pos cpos apos tpos:Pos} {o e value:Expr} {mo me:EM}
end
structure FdK (P:Program) (w:World) (K:PySem.W.Frag) (mg:Str->Option Value) (base:Heap) (k:Nat) (f:Addr) (sp:SpD) (n:Nat) (x:Str) (i:Int):Prop where
 ex:∃ fd ps,FnOk P w K mg base (L2.CX P w) k f fd ps (zil K P w sp)∧KBn K fd ps n [x] (fun us ws=>us++ws) (fun vs zs=>vs++zs)∧∃ ds,Vals [V.int i] ds∧Binds K fd ps ds
 kp:PySem.W.keepIn K (.ref f)=true
 mono:zfa sp
section
variable {P:Program} {w:World} {K:PySem.W.Frag} {mg:Str->Option Value} {base:Heap}
end
section
variable {X:Cx} {B:Hp} {W:XW} {k n:Nat} {f:Addr} {sp:SpD} {x y:Str} {i:Int} {p pos kpos:Pos} {e e2:Expr} {es:List Expr} {ma:AM} {m2:EM}
def zm7 (sp:SpD) (W:XW) (n:Nat) (m:AM) (m2:EM):EM:=fun env S Q=>m env S fun ds S1=>m2 env S1 fun d S2=>ds.length=n∧sp (ds++[d]) S2 Q fun c fs S'=>W c fs env S'
def zm8 (sp:SpD) (W:XW) (i:Int) (m:AM):EM:=fun env S Q=>m env S fun ds S1=>sp (ds++[.int i]) S1 Q fun c fs S'=>W c fs env S'
theorem zkN {CX:CXT} {fd:FuncData} {ps ks:List Str} {sp:Sp} {E:L2.St->XK} {kws:List Keyword} {t tk:TA} {g:List Value->List Value->List Value} {gV:List V->List V->List V} (F:FnOk X.prog X.w X.K X.mg X.base CX k f fd ps sp) (hr:Room k X.A) (hg:Gl X x) (hm:X.mg x=some (.ref f)) (hk:PySem.W.keepIn X.K (.ref f)=true) (hb:KBn X.K fd ps n ks g gV) (hx:∀ σ,PassesAt CX X σ (E σ))
  (ha:PA X (e :: es) t) (hkw:PK X kws tk) (hall:(backToKw pos (keywordEach kws X.env)).all (·.1.isSome)=true:=by rfl) (hks:(backToKw pos (keywordEach kws X.env)).filterMap (·.1)=ks:=by rfl)
  (hdb:(x == ("__debug__" : Str))=false:=by decide) (he:starEach (e :: es) X.env=(false,eval e X.env) :: starEach es X.env:=by rfl)
  (hpl:((backTo pos (starEach (e :: es) X.env)).any (·.1) || (backToKw pos (keywordEach kws X.env)).any (·.1.isNone))=false:=by rfl) :
  PE X (.Call (.Name x p) (e :: es) kws pos) (fun σ H Q=>t σ H fun vs H1=>tk σ H1 fun zs H2=>vs.length=n∧zs.length=ks.length∧sp (gV vs zs) H2 Q (E σ)):=by
 refine ⟨fun pins s σ H Q I h=>?_⟩
 refine wpAny_Call_Name_kw (ld_glob I hg hm ?_ hdb)
 refine PySem.W.callWith_KW (h₀:=X.base) I.ok.mod.kin hk hall (thn (ha.run pos pins s σ H _ I h) fun us s1 ⟨vs,H1,I1,r,q⟩=>?_) hpl he
 refine thn (hkw.run pos pins s1 σ H1 _ I1 q) fun ws s2 ⟨zs,H2,I2,rz,l1,l2,q2⟩=>⟨I2.kIn,?_⟩
 rw [hks]
 have r2:=hb.rel r rz
 refine wpAny_call (codeAny_mono (F.run X.A X.stack s2 H2 ⟨us,ks.zip ws⟩ (g us ws) (gV vs zs) Q (E σ) hr I2.env0 (hb.to s2 us ws I2.kIn (r.length.symm.trans l1) (rz.length.symm.trans l2)) r2 q2) fun r s' hq=>?_)
 cases r with
 | error e=>exact hx σ pins H2 s2 e s' I2 hq
 | ok fl=>
  cases fl with
  | ret u=>exact I2.after hq
  | next=>exact False.elim hq
  | brk=>exact False.elim hq
  | cont=>exact False.elim hq
end
structure zmC (K:PySem.W.Frag) (a:Addr) (zs:List Str):Prop where
 sq:∀ H,SqT K H a (zs.map V.str)
 sh:SeqAt.shaped (.tuple (zs.map PyData.str))=true
theorem zin:∀ {us:List Value} {zs:List Str},us.map zvl=zs.map some->Vals (zs.map V.str) us
 | [],[],_=>.nil
 | [],z :: zs,h=>by cases h
 | u :: us,[],h=>by cases h
 | u :: us,z :: zs,h=>by
  rw [List.map_cons,List.map_cons] at h
  injection h with h1 h2
  refine .cons ?_ (zin h2)
  cases u <;> first | (cases h1;done) | skip
  rename_i y t
  cases h1
  exact ⟨t,rfl⟩
theorem zmr {K:PySem.W.Frag} {t:Str×List Str} (h:zms K t=true):zmC K (He.ga K t.1) t.2:=by
 unfold zms at h
 split at h
 ·rename_i c dd its n sl e
  obtain ⟨h1,h⟩:=He.ba h
  obtain ⟨h2,h⟩:=He.ba h
  obtain ⟨h3,h4⟩:=He.ba h
  have h1:=of_decide_eq_true h1
  subst h1
  exact ⟨fun H=>.inr ⟨_,its,n,e,rfl,rfl,Nat.le_trans (of_decide_eq_true h3) (by decide),zin (of_decide_eq_true h2)⟩,h4⟩
 ·cases h
theorem zjF {K:PySem.W.Frag} {H:Hp}:∀ zs:List Str,DpAll K H (zs.map V.str) (zs.map PyData.str)
 | []=>.nil
 | z :: zs=>.cons (.str z) (zjF zs)
def zia (zs:List Str) (g:Bool->Bool) (m:EM):EM:=fun env S Q=>m env S fun d S1=>match d with
 | .str z=>Q (.bl (g (decide (z∈zs)))) S1
 | _=>False
section
variable {X:Cx} {B:Hp} {e:Expr} {m:EM} {x:Str} {a:Addr} {zs:List Str} {p pos:Pos}
theorem zjy {g:Bool->Bool} (h:zd2 m):zd2 (zia zs g m):=fun env S Q Q' i q=>h env S _ _ (fun d S1 z=>by
 cases d <;> try exact z.elim
 exact i _ _ z) q
theorem zmA (z:Str) (zs:List Str):((zs.map PyData.str).any fun y=>PyData.eqv y (.str z))=decide (z∈zs):=zeZ.any z zs
theorem zno {g:Bool->Bool} {op:CmpOp} {r:R2} (T:zmC X.K a zs) (hm:zd2 m)
  (hr:∀ (z:Str) H Q,SeqAt.shaped (.str z)=true->Q (.bl (g (decide (z∈zs)))) H->r (.str z) (.ref a) H Q) {σ:L2.St} {H:Hp} {Q:VK} (q:up X.K X.prog X.w B (zia zs g m) σ H Q):tOp r (up X.K X.prog X.w B m) (tC (.ref a)) σ H Q:=by
 obtain ⟨lB,env,S,r0,z0,q⟩:=q
 refine ⟨lB,env,S,r0,z0,hm env S _ _ (fun d S1 z v H1 l1 z1 dv=>?_) q⟩
 cases d <;> try exact z.elim
 rename_i y
 cases dv with
 | str _ ok=>
  refine hr y H1 Q ?_ (z _ H1 l1 z1 (.bl _))
  have:=(zci (S:=S1) z1 (DV.str y ok) (by rfl)).2
  exact this
theorem zfd (hu:X.A.units+65 < cLine) (T:zmC X.K a zs) (hx:X.mg x=some (.ref a)) (he:ME X B e m) (hg:Gl X x:=by rfl) (hd:(x == ("__debug__" : Str))=false:=by decide) (hb:behindInMarks .NotIn (.Name x p)=false:=by first | exact nomark _ | rfl) :
  MT X B (.Compare e [.NotIn] [.Name x p] pos) (mB (zia zs (fun b=>!b) m)):=by
 refine ⟨zix (pt_cmpR (ziz hu) he.pe (pe_glob (v:=.ref a) hg hx rfl hd) hb) fun σ H Q h=>?_,zoD (zjy he.mono)⟩
 obtain ⟨lB,env,S,r0,z0,h⟩:=h
 refine zno (op:=.NotIn) (g:=fun b=>!b) T he.mono (fun z H Q sh q=>⟨_,_,.str z,.tup (T.sq H) (zjF zs),sh,T.sh,by rw [zmA];exact q⟩) ⟨lB,env,S,r0,z0,?_⟩
 refine zjy he.mono env S _ _ (fun d S1 q v H' l r d1=>?_) h
 cases d1 <;> first | exact ⟨_,rfl,q H' l r⟩ | exact q.elim
end
def hookT (n:Nat) (fa:List He.Fa) (fn:List He.DefD) (su:List SuD) (file:Str) (ex:List Str) (tb:List zfr) (eq:List Str) (gt:List zim):PySem.W.Hook where
 α:=AlT
 obs:=fun s=>obsT fa fn su file ex tb eq gt (kFr n s.heap.get?)
 val:=fun w=>valT fn su tb w
 says:=fun w h=>∃ K:PySem.W.Frag,K.In h∧obsT fa fn su file ex tb eq gt K=valT fn su tb w
 of:=fun _ _ e=>⟨_,He.frG_in,e⟩
 keeps:=fun _ _ _ ⟨K,hK,c⟩ k=>⟨K,hK.keeps k,c⟩
structure Tt (fa:List He.Fa) (fn:List He.DefD) (su:List SuD) (file:Str) (ec:List Str) (tb:List zfr) (eq:List Str) (gt:List zim) (w:World) (K:PySem.W.Frag) (mg:Str->Option Value):Prop extends Te fa fn su file ec tb eq w K mg where
 gts:∀ t∈gt,zms K t=true
theorem Tt.mk' {fa:List He.Fa} {fn:List He.DefD} {su:List SuD} {file:Str} {ex:List Str} {tb:List zfr} {eq:List Str} {gt:List zim} {w:World} {K:PySem.W.Frag} {mg:Str->Option Value} {h:Heap} (X:K.In h) (G:h.Ns mainGlobals mg) (c:obsT fa fn su file ex tb eq gt K=valT fn su tb w):Tt fa fn su file ex tb eq gt w K mg:=
 ⟨Te.mk' X G (congrArg (fun z:AlT=>z.1) c),List.all_eq_true.mp (congrArg (fun z:AlT=>z.2) c)⟩
theorem Tt.gt {fa:List He.Fa} {fn:List He.DefD} {su:List SuD} {file:Str} {ex:List Str} {tb:List zfr} {eq:List Str} {gt:List zim} {w:World} {K:PySem.W.Frag} {mg:Str->Option Value} (T:Tt fa fn su file ex tb eq gt w K mg) (i:Nat) {x:Str} {zs:List Str} (h:gt[i]? = some (x,zs):=by rfl):zmC K (He.ga K x) zs:=
 zmr (T.gts _ (List.mem_of_getElem? h))
section
variable {env:Slo} {S:Sto} {Q:DQ} {A:Fin} {m mo me m2:EM} {ms:AM} {K:PySem.W.Frag} {C a:Addr} {f:Str} {d e:D} {r:BM} {W:XW} {sp:SpD} {n:Nat} {i:Int} {zs:List Str} {xs:List D} {fs:List (Str×D)} {z:Str}
def zmj (zs:List Str) (g:Bool->Bool) (Q:DQ):DQ:=fun d S1=>match d with
 | .str z=>Q (.bl (g (decide (z∈zs)))) S1
 | _=>False
theorem zqS {g:Bool->Bool} (h:m env S (zmj zs g Q)):zia zs g m env S Q:=h
theorem znI {g:Bool->Bool} (h:Q (.bl (g (decide (z∈zs)))) S):zmj zs g Q (.str z) S:=h
instance zwt {g:Bool->Bool}:St (zia zs g m env S Q) (m env S (zmj zs g Q)):=⟨fun h=>zqS h⟩
instance zuL {g:Bool->Bool}:St (zmj zs g Q (.str z) S) (Q (.bl (g (decide (z∈zs)))) S):=⟨fun h=>znI h⟩
def zuw (sp:SpD) (W:XW) (n:Nat) (ds:List D) (env:Slo) (Q:DQ):DQ:=fun d S2=>ds.length=n∧sp (ds++[d]) S2 Q fun c fs S'=>W c fs env S'
def zsL (sp:SpD) (W:XW) (n:Nat) (m2:EM) (env:Slo) (Q:DQ):List D->Sto->Prop:=fun ds S1=>m2 env S1 (zuw sp W n ds env Q)
theorem zn7 (h:ms env S (zsL sp W n m2 env Q)):zm7 sp W n ms m2 env S Q:=h
theorem zqI (h:m2 env S (zuw sp W n xs env Q)):zsL sp W n m2 env Q xs S:=h
instance zu4:St (zm7 sp W n ms m2 env S Q) (ms env S (zsL sp W n m2 env Q)):=⟨fun h=>zn7 h⟩
instance zwq:St (zsL sp W n m2 env Q xs S) (m2 env S (zuw sp W n xs env Q)):=⟨fun h=>zqI h⟩
def kCD (sp:SpD) (W:XW) (i:Int) (env:Slo) (Q:DQ):List D->Sto->Prop:=fun ds S1=>sp (ds++[.int i]) S1 Q fun c fs S'=>W c fs env S'
theorem zn8 (h:ms env S (kCD sp W i env Q)):zm8 sp W i ms env S Q:=h
instance zu5:St (zm8 sp W i ms env S Q) (ms env S (kCD sp W i env Q)):=⟨fun h=>zn8 h⟩
def zxE (K:PySem.W.Frag) (a C:Addr) (f:Str) (env:Slo) (A:Fin):DQ:=fun z S3=>match S3 a with
 | some (.ins C' fs')=>C'=C∧fs'.length < 1000∧A.nx env (put S3 a (.ins C (zeP f z fs')))
 | _=>False
def zvC (K:PySem.W.Frag) (me:EM) (f:Str) (r:BM) (env:Slo) (A:Fin):DQ:=fun d S1=>match d with
 | .ref a=>match S1 a with
  | some (.ins C fs)=>match fs.lookup f with
   | some v=>FOk K C f∧me env S1 fun y S2=>r v y S2 (zxE K a C f env A)
   | none=>False
  | _=>False
 | _=>False
theorem zq9 (h:mo env S (zvC K me f r env A)):zrF K mo me f r A env S:=h
instance zwG:St (zrF K mo me f r A env S) (mo env S (zvC K me f r env A)):=⟨fun h=>zq9 h⟩
end
class Gt (k:Nat) (g:Prop):Prop
theorem zd9 (k:Nat) {g:Prop} [Gt k g] (q:g):g:=q
section
variable {env:Slo} {S:Sto} {Q:DQ} {A:Fin} {m n:SM} {me mf mg' ma mb:EM} {g:GM} {t u:TM} {r:BM} {ms:AM} {d e:D} {TQ:Bool->Sto->Prop} {ds:List D} {i:Nat} {K:PySem.W.Frag} {NQ:Slo->Sto->Prop} {b:Bool}
instance:Gt 0 (zoQ (gNm i) env A d S):=⟨⟩
instance:Gt 0 (gNm i d env S NQ):=⟨⟩
instance:Gt 0 (zk7 i env A d S):=⟨⟩
instance:Gt 1 (zag i env S Q):=⟨⟩
instance {f}:Gt 1 (zrU K f Q d S):=⟨⟩
instance:Gt 2 (vIx d e S Q):=⟨⟩
instance {C f sp W}:Gt 3 (zrT C f sp W ms env Q d S):=⟨⟩
instance {o}:Gt 3 (zna d o env NQ e S):=⟨⟩
instance:Gt 3 (zm9 i me r A env S):=⟨⟩
instance {mk mx}:Gt 3 (zsI mk mx env Q d S):=⟨⟩
instance {a}:Gt 3 (zpj a e Q d S):=⟨⟩
instance:Gt 4 (zcZ ds S Q):=⟨⟩
instance:Gt 4 (zfM ds S Q):=⟨⟩
instance {ok rm}:Gt 5 (zsD ok rm ms env Q d S):=⟨⟩
instance {k gs}:Gt 5 (gT k gs d env S NQ):=⟨⟩
instance {a z}:Gt 5 (zpk a z env A d S):=⟨⟩
instance {R}:Gt 5 (zk6 R d S):=⟨⟩
instance:Gt 5 (zoQ g env A d S):=⟨⟩
instance:Gt 6 (zlp d e S Q):=⟨⟩
instance:Gt 6 (zhM d e S Q):=⟨⟩
instance:Gt 6 (zpv d e S Q):=⟨⟩
instance:Gt 6 (zjL d e S Q):=⟨⟩
instance {mv mc}:Gt 6 (zj5 mv mc me r A env S):=⟨⟩
instance {R}:Gt 7 (kEn R ds S):=⟨⟩
instance:Gt 7 (zsN ms env Q d S):=⟨⟩
instance:Gt 7 (zdz ds S Q):=⟨⟩
instance:Gt 7 (zjK ds S Q):=⟨⟩
instance {R}:Gt 7 (kZL R ds S):=⟨⟩
instance:Gt 8 (kIf m n A env b S):=⟨⟩
instance:Gt 8 (znc ma mb env Q b S):=⟨⟩
instance:Gt 9 (znd u env TQ b S):=⟨⟩
instance:Gt 9 (kOr u env TQ b S):=⟨⟩
instance:Gt 10 (ziM mb env Q b S):=⟨⟩
instance:Gt 10 (znb mb env Q b S):=⟨⟩
instance {mc}:Gt 10 (zmm r d mc env Q b S):=⟨⟩
end
structure zzq (P:Program) (w:World) (K:PySem.W.Frag) (mg:Str->Option Value) (base:Heap) (k:Nat) (f:Addr) (sp:SpD) (n:Nat) (y:Str) (gD:List D->List D->List D):Prop where
 ex:∃ (fd:FuncData) (ps:List Str) (g:List Value->List Value->List Value) (gV:List V->List V->List V),FnOk P w K mg base (L2.CX P w) k f fd ps (zil K P w sp)∧KBn K fd ps n [y] g gV∧∀ (H:Hp) (ds ws:List D) (vs zs:List V),DVs K H ds vs->DVs K H ws zs->DVs K H (gD ds ws) (gV vs zs)
 kp:PySem.W.keepIn K (.ref f)=true
 mono:zfa sp
section
variable {P:Program} {w:World} {K:PySem.W.Frag} {mg:Str->Option Value} {base:Heap}
end
section
variable {X:Cx} {B:Hp} {W:XW} {k n:Nat} {f C:Addr} {sp:SpD} {x y:Str} {p pos kpos:Pos} {e e2:Expr} {es:List Expr} {ma:AM} {m2:EM} {gD:List D->List D->List D}
def zm3 (C:Addr) (sp:SpD) (W:XW) (n:Nat) (gD:List D->List D->List D) (m:AM) (m2:EM):EM:=fun env S Q=>m env S fun ds S1=>m2 env S1 fun d S2=>ds.length=n∧∀ p,S2 p=none->sp (gD (.ref p :: ds) [d]) (put S2 p (.ins C [])) (fun v S3=>v = .non∧Q (.ref p) S3) fun c fs S'=>W c fs env S'
end
section
variable {env:Slo} {S:Sto} {Q:DQ} {C:Addr} {sp:SpD} {W:XW} {n:Nat} {gD:List D->List D->List D} {ms:AM} {m2:EM} {xs:List D} {d:D}
def zuq (C:Addr) (sp:SpD) (W:XW) (n:Nat) (gD:List D->List D->List D) (ds:List D) (env:Slo) (Q:DQ):DQ:=fun d S2=>ds.length=n∧∀ p,S2 p=none->sp (gD (.ref p :: ds) [d]) (put S2 p (.ins C [])) (fun v S3=>v = .non∧Q (.ref p) S3) fun c fs S'=>W c fs env S'
def zsA (C:Addr) (sp:SpD) (W:XW) (n:Nat) (gD:List D->List D->List D) (m2:EM) (env:Slo) (Q:DQ):List D->Sto->Prop:=fun ds S1=>m2 env S1 (zuq C sp W n gD ds env Q)
theorem znv (h:ms env S (zsA C sp W n gD m2 env Q)):zm3 C sp W n gD ms m2 env S Q:=h
theorem zqr (h:m2 env S (zuq C sp W n gD xs env Q)):zsA C sp W n gD m2 env Q xs S:=h
instance zuB:St (zm3 C sp W n gD ms m2 env S Q) (ms env S (zsA C sp W n gD m2 env Q)):=⟨fun h=>znv h⟩
instance zwc:St (zsA C sp W n gD m2 env Q xs S) (m2 env S (zuq C sp W n gD xs env Q)):=⟨fun h=>zqr h⟩
end
def iGT (zs:List Str):IM:=fun env S R=>R (zs.map D.str) (fun _=>True) S
def zy1 (zs:List Str):Bool:=zs.all fun z=>PyData.strOk z && decide (z.length≤sizeLine)
section
variable {X:Cx} {B:Hp} {tg:Expr} {x:Str} {a:Addr} {zs:List Str} {p:Pos}
def zxs:V->List V->Hp->VK->Prop:=fun x xs H Q=>∃ (l:Addr) (ns:List Str) (k:Str),x = .ref l∧xs=[.str k]∧H l=some (.lst (ns.map V.str))∧Q (.int (ns.count k:Nat)) H
def zyZ:MM:=fun d ds S Q=>match d,ds with
 | .ref a,[.str k]=>∃ zs:List Str,S a=some (.lst (zs.map D.str))∧Q (.int (zs.count k:Nat)) S
 | _,_=>False
end
section
variable {X:Cx} {B:Hp} {cpos apos:Pos} {o e:Expr} {mo:EM} {ma:AM}
end
section
variable {env:Slo} {S:Sto} {Q:DQ} {a:Addr} {zs:List Str} {z:Str} {R:List D->(Sto->Prop)->Sto->Prop}
theorem ztV (h:R (zs.map D.str) (fun _=>True) S):iGT zs env S R:=h
instance zyf:St (iGT zs env S R) (R (zs.map D.str) (fun _=>True) S):=⟨fun h=>ztV h⟩
end
section
variable {X:Cx} {B:Hp} {a:Expr} {pos:Pos} {ma:EM} {ta:TE}
def zrz (ma:EM):EM:=fun env S Q=>ma env S (zoO fun c S1=>Q (.bl (!c)) S1)
end
section
variable {ma:EM} {env:Slo} {S:Sto} {Q:DQ} {a:Addr} {xs:List D} {TQ:Bool->Sto->Prop}
theorem zpR (h:ma env S (zoO fun c S1=>Q (.bl (!c)) S1)):zrz ma env S Q:=h
instance zvJ:St (zrz ma env S Q) (ma env S (zoO fun c S1=>Q (.bl (!c)) S1)):=⟨fun h=>zpR h⟩
end
section
variable {X:Cx}
def zw0:CM:=fun ds S Q=>match ds with
 | [.bl b]=>Q (.int (if b then 1 else 0)) S
 | _=>False
end
section
variable {S:Sto} {Q:DQ} {b:Bool}
end
section
variable {prog:Program} {w:World} {A:Around} {E:Value->Shared->Prop} {s:Shared} {K:PySem.W.Frag} {x C f:Addr} {ox:Obj} {od:Option Obj}
end
def zwY (C:Addr) (sp:SpD):CM:=fun ds S Q=>match ds with
 | [.ref a]=>(∃ fs,S a=some (.ins C fs))∧sp [.ref a] S (fun v S'=>∃ i:Nat,v = .int i∧i < 2 ^ 62∧Q (.int i) S') (fun _ _ _=>False)
 | _=>False
section
variable {X:Cx} {k:Nat} {C f:Addr} {sp:SpD}
end
section
variable {S:Sto} {Q:DQ} {C a:Addr} {fs:List (Str×D)} {sp:SpD}
end
def zry (C:Addr) (sp:SpD) (m:EM):EM:=fun env S Q=>m env S fun d S1=>match d with
 | .ref a=>(∃ fs,S1 a=some (.ins C fs))∧sp [.ref a] S1 Q (fun _ _ _=>False)
 | _=>False
section
variable {X:Cx} {B:Hp} {W:XW} {k:Nat} {C p g:Addr} {sp:SpD} {f:Str} {e:Expr} {mo:EM} {pos:Pos}
end
section
variable {M:Model} {A:Around} {E:Value->Shared->Prop} {s:Shared} {K:PySem.W.Frag} {x C f:Addr} {ox:Obj} {od:Option Obj} {i v:Value}
end
def zsm (C:Addr) (sp:SpD) (W:XW) (o d:D) (env:Slo) (NQ:Slo->Sto->Prop):DQ:=fun i S2=>match o with
 | .ref a=>(∃ fs,S2 a=some (.ins C fs))∧sp [.ref a,i,d] S2 (fun _ S3=>NQ env S3) (fun c fs S'=>W c fs env S')
 | _=>False
def zwN (C:Addr) (sp:SpD) (W:XW) (mo mi:EM):GM:=fun d env S Q=>mo env S fun o S1=>mi env S1 (zsm C sp W o d env Q)
section
variable {X:Cx} {B:Hp} {W:XW} {k:Nat} {C f:Addr} {sp:SpD} {o i:Expr} {mo mi:EM} {pos:Pos}
end
def zyv (n:Nat) (fa:List He.Fa) (fn:List He.DefD) (su:List SuD) (file:Str) (ex:List Str) (tb:List zfr) (eq:List Str) (gt:List zim) (pr:List PrD) (sq:List Str):PySem.W.Hook where
 α:=AlV
 obs:=fun s=>zop fa fn su file ex tb eq gt pr sq (kFr n s.heap.get?)
 val:=fun w=>ziY fn su tb pr w
 says:=fun w h=>∃ K:PySem.W.Frag,K.In h∧zop fa fn su file ex tb eq gt pr sq K=ziY fn su tb pr w
 of:=fun _ _ e=>⟨_,He.frG_in,e⟩
 keeps:=fun _ _ _ ⟨K,hK,c⟩ k=>⟨K,hK.keeps k,c⟩
structure Tv (fa:List He.Fa) (fn:List He.DefD) (su:List SuD) (file:Str) (ec:List Str) (tb:List zfr) (eq:List Str) (gt:List zim) (pr:List PrD) (sq:List Str) (w:World) (K:PySem.W.Frag) (mg:Str->Option Value):Prop extends Tt fa fn su file ec tb eq gt w K mg where
 prs:∀ d∈pr,d.ok K=true
 prv:(pr.map fun d=>He5.fnA K (d.g K))=pr.map fun d=>d.da.val
 sqs:∀ C∈sq,PySem.W.noSeq K (He.ga K C)=true
section
variable {fa:List He.Fa} {fn:List He.DefD} {su:List SuD} {file:Str} {ex:List Str} {tb:List zfr} {eq:List Str} {gt:List zim} {qr:List PrD} {qs:List Str} {w:World} {K:PySem.W.Frag} {mg:Str->Option Value}
theorem Tv.mk' {h:Heap} (X:K.In h) (G:h.Ns mainGlobals mg) (c:zop fa fn su file ex tb eq gt qr qs K=ziY fn su tb qr w):Tv fa fn su file ex tb eq gt qr qs w K mg:=by
 have c2:((qr.all fun d=>d.ok K) && qs.all fun C=>PySem.W.noSeq K (He.ga K C))=true:=congrArg (fun z:AlV=>z.2.1) c
 obtain ⟨c3,c4⟩:=He.ba c2
 exact ⟨Tt.mk' X G (congrArg (fun z:AlV=>z.1) c),List.all_eq_true.mp c3,congrArg (fun z:AlV=>z.2.2) c,List.all_eq_true.mp c4⟩
theorem Tv.pr (T:Tv fa fn su file ex tb eq gt qr qs w K mg) (i:Nat) {d:PrD} (h:qr[i]? = some d:=by rfl):PropOf K (He.ga K d.C) d.f (d.p K) (d.g K)∧∃ fd,FunD K d.f d.qual d.params d.body d.scope [] [] (d.g K) fd:=by
 have e2:(qr.map fun d=>He5.fnA K (d.g K))[i]? = (qr.map fun d=>d.da.val)[i]?:=by rw [T.prv]
 rw [List.getElem?_map,List.getElem?_map,h] at e2
 exact PrD.get (Option.some.inj e2) (T.prs d (List.mem_of_getElem? h))
theorem Tv.sq (T:Tv fa fn su file ex tb eq gt qr qs w K mg) (i:Nat) {C:Str} (h:qs[i]? = some C:=by rfl):PySem.W.noSeq K (He.ga K C)=true:=T.sqs C (List.mem_of_getElem? h)
end
section
variable {env:Slo} {S:Sto} {Q:DQ} {m mo mi:EM} {C a:Addr} {sp:SpD} {W:XW} {fs:List (Str×D)} {d e o:D} {NQ:Slo->Sto->Prop}
def zrQ (C:Addr) (sp:SpD) (Q:DQ):DQ:=fun d S1=>match d with
 | .ref a=>(∃ fs,S1 a=some (.ins C fs))∧sp [.ref a] S1 Q (fun _ _ _=>False)
 | _=>False
theorem zpO (h:m env S (zrQ C sp Q)):zry C sp m env S Q:=h
def zsn (C:Addr) (sp:SpD) (W:XW) (mi:EM) (d:D) (env:Slo) (NQ:Slo->Sto->Prop):DQ:=fun o S1=>mi env S1 (zsm C sp W o d env NQ)
theorem zqY (h:mo env S (zsn C sp W mi d env NQ)):zwN C sp W mo mi d env S NQ:=h
theorem zp3 (h:mi env S (zsm C sp W o d env NQ)):zsn C sp W mi d env NQ o S:=h
instance zvH:St (zry C sp m env S Q) (m env S (zrQ C sp Q)):=⟨fun h=>zpO h⟩
instance zwz:St (zwN C sp W mo mi d env S NQ) (mo env S (zsn C sp W mi d env NQ)):=⟨fun h=>zqY h⟩
instance zvQ:St (zsn C sp W mi d env NQ o S) (mi env S (zsm C sp W o d env NQ)):=⟨fun h=>zp3 h⟩
end
structure Ex0 (K:PySem.W.Frag) (mg:Str->Option Value) (x:Str):Prop where
 gC:mg x=some (.ref (He.ga K x))
 oex:OexC K (He.ga K x)
 q:PySem.W.excIn K (He.ga K x) zwT "ValueError.__new__" = true
def zk4 (C:Addr) (W:XW) (ma:AM):SM:=fun _ env S=>ma env S fun ds S1=>match ds with
 | [_]=>W (.ref C) [] env S1
 | _=>False
section
variable {X:Cx} {B:Hp} {W:XW} {ma:AM} {x:Str} {p pos pos':Pos} {e:Expr}
end
end DL
namespace PySem.W
open PySem PySem.Spec PySem.Calls PyProof.Rows
section
variable {prog:Program} {w:World} {A:Around} {E:Value->Shared->Prop} {s:Shared} {K:Frag} {x D:Addr} {ox:Obj} {od:Option Obj}
end
end PySem.W
namespace DL
open PySem PySem.Spec PyProof.Rows L2
def XdH (H:Hp) (d:Option Addr):Prop:=match d with
 | some dd=>∃ fs,H dd=some (.xd fs)
 | none=>True
def zyW (K:PySem.W.Frag) (D a:Addr) (d:Option Addr):List V->Hp->VK->Prop:=fun xs H Q=>∃ (c:V) (cv:Value) (b:Bool),xs=[.ref a,c]∧XdH H d∧(∀ u,RelV c u->u=cv)∧PySem.W.kitOne K (.ref D) cv=some b∧Q (.bl b) H
def zy5 (i:Nat) (C a:Addr) (cls:Value) (b:Bool):EM:=fun env S Q=>zag i env S fun x S1=>x = .ref a∧cls = .ref C∧Q (.bl b) S1
structure zzp (P:Program) (w:World) (K:PySem.W.Frag) (mg:Str->Option Value) (base:Heap) (k:Nat) (f:Addr) (sp:SpD) (n:Nat) (y y2:Str) (gD:List D->List D->List D):Prop where
 ex:∃ (fd:FuncData) (ps:List Str) (g:List Value->List Value->List Value) (gV:List V->List V->List V),FnOk P w K mg base (L2.CX P w) k f fd ps (zil K P w sp)∧KBn K fd ps n [y,y2] g gV∧∀ (H:Hp) (ds ws:List D) (vs zs:List V),DVs K H ds vs->DVs K H ws zs->DVs K H (gD ds ws) (gV vs zs)
 kp:PySem.W.keepIn K (.ref f)=true
 mono:zfa sp
section
variable {P:Program} {w:World} {K:PySem.W.Frag} {mg:Str->Option Value} {base:Heap}
end
section
variable {X:Cx} {B:Hp} {W:XW} {k n:Nat} {f C:Addr} {sp:SpD} {x y y2:Str} {p pos kpos kpos2:Pos} {e e2 e3:Expr} {es:List Expr} {ma:AM} {m2 m3:EM} {gD:List D->List D->List D}
def zm4 (C:Addr) (sp:SpD) (W:XW) (n:Nat) (gD:List D->List D->List D) (m:AM) (m2 m3:EM):EM:=fun env S Q=>m env S fun ds S1=>m2 env S1 fun d S2=>m3 env S2 fun d2 S3=>ds.length=n∧∀ p,S3 p=none->sp (gD (.ref p :: ds) [d,d2]) (put S3 p (.ins C [])) (fun v S4=>v = .non∧Q (.ref p) S4) fun c fs S'=>W c fs env S'
end
structure Tu (fa:List He.Fa) (fn:List He.DefD) (su:List SuD) (file:Str) (ec:List Str) (tb:List zfr) (eq:List Str) (gt:List zim) (pr:List PrD) (sq no:List Str) (is:List zmG) (w:World) (K:PySem.W.Frag) (mg:Str->Option Value):Prop extends Tv fa fn su file ec tb eq gt pr sq w K mg where
 nos:∀ x∈no,zuh K x=true
 iss:∀ z∈is,zuy K z=true
section
variable {fa:List He.Fa} {fn:List He.DefD} {su:List SuD} {file:Str} {ex:List Str} {tb:List zfr} {eq:List Str} {gt:List zim} {qr:List PrD} {qs no:List Str} {is:List zmG} {w:World} {K:PySem.W.Frag} {mg:Str->Option Value}
theorem Tu.mk' {h:Heap} (X:K.In h) (G:h.Ns mainGlobals mg) (c:ziU fa fn su file ex tb eq gt qr qs no is K=zjJ fn su tb qr w):Tu fa fn su file ex tb eq gt qr qs no is w K mg:=by
 have c2:((no.all fun x=>zuh K x) && is.all fun z=>zuy K z)=true:=congrArg (fun z:AlU=>z.2) c
 obtain ⟨c3,c4⟩:=He.ba c2
 exact ⟨Tv.mk' X G (congrArg (fun z:AlU=>z.1) c),List.all_eq_true.mp c3,List.all_eq_true.mp c4⟩
end
section
variable {env:Slo} {S:Sto} {Q:DQ} {ma ms:AM} {m2 m3:EM} {A:Fin} {C a:Addr} {W:XW} {d e:D} {cls:Value} {b:Bool} {i n:Nat} {sp:SpD} {gD:List D->List D->List D} {xs:List D}
def zsv (C:Addr) (W:XW) (env:Slo):List D->Sto->Prop:=fun ds S1=>match ds with
 | [_]=>W (.ref C) [] env S1
 | _=>False
theorem zlH (h:ma env S (zsv C W env)):zk4 C W ma A env S:=h
theorem zqh (h:W (.ref C) [] env S):zsv C W env [d] S:=h
def zur (C:Addr) (sp:SpD) (W:XW) (n:Nat) (gD:List D->List D->List D) (ds:List D) (d:D) (env:Slo) (Q:DQ):DQ:=fun d2 S3=>ds.length=n∧∀ p,S3 p=none->sp (gD (.ref p :: ds) [d,d2]) (put S3 p (.ins C [])) (fun v S4=>v = .non∧Q (.ref p) S4) fun c fs S'=>W c fs env S'
def zrS (C:Addr) (sp:SpD) (W:XW) (n:Nat) (gD:List D->List D->List D) (ds:List D) (m3:EM) (env:Slo) (Q:DQ):DQ:=fun d S2=>m3 env S2 (zur C sp W n gD ds d env Q)
def zsB (C:Addr) (sp:SpD) (W:XW) (n:Nat) (gD:List D->List D->List D) (m2 m3:EM) (env:Slo) (Q:DQ):List D->Sto->Prop:=fun ds S1=>m2 env S1 (zrS C sp W n gD ds m3 env Q)
theorem znw (h:ms env S (zsB C sp W n gD m2 m3 env Q)):zm4 C sp W n gD ms m2 m3 env S Q:=h
theorem zqt (h:m2 env S (zrS C sp W n gD xs m3 env Q)):zsB C sp W n gD m2 m3 env Q xs S:=h
theorem zqs (h:m3 env S (zur C sp W n gD xs d env Q)):zrS C sp W n gD xs m3 env Q d S:=h
instance zsQ:St (zk4 C W ma A env S) (ma env S (zsv C W env)):=⟨fun h=>zlH h⟩
instance zv3:St (zsv C W env [d] S) (W (.ref C) [] env S):=⟨fun h=>zqh h⟩
instance zuC:St (zm4 C sp W n gD ms m2 m3 env S Q) (ms env S (zsB C sp W n gD m2 m3 env Q)):=⟨fun h=>znw h⟩
instance zwe:St (zsB C sp W n gD m2 m3 env Q xs S) (m2 env S (zrS C sp W n gD xs m3 env Q)):=⟨fun h=>zqt h⟩
instance zwd:St (zrS C sp W n gD xs m3 env Q d S) (m3 env S (zur C sp W n gD xs d env Q)):=⟨fun h=>zqs h⟩
end
def frE (g:Addr->Option Obj):Nat->List Addr->List Addr
 | 0,l=>l
 | n+1,l=>l++frE g n (l.flatMap fun a=>match g a with
  | some o=>(He.refsD o).filter fun b=>!(Nat.beq b mainGlobals)
  | none=>[])
def kPr (n:Nat) (g:Addr->Option Obj):PySem.W.Frag:=He.frG g (frE g n [mainGlobals]++[cStatics])
def zwL (n:Nat) (fa:List He.Fa) (fn:List He.DefD) (su:List SuD) (file:Str) (ex:List Str) (tb:List zfr) (eq:List Str) (gt:List zim) (pr:List PrD) (sq:List Str):PySem.W.Hook where
 α:=AlV
 obs:=fun s=>zop fa fn su file ex tb eq gt pr sq (kPr n s.heap.get?)
 val:=fun w=>ziY fn su tb pr w
 says:=fun w h=>∃ K:PySem.W.Frag,K.In h∧zop fa fn su file ex tb eq gt pr sq K=ziY fn su tb pr w
 of:=fun _ _ e=>⟨_,He.frG_in,e⟩
 keeps:=fun _ _ _ ⟨K,hK,c⟩ k=>⟨K,hK.keeps k,c⟩
def zwM (n:Nat) (fa:List He.Fa) (fn:List He.DefD) (su:List SuD) (file:Str) (ex:List Str) (tb:List zfr) (eq:List Str) (gt:List zim) (pr:List PrD) (sq:List Str) (no:List Str) (is:List zmG):PySem.W.Hook where
 α:=AlU
 obs:=fun s=>ziU fa fn su file ex tb eq gt pr sq no is (kPr n s.heap.get?)
 val:=fun w=>zjJ fn su tb pr w
 says:=fun w h=>∃ K:PySem.W.Frag,K.In h∧ziU fa fn su file ex tb eq gt pr sq no is K=zjJ fn su tb pr w
 of:=fun _ _ e=>⟨_,He.frG_in,e⟩
 keeps:=fun _ _ _ ⟨K,hK,c⟩ k=>⟨K,hK.keeps k,c⟩
structure ClV where
 c:Value
 i:Option Nat
 ts:Addr->Value->Option Addr->TS
def zxt (i:Option Nat) (D:Ends):Ends:=match i with
 | some j=>zrj j D
 | none=>D
def zw6 (i:Option Nat) (a:Addr) (σ:L2.St):L2.St:=match i with
 | some j=>σ.set j (some (.ref a))
 | none=>σ
def wCv (K:PySem.W.Frag) (Wout:WX) (D:Ends):List ClV->WX
 | []=>Wout
 | q :: r=>fun cls d σ H=>∃ b,PySem.W.exmOne K cls q.c=some b∧(b=true->∀ a,H a=none->q.ts a cls d (zxt q.i D) (zw6 q.i a σ) H)∧(b=false->wCv K Wout D r cls d σ H)
inductive CvOk (X:Cx):List ExceptHandler->List ClV->Prop
 | nil:CvOk X [] []
 | named {x n:Str} {c:Value} {i:Nat} {ts:Addr->Value->Option Addr->TS} {st0:Stmt} {rest:List Stmt} {p1 p2:Pos} {hds:List ExceptHandler} {l:List ClV} (hi:X.N[i]? = some n) (hl:X.env.kindOf n=some .local) (hc:Names X x c)
   (hsu:∀ (a:Addr) (oe:Obj) (cls:Value) (d:Option Addr) (pn:List (Addr×Obj)),Zc cls d oe->(∃ vs,oe.data = .fields vs)->PSs (X.suite a ((a,oe) :: pn)) (st0 :: rest) (ts a cls d)) (r:CvOk X hds l) :
   CvOk X (.ExceptHandler (some (.Name x p1)) (some n) (st0 :: rest) p2 :: hds) (⟨c,some i,ts⟩ :: l)
 | plain {x:Str} {c:Value} {ts:Addr->Value->Option Addr->TS} {st0:Stmt} {rest:List Stmt} {p1 p2:Pos} {hds:List ExceptHandler} {l:List ClV} (hc:Names X x c)
   (hsu:∀ (a:Addr) (oe:Obj) (cls:Value) (d:Option Addr) (pn:List (Addr×Obj)),Zc cls d oe->(∃ vs,oe.data = .fields vs)->PSs (X.suite a ((a,oe) :: pn)) (st0 :: rest) (ts a cls d)) (r:CvOk X hds l) :
   CvOk X (.ExceptHandler (some (.Name x p1)) none (st0 :: rest) p2 :: hds) (⟨c,none,ts⟩ :: l)
section
variable {X:Cx} {bd:List Stmt} {c0:ExceptHandler} {cs:List ExceptHandler} {l:List ClV} {pos:Pos} {tb:WX->TS} {Wout:WX}
end
structure ClW where
 C:Addr
 i:Option Nat
 su:SuM
def zyz (i:Option Nat) (A:Fin):Fin:=match i with
 | some j=>zoV j A
 | none=>A
def zw7 (i:Option Nat) (a:Addr) (env:Slo):Slo:=match i with
 | some j=>env.set j (some (.ref a))
 | none=>env
def zpt (K:PySem.W.Frag) (W:XW) (A:Fin):List ClW->XW
 | []=>W
 | q :: r=>fun c fs env S=>∃ b,PySem.W.exmOne K c (.ref q.C)=some b∧(b=true->∀ a,S a=none->q.su a c fs (zyz q.i A) (zw7 q.i a env) S)∧(b=false->zpt K W A r c fs env S)
def zxu (K:PySem.W.Frag) (b:XW->SM) (l:List ClW) (W:XW):SM:=fun A env S=>∃ A0,zeg A0 A∧b (zpt K W A0 l) A0 env S
inductive HdX (X:Cx):List ExceptHandler->List ClW->Prop
 | nil:HdX X [] []
 | named {x n:Str} {C:Addr} {i:Nat} {su:SuM} {st0:Stmt} {rest:List Stmt} {p1 p2:Pos} {hds:List ExceptHandler} {l:List ClW} (hi:X.N[i]? = some n) (hl:X.env.kindOf n=some .local) (hc:Names X x (.ref C))
   (hsu:∀ (a:Addr) (oe:Obj) (cls:Value) (d:Option Addr) (pn:List (Addr×Obj)),Zc cls d oe->(∃ vs,oe.data = .fields vs)->∀ (fs:List (Str×D)) (B':Hp),XdR X.K B' d fs->MSs (X.suite a ((a,oe) :: pn)) B' (st0 :: rest) (su a cls fs)) (r:HdX X hds l) :
   HdX X (.ExceptHandler (some (.Name x p1)) (some n) (st0 :: rest) p2 :: hds) (⟨C,some i,su⟩ :: l)
 | plain {x:Str} {C:Addr} {su:SuM} {st0:Stmt} {rest:List Stmt} {p1 p2:Pos} {hds:List ExceptHandler} {l:List ClW} (hc:Names X x (.ref C))
   (hsu:∀ (a:Addr) (oe:Obj) (cls:Value) (d:Option Addr) (pn:List (Addr×Obj)),Zc cls d oe->(∃ vs,oe.data = .fields vs)->∀ (fs:List (Str×D)) (B':Hp),XdR X.K B' d fs->MSs (X.suite a ((a,oe) :: pn)) B' (st0 :: rest) (su a cls fs)) (r:HdX X hds l) :
   HdX X (.ExceptHandler (some (.Name x p1)) none (st0 :: rest) p2 :: hds) (⟨C,none,su⟩ :: l)
section
variable {X:Cx} {B:Hp} {W:XW}
theorem HdX.ok {hds:List ExceptHandler} {l:List ClW} (h:HdX X hds l):CvOk X hds (l.map fun q=>⟨.ref q.C,q.i,tSu X.K X.prog X.w q.su⟩):=by
 have su_ok:∀ {su:SuM} {st0:Stmt} {rest:List Stmt},(∀ (a:Addr) (oe:Obj) (cls:Value) (d:Option Addr) (pn:List (Addr×Obj)),Zc cls d oe->(∃ vs,oe.data = .fields vs)->∀ (fs:List (Str×D)) (B':Hp),XdR X.K B' d fs->MSs (X.suite a ((a,oe) :: pn)) B' (st0 :: rest) (su a cls fs)) ->
   ∀ (a:Addr) (oe:Obj) (cls:Value) (d:Option Addr) (pn:List (Addr×Obj)),Zc cls d oe->(∃ vs,oe.data = .fields vs)->PSs (X.suite a ((a,oe) :: pn)) (st0 :: rest) (tSu X.K X.prog X.w su a cls d):=fun {su st0 rest} hsu a oe cls d pn hz hf=>⟨fun pins s σ H D' I z=>by
  obtain ⟨fs,A1,env,S,xd,le,er,rp,q⟩:=z
  have M:=hsu a oe cls d pn hz hf fs H xd
  exact M.ps.run pins s σ H D' I ⟨Le.refl H,env,S,er,rp,M.mono _ _ _ _ le q⟩⟩
 induction h with
 | nil=>exact .nil
 | named hi hl hc hsu _ ih=>exact .named hi hl hc (su_ok hsu) ih
 | plain hc hsu _ ih=>exact .plain hc (su_ok hsu) ih
end
section
variable {K:PySem.W.Frag} {b:XW->SM} {l:List ClW} {W:XW} {A:Fin} {env:Slo} {S:Sto} {cls:Value} {fs:List (Str×D)} {C:Addr} {i:Option Nat} {su:SuM}
end
section
variable {P:Program} {w:World} {K:PySem.W.Frag} {mg:Str->Option Value} {base:Heap}
end
structure Lo (H H':Hp):Prop where
 tup:∀ a xs,H a=some (.tup xs)->H' a=some (.tup xs)
 frz:∀ a o u,(∀ vs,u≠.dK vs)->H a=some (.frz o u)->H' a=some (.frz o u)
theorem Lo.sqt {K:PySem.W.Frag} {H H':Hp} {a:Addr} {xs:List V} (l:Lo H H') (h:SqT K H a xs):SqT K H' a xs:=by
 rcases h with (h | ⟨o,h⟩) | h
 ·exact .inl (.inl (l.tup a xs h))
 ·exact .inl (.inr ⟨o,l.frz a o _ (fun _ z=>nomatch z) h⟩)
 ·exact .inr h
theorem Lo.rol {K:PySem.W.Frag} {H H':Hp} {a:Addr} {xs:List V} (l:Lo H H') (h:RoL K H a xs):RoL K H' a xs:=by
 rcases h with ⟨o,h⟩ | h
 ·exact .inl ⟨o,l.frz a o _ (fun _ z=>nomatch z) h⟩
 ·exact .inr h
theorem Lo.tf {H H':Hp} {a:Addr} {vs:List V} {f:Bool} (l:Lo H H') (h:TF H a vs f):TF H' a vs f:=by
 cases f with
 | false=>exact l.tup _ _ h
 | true=>
  obtain ⟨o,e,z⟩:=h
  exact ⟨o,l.frz _ _ _ (fun _ z=>nomatch z) e,z⟩
section
variable {K:PySem.W.Frag} {H H':Hp}
mutual
theorem DV.lo (l:Lo H H'):∀ (d:D) (v:V),DV K H d v->DV K H' d v
 | .non,_,h=>by cases h;exact .non
 | .bl b,_,h=>by cases h;exact .bl b
 | .int b,_,h=>by cases h;exact .int b
 | .str b,_,h=>by
  cases h with
  | str _ ok=>exact .str b ok
 | .ty b,_,h=>by cases h;exact .ty b
 | .ref b,_,h=>by cases h;exact .ref b
 | .tp f ds,_,h=>by
  cases h with
  | tup hs hd ht=>exact .tup (l.sqt hs) (DVs.lo l ds _ hd) (l.tf ht)
 | .rol ds,_,h=>by
  cases h with
  | rol hs hd=>exact .rol (l.rol hs) (DVs.lo l ds _ hd)
 | .rod ks ds,_,h=>by
  cases h with
  | rod hs hl hk hd=>
   obtain ⟨o,hs⟩:=hs
   exact .rod ⟨o,l.frz _ _ _ (fun _ z=>nomatch z) hs⟩ hl hk (DVs.lo l ds _ hd)
theorem DVs.lo (l:Lo H H'):∀ (ds:List D) (vs:List V),DVs K H ds vs->DVs K H' ds vs
 | [],_,h=>by cases h;exact .nil
 | d :: ds,_,h=>by
  cases h with
  | cons h1 h2=>exact .cons (DV.lo l d _ h1) (DVs.lo l ds _ h2)
end
theorem KVs.lo {κ:Type} {ds:List (κ×D)} {vs:List (κ×V)} (l:Lo H H') (h:KVs K H ds vs):KVs K H' ds vs:=by
 induction h with
 | nil=>exact .nil
 | cons h1 _ ih=>exact .cons (DV.lo l _ _ h1) ih
theorem KN.lo {ds:List D} {kvs:List (NestedKey×D)} {zs:List (NestedKey×Addr×V)} (l:Lo H H') (h:KN K H ds kvs zs):KN K H' ds kvs zs:=by
 induction h with
 | nil=>exact .nil
 | cons h1 h2 h3 h4 _ ih=>exact .cons h1 h2 (DV.lo l _ _ h3) (DV.lo l _ _ h4) ih
theorem OOk.lo {P:Program} {w:World} {a:Addr} {o:O} (h:OOk K P w H a o) (l:Lo H H') (e:H' a=H a):OOk K P w H' a o:=by
 cases o with
 | lst=>obtain ⟨vs,q,z⟩:=h;exact ⟨vs,e.trans q,DVs.lo l _ _ z⟩
 | dic=>obtain ⟨vs,q,z⟩:=h;exact ⟨vs,e.trans q,z.lo l⟩
 | dit=>obtain ⟨vs,q,z⟩:=h;exact ⟨vs,e.trans q,z.lo l⟩
 | set=>exact e.trans h
 | ins=>obtain ⟨dx,vs,q,z⟩:=h;exact ⟨dx,vs,e.trans q,z.lo l⟩
 | din=>obtain ⟨zs,q,z⟩:=h;exact ⟨zs,e.trans q,z.lo l⟩
end
def FzK (K:PySem.W.Frag) (H:Hp) (a:Addr) (kvs:List (Key×D)):Prop:=∃ o vs,H a=some (.frz o (.dK vs))∧KVs K H kvs vs
theorem FzK.le {K:PySem.W.Frag} {H H':Hp} {a:Addr} {kvs:List (Key×D)} (h:FzK K H a kvs) (l:Le H H'):FzK K H' a kvs:=by
 obtain ⟨o,vs,e,z⟩:=h
 exact ⟨o,vs,l.frz _ _ _ e,z.le l⟩
def zy4 (m:Addr->List (Key×D)->EM):EM:=fun env S Q=>∃ a kvs,S a=some (.dic kvs)∧∃ Q0:DQ,(∀ d S1,Q0 d S1->S1 a=none∧Q d (put S1 a (.dic kvs)))∧m a kvs env (zpm S a) Q0
section
variable {X:Cx} {B:Hp} {e:Expr} {m:Addr->List (Key×D)->EM}
end
def zr2 (a:Addr) (kvs:List (Key×D)) (m:EM):IM:=fun env S R=>m env S fun d S1=>d = .ref a∧(∀ kv∈kvs,okK kv.1)∧R (kvs.map fun kv=>kD kv.1) (fun _=>True) S1
section
variable {X:Cx} {B:Hp} {a:Addr} {kvs:List (Key×D)} {tg:Expr}
def zyL (a:Addr) (kvs:List (Key×D)):BM:=fun d e S Q=>d = .ref a∧match keyD e with
 | some k=>(match valD kvs k with
  | some x=>Q x S
  | none=>False)
 | none=>False
end
section
variable {env:Slo} {S:Sto} {Q:DQ} {a:Addr} {kvs:List (Key×D)} {me:EM} {R:List D->(Sto->Prop)->Sto->Prop} {x:D} {k:Key} {d:D} {m:Addr->List (Key×D)->EM}
def zrV (a:Addr) (kvs:List (Key×D)) (R:List D->(Sto->Prop)->Sto->Prop):DQ:=fun d S1=>d = .ref a∧(∀ kv∈kvs,okK kv.1)∧R (kvs.map fun kv=>kD kv.1) (fun _=>True) S1
theorem zn1 (h:me env S (zrV a kvs R)):zr2 a kvs me env S R:=h
instance zuZ:St (zr2 a kvs me env S R) (me env S (zrV a kvs R)):=⟨fun h=>zn1 h⟩
end
section
variable {K:PySem.W.Frag} {P:Program} {w:World} {H:Hp} {h:Heap}
theorem zpA (ok:HOk P w H h) {a:Addr} {vs:List V} {f:Bool} (t:TF H a vs f):∃ (its:List Value) (o:Obj) (n:Nat),Vals vs its∧h.get? a=some o∧o.cls = .type "tuple" ∧ o.data = .seq its.toArray n:=by
 cases f with
 | false=>
  obtain ⟨_,its,r,o,h1,h2,n,h3⟩:=(show ObjOk P w H h a (.tup vs) from ok a _ t)
  exact ⟨its,o,n,r,h1,h2,h3⟩
 | true=>
  obtain ⟨ob,e,_⟩:=t
  obtain ⟨_,_,its,r,o,h1,h2,n,h3⟩:=(show ObjOk P w H h a (.frz ob (.tup vs)) from ok a _ e)
  exact ⟨its,o,n,r,h1,h2,h3⟩
mutual
theorem zoq (ok:HOk P w H h):∀ (d:D) (v:V) (u:Value) (k:NestedKey),DV K H d v->RelV v u->nkD d=some k->NestedIs h k u
 | .non,_,u,k,z,r,e=>by
  cases z
  rw [nkD] at e
  cases e
  rw [show u=Value.none from r]
  exact .none
 | .bl b,_,u,k,z,r,e=>by
  cases z
  rw [nkD] at e
  cases e
  rw [show u=Value.bool b from r]
  exact .bool rfl
 | .int i,_,u,k,z,r,e=>by
  cases z
  rw [nkD] at e
  cases e
  obtain ⟨t,rfl⟩:=r
  exact .int i t
 | .str x,_,u,k,z,r,e=>by
  cases z
  rw [nkD] at e
  cases e
  obtain ⟨t,rfl⟩:=r
  exact .text x t
 | .tp f xs,_,u,k,z,r,e=>by
  cases z with
  | @tup a vs _ _ s zs t=>
   rw [nkD] at e
   obtain ⟨ks,e1,rfl⟩:=Option.map_eq_some_iff.mp e
   obtain rfl:u=Value.ref a:=r
   obtain ⟨its,o,n,rr,h1,h2,h3⟩:=zpA ok t
   exact .tup h1 h2 h3 (by simpa using zju ok xs vs its ks zs rr e1)
 | .rol _,_,_,_,_,_,e=>by rw [nkD] at e;cases e
 | .ref _,_,_,_,_,_,e=>by rw [nkD] at e;cases e
 | .ty _,_,_,_,_,_,e=>by rw [nkD] at e;cases e
 | .rod _ _,_,_,_,_,_,e=>by rw [nkD] at e;cases e
theorem zju (ok:HOk P w H h):∀ (ds:List D) (vs:List V) (us:List Value) (ks:List NestedKey),DVs K H ds vs->Vals vs us->zrn ds=some ks->NestedAll h ks us
 | [],_,_,ks,z,r,e=>by
  cases z
  cases r
  rw [zrn] at e
  cases e
  exact .nil
 | d :: ds,_,_,ks,z,r,e=>by
  cases z with
  | cons z1 z2=>
   cases r with
   | cons r1 r2=>
    rw [zrn] at e
    obtain ⟨k,e1,e⟩:=Option.bind_eq_some_iff.mp e
    obtain ⟨ks',e2,rfl⟩:=Option.map_eq_some_iff.mp e
    exact .cons (zoq ok d _ _ k z1 r1 e1) (zju ok ds _ _ ks' z2 r2 e2)
end
def nk8:D->Option NestedKey
 | .tp f xs=>match nkD (.tp f xs) with
  | some k=>if k.depth≤8 then some k else none
  | none=>none
 | _=>none
def zV (zs:List (NestedKey×Addr×V)):List (NestedKey×V):=zs.map fun z=>(z.1,z.2.2)
variable {ks:List D} {kvs:List (NestedKey×D)} {zs:List (NestedKey×Addr×V)} {xs:List (NestedKey×Addr×Value)} {a:Addr} {k:NestedKey}
theorem KN.kv_ (r:KN K H ks kvs zs):KVs K H kvs (zV zs):=by
 induction r with
 | nil=>exact .nil
 | cons _ _ _ h4 _ ih=>exact .cons h4 ih
theorem KN.len (r:KN K H ks kvs zs):kvs.length=zs.length∧ks.length=zs.length:=by
 induction r with
 | nil=>exact ⟨rfl,rfl⟩
 | cons _ _ _ _ _ ih=>exact ⟨by simp [ih.1],by simp [ih.2]⟩
theorem KZ.val (r:KZ zs xs) (k:NestedKey):RelO (valV (zV zs) k) ((atKey xs k).map (·.2)):=by
 induction r with
 | nil=>exact True.intro
 | @cons p q ps qs h t ih=>
  obtain ⟨h1,_,h2⟩:=h
  by_cases e:p.1=k
  ·have e':q.1=k:=h1.symm.trans e
   have b:atKey (q :: qs) k=some q.2:=by simp [atKey,List.find?_cons,e']
   rw [show zV (p :: ps)=(p.1,p.2.2) :: zV ps from rfl,valV_pos (p:=(p.1,p.2.2)) e,b]
   exact h2
  ·have e':¬ q.1=k:=fun z=>e (h1.trans z)
   have b:atKey (q :: qs) k=atKey qs k:=by simp [atKey,List.find?_cons,e']
   rw [show zV (p :: ps)=(p.1,p.2.2) :: zV ps from rfl,valV_neg (p:=(p.1,p.2.2)) e,b]
   exact ih
def zsf (zs:List (NestedKey×Addr×V)) (k:NestedKey) (b:Addr) (y:V):List (NestedKey×Addr×V):=if (valV (zV zs) k).isSome=true then zs.map (fun z=>if z.1=k then (z.1,z.2.1,y) else z) else zs++[(k,b,y)]
theorem KZ.repl (r:KZ zs xs) (k:NestedKey) {y:V} {u:Value} (ry:RelV y u):KZ (zs.map fun z=>if z.1=k then (z.1,z.2.1,y) else z) (xs.map (putAt k u)):=by
 induction r with
 | nil=>exact .nil
 | @cons p q ps qs h t ih=>
  rw [List.map_cons,List.map_cons]
  refine .cons ?_ ih
  obtain ⟨h1,h2,h3⟩:=h
  unfold putAt
  by_cases e:p.1=k
  ·rw [if_pos e,if_pos (h1.symm.trans e)];exact ⟨h1,h2,ry⟩
  ·rw [if_neg e,if_neg (fun z=>e (h1.trans z))];exact ⟨h1,h2,h3⟩
theorem KZ.put (r:KZ zs xs) (k:NestedKey) {b:Addr} {y:V} {u:Value} (ry:RelV y u):KZ (zsf zs k b y) (storedH xs k b u):=by
 have e:=(r.val k).isSome_eq
 rw [Option.isSome_map] at e
 unfold zsf storedH
 rw [e]
 by_cases q:(atKey xs k).isSome=true
 ·rw [if_pos q,if_pos q];exact r.repl k ry
 ·rw [if_neg q,if_neg q];exact Paired.snoc r ⟨rfl,rfl,ry⟩
def zlU (ks:List D) (kvs:List (NestedKey×D)) (k:NestedKey) (d:D):List D:=if (valD kvs k).isSome=true then ks else ks++[d]
theorem zpd (kvs:List (NestedKey×D)) (k:NestedKey):(kvs.any fun kv=>decide (kv.1=k))=(valD kvs k).isSome:=by
 induction kvs with
 | nil=>rfl
 | cons p kvs ih=>
  unfold valD at ih ⊢
  rw [List.any_cons,List.find?_cons,ih]
  by_cases e:p.1=k
  ·simp [e]
  ·simp [e]
theorem KN.map (r:KN K H ks kvs zs) (k:NestedKey) {e:D} {y:V} (ry:DV K H e y):KN K H ks (kvs.map fun kv=>if kv.1=k then (kv.1,e) else kv) (zs.map fun z=>if z.1=k then (z.1,z.2.1,y) else z):=by
 induction r with
 | nil=>exact .nil
 | @cons d e' k' b v ds kvs zs h1 h2 h3 h4 _ ih=>
  rw [List.map_cons,List.map_cons]
  by_cases q:k'=k
  ·simp only [q,if_true]
   rw [q] at h1 h2
   exact .cons h1 h2 h3 ry ih
  ·simp only [q,if_false]
   exact .cons h1 h2 h3 h4 ih
theorem KN.snoc (r:KN K H ks kvs zs) {k:NestedKey} {d e:D} {b:Addr} {y:V} (h1:nkD d=some k) (h2:k.depth≤8) (h3:DV K H d (.ref b)) (h4:DV K H e y):KN K H (ks++[d]) (kvs++[(k,e)]) (zs++[(k,b,y)]):=by
 induction r with
 | nil=>exact .cons h1 h2 h3 h4 .nil
 | cons g1 g2 g3 g4 _ ih=>exact .cons g1 g2 g3 g4 ih
theorem KN.put (r:KN K H ks kvs zs) {k:NestedKey} {d e:D} {b:Addr} {y:V} (h1:nkD d=some k) (h2:k.depth≤8) (h3:DV K H d (.ref b)) (h4:DV K H e y):KN K H (zlU ks kvs k d) (putD kvs k e) (zsf zs k b y):=by
 unfold zlU putD zsf
 rw [zpd,zhH r.kv_ k]
 by_cases q:(valD kvs k).isSome=true
 ·rw [if_pos q,if_pos q,if_pos q];exact r.map k h4
 ·rw [if_neg q,if_neg q,if_neg q];exact r.snoc h1 h2 h3 h4
end
section
variable {X:Cx} {B:Hp} {pos:Pos}
def zm6:EM:=fun _ S Q=>∀ p,S p=none->Q (.ref p) (put S p (.din [] []))
def zvj (g:Bool->Bool):BM:=fun d e S Q=>match nk8 d,e with
 | some k,.ref a=>match S a with
  | some (.din _ kvs)=>Q (.bl (g (valD kvs k).isSome)) S
  | _=>False
 | _,_=>False
def zyK:BM:=fun d e S Q=>match d,nk8 e with
 | .ref a,some k=>match S a with
  | some (.din _ kvs)=>match valD kvs k with
   | some v=>Q v S
   | none=>False
  | _=>False
 | _,_=>False
def zs8 (S:Sto) (o i v:D):Option Sto:=match o,nk8 i with
 | .ref a,some k=>match S a with
  | some (.din ks kvs)=>if kvs.length < sizeLine then some (put S a (.din (zlU ks kvs k i) (putD kvs k v))) else none
  | _=>none
 | _,_=>none
def zxm (X:Cx):TSet:=fun o i v H Q=>∃ do_ di dv S S',DV X.K H do_ o∧DV X.K H di i∧DV X.K H dv v∧Rp X.K X.prog X.w S H∧zs8 S do_ di dv=some S'∧∀ H',Le H H'->Rp X.K X.prog X.w S' H'->Q H'
def zwP (mo mi:EM):GM:=fun d env S Q=>mo env S fun o S1=>mi env S1 fun i S2=>match zs8 S2 o i d with
 | some S3=>Q env S3
 | none=>False
def kSd (d k:D) (Q:DQ):DQ:=fun z S3=>match d,nk8 k with
 | .ref a,some kk=>match S3 a with
  | some (.din ks kvs)=>kvs.length < sizeLine∧match valD kvs kk with
   | some v=>Q v S3
   | none=>Q z (put S3 a (.din (zlU ks kvs kk k) (putD kvs kk z)))
  | _=>False
 | _,_=>False
def okN (d:D) (S:Sto):Prop:=match d with
 | .ref a=>match S a with
  | some (.din _ _)=>True
  | _=>False
 | _=>False
def zm1 (mo mk mx:EM):EM:=fun env S Q=>mo env S fun d S1=>okN d S1∧mk env S1 fun k S2=>mx env S2 (kSd d k Q)
def zyS (X:Cx) (to ty tx:TE):TE:=fun σ H Q=>to σ H fun x H1=>(∃ a zs,x = .ref a∧H1 a=some (dN X.prog X.w a zs))∧ty σ H1 fun y H2=>tx σ H2 fun z H3=>∃ d k v S,DV X.K H3 d x∧DV X.K H3 k y∧DV X.K H3 v z∧Rp X.K X.prog X.w S H3∧kSd d k (dnE X.K X.prog X.w H3 Q) v S
end
section
variable {env:Slo} {S:Sto} {Q:DQ} {a:Addr} {ks:List D} {kvs:List (NestedKey×D)} {d e v:D} {k:NestedKey} {NQ:Slo->Sto->Prop} {mo mi mk mx:EM}
theorem zn4 (h:∀ p,S p=none->Q (.ref p) (put S p (.din [] []))):zm6 env S Q:=h
theorem ztP {g:Bool->Bool} (ek:nk8 d=some k) (e0:S a=some (.din ks kvs)) (h:Q (.bl (g (valD kvs k).isSome)) S):zvj g d (.ref a) S Q:=by
 unfold zvj
 simp only [ek,e0]
 exact h
def zun (d o:D) (env:Slo) (NQ:Slo->Sto->Prop):DQ:=fun i S2=>match zs8 S2 o i d with
 | some S3=>NQ env S3
 | none=>False
def zso (d:D) (mi:EM) (env:Slo) (NQ:Slo->Sto->Prop):DQ:=fun o S1=>mi env S1 (zun d o env NQ)
theorem zq1 (h:mo env S (zso d mi env NQ)):zwP mo mi d env S NQ:=h
theorem zp4 (h:mi env S (zun d e env NQ)):zso d mi env NQ e S:=h
def zuo (d:D) (mx:EM) (env:Slo) (Q:DQ):DQ:=fun k S2=>mx env S2 (kSd d k Q)
def zvv (mk mx:EM) (env:Slo) (Q:DQ):DQ:=fun d S1=>okN d S1∧mk env S1 (zuo d mx env Q)
theorem znr (h:mo env S (zvv mk mx env Q)):zm1 mo mk mx env S Q:=h
theorem zqc (h:mx env S (kSd e d Q)):zuo e mx env Q d S:=h
end
section
variable {env:Slo} {S:Sto} {Q:DQ} {d e:D} {NQ:Slo->Sto->Prop} {mo mi mk mx:EM}
instance zu1:St (zm6 env S Q) (∀ p,S p=none->Q (.ref p) (put S p (.din [] []))):=⟨fun h=>zn4 h⟩
instance zwB:St (zwP mo mi d env S NQ) (mo env S (zso d mi env NQ)):=⟨fun h=>zq1 h⟩
instance zvR:St (zso d mi env NQ e S) (mi env S (zun d e env NQ)):=⟨fun h=>zp4 h⟩
instance zuz:St (zm1 mo mk mx env S Q) (mo env S (zvv mk mx env Q)):=⟨fun h=>znr h⟩
instance zvY:St (zuo e mx env Q d S) (mx env S (kSd e d Q)):=⟨fun h=>zqc h⟩
end
def weave {α:Type}:List Bool->List α->List α->List α
 | [],_,_=>[]
 | true :: _,_,[]=>[]
 | true :: bs,mv,w :: ws=>w :: weave bs mv ws
 | false :: _,[],_=>[]
 | false :: bs,m :: mv,ws=>m :: weave bs mv ws
theorem zf6:∀ {bs:List Bool} {mz zs:List V} {mv ws:List Value},Vals mz mv->Vals zs ws->Vals (weave bs mz zs) (weave bs mv ws)
 | [],_,_,_,_,_,_=>.nil
 | true :: bs,_,_,_,_,r,.nil=>.nil
 | true :: bs,_,_,_,_,r,.cons h t=>.cons h (zf6 r t)
 | false :: bs,_,_,_,_,.nil,r=>.nil
 | false :: bs,_,_,_,_,.cons h t,r=>.cons h (zf6 t r)
theorem zgT {K:PySem.W.Frag} {H:Hp}:∀ {bs:List Bool} {mz zs:List D} {mv ws:List V},DVs K H mz mv->DVs K H zs ws->DVs K H (weave bs mz zs) (weave bs mv ws)
 | [],_,_,_,_,_,_=>.nil
 | true :: bs,_,_,_,_,r,.nil=>.nil
 | true :: bs,_,_,_,_,r,.cons h t=>.cons h (zgT r t)
 | false :: bs,_,_,_,_,.nil,r=>.nil
 | false :: bs,_,_,_,_,.cons h t,r=>.cons h (zgT t r)
structure MK (X:Cx) (B:Hp) (kws:List Keyword) (m:AM):Prop where
 pk:PK X kws (upA X.K X.prog X.w B m)
 mono:zln m
theorem zmQ {X:Cx} {kws:List Keyword} {t t':TA} (h:PK X kws t) (i:∀ σ H Q,t' σ H Q->t σ H Q):PK X kws t':=⟨fun pos pins s σ H Q I q=>h.run pos pins s σ H Q I (i σ H Q q)⟩
section
variable {X:Cx} {B:Hp}
theorem zmY:MK X B [] zal:=by
 refine ⟨zmQ pk_nil fun σ H Q q=>?_,fun env S Q Q' i q=>i _ _ q⟩
 obtain ⟨lB,env,S,r0,z0,q⟩:=q
 exact q [] H (Le.refl H) z0 .nil
theorem zkW {y:Str} {e:Expr} {kpos:Pos} {kws:List Keyword} {me:EM} {ms:AM} (h:ME X B e me) (h2:MK X B kws ms):MK X B (⟨some y,e,kpos⟩ :: kws) (zac me ms):=by
 refine ⟨zmQ (pk_cons h.pe h2.pk) fun σ H Q q=>?_,zjz h.mono h2.mono⟩
 obtain ⟨lB,env,S,r0,z0,q⟩:=q
 refine ⟨lB,env,S,r0,z0,h.mono env S _ _ (fun d S1 q v H1 l1 z1 d1=>?_) q⟩
 refine ⟨lB.trans l1,env,S1,r0.le l1,z1,h2.mono env S1 _ _ (fun ds S2 q vs H2 l2 z2 d2=>?_) q⟩
 exact q (v :: vs) H2 (l1.trans l2) z2 (.cons (d1.le l2) d2)
end
structure FdL (P:Program) (w:World) (K:PySem.W.Frag) (mg:Str->Option Value) (base:Heap) (k:Nat) (f:Addr) (sp:SpD) (n:Nat) (ks:List Str) (gD:List D->List D->List D):Prop where
 ex:∃ (fd:FuncData) (ps:List Str) (g:List Value->List Value->List Value) (gV:List V->List V->List V),FnOk P w K mg base (L2.CX P w) k f fd ps (zil K P w sp)∧KBn K fd ps n ks g gV∧∀ (H:Hp) (ds ws:List D) (vs zs:List V),DVs K H ds vs->DVs K H ws zs->DVs K H (gD ds ws) (gV vs zs)
 kp:PySem.W.keepIn K (.ref f)=true
 mono:zfa sp
section
variable {P:Program} {w:World} {K:PySem.W.Frag} {mg:Str->Option Value} {base:Heap}
theorem zkO {x qual:Str} {params:Arguments} {body:List Stmt} {scope:Scope} {f:Addr} {fd:FuncData} {N ps:List Str} {k n m np:Nat} {b:XW->SM} {kws:List (Str×V)} (F:FunD K x qual params body scope [] kws f fd) (S:FnScope N ps scope) (ks:List Str) (ms:List (Str×V)) (mD:List D) (bs:List Bool)
  (hk0:kws≠[]) (hms:∀ q∈ms,q∈kws) (hmd:∀ H,DVs K H mD (ms.map (·.2)))
  (hk:∀ (D:Addr) (doc pm:Value) (an:Option Addr) (cdv ct:Value) (us mv ws:List Value),us.length=n->mv.length=ms.length->ws.length=ks.length->KwChain D ((ms.map (·.1)).zip mv) (bindArgs (PySem.W.fnOf x qual params body scope .none (.ref D) doc pm an cdv ct) ⟨us,ks.zip ws⟩) (ps.zip (us++weave bs mv ws)))
  (hn:ps.length=np) (hN:N.length=np+m)
  (hb:∀ (cdv:Value) (A:Around) (outer:List Env) (s:Shared) (H:Hp) (E:XK),Room k (A.deeper (envOfC qual scope s.heap.objs.size f cdv))->∀ (X:Cx) (eX:X=cxOf (L2.CX P w) P w K mg base N qual scope f cdv A outer s H E) (W:XW),Tk X H W->PassesOwn (model X.prog X.w) X.A X.env X.xe->MSs X H body (b W)):FdL P w K mg base (k+1) f (spB np m b) n ks (fun ds ws=>ds++weave bs mD ws):=by
 obtain ⟨mv,kb⟩:=F.kbinds0 n ks ms (fun us mv ws=>us++weave bs mv ws) hk0 hms (fun r1 r2 r3=>r1.append (zf6 r2 r3)) hk
 refine ⟨⟨fd,ps,_,_,F.ok S (fun vs H Q E h=>?_) (fun cdv A outer s H vs Q E hr h=>?_),kb,fun H ds ws vs zs h1 h2=>h1.append (zgT (hmd H) h2)⟩,F.kp,zkT⟩
 ·obtain ⟨ds,S0,h1,h2,Q0,E0,_,_,h3,_⟩:=h
  rw [← h1.length,h3,hn]
 ·obtain ⟨ds,S0,h1,h2,Q0,E0,i1,i2,h3,h4⟩:=h
  have tk0:Takes (cxOf (L2.CX P w) P w K mg base N qual scope f cdv A outer s H E) (fun cls d _ H=>E cls d H):=takes_of rfl rfl rfl rfl
  have tk:Tk (cxOf (L2.CX P w) P w K mg base N qual scope f cdv A outer s H E) H (fun c fs _ S'=>E0 c fs S'):=tk0.imp fun c d σ H' z=>by
   obtain ⟨l,env,S',fs,_,z1,z2,z3⟩:=z
   exact i2 _ _ _ z3 d H' l z1 z2
  have Z:=hb cdv A outer s H E hr _ rfl _ tk (passes_of rfl)
  refine ⟨_,Z.ps,Le.refl H,_,S0,zhb h1 (by rw [h3];exact hN),h2,Z.mono.go h4 ⟨fun e S' q σ H' l r z=>?_,fun d S' q v H' l z dv=>i1 _ _ q v H' l z dv,fun _ _ q=>q.elim,fun _ _ q=>q.elim⟩⟩
  exact i1 _ _ q _ H' l z .non
end
section
variable {X:Cx} {B:Hp} {W:XW} {k n nk:Nat} {f C:Addr} {sp:SpD} {x:Str} {p pos:Pos} {e:Expr} {es:List Expr} {ma mk:AM} {gD:List D->List D->List D} {ks:List Str} {kws:List Keyword}
def ziJ (sp:SpD) (W:XW) (n nk:Nat) (gD:List D->List D->List D) (m mk:AM):EM:=fun env S Q=>m env S fun ds S1=>mk env S1 fun ws S2=>ds.length=n∧ws.length=nk∧sp (gD ds ws) S2 Q fun c fs S'=>W c fs env S'
def zm2 (C:Addr) (sp:SpD) (W:XW) (n nk:Nat) (gD:List D->List D->List D) (m mk:AM):EM:=fun env S Q=>m env S fun ds S1=>mk env S1 fun ws S2=>ds.length=n∧ws.length=nk∧∀ p,S2 p=none->sp (gD (.ref p :: ds) ws) (put S2 p (.ins C [])) (fun v S4=>v = .non∧Q (.ref p) S4) fun c fs S'=>W c fs env S'
theorem zmZ (F:FdL X.prog X.w X.K X.mg X.base k f sp n ks gD) (hr:Room k X.A) (tk:Tk X B W) (hm:X.mg x=some (.ref f)) (ha:MA X B (e :: es) ma) (h2:MK X B kws mk) (hg:Gl X x:=by rfl) (hnk:ks.length=nk:=by rfl)
  (hall:(backToKw pos (keywordEach kws X.env)).all (·.1.isSome)=true:=by rfl) (hks:(backToKw pos (keywordEach kws X.env)).filterMap (·.1)=ks:=by rfl)
  (hdb:(x == ("__debug__" : Str))=false:=by decide) (he:starEach (e :: es) X.env=(false,eval e X.env) :: starEach es X.env:=by rfl)
  (hpl:((backTo pos (starEach (e :: es) X.env)).any (·.1) || (backToKw pos (keywordEach kws X.env)).any (·.1.isNone))=false:=by rfl) :
  ME X B (.Call (.Name x p) (e :: es) kws pos) (ziJ sp W n nk gD ma mk):=by
 obtain ⟨fd,ps,g,gV,F1,kb,hgv⟩:=F.ex
 refine ⟨zbu (zkN F1 hr hg hm F.kp kb (fun σ=>passAt tk σ) ha.pa h2.pk hall hks hdb he hpl) fun σ H Q q=>?_,fun env S Q Q' i q=>ha.mono env S _ _ (fun ds S1 q=>h2.mono env S1 _ _ (fun d S2 q=>⟨q.1,q.2.1,F.mono _ _ _ _ _ _ i (fun _ _ _ h=>h) q.2.2⟩) q) q⟩
 obtain ⟨lB,env,S,r0,z0,q⟩:=q
 refine ⟨lB,env,S,r0,z0,ha.mono env S _ _ (fun ds S1 q vs H1 l1 z1 d1=>?_) q⟩
 refine ⟨lB.trans l1,env,S1,r0.le l1,z1,h2.mono env S1 _ _ (fun ws S2 q zs H2 l2 z2 d2=>?_) q⟩
 refine ⟨by rw [← d1.length];exact q.1,by rw [← d2.length,hnk];exact q.2.1,?_⟩
 exact zkp F.mono lB r0 (l1.trans l2) z2 (hgv _ _ _ _ _ (d1.le l2) d2) q.2.2
end
section
variable {env:Slo} {S:Sto} {Q:DQ} {ma mk:AM} {C:Addr} {W:XW} {n nk:Nat} {sp:SpD} {gD:List D->List D->List D} {xs ys:List D}
def zsE (sp:SpD) (W:XW) (n nk:Nat) (gD:List D->List D->List D) (ds:List D) (env:Slo) (Q:DQ):List D->Sto->Prop:=fun ws S2=>ds.length=n∧ws.length=nk∧sp (gD ds ws) S2 Q fun c fs S'=>W c fs env S'
def zsF (sp:SpD) (W:XW) (n nk:Nat) (gD:List D->List D->List D) (mk:AM) (env:Slo) (Q:DQ):List D->Sto->Prop:=fun ds S1=>mk env S1 (zsE sp W n nk gD ds env Q)
theorem zn6 (h:ma env S (zsF sp W n nk gD mk env Q)):ziJ sp W n nk gD ma mk env S Q:=h
theorem zqx (h:mk env S (zsE sp W n nk gD xs env Q)):zsF sp W n nk gD mk env Q xs S:=h
theorem zkv (h1:xs.length=n) (h2:ys.length=nk) (h:sp (gD xs ys) S Q fun c fs S'=>W c fs env S'):zsE sp W n nk gD xs env Q ys S:=⟨h1,h2,h⟩
def zut (C:Addr) (sp:SpD) (W:XW) (n nk:Nat) (gD:List D->List D->List D) (ds:List D) (env:Slo) (Q:DQ):List D->Sto->Prop:=fun ws S2=>ds.length=n∧ws.length=nk∧∀ p,S2 p=none->sp (gD (.ref p :: ds) ws) (put S2 p (.ins C [])) (fun v S4=>v = .non∧Q (.ref p) S4) fun c fs S'=>W c fs env S'
def zsG (C:Addr) (sp:SpD) (W:XW) (n nk:Nat) (gD:List D->List D->List D) (mk:AM) (env:Slo) (Q:DQ):List D->Sto->Prop:=fun ds S1=>mk env S1 (zut C sp W n nk gD ds env Q)
theorem znu (h:ma env S (zsG C sp W n nk gD mk env Q)):zm2 C sp W n nk gD ma mk env S Q:=h
theorem zqy (h:mk env S (zut C sp W n nk gD xs env Q)):zsG C sp W n nk gD mk env Q xs S:=h
instance zu3:St (ziJ sp W n nk gD ma mk env S Q) (ma env S (zsF sp W n nk gD mk env Q)):=⟨fun h=>zn6 h⟩
instance zwh:St (zsF sp W n nk gD mk env Q xs S) (mk env S (zsE sp W n nk gD xs env Q)):=⟨fun h=>zqx h⟩
instance zuA:St (zm2 C sp W n nk gD ma mk env S Q) (ma env S (zsG C sp W n nk gD mk env Q)):=⟨fun h=>znu h⟩
instance zwi:St (zsG C sp W n nk gD mk env Q xs S) (mk env S (zut C sp W n nk gD xs env Q)):=⟨fun h=>zqy h⟩
end
section
variable {prog:Program} {w:World} {A:Around} {E:Value->Shared->Prop} {s:Shared} {K:PySem.W.Frag} {x C f:Addr} {ox:Obj} {od:Option Obj} {y:Value}
end
def zyN (C:Addr) (sp:SpD) (g:Bool->Bool):BM:=fun d e S Q=>match e with
 | .ref a=>(∃ fs,S a=some (.ins C fs))∧sp [.ref a,d] S (fun v S'=>∃ b:Bool,v = .bl b∧Q (.bl (g b)) S') (fun _ _ _=>False)
 | _=>False
section
variable {X:Cx} {k:Nat} {C f:Addr} {sp:SpD}
end
section
variable {S:Sto} {Q:DQ} {C a:Addr} {fs:List (Str×D)} {sp:SpD} {d:D} {g:Bool->Bool}
end
section
variable {X:Cx} {B:Hp}
def zxr:MM:=fun d ds S Q=>match d,ds with
 | .ref a,[y]=>∃ (p:PyData) (ps:List PyData) (j:Nat) (z:PyData),rs S 40 y=some p∧rs S 40 (.ref a)=some (.list ps)∧ps[j]? = some z∧PyData.eqv z p=true∧(∀ (m:Nat) (z':PyData),m < j->ps[m]? = some z'->PyData.eqv z' p=false)∧Q (.int (j:Nat)) S
 | _,_=>False
end
section
variable {S:Sto} {Q:DQ} {a:Addr} {d:D}
end
section
variable {X:Cx} {B:Hp}
def kG1 (d:D) (Q:DQ):DQ:=fun k S2=>match d with
 | .ref a=>match S2 a,keyD k with
  | some (.dic kvs),some kk=>Q ((valD kvs kk).getD .non) S2
  | _,_=>False
 | _=>False
def zrD (mo mk:EM):EM:=fun env S Q=>mo env S fun d S1=>zrl d S1∧mk env S1 (kG1 d Q)
def kGN (d:D) (Q:DQ):DQ:=fun k S2=>match d,nk8 k with
 | .ref a,some kk=>match S2 a with
  | some (.din ks kvs)=>Q ((valD kvs kk).getD .non) S2
  | _=>False
 | _,_=>False
def zrB (mo mk:EM):EM:=fun env S Q=>mo env S fun d S1=>okN d S1∧mk env S1 (kGN d Q)
def tGN (X:Cx) (to ty:TE):TE:=fun σ H Q=>to σ H fun x H1=>(∃ a zs,x = .ref a∧H1 a=some (dN X.prog X.w a zs))∧ty σ H1 fun y H2=>∃ d k S,DV X.K H2 d x∧DV X.K H2 k y∧Rp X.K X.prog X.w S H2∧kGN d (dnE X.K X.prog X.w H2 Q) k S
end
section
variable {env:Slo} {S:Sto} {Q:DQ} {a:Addr} {ks:List D} {kvs:List (NestedKey×D)} {d k:D} {kk:NestedKey} {mo mk:EM}
def zvA (mk:EM) (env:Slo) (Q:DQ):DQ:=fun d S1=>zrl d S1∧mk env S1 (kG1 d Q)
def zvz (mk:EM) (env:Slo) (Q:DQ):DQ:=fun d S1=>okN d S1∧mk env S1 (kGN d Q)
theorem zqX (h:mo env S (zvA mk env Q)):zrD mo mk env S Q:=h
theorem zqV (h:mo env S (zvz mk env Q)):zrB mo mk env S Q:=h
instance zwy:St (zrD mo mk env S Q) (mo env S (zvA mk env Q)):=⟨fun h=>zqX h⟩
instance zww:St (zrB mo mk env S Q) (mo env S (zvz mk env Q)):=⟨fun h=>zqV h⟩
end
structure LoX (H H':Hp):Prop where
 tup:∀ a xs,H a=some (.tup xs)->H' a=some (.tup xs)
 frz:∀ a o u,(∀ φ,u≠.ext φ)->H a=some (.frz o u)->H' a=some (.frz o u)
theorem LoX.sqt {K:PySem.W.Frag} {H H':Hp} {a:Addr} {xs:List V} (l:LoX H H') (h:SqT K H a xs):SqT K H' a xs:=by
 rcases h with (h | ⟨o,h⟩) | h
 ·exact .inl (.inl (l.tup a xs h))
 ·exact .inl (.inr ⟨o,l.frz a o _ (fun _ z=>nomatch z) h⟩)
 ·exact .inr h
theorem LoX.rol {K:PySem.W.Frag} {H H':Hp} {a:Addr} {xs:List V} (l:LoX H H') (h:RoL K H a xs):RoL K H' a xs:=by
 rcases h with ⟨o,h⟩ | h
 ·exact .inl ⟨o,l.frz a o _ (fun _ z=>nomatch z) h⟩
 ·exact .inr h
theorem LoX.tf {H H':Hp} {a:Addr} {vs:List V} {f:Bool} (l:LoX H H') (h:TF H a vs f):TF H' a vs f:=by
 cases f with
 | false=>exact l.tup _ _ h
 | true=>
  obtain ⟨o,e,z⟩:=h
  exact ⟨o,l.frz _ _ _ (fun _ z=>nomatch z) e,z⟩
section
variable {K:PySem.W.Frag} {H H':Hp}
mutual
theorem DV.lx (l:LoX H H'):∀ (d:D) (v:V),DV K H d v->DV K H' d v
 | .non,_,h=>by cases h;exact .non
 | .bl b,_,h=>by cases h;exact .bl b
 | .int b,_,h=>by cases h;exact .int b
 | .str b,_,h=>by
  cases h with
  | str _ ok=>exact .str b ok
 | .ty b,_,h=>by cases h;exact .ty b
 | .ref b,_,h=>by cases h;exact .ref b
 | .tp f ds,_,h=>by
  cases h with
  | tup hs hd ht=>exact .tup (l.sqt hs) (DVs.lx l ds _ hd) (l.tf ht)
 | .rol ds,_,h=>by
  cases h with
  | rol hs hd=>exact .rol (l.rol hs) (DVs.lx l ds _ hd)
 | .rod ks ds,_,h=>by
  cases h with
  | rod hs hl hk hd=>
   obtain ⟨o,hs⟩:=hs
   exact .rod ⟨o,l.frz _ _ _ (fun _ z=>nomatch z) hs⟩ hl hk (DVs.lx l ds _ hd)
theorem DVs.lx (l:LoX H H'):∀ (ds:List D) (vs:List V),DVs K H ds vs->DVs K H' ds vs
 | [],_,h=>by cases h;exact .nil
 | d :: ds,_,h=>by
  cases h with
  | cons h1 h2=>exact .cons (DV.lx l d _ h1) (DVs.lx l ds _ h2)
end
theorem KVs.lx {κ:Type} {ds:List (κ×D)} {vs:List (κ×V)} (l:LoX H H') (h:KVs K H ds vs):KVs K H' ds vs:=by
 induction h with
 | nil=>exact .nil
 | cons h1 _ ih=>exact .cons (DV.lx l _ _ h1) ih
theorem KN.lx {ds:List D} {kvs:List (NestedKey×D)} {zs:List (NestedKey×Addr×V)} (l:LoX H H') (h:KN K H ds kvs zs):KN K H' ds kvs zs:=by
 induction h with
 | nil=>exact .nil
 | cons h1 h2 h3 h4 _ ih=>exact .cons h1 h2 (DV.lx l _ _ h3) (DV.lx l _ _ h4) ih
theorem zdk.lx {env:Slo} {σ:L2.St} (r:zdk K H env σ) (l:LoX H H'):zdk K H' env σ:=⟨r.len,fun i d e=>by
 obtain ⟨v,q,z⟩:=r.at_ i d e
 exact ⟨v,q,DV.lx l _ _ z⟩⟩
theorem OOk.lx {P:Program} {w:World} {a:Addr} {o:O} (h:OOk K P w H a o) (l:LoX H H') (e:H' a=H a):OOk K P w H' a o:=by
 cases o with
 | lst=>obtain ⟨vs,q,z⟩:=h;exact ⟨vs,e.trans q,DVs.lx l _ _ z⟩
 | dic=>obtain ⟨vs,q,z⟩:=h;exact ⟨vs,e.trans q,z.lx l⟩
 | dit=>obtain ⟨vs,q,z⟩:=h;exact ⟨vs,e.trans q,z.lx l⟩
 | set=>exact e.trans h
 | ins=>obtain ⟨dx,vs,q,z⟩:=h;exact ⟨dx,vs,e.trans q,z.lx l⟩
 | din=>obtain ⟨zs,q,z⟩:=h;exact ⟨zs,e.trans q,z.lx l⟩
theorem KN.get {ds:List D} {kvs:List (NestedKey×D)} {zs:List (NestedKey×Addr×V)} (h:KN K H ds kvs zs):∀ {i:Nat} {k:NestedKey} {b:Addr} {v:V},zs[i]? = some (k,b,v)->∃ d,ds[i]? = some d∧DV K H d (.ref b):=by
 induction h with
 | nil=>intro i k b v e;simp at e
 | cons h1 h2 h3 h4 _ ih=>
  intro i k b v e
  cases i with
  | zero=>
   simp only [List.getElem?_cons_zero,Option.some.injEq,Prod.mk.injEq] at e
   obtain ⟨rfl,rfl,rfl⟩:=e
   exact ⟨_,rfl,h3⟩
  | succ i=>
   simp only [List.getElem?_cons_succ] at e ⊢
   exact ih e
end
def FzN (X:Cx) (H:Hp) (a:Addr) (ks:List D) (kvs:List (NestedKey×D)):Prop:=∃ o zs,H a=some (.frz o (dN X.prog X.w a zs))∧KN X.K H ks kvs zs
theorem FzN.le {X:Cx} {H H':Hp} {a:Addr} {ks:List D} {kvs:List (NestedKey×D)} (h:FzN X H a ks kvs) (l:Le H H'):FzN X H' a ks kvs:=by
 obtain ⟨o,zs,e,z⟩:=h
 exact ⟨o,zs,l.frz _ _ _ e,z.le l⟩
def zxv (m:Addr->List D->List (NestedKey×D)->SM):SM:=fun A env S=>∃ a ks kvs,S a=some (.din ks kvs)∧∃ A0:Fin,zeg A0 ⟨fun e S1=>A.nx e (put S1 a (.din ks kvs)),fun d S1=>A.rt d (put S1 a (.din ks kvs)),fun e S1=>A.bk e (put S1 a (.din ks kvs)),fun e S1=>A.ct e (put S1 a (.din ks kvs))⟩∧m a ks kvs A0 env (zpm S a)
section
variable {X:Cx} {B:Hp} {st:Stmt} {m:Addr->List D->List (NestedKey×D)->SM}
end
def Itn (P:Program) (w:World) (d:Addr) (o:Obj) (zs:List (NestedKey×Addr×V)):It:=
 ⟨fun i H=>H d=some (.frz o (dN P w d zs))∧i < zs.length,fun i H x H'=>H'=H∧∃ k b v,zs[i]? = some (k,b,v)∧x = .ref b,fun i H=>H d=some (.frz o (dN P w d zs))∧zs.length≤i⟩
section
variable {X:Cx} {pins:List (Addr×Obj)} {σ:L2.St} {H:Hp} {s:Shared} {d:Addr} {o:Obj}
end
section
variable {P:Program} {w:World} {K:PySem.W.Frag} {tg:Expr} {d:Addr} {o:Obj} {es:Array DictEntry} {ep:Nat}
def zwK (P:Program) (w:World) (td:TE):TI:=fun σ H R=>td σ H fun x H1=>∃ d o zs,x = .ref d∧H1 d=some (.frz o (dN P w d zs))∧R (Itn P w d o zs) H1
end
section
variable {X:Cx} {tg e:Expr} {td:TE}
end
def zr1 (a:Addr) (ks:List D) (m:EM):IM:=fun env S R=>m env S fun d S1=>d = .ref a∧R ks (fun _=>True) S1
def zs1 (a:Addr) (kvs:List (NestedKey×D)) (g:Bool->Bool):BM:=fun d e S Q=>match nk8 d with
 | some k=>e = .ref a∧Q (.bl (g (valD kvs k).isSome)) S
 | none=>False
section
variable {X:Cx} {B:Hp} {a:Addr} {ks:List D} {kvs:List (NestedKey×D)} {tg:Expr} {pos:Pos}
def zxp (X:Cx) (a:Addr) (ks:List D) (kvs:List (NestedKey×D)) (g:Bool->Bool):R2:=fun x y H Q=>FzN X H a ks kvs∧∃ d e S,DV X.K H d x∧DV X.K H e y∧Rp X.K X.prog X.w S H∧zs1 a kvs g d e S (dnE X.K X.prog X.w H Q)
end
def zum (mk mv:EM):EM:=fun env S Q=>∀ p,S p=none->mk env (put S p (.din [] [])) fun k S1=>mv env S1 fun v S2=>match nk8 k with
 | some kk=>S2 p=some (.din [] [])∧Q (.ref p) (put S2 p (.din [k] [(kk,v)]))
 | none=>False
section
variable {X:Cx} {B:Hp} {pos:Pos} {k v:Expr} {mk mv:EM}
def zs6 (X:Cx) (tk tv:TE):TE:=fun σ H Q=>∀ p,H p=none->tk σ (upd H p (dN X.prog X.w p [])) fun x H1=>tv σ H1 fun y H2=>∃ d kk b,DV X.K H2 d x∧nk8 d=some kk∧x = .ref b∧H2 p=some (dN X.prog X.w p [])∧Q (.ref p) (upd H2 p (dN X.prog X.w p [(kk,b,y)]))
end
section
variable {env:Slo} {S:Sto} {Q:DQ} {a:Addr} {ks:List D} {kvs:List (NestedKey×D)} {me mk mv:EM} {R:List D->(Sto->Prop)->Sto->Prop} {d x:D} {k:NestedKey} {A:Fin} {m:Addr->List D->List (NestedKey×D)->SM} {g:Bool->Bool}
def zml (a:Addr) (ks:List D) (R:List D->(Sto->Prop)->Sto->Prop):DQ:=fun d S1=>d = .ref a∧R ks (fun _=>True) S1
theorem zn0 (h:me env S (zml a ks R)):zr1 a ks me env S R:=h
theorem znM (h:R ks (fun _=>True) S):zml a ks R (.ref a) S:=⟨rfl,h⟩
def zuv (p:Addr) (k:D) (Q:DQ):DQ:=fun v S2=>match nk8 k with
 | some kk=>S2 p=some (.din [] [])∧Q (.ref p) (put S2 p (.din [k] [(kk,v)]))
 | none=>False
def zvB (p:Addr) (mv:EM) (env:Slo) (Q:DQ):DQ:=fun k S1=>mv env S1 (zuv p k Q)
theorem zqF {p:Addr} (h:mv env S (zuv p d Q)):zvB p mv env Q d S:=h
instance zuY:St (zr1 a ks me env S R) (me env S (zml a ks R)):=⟨fun h=>zn0 h⟩
instance zuP:St (zml a ks R (.ref a) S) (R ks (fun _=>True) S):=⟨fun h=>znM h⟩
instance zwn {p:Addr}:St (zvB p mv env Q d S) (mv env S (zuv p d Q)):=⟨fun h=>zqF h⟩
end
def zuc:V->List V->Hp->VK->Prop:=fun x vs H Q=>∃ (l:Addr) (xs:List V) (i:Int) (y:V),x = .ref l∧vs=[.int i,y]∧H l=some (.lst xs)∧0≤i∧i.toNat≤xs.length∧xs.length < sizeLine∧Q .non (upd H l (.lst (xs.take i.toNat++y :: xs.drop i.toNat)))
section
variable {X:Cx} {B:Hp} {o e e2:Expr} {mo:EM} {ma:AM} {apos cpos:Pos}
def zyX:MM:=fun d ds S Q=>match d,ds with
 | .ref a,[.int i,y]=>match S a with
  | some (.lst xs)=>0≤i∧i.toNat≤xs.length∧xs.length < sizeLine∧Q .non (put S a (.lst (xs.take i.toNat++y :: xs.drop i.toNat)))
  | _=>False
 | _,_=>False
end
def zvq (m:Addr->List D->List (NestedKey×D)->EM):EM:=fun env S Q=>∃ a ks kvs,S a=some (.din ks kvs)∧∃ Q0:DQ,(∀ d S1,Q0 d S1->Q d (put S1 a (.din ks kvs)))∧m a ks kvs env (zpm S a) Q0
section
variable {X:Cx} {B:Hp} {e:Expr} {m:Addr->List D->List (NestedKey×D)->EM}
end
def zk5 (m:EM):EM:=fun env S Q=>m env S fun d S1=>match d with
 | .int n=>RgOk 0 n∧∀ a,S1 a=none->Q (.ref a) (put S1 a (.lst (zi3 0 n.toNat)))
 | _=>False
section
variable {X:Cx} {B:Hp} {e:Expr} {p p2 pos pos2:Pos}
end
section
variable {env:Slo} {S:Sto} {Q:DQ} {me:EM} {n:Int}
def zvy (Q:DQ):DQ:=fun d S1=>match d with
 | .int n=>RgOk 0 n∧∀ a,S1 a=none->Q (.ref a) (put S1 a (.lst (zi3 0 n.toNat)))
 | _=>False
theorem zlI (h:me env S (zvy Q)):zk5 me env S Q:=h
instance zsR:St (zk5 me env S Q) (me env S (zvy Q)):=⟨fun h=>zlI h⟩
end
def zwZ:CM:=fun ds S Q=>match ds with
 | [.ref a]=>match S a with
  | some (.din _ kvs)=>Q (.int kvs.length) S
  | _=>False
 | _=>False
section
variable {X:Cx}
end
def zs0:CM:=fun ds S Q=>match ds with
 | [.ref a]=>∃ zs:List Int,S a=some (.lst (zs.map D.int))∧zs.length < 64∧∀ ys:List Int,ys.Perm zs->ys.Pairwise (·≤·)->∀ p,S p=none->Q (.ref p) (put S p (.lst (ys.map D.int)))
 | _=>False
section
variable {X:Cx}
end
def zwS (elt:Expr) (acc:Value) (env:Env) (k:Sem PySem.Fin):Sem PySem.Fin:=do
 (do let _ ← call (.builtin "list.append") [acc,← eval elt env])
 k
section
variable {elt t0 i0 t1 i1 t2 i2:Expr} {f0 f1 f2:List Expr} {scope:Scope} {pos:Pos} {it acc:Value} {env:Env}
end
section
variable {prog:Program} {w:World} {A:Around} {R:Result->Shared->Prop} {s:Shared} {e0 t i:Expr} {gs:List Comprehension} {sc:Scope} {ps:Pos} {fs:List Expr} {d:Nat} {it acc:Value} {env:Env} {body:Sem PySem.Fin->Sem PySem.Fin}
end
def bqI (te:TE) (D:Addr):L2.St->Hp->(Hp->Prop)->Prop:=fun σ H Nx=>te σ H fun y H7=>∃ ys,H7 D=some (.lst ys)∧ys.length < sizeLine∧Nx (upd H7 D (.lst (ys++[y])))
def bqO (wi:TI) (g:TG) (tt:TT) (vs:List Nat) (Bq:L2.St->Hp->(Hp->Prop)->Prop):L2.St->Hp->(Hp->Prop)->Prop:=fun σ H Nx=>wi σ H fun J H4=>zsX J H4 Nx g tt vs σ Bq
def zyT (wi:TI) (g:TG) (tt:TT) (wi1:TI) (g1:TG) (tt1:TT) (wi2:TI) (g2:TG) (tt2:TT) (te:TE) (vs vs1 vs2:List Nat):TE:=fun σ H Q=>wi σ H fun J H1=>∀ D,H1 D=none ->
 zsX J (upd H1 D (.lst [])) (Q (.ref D)) g tt vs σ (bqO wi1 g1 tt1 vs1 (bqO wi2 g2 tt2 vs2 (bqI te D)))
section
variable {X:Cx} {elt tg iter tg1 iter1 tg2 iter2:Expr} {ifs ifs1 ifs2:List Expr} {scope:Scope} {own:List (Str×Nat)} {pos:Pos} {wi wi1 wi2:TI} {g g1 g2:TG} {tt tt1 tt2:TT} {te:TE} {vs1 vs2:List Nat}
end
def lcM (g:GM) (t:TM) (bd:Slo->(Sto->Prop)->Sto->Prop) (G N:Sto->Prop) (env:Slo):List D->Sto->Prop
 | [],S=>G S∧N S
 | x :: xs,S=>G S∧g x env S fun env2 S2=>t env2 S2 fun b S3=>match b with
  | true=>bd env2 (lcM g t bd G N env xs) S3
  | false=>lcM g t bd G N env xs S3
def bdI (m:EM) (p:Addr):Slo->(Sto->Prop)->Sto->Prop:=fun env Nx S=>m env S fun d S4=>match S4 p with
 | some (.lst ys)=>ys.length < sizeLine∧Nx (put S4 p (.lst (ys++[d])))
 | _=>False
def bdO (mi:IM) (g:GM) (t:TM) (vs:List Nat) (bd:Slo->(Sto->Prop)->Sto->Prop):Slo->(Sto->Prop)->Sto->Prop:=fun env Nx S=>mi env S fun xs G S1=>lcM g t bd G Nx (zdV env vs) xs S1
def zxx (mi:IM) (g:GM) (t:TM) (mi1:IM) (g1:GM) (t1:TM) (mi2:IM) (g2:GM) (t2:TM) (m:EM) (vs vs1 vs2:List Nat):EM:=fun env S Q=>mi env S fun xs G S1=>∀ p,S1 p=none ->
 lcM g t (bdO mi1 g1 t1 vs1 (bdO mi2 g2 t2 vs2 (bdI m p))) G (Q (.ref p)) (zdV env vs) xs (put S1 p (.lst []))
abbrev zzo (bd:Slo->(Sto->Prop)->Sto->Prop):Prop:=∀ env (N N':Sto->Prop) S,(∀ S,N S->N' S)->bd env N S->bd env N' S
section
variable {K:PySem.W.Frag} {P:Program} {w:World} {B:Hp}
def Ab (K:PySem.W.Frag) (P:Program) (w:World) (H0:Hp) (M:Sto->Prop):Hp->Prop:=fun H=>Le H0 H∧∃ S,Rp K P w S H∧M S
abbrev UpB (K:PySem.W.Frag) (P:Program) (w:World) (B:Hp) (bd:Slo->(Sto->Prop)->Sto->Prop) (Bq:L2.St->Hp->(Hp->Prop)->Prop):Prop:=
 ∀ env σ H H0 (Nx:Sto->Prop) S,Le B H->Le H0 H->zdk K H env σ->Rp K P w S H->bd env Nx S->Bq σ H (Ab K P w H0 Nx)
abbrev zyF (K:PySem.W.Frag) (P:Program) (w:World) (B:Hp) (mi:IM):TI:=fun σ H R=>Le B H∧∃ env S,zdk K H env σ∧Rp K P w S H∧mi env S fun xs G S1=>∀ J H1,Le H H1->Rp K P w S1 H1->WkD K P w H1 J xs G->R J H1
end
section
variable {X:Cx} {B:Hp} {elt tg iter tg1 iter1 tg2 iter2:Expr} {ifs ifs1 ifs2:List Expr} {scope:Scope} {own:List (Str×Nat)} {pos:Pos} {mi mi1 mi2:IM} {g g1 g2:GM} {t t1 t2:TM} {m:EM} {vs1 vs2:List Nat}
end
section
variable {env:Slo} {S:Sto} {Q:DQ}
end
def zxw (m:Addr->List D->List (NestedKey×D)->EM):EM:=fun env S Q=>∃ a ks kvs,S a=some (.din ks kvs)∧∃ Q0:DQ,(∀ d S1,S1 a=none->Q0 d S1->Q d (put S1 a (.din ks kvs)))∧m a ks kvs env (zpm S a) Q0
section
variable {X:Cx} {B:Hp} {e:Expr} {m:Addr->List D->List (NestedKey×D)->EM}
end
def zxC (g:GM) (t:TM) (mi1:IM) (g1:GM) (t1:TM) (mi2:IM) (g2:GM) (t2:TM) (m:EM) (vs vs1 vs2:List Nat) (env:Slo) (Q:DQ):List D->(Sto->Prop)->Sto->Prop:=fun xs G S1=>∀ p,S1 p=none->lcM g t (bdO mi1 g1 t1 vs1 (bdO mi2 g2 t2 vs2 (bdI m p))) G (Q (.ref p)) (zdV env vs) xs (put S1 p (.lst []))
instance zxY {env:Slo} {S:Sto} {Q:DQ} {mi mi1 mi2:IM} {g g1 g2:GM} {t t1 t2:TM} {m:EM} {vs vs1 vs2:List Nat}:St (zxx mi g t mi1 g1 t1 mi2 g2 t2 m vs vs1 vs2 env S Q) (mi env S (zxC g t mi1 g1 t1 mi2 g2 t2 m vs vs1 vs2 env Q)):=⟨fun h=>h⟩
section
variable {X:Cx} {B:Hp}
def zw2:BM:=fun d e S Q=>match d,e with
 | .tp _ xs,.tp _ ys=>xs≠[]∧ys≠[]∧xs.length+ys.length≤sizeLine∧Q (.tp true (xs++ys)) S
 | _,_=>False
end
section
variable {S:Sto} {Q:DQ} {xs ys:List D} {f f':Bool}
end
def zrA (zs:List Str) (g:Bool->Bool) (m:EM):EM:=fun env S Q=>m env S fun d S1=>∃ ds:List Str,d = .tup (ds.map D.str)∧Q (.bl (g (decide (zs=ds)))) S1
section
variable {X:Cx} {B:Hp} {e:Expr} {m:EM} {x:Str} {a:Addr} {zs:List Str} {p pos:Pos}
end
section
variable {env:Slo} {S:Sto} {Q:DQ} {zs ds:List Str} {g:Bool->Bool} {m:EM}
def zrR (zs:List Str) (g:Bool->Bool) (Q:DQ):DQ:=fun d S1=>∃ ds:List Str,d = .tup (ds.map D.str)∧Q (.bl (g (decide (zs=ds)))) S1
theorem zpS (h:m env S (zrR zs g Q)):zrA zs g m env S Q:=h
instance zvK:St (zrA zs g m env S Q) (m env S (zrR zs g Q)):=⟨fun h=>zpS h⟩
end
def zy0 (d:D) (_:Sto):Prop:=match d with
 | .str _=>True
 | _=>False
def zxq:MM:=fun d ds S Q=>match d,ds with
 | .str a,[.str b]=>∃ i rest,Builtin.Str.occurrences a b 0 a.length 1=i :: rest∧Q (.int (i:Nat)) S
 | _,_=>False
section
variable {X:Cx} {B:Hp}
def zyR (x:V) (_:Hp):Prop:=∃ a,x = .str a
end
open PySem PySem.Spec PyProof.Rows
end DL
namespace K79
open PySem PySem.Spec PyProof.Rows L2 DL
local macro_rules | `(tactic| walk_at "dp") => `(tactic| (first | with_reducible assumption | with_reducible exact zai | (with_reducible refine (zaP (by first | with_reducible assumption | exact Ne.symm (by with_reducible assumption))).trans ?_; first | with_reducible assumption | with_reducible exact zai | (with_reducible refine (zaP (by first | with_reducible assumption | exact Ne.symm (by with_reducible assumption))).trans ?_; first | with_reducible assumption | with_reducible exact zai | (with_reducible refine (zaP (by first | with_reducible assumption | exact Ne.symm (by with_reducible assumption))).trans ?_; first | with_reducible assumption | with_reducible exact zai | (with_reducible refine (zaP (by first | with_reducible assumption | exact Ne.symm (by with_reducible assumption))).trans ?_; first | with_reducible assumption | with_reducible exact zai))))))
local macro_rules | `(tactic| walk_at "q") => `(tactic| (first | exact .inl rfl | exact .inr rfl))
local macro_rules | `(tactic| nofun) => `(tactic| walk_at "q")
section
variable {w:World} {K:PySem.W.Frag} {mg:Str->Option Value} {base:Heap}
theorem zeL:FnScope ["self", "path"] ["self", "path"] (defScope za8):=⟨rfl,rfl,rfl,by decide +kernel,rfl,by decide +kernel,by decide +kernel⟩
theorem zhv (T:Tu fac fns zcb PG_.main.file zcF tabs eqs gts prs sqs nos isl w K mg):ExOk PG_ w K mg base "InvalidPath" "path" := by
 obtain ⟨fd,F⟩:=T.df 41 (d:=zcK)
 have bi:Binds K fd ["self", "path"] []:=FunD.bindsN F fun _ _ _ _ _ _ us hl=>match us,hl with | [_,_],_=>by kernel_rfl
 refine T.exc 0 42 67 68 rfl rfl rfl rfl ⟨fd,_,zlb F zeL rfl (fun X h1 h2=>⟨pe_var (by rw [h1];rfl) (.inl (by rw [h2];rfl)),pe_var (by rw [h1];rfl) (.inl (by rw [h2];rfl)),rfl⟩),bi⟩
theorem zep:FnScope ["self", "index"] ["self", "index"] (defScope zaX):=⟨rfl,rfl,rfl,by decide +kernel,rfl,by decide +kernel,by decide +kernel⟩
theorem zcV (T:Tu fac fns zcb PG_.main.file zcF tabs eqs gts prs sqs nos isl w K mg):ExOk PG_ w K mg base "InvalidChange" "index" := by
 obtain ⟨fd,F⟩:=T.df 42 (d:=zco)
 have bi:Binds K fd ["self", "index"] []:=FunD.bindsN F fun _ _ _ _ _ _ us hl=>match us,hl with | [_,_],_=>by kernel_rfl
 refine T.exc 1 54 69 70 rfl rfl rfl rfl ⟨fd,_,zlb F zep rfl (fun X h1 h2=>⟨pe_var (by rw [h1];rfl) (.inl (by rw [h2];rfl)),pe_var (by rw [h1];rfl) (.inl (by rw [h2];rfl)),rfl⟩),bi⟩
theorem zeM:FnScope ["self", "kind"] ["self", "kind"] (defScope za9):=⟨rfl,rfl,rfl,by decide +kernel,rfl,by decide +kernel,by decide +kernel⟩
theorem zby (T:Tu fac fns zcb PG_.main.file zcF tabs eqs gts prs sqs nos isl w K mg):ExOk PG_ w K mg base "InvalidKind" "kind" := by
 obtain ⟨fd,F⟩:=T.df 43 (d:=zcL)
 have bi:Binds K fd ["self", "kind"] []:=FunD.bindsN F fun _ _ _ _ _ _ us hl=>match us,hl with | [_,_],_=>by kernel_rfl
 refine T.exc 2 53 71 72 rfl rfl rfl rfl ⟨fd,_,zlb F zeM rfl (fun X h1 h2=>⟨pe_var (by rw [h1];rfl) (.inl (by rw [h2];rfl)),pe_var (by rw [h1];rfl) (.inl (by rw [h2];rfl)),rfl⟩),bi⟩
def ze5 (K:PySem.W.Frag) (W:XW):SM:=
 (zbg (zhk (zac (mCB zfN (zac (mSl (zag 0) ziH (mP (mC (.int 63)))) zal)) (zac (mC (.int 0)) (zac (mC (.int 0)) (zac (mC (.int 0)) (zac (mC (.int 1)) zal)))))))
theorem zhO:FnScope ["_law_script"] ["_law_script"] (defScope zda):=⟨rfl,rfl,rfl,by decide +kernel,rfl,by decide +kernel,by decide +kernel⟩
def zek (K:PySem.W.Frag):SpD:=spB 1 0 (ze5 K)
theorem zh2 (T:Tu fac fns zcb PG_.main.file zcF tabs eqs gts prs sqs nos isl w K mg):Fd PG_ w K mg base 2 (He.ga K "_law_state") (zek K):=by
 obtain ⟨fd,F⟩:=T.df 0 (d:=zf0)
 have bi:Binds K fd ["_law_script"] []:=FunD.bindsN F fun _ _ _ _ _ _ us hl=>match us,hl with | [_],_=>by kernel_rfl
 refine zaQ (k:=1) F zhO bi rfl rfl fun cdv A outer s H E hr X eX W tk po=>?_
 subst eX
 unfold ze5
 exact (zah (zar (zcm (zaa (zaR zfF (zaa (zfV (zab 0 (pv 0)) zcl (zck zaf)) zae) fun h1 h2=>pe_callTy h1 rfl (T.free 0) boot_list h2) (zaa zaf (zaa zaf (zaa zaf (zaa zaf zae))))))))
def zfL (K:PySem.W.Frag) (W:XW):SM:=
 (zav (zj5 (zag 0) (mC (.int 3)) (mC (.int 1)) ziZ) (zav (mIf (zj6 (mB (mOp vEq (mOp vIx (zag 0) (mC (.int 2))) (mC (.int 0)))) (mB (mOp vLt (mOp vIx (zag 0) (mC (.int 1))) (mCB zcZ (zac (mOp vIx (zag 0) (mC (.int 0))) zal)))))
  (zav (zaN (mOp vIx (mOp vIx (zag 0) (mC (.int 0))) (mOp vIx (zag 0) (mC (.int 1)))) (gNm 2)) (zav (zj5 (zag 0) (mC (.int 1)) (mC (.int 1)) ziZ) (mIf (mB (mOp vGe (mCB zsd (zac (zag 2) zal)) (mOp zpv (mC (.int 10)) (mC (.int 18)))))
  (zaN (mCB zsd (zac (zag 2) zal)) (gIx (zag 0) (mC (.int 2))))
  (zaN (mOp zlp (mCB vInt (zac (mOp zbK (mOp zbK (mOp zjL (mOp vIx (zag 0) (mC (.int 4))) (mC (.int 69621))) (zag 2)) (mC (.int 7919))) zal)) (mC (.int 2147483647))) (gIx (zag 0) (mC (.int 4)))))))
  mNx) (zav (mIf (mB (mOp vGt (mOp vIx (zag 0) (mC (.int 2))) (mC (.int 0))))
  (zav (zaN (mOp zlp (mCB vInt (zac (mOp vIx (zag 0) (mC (.int 2))) zal)) (zag 1)) (gNm 3)) (zav (zaN (mOp zhM (mOp vIx (zag 0) (mC (.int 2))) (zag 1)) (gIx (zag 0) (mC (.int 2)))) (zbg (zag 3))))
  mNx) (zav (zaN (mOp zlp (mCB vInt (zac (mOp zjL (mOp zbK (mOp zbK (mOp vIx (zag 0) (mC (.int 4))) (mOp zjL (mC (.int 7919)) (mOp vIx (zag 0) (mC (.int 3))))) (mC (.int 1))) (mC (.int 48271))) zal)) (mC (.int 2147483647))) (gNm 4)) (zav (zaN (mOp zlp (mCB vInt (zac (mOp zjL (zag 4) (mOp zbK (mOp zhM (zag 4) (mC (.int 1009))) (mC (.int 69621)))) zal)) (mC (.int 2147483647))) (gNm 5)) (zav (zaN (mOp zlp (mCB vInt (zac (mOp zjL (zag 5) (mOp zbK (mOp zhM (zag 5) (mC (.int 2003))) (mC (.int 40692)))) zal)) (mC (.int 2147483399))) (gNm 6)) (zbg (mOp zlp (mCB vInt (zac (mOp zhM (zag 6) (mC (.int 16))) zal)) (zag 1)))))))))
theorem zb8:FnScope ["_law_state_here", "_law_many_here", "_law_cell", "_law_digit", "_law_one", "_law_two", "_law_three"] ["_law_state_here", "_law_many_here"] (defScope zdG):=⟨rfl,rfl,rfl,by decide +kernel,rfl,by decide +kernel,by decide +kernel⟩
def zaj (K:PySem.W.Frag):SpD:=spB 2 5 (zfL K)
theorem zak (T:Tu fac fns zcb PG_.main.file zcF tabs eqs gts prs sqs nos isl w K mg):Fd PG_ w K mg base 2 (He.ga K "_law_draw") (zaj K):=by
 obtain ⟨fd,F⟩:=T.df 1 (d:=zgD)
 have bi:Binds K fd ["_law_state_here", "_law_many_here"] []:=FunD.bindsN F fun _ _ _ _ _ _ us hl=>match us,hl with | [_,_],_=>by kernel_rfl
 refine zaQ (k:=1) F zb8 bi rfl rfl fun cdv A outer s H E hr X eX W tk po=>?_
 subst eX
 unfold zfL
 exact (zad (zkS (hu1 hr) (zab 0 (pv 0)) zaf zaf zjt)
  (zad (zaF (MW.mt (zg6 (zat (zbb (zcN hr)) (zan (hu1 hr) (zab 0 (pv 0)) zaf) zaf) (zgd (zat zkQ (zan (hu1 hr) (zab 0 (pv 0)) zaf) (zap zaW (zaa (zan (hu1 hr) (zab 0 (pv 0)) zaf) zae) fun h1 h2=>pe_callB h1 rfl (T.free 1) boot_len h2)))))
  (zad (zao (i:=2) (zan (hu1 hr) (zan (hu1 hr) (zab 0 (pv 0)) zaf) (zan (hu1 hr) (zab 0 (pv 0)) zaf)) fun h=>ps_set zb8.nd rfl (by nofun) h)
  (zad (zkS (hu1 hr) (zab 0 (pv 0)) zaf zaf zjt)
  (zah (zaF (zat zkR (zap znh (zaa (zab 2 (pv 2)) zae) fun h1 h2=>pe_callB h1 rfl (T.free 2) boot_abs h2) (zaz zkP zaf zaf))
  (zah (zeU (zap znh (zaa (zab 2 (pv 2)) zae) fun h1 h2=>pe_callB h1 rfl (T.free 2) boot_abs h2) (zeW (hu1 hr) (zab 0 (pv 0)) zaf)))
  (zah (zeU (zaz zgq (zaR zgE (zaa (zaz zaB (zaz zaB (zaz zhA (zan (hu1 hr) (zab 0 (pv 0)) zaf) zaf) (zab 2 (pv 2))) zaf) zae) fun h1 h2=>pe_callTy h1 rfl (T.free 3) boot_int h2) zaf) (zeW (hu1 hr) (zab 0 (pv 0)) zaf)))))))
  zaq)
  (zad (zaF (zat ziE (zan (hu1 hr) (zab 0 (pv 0)) zaf) zaf)
  (zad (zao (i:=3) (zaz zgq (zaR zgE (zaa (zan (hu1 hr) (zab 0 (pv 0)) zaf) zae) fun h1 h2=>pe_callTy h1 rfl (T.free 3) boot_int h2) (zab 1 (pv 1))) fun h=>ps_set zb8.nd rfl (by nofun) h)
  (zad (zeU (zaz zfw (zan (hu1 hr) (zab 0 (pv 0)) zaf) (zab 1 (pv 1))) (zeW (hu1 hr) (zab 0 (pv 0)) zaf))
  (zah (zar (zab 3 (pv 3))))))
  zaq)
  (zad (zao (i:=4) (zaz zgq (zaR zgE (zaa (zaz zhA (zaz zaB (zaz zaB (zan (hu1 hr) (zab 0 (pv 0)) zaf) (zaz zhA zaf (zan (hu1 hr) (zab 0 (pv 0)) zaf))) zaf) zaf) zae) fun h1 h2=>pe_callTy h1 rfl (T.free 3) boot_int h2) zaf) fun h=>ps_set zb8.nd rfl (by nofun) h)
  (zad (zao (i:=5) (zaz zgq (zaR zgE (zaa (zaz zhA (zab 4 (pv 4)) (zaz zaB (zaz zfw (zab 4 (pv 4)) zaf) zaf)) zae) fun h1 h2=>pe_callTy h1 rfl (T.free 3) boot_int h2) zaf) fun h=>ps_set zb8.nd rfl (by nofun) h)
  (zad (zao (i:=6) (zaz zgq (zaR zgE (zaa (zaz zhA (zab 5 (pv 5)) (zaz zaB (zaz zfw (zab 5 (pv 5)) zaf) zaf)) zae) fun h1 h2=>pe_callTy h1 rfl (T.free 3) boot_int h2) zaf) fun h=>ps_set zb8.nd rfl (by nofun) h)
  (zah (zar (zaz zgq (zaR zgE (zaa (zaz zfw (zab 6 (pv 6)) zaf) zae) fun h1 h2=>pe_callTy h1 rfl (T.free 3) boot_int h2) (zab 1 (pv 1)))))))))))
def ze8 (K:PySem.W.Frag) (W:XW):SM:=
 (zav (zaN (zas (zaj K) W (zac (zag 0) (zac (mC (.int 8)) zal))) (gNm 2)) (zav (zaN (zas (zaj K) W (zac (zag 0) (zac (mC (.int 26)) zal))) (gNm 3)) (zav (zaN (zas (zaj K) W (zac (zag 0) (zac (mC (.int 2)) zal))) (gNm 4)) (zav (zaN (zas (zaj K) W (zac (zag 0) (zac (mOp zpv (mC (.int 26)) (mC (.int 7))) zal))) (gNm 5)) (zav (zaN (mC (.str "abcdefghijklmnopqrstuvwxyz")) (gNm 6)) (zav (zaN (zhk zal) (gNm 7)) (zav (zfA (zcw (zac (zag 1) zal)) (gNm 8)
  (zav (zaN (zag 5) (gNm 9)) (zav (zaN (mOp zbK (zag 2) (mC (.int 1))) (gNm 10)) (zav (mIf (mB (mOp vEq (zag 4) (mC (.int 0))))
  (zav (zaN (zas (zaj K) W (zac (zag 0) (zac (mOp zpv (mC (.int 26)) (mC (.int 7))) zal))) (gNm 9)) (zaN (mOp zbK (mOp zbK (zag 2) (mC (.int 1))) (zas (zaj K) W (zac (zag 0) (zac (mOp zlo (mC (.int 8)) (zag 2)) zal)))) (gNm 10)))
  mNx) (zav (zaN (mC (.str "")) (gNm 11)) (zav (zfA (zcw (zac (zag 10) zal)) (gNm 12)
  (mIf (mB (mOp vEq (zag 12) (zag 2)))
  (zaN (mOp zbK (zag 11) (mOp vIx (zag 6) (mOp zlp (mCB vInt (zac (mOp zbK (zag 3) (mOp zjL (mC (.int 7)) (zag 8))) zal)) (mC (.int 26))))) (gNm 11))
  (zav (zaN (mOp zbK (zag 11) (mOp vIx (zag 6) (mOp zlp (mCB vInt (zac (zag 9) zal)) (mC (.int 26))))) (gNm 11)) (zaN (mOp zhM (zag 9) (mC (.int 26))) (gNm 9))))) (zcn (zgP okL zhV (zag 7) (zac (zag 11) zal))))))))) (zbg (zag 7)))))))))
theorem zaA:FnScope ["_law_state_here", "_law_many_here", "_law_place", "_law_first", "_law_same_size", "_law_base", "_law_letters", "_law_names_here", "_law_k", "_law_other", "_law_size", "_law_name", "_law_at"] ["_law_state_here", "_law_many_here"] (defScope zdd):=⟨rfl,rfl,rfl,by decide +kernel,rfl,by decide +kernel,by decide +kernel⟩
def zch (K:PySem.W.Frag):SpD:=spB 2 11 (ze8 K)
theorem zet (T:Tu fac fns zcb PG_.main.file zcF tabs eqs gts prs sqs nos isl w K mg):Fd PG_ w K mg base 4 (He.ga K "_law_names") (zch K):=by
 obtain ⟨fd,F⟩:=T.df 2 (d:=zf3)
 have bi:Binds K fd ["_law_state_here", "_law_many_here"] []:=FunD.bindsN F fun _ _ _ _ _ _ us hl=>match us,hl with | [_,_],_=>by kernel_rfl
 refine zaQ (k:=3) F zaA bi rfl rfl fun cdv A outer s H E hr X eX W tk po=>?_
 subst eX
 unfold ze8
 exact (zad (zao (i:=2) (zay (zak T) (hr.mono (by omega)) tk (T.glo 4) (zaa (zab 0 (pv 0)) (zaa zaf zae))) fun h=>ps_set zaA.nd rfl (by nofun) h)
  (zad (zao (i:=3) (zay (zak T) (hr.mono (by omega)) tk (T.glo 4) (zaa (zab 0 (pv 0)) (zaa zaf zae))) fun h=>ps_set zaA.nd rfl (by nofun) h)
  (zad (zao (i:=4) (zay (zak T) (hr.mono (by omega)) tk (T.glo 4) (zaa (zab 0 (pv 0)) (zaa zaf zae))) fun h=>ps_set zaA.nd rfl (by nofun) h)
  (zad (zao (i:=5) (zay (zak T) (hr.mono (by omega)) tk (T.glo 4) (zaa (zab 0 (pv 0)) (zaa (zaz zkP zaf zaf) zae))) fun h=>ps_set zaA.nd rfl (by nofun) h)
  (zad (zao (i:=6) zam fun h=>ps_set zaA.nd rfl (by nofun) h)
  (zad (zao (i:=7) (zcm zae) fun h=>ps_set zaA.nd rfl (by nofun) h)
  (zad (zbc po rfl (zbY (zaa (zab 1 (pv 1)) zae) fun h=>pi_range1 rfl (T.free 5) h) (zaJ (pg_name zaA.nd rfl (by nofun)))
  (zad (zao (i:=9) (zab 5 (pv 5)) fun h=>ps_set zaA.nd rfl (by nofun) h)
  (zad (zao (i:=10) (zaz zaB (zab 2 (pv 2)) zaf) fun h=>ps_set zaA.nd rfl (by nofun) h)
  (zad (zaF (zat (zbb (zcN hr)) (zab 4 (pv 4)) zaf)
  (zad (zao (i:=9) (zay (zak T) (hr.mono (by omega)) tk (T.glo 4) (zaa (zab 0 (pv 0)) (zaa (zaz zkP zaf zaf) zae))) fun h=>ps_set zaA.nd rfl (by nofun) h)
  (zah (zao (i:=10) (zaz zaB (zaz zaB (zab 2 (pv 2)) zaf) (zay (zak T) (hr.mono (by omega)) tk (T.glo 4) (zaa (zab 0 (pv 0)) (zaa (zaz zg3 zaf (zab 2 (pv 2))) zae)))) fun h=>ps_set zaA.nd rfl (by nofun) h)))
  zaq)
  (zad (zao (i:=11) zam fun h=>ps_set zaA.nd rfl (by nofun) h)
  (zad (zbc po rfl (zbY (zaa (zab 10 (pv 10)) zae) fun h=>pi_range1 rfl (T.free 5) h) (zaJ (pg_name zaA.nd rfl (by nofun)))
  (zah (zaF (zat (zbb (zcN hr)) (zab 12 (pv 12)) (zab 2 (pv 2)))
  (zah (zao (i:=11) (zaz zaB (zab 11 (pv 11)) (zan (hu1 hr) (zab 6 (pv 6)) (zaz zgq (zaR zgE (zaa (zaz zaB (zab 3 (pv 3)) (zaz zhA zaf (zab 8 (pv 8)))) zae) fun h1 h2=>pe_callTy h1 rfl (T.free 3) boot_int h2) zaf))) fun h=>ps_set zaA.nd rfl (by nofun) h))
  (zad (zao (i:=11) (zaz zaB (zab 11 (pv 11)) (zan (hu1 hr) (zab 6 (pv 6)) (zaz zgq (zaR zgE (zaa (zab 9 (pv 9)) zae) fun h1 h2=>pe_callTy h1 rfl (T.free 3) boot_int h2) zaf))) fun h=>ps_set zaA.nd rfl (by nofun) h)
  (zah (zao (i:=9) (zaz zfw (zab 9 (pv 9)) zaf) fun h=>ps_set zaA.nd rfl (by nofun) h))))) (fun h1 h2 h3=>ps_for po rfl h1 h2 h3))
  (zah (zaV (zbv (zab 7 (pv 7)) (zaa (zab 11 (pv 11)) zae))))))))) (fun h1 h2 h3=>ps_for po rfl h1 h2 h3))
  (zah (zar (zab 7 (pv 7)))))))))))
def zfK (K:PySem.W.Frag) (rec:SpD) (W:XW):SM:=
 (zav (zaN (mCB zcZ (zac (zag 0) zal)) (gNm 1)) (zav (zfA (ziV (zag 0)) (gNm 2)
  (mIf (mB (mOp vEq (mOp vIx (zag 2) (mC (.int 0))) (mC (.str "if"))))
  (zm9 1 (mOp zbK (zas rec W (zac (mOp vIx (zag 2) (mC (.int 3))) zal)) (zas rec W (zac (mOp vIx (zag 2) (mC (.int 4))) zal))) ziZ)
  mNx)) (zbg (zag 1))))
theorem zdL:FnScope ["_law_rows_here", "_law_total", "_law_row_here"] ["_law_rows_here"] (defScope zdF):=⟨rfl,rfl,rfl,by decide +kernel,rfl,by decide +kernel,by decide +kernel⟩
def zcI (K:PySem.W.Frag):Nat->SpD
 | 0=>fun _ _ _ _=>False
 | n+1=>spB 1 2 (zfK K (zcI K n))
theorem zgp (T:Tu fac fns zcb PG_.main.file zcF tabs eqs gts prs sqs nos isl w K mg):∀ n,Fd PG_ w K mg base (2+n) (He.ga K "_law_many") (zcI K n):=by
 obtain ⟨fd,F⟩:=T.df 3 (d:=zgC)
 have bi:Binds K fd ["_law_rows_here"] []:=FunD.bindsN F fun _ _ _ _ _ _ us hl=>match us,hl with | [_],_=>by kernel_rfl
 intro n
 induction n with
 | zero=>exact zkb bi F.kp
 | succ n RC=>
 refine zaQ (k:=2+n) F zdL bi rfl rfl fun cdv A outer s H E hr X eX W tk po=>?_
 subst eX
 unfold zfK
 exact (zad (zao (i:=1) (zap zaW (zaa (zab 0 (pv 0)) zae) fun h1 h2=>pe_callB h1 rfl (T.free 1) boot_len h2) fun h=>ps_set zdL.nd rfl (by nofun) h)
  (zad (zbc po rfl (zeV (zab 0 (pv 0))) (zaJ (pg_name zdL.nd rfl (by nofun)))
  (zah (zaF (zat (zbb (zcN hr)) (zan (hu1 hr) (zab 2 (pv 2)) zaf) zam)
  (zah (zmV (i:=1) (zaz zaB (zay RC (hr.mono (by omega)) tk (T.glo 6) (zaa (zan (hu1 hr) (zab 2 (pv 2)) zaf) zae)) (zay RC (hr.mono (by omega)) tk (T.glo 6) (zaa (zan (hu1 hr) (zab 2 (pv 2)) zaf) zae))) zjt fun h1 h2=>ps_aug zdL.nd rfl (by nofun) h1 h2))
  zaq)) (fun h1 h2 h3=>ps_for po rfl h1 h2 h3))
  (zah (zar (zab 1 (pv 1))))))
def zgi (K:PySem.W.Frag) (W:XW):SM:=
 (zav (zaN (zas (zaj K) W (zac (zag 0) (zac (mC (.int 6)) zal))) (gNm 2)) (zav (zaN (mOp vIx (mOp vIx (zag 1) (mC (.str "slots"))) (zas (zaj K) W (zac (zag 0) (zac (mCB zcZ (zac (mOp vIx (zag 1) (mC (.str "slots"))) zal)) zal)))) (gNm 3)) (zav (mIf (mB (mOp vEq (zag 2) (mC (.int 0))))
  (zbg (zbW (zac (mC (.str "put")) (zac (zag 3) (zac (mOp vIx (mOp vIx (zag 1) (mC (.str "words"))) (zas (zaj K) W (zac (zag 0) (zac (mCB zcZ (zac (mOp vIx (zag 1) (mC (.str "words"))) zal)) zal)))) zal)))))
  mNx) (zav (mIf (zj6 (mB (mOp vEq (zag 2) (mC (.int 1)))) (mB (mOp vEq (mOp vIx (zag 1) (mC (.str "kind"))) (mC (.str "derived")))))
  (zbg (zbW (zac (mC (.str "give")) (zac (zag 3) zal))))
  mNx) (zav (mIf (mB (mOp vEq (zag 2) (mC (.int 1))))
  (zbg (zbW (zac (mC (.str "say")) (zac (zag 3) zal))))
  mNx) (zav (mIf (zj6 (mB (mOp vEq (zag 2) (mC (.int 2)))) (zev (mOp vIx (zag 1) (mC (.str "writes")))))
  (zbg (zbW (zac (mC (.str "write")) (zac (mOp vIx (mOp vIx (zag 1) (mC (.str "sources"))) (zas (zaj K) W (zac (zag 0) (zac (mCB zcZ (zac (mOp vIx (zag 1) (mC (.str "sources"))) zal)) zal)))) (zac (zag 3) zal)))))
  mNx) (zav (zaN (mOp vIx (mOp vIx (zag 1) (mC (.str "cells"))) (zas (zaj K) W (zac (zag 0) (zac (mCB zcZ (zac (mOp vIx (zag 1) (mC (.str "cells"))) zal)) zal)))) (gNm 4)) (zav (mIf (zj6 (mB (mOp vEq (zag 2) (mC (.int 3)))) (zev (mOp vIx (zag 1) (mC (.str "peeks")))))
  (zbg (zbW (zac (mC (.str "peek")) (zac (zag 4) (zac (zag 3) zal)))))
  mNx) (zbg (zbW (zac (mC (.str "read")) (zac (zag 4) (zac (zag 3) zal)))))))))))))
theorem zeo:FnScope ["_law_state_here", "_law_shape", "_law_kind", "_law_slot", "_law_cell"] ["_law_state_here", "_law_shape"] (defScope zei):=⟨rfl,rfl,rfl,by decide +kernel,rfl,by decide +kernel,by decide +kernel⟩
def zel (K:PySem.W.Frag):SpD:=spB 2 3 (zgi K)
theorem zi9 (T:Tu fac fns zcb PG_.main.file zcF tabs eqs gts prs sqs nos isl w K mg):Fd PG_ w K mg base 4 (He.ga K "_law_row") (zel K):=by
 obtain ⟨fd,F⟩:=T.df 4 (d:=zhd)
 have bi:Binds K fd ["_law_state_here", "_law_shape"] []:=FunD.bindsN F fun _ _ _ _ _ _ us hl=>match us,hl with | [_,_],_=>by kernel_rfl
 refine zaQ (k:=3) F zeo bi rfl rfl fun cdv A outer s H E hr X eX W tk po=>?_
 subst eX
 unfold zgi
 exact (zad (zao (i:=2) (zay (zak T) (hr.mono (by omega)) tk (T.glo 4) (zaa (zab 0 (pv 0)) (zaa zaf zae))) fun h=>ps_set zeo.nd rfl (by nofun) h)
  (zad (zao (i:=3) (zan (hu1 hr) (zan (hu1 hr) (zab 1 (pv 1)) zam) (zay (zak T) (hr.mono (by omega)) tk (T.glo 4) (zaa (zab 0 (pv 0)) (zaa (zap zaW (zaa (zan (hu1 hr) (zab 1 (pv 1)) zam) zae) fun h1 h2=>pe_callB h1 rfl (T.free 1) boot_len h2) zae)))) fun h=>ps_set zeo.nd rfl (by nofun) h)
  (zad (zaF (zat (zbb (zcN hr)) (zab 2 (pv 2)) zaf)
  (zah (zar (zaC (zaa zam (zaa (zab 3 (pv 3)) (zaa (zan (hu1 hr) (zan (hu1 hr) (zab 1 (pv 1)) zam) (zay (zak T) (hr.mono (by omega)) tk (T.glo 4) (zaa (zab 0 (pv 0)) (zaa (zap zaW (zaa (zan (hu1 hr) (zab 1 (pv 1)) zam) zae) fun h1 h2=>pe_callB h1 rfl (T.free 1) boot_len h2) zae)))) zae))))))
  zaq)
  (zad (zaF (MW.mt (zg6 (zat (zbb (zcN hr)) (zab 2 (pv 2)) zaf) (zgd (zat (zbb (zcN hr)) (zan (hu1 hr) (zab 1 (pv 1)) zam) zam))))
  (zah (zar (zaC (zaa zam (zaa (zab 3 (pv 3)) zae)))))
  zaq)
  (zad (zaF (zat (zbb (zcN hr)) (zab 2 (pv 2)) zaf)
  (zah (zar (zaC (zaa zam (zaa (zab 3 (pv 3)) zae)))))
  zaq)
  (zad (zaF (MW.mt (zg6 (zat (zbb (zcN hr)) (zab 2 (pv 2)) zaf) (zgd (zaY (zan (hu1 hr) (zab 1 (pv 1)) zam)))))
  (zah (zar (zaC (zaa zam (zaa (zan (hu1 hr) (zan (hu1 hr) (zab 1 (pv 1)) zam) (zay (zak T) (hr.mono (by omega)) tk (T.glo 4) (zaa (zab 0 (pv 0)) (zaa (zap zaW (zaa (zan (hu1 hr) (zab 1 (pv 1)) zam) zae) fun h1 h2=>pe_callB h1 rfl (T.free 1) boot_len h2) zae)))) (zaa (zab 3 (pv 3)) zae))))))
  zaq)
  (zad (zao (i:=4) (zan (hu1 hr) (zan (hu1 hr) (zab 1 (pv 1)) zam) (zay (zak T) (hr.mono (by omega)) tk (T.glo 4) (zaa (zab 0 (pv 0)) (zaa (zap zaW (zaa (zan (hu1 hr) (zab 1 (pv 1)) zam) zae) fun h1 h2=>pe_callB h1 rfl (T.free 1) boot_len h2) zae)))) fun h=>ps_set zeo.nd rfl (by nofun) h)
  (zad (zaF (MW.mt (zg6 (zat (zbb (zcN hr)) (zab 2 (pv 2)) zaf) (zgd (zaY (zan (hu1 hr) (zab 1 (pv 1)) zam)))))
  (zah (zar (zaC (zaa zam (zaa (zab 4 (pv 4)) (zaa (zab 3 (pv 3)) zae))))))
  zaq)
  (zah (zar (zaC (zaa zam (zaa (zab 4 (pv 4)) (zaa (zab 3 (pv 3)) zae))))))))))))))
def zfJ (K:PySem.W.Frag) (rec:SpD) (W:XW):SM:=
 (zav (zaN (zhk zal) (gNm 4)) (zav (zaN (zag 3) (gNm 5)) (zav (zfA (zcw (zac (mOp zbK (mC (.int 1)) (zas (zaj K) W (zac (zag 0) (zac (mC (.int 4)) zal)))) zal)) (gNm 6)
  (mIf (zj6 (mB (mOp vGe (zag 5) (mC (.int 2)))) (zj6 (mB (mOp vLt (zag 2) (mC (.int 4)))) (mB (mOp vEq (zas (zaj K) W (zac (zag 0) (zac (mC (.int 3)) zal))) (mC (.int 0))))))
  (zav (zaN (mOp vIx (mOp vIx (zag 1) (mC (.str "slots"))) (zas (zaj K) W (zac (zag 0) (zac (mCB zcZ (zac (mOp vIx (zag 1) (mC (.str "slots"))) zal)) zal)))) (gNm 7)) (zav (zaN (mOp vIx (mOp vIx (zag 1) (mC (.str "cells"))) (zas (zaj K) W (zac (zag 0) (zac (mCB zcZ (zac (mOp vIx (zag 1) (mC (.str "cells"))) zal)) zal)))) (gNm 8)) (zav (zaN (mOp vIx (mOp vIx (zag 1) (mC (.str "words"))) (zas (zaj K) W (zac (zag 0) (zac (mCB zcZ (zac (mOp vIx (zag 1) (mC (.str "words"))) zal)) zal)))) (gNm 9)) (zav (zcn (zgP okL zhV (zag 4) (zac (zbW (zac (mC (.str "read")) (zac (zag 8) (zac (zag 7) zal)))) zal))) (zav (zaN (zas rec W (zac (zag 0) (zac (zag 1) (zac (mOp zbK (zag 2) (mC (.int 1))) (zac (mOp zhM (mOp zlo (zag 5) (mC (.int 2))) (mC (.int 2))) zal))))) (gNm 10)) (zav (zaN (zas rec W (zac (zag 0) (zac (zag 1) (zac (mOp zbK (zag 2) (mC (.int 1))) (zac (mOp zhM (mOp zlo (zag 5) (mC (.int 2))) (mC (.int 2))) zal))))) (gNm 11)) (zav (zcn (zgP okL zhV (zag 4) (zac (zbW (zac (mC (.str "if")) (zac (zag 7) (zac (zag 9) (zac (zag 10) (zac (zag 11) zal)))))) zal))) (zaN (mOp zlo (mOp zlo (mOp zlo (zag 5) (mC (.int 2))) (zas (zcI K 6) W (zac (zag 10) zal))) (zas (zcI K 6) W (zac (zag 11) zal))) (gNm 5)))))))))
  (mIf (mB (mOp vGe (zag 5) (mC (.int 1))))
  (zav (zcn (zgP okL zhV (zag 4) (zac (zas (zel K) W (zac (zag 0) (zac (zag 1) zal))) zal))) (zaN (mOp zlo (zag 5) (mC (.int 1))) (gNm 5)))
  mNx))) (zbg (mCB zdz (zac (zag 4) zal))))))
theorem zaS:FnScope ["_law_state_here", "_law_shape", "_law_depth", "_law_room", "_law_rows_here", "_law_left", "_law_turn", "_law_slot", "_law_cell", "_law_word", "_law_yes", "_law_no"] ["_law_state_here", "_law_shape", "_law_depth", "_law_room"] (defScope zdE):=⟨rfl,rfl,rfl,by decide +kernel,rfl,by decide +kernel,by decide +kernel⟩
def zcH (K:PySem.W.Frag):Nat->SpD
 | 0=>fun _ _ _ _=>False
 | n+1=>spB 4 8 (zfJ K (zcH K n))
theorem zgo (T:Tu fac fns zcb PG_.main.file zcF tabs eqs gts prs sqs nos isl w K mg):∀ n,Fd PG_ w K mg base (10+n) (He.ga K "_law_rows") (zcH K n):=by
 obtain ⟨fd,F⟩:=T.df 5 (d:=zgB)
 have bi:Binds K fd ["_law_state_here", "_law_shape", "_law_depth", "_law_room"] []:=FunD.bindsN F fun _ _ _ _ _ _ us hl=>match us,hl with | [_,_,_,_],_=>by kernel_rfl
 intro n
 induction n with
 | zero=>exact zkb bi F.kp
 | succ n RC=>
 refine zaQ (k:=10+n) F zaS bi rfl rfl fun cdv A outer s H E hr X eX W tk po=>?_
 subst eX
 unfold zfJ
 exact (zad (zao (i:=4) (zcm zae) fun h=>ps_set zaS.nd rfl (by nofun) h)
  (zad (zao (i:=5) (zab 3 (pv 3)) fun h=>ps_set zaS.nd rfl (by nofun) h)
  (zad (zbc po rfl (zbY (zaa (zaz zaB zaf (zay (zak T) (hr.mono (by omega)) tk (T.glo 4) (zaa (zab 0 (pv 0)) (zaa zaf zae)))) zae) fun h=>pi_range1 rfl (T.free 5) h) (zaJ (pg_name zaS.nd rfl (by nofun)))
  (zah (zaF (MW.mt (zg6 (zat zkR (zab 5 (pv 5)) zaf) (zg6 (zat zkQ (zab 2 (pv 2)) zaf) (zgd (zat (zbb (zcN hr)) (zay (zak T) (hr.mono (by omega)) tk (T.glo 4) (zaa (zab 0 (pv 0)) (zaa zaf zae))) zaf)))))
  (zad (zao (i:=7) (zan (hu1 hr) (zan (hu1 hr) (zab 1 (pv 1)) zam) (zay (zak T) (hr.mono (by omega)) tk (T.glo 4) (zaa (zab 0 (pv 0)) (zaa (zap zaW (zaa (zan (hu1 hr) (zab 1 (pv 1)) zam) zae) fun h1 h2=>pe_callB h1 rfl (T.free 1) boot_len h2) zae)))) fun h=>ps_set zaS.nd rfl (by nofun) h)
  (zad (zao (i:=8) (zan (hu1 hr) (zan (hu1 hr) (zab 1 (pv 1)) zam) (zay (zak T) (hr.mono (by omega)) tk (T.glo 4) (zaa (zab 0 (pv 0)) (zaa (zap zaW (zaa (zan (hu1 hr) (zab 1 (pv 1)) zam) zae) fun h1 h2=>pe_callB h1 rfl (T.free 1) boot_len h2) zae)))) fun h=>ps_set zaS.nd rfl (by nofun) h)
  (zad (zao (i:=9) (zan (hu1 hr) (zan (hu1 hr) (zab 1 (pv 1)) zam) (zay (zak T) (hr.mono (by omega)) tk (T.glo 4) (zaa (zab 0 (pv 0)) (zaa (zap zaW (zaa (zan (hu1 hr) (zab 1 (pv 1)) zam) zae) fun h1 h2=>pe_callB h1 rfl (T.free 1) boot_len h2) zae)))) fun h=>ps_set zaS.nd rfl (by nofun) h)
  (zad (zaV (zbv (zab 4 (pv 4)) (zaa (zaC (zaa zam (zaa (zab 8 (pv 8)) (zaa (zab 7 (pv 7)) zae)))) zae)))
  (zad (zao (i:=10) (zay RC (hr.mono (by omega)) tk (T.glo 7) (zaa (zab 0 (pv 0)) (zaa (zab 1 (pv 1)) (zaa (zaz zaB (zab 2 (pv 2)) zaf) (zaa (zaz zfw (zaz zg3 (zab 5 (pv 5)) zaf) zaf) zae))))) fun h=>ps_set zaS.nd rfl (by nofun) h)
  (zad (zao (i:=11) (zay RC (hr.mono (by omega)) tk (T.glo 7) (zaa (zab 0 (pv 0)) (zaa (zab 1 (pv 1)) (zaa (zaz zaB (zab 2 (pv 2)) zaf) (zaa (zaz zfw (zaz zg3 (zab 5 (pv 5)) zaf) zaf) zae))))) fun h=>ps_set zaS.nd rfl (by nofun) h)
  (zad (zaV (zbv (zab 4 (pv 4)) (zaa (zaC (zaa zam (zaa (zab 7 (pv 7)) (zaa (zab 9 (pv 9)) (zaa (zab 10 (pv 10)) (zaa (zab 11 (pv 11)) zae)))))) zae)))
  (zah (zao (i:=5) (zaz zg3 (zaz zg3 (zaz zg3 (zab 5 (pv 5)) zaf) (zay (zgp T 6) (hr.mono (by omega)) tk (T.glo 6) (zaa (zab 10 (pv 10)) zae))) (zay (zgp T 6) (hr.mono (by omega)) tk (T.glo 6) (zaa (zab 11 (pv 11)) zae))) fun h=>ps_set zaS.nd rfl (by nofun) h)))))))))
  (zah (zaF (zat zkR (zab 5 (pv 5)) zaf)
  (zad (zaV (zbv (zab 4 (pv 4)) (zaa (zay (zi9 T) (hr.mono (by omega)) tk (T.glo 8) (zaa (zab 0 (pv 0)) (zaa (zab 1 (pv 1)) zae))) zae)))
  (zah (zao (i:=5) (zaz zg3 (zab 5 (pv 5)) zaf) fun h=>ps_set zaS.nd rfl (by nofun) h)))
  zaq)))) (fun h1 h2 h3=>ps_for po rfl h1 h2 h3))
  (zah (zar (zaR zgR (zaa (zab 4 (pv 4)) zae) fun h1 h2=>pe_callTy h1 rfl (T.free 9) boot_tuple h2))))))
def ze7 (K:PySem.W.Frag) (W:XW):SM:=
 (zav (zaN (mOp zbK (mC (.int 2)) (zas (zaj K) W (zac (zag 0) (zac (mOp vIx (zag 1) (mC (.int 0))) zal)))) (gNm 4)) (zav (zaN (mOp zbK (mC (.int 1)) (zas (zaj K) W (zac (zag 0) (zac (mOp vIx (zag 1) (mC (.int 1))) zal)))) (gNm 5)) (zav (zaN (mCB zsc (zac (zas (zaj K) W (zac (zag 0) (zac (mOp zbK (mOp vIx (zag 1) (mC (.int 2))) (mC (.int 1))) zal))) (zac (zas (zaj K) W (zac (zag 0) (zac (mOp zbK (mOp vIx (zag 1) (mC (.int 2))) (mC (.int 1))) zal))) zal))) (gNm 6)) (zav (zaN (mCB zsc (zac (zas (zaj K) W (zac (zag 0) (zac (mOp zbK (mOp vIx (zag 1) (mC (.int 3))) (mC (.int 1))) zal))) (zac (zas (zaj K) W (zac (zag 0) (zac (mOp zbK (mOp vIx (zag 1) (mC (.int 3))) (mC (.int 1))) zal))) zal))) (gNm 7)) (zav (zaN (mCB zdz (zac (zas (zch K) W (zac (zag 0) (zac (zag 4) zal))) zal)) (gNm 8)) (zav (zaN (zas (zch K) W (zac (zag 0) (zac (mOp zbK (mOp zbK (zag 5) (zag 6)) (zag 7)) zal))) (gNm 9)) (zav (mIf (zj6 (mB (mOp vEq (zas (zaj K) W (zac (zag 0) (zac (mC (.int 4)) zal))) (mC (.int 0)))) (mB (mOp zkl (mOp vIx (zag 9) (mC (.int 0))) (zag 8))))
  (zaN (mOp zbK (mSl (zag 8) (mP (mC (.int 1))) ziH) (zbW (zac (mOp vIx (zag 9) (mC (.int 0))) zal))) (gNm 8))
  mNx) (zav (zaN (mOp zbK (zas (zch K) W (zac (zag 0) (zac (mC (.int 2)) zal))) (zhk (zac (mOp vIx (zag 9) (mC (.int 0))) zal))) (gNm 10)) (zav (zaN (mCB zjK (zac (mSl (zag 9) ziH (mP (zag 5))) zal)) (gNm 11)) (zav (zaN (zoJ [((mC (.str "kind")),(mC (.str "derived"))),((mC (.str "cells")),(mCB zfN (zac (zag 11) zal))),((mC (.str "sources")),(zag 11)),((mC (.str "slots")),(zag 10)),((mC (.str "words")),(zag 8))]) (gNm 12)) (zav (zaN (mC (.bl false)) (gIx (zag 12) (mC (.str "peeks")))) (zav (zaN (mC (.bl false)) (gIx (zag 12) (mC (.str "writes")))) (zav (zaN (zhk zal) (gNm 13)) (zav (zfA (zcw (zac (zag 6) zal)) (gNm 14)
  (zav (zaN (mOp vIx (zag 9) (mOp zbK (zag 5) (zag 14))) (gNm 15)) (zav (zaN (zas (zcH K 5) W (zac (zag 0) (zac (zag 12) (zac (mC (.int 1)) (zac (mOp vIx (zag 1) (mC (.int 4))) zal))))) (gNm 16)) (zav (mIf (mB (mOp vGt (zas (zaj K) W (zac (zag 0) (zac (mC (.int 4)) zal))) (mC (.int 0))))
  (zaN (mOp zbK (zag 16) (zbW (zac (zbW (zac (mC (.str "give")) (zac (mOp vIx (zag 10) (zas (zaj K) W (zac (zag 0) (zac (mC (.int 3)) zal)))) zal))) zal))) (gNm 16))
  mNx) (zav (zcn (zgP okL zhV (zag 13) (zac (zbW (zac (zag 15) (zac (zag 16) zal))) zal))) (zaN (mOp zbK (mOp vIx (zag 12) (mC (.str "cells"))) (zhk (zac (zag 15) zal))) (gIx (zag 12) (mC (.str "cells"))))))))) (zav (zaN (mC (.str "effects")) (gIx (zag 12) (mC (.str "kind")))) (zav (zaN (zag 2) (gIx (zag 12) (mC (.str "peeks")))) (zav (zaN (zag 3) (gIx (zag 12) (mC (.str "writes")))) (zav (zaN (zhk zal) (gNm 17)) (zav (zfA (zcw (zac (zag 7) zal)) (gNm 14)
  (zav (zaN (zas (zcH K 5) W (zac (zag 0) (zac (zag 12) (zac (mC (.int 1)) (zac (mOp vIx (zag 1) (mC (.int 4))) zal))))) (gNm 16)) (zav (mIf (mB (mOp vGt (zas (zaj K) W (zac (zag 0) (zac (mC (.int 4)) zal))) (mC (.int 0))))
  (zaN (mOp zbK (zag 16) (zbW (zac (zbW (zac (mC (.str "say")) (zac (mOp vIx (zag 10) (zas (zaj K) W (zac (zag 0) (zac (mC (.int 3)) zal)))) zal))) zal))) (gNm 16))
  mNx) (zcn (zgP okL zhV (zag 17) (zac (zbW (zac (mOp vIx (zag 9) (mOp zbK (mOp zbK (zag 5) (zag 6)) (zag 14))) (zac (zag 16) zal))) zal)))))) (zbg (zbW (zac (zag 8) (zac (zag 11) (zac (mCB zdz (zac (zag 13) zal)) (zac (mCB zdz (zac (zag 17) zal)) zal)))))))))))))))))))))))))
theorem zaw:FnScope ["_law_state_here", "_law_sizes", "_law_peeks", "_law_writes", "_law_many_words", "_law_many_sources", "_law_many_derived", "_law_many_effects", "_law_words", "_law_names_here", "_law_slots", "_law_sources", "_law_shape", "_law_derived", "_law_k", "_law_name", "_law_rows_here", "_law_effects"] ["_law_state_here", "_law_sizes", "_law_peeks", "_law_writes"] (defScope zdc):=⟨rfl,rfl,rfl,by decide +kernel,rfl,by decide +kernel,by decide +kernel⟩
def zem (K:PySem.W.Frag):SpD:=spB 4 14 (ze7 K)
theorem zh3 (T:Tu fac fns zcb PG_.main.file zcF tabs eqs gts prs sqs nos isl w K mg):Fd PG_ w K mg base 17 (He.ga K "_law_parts") (zem K):=by
 obtain ⟨fd,F⟩:=T.df 6 (d:=zf2)
 have bi:Binds K fd ["_law_state_here", "_law_sizes", "_law_peeks", "_law_writes"] []:=FunD.bindsN F fun _ _ _ _ _ _ us hl=>match us,hl with | [_,_,_,_],_=>by kernel_rfl
 refine zaQ (k:=16) F zaw bi rfl rfl fun cdv A outer s H E hr X eX W tk po=>?_
 subst eX
 unfold ze7
 exact (zad (zao (i:=4) (zaz zaB zaf (zay (zak T) (hr.mono (by omega)) tk (T.glo 4) (zaa (zab 0 (pv 0)) (zaa (zan (hu1 hr) (zab 1 (pv 1)) zaf) zae)))) fun h=>ps_set zaw.nd rfl (by nofun) h)
  (zad (zao (i:=5) (zaz zaB zaf (zay (zak T) (hr.mono (by omega)) tk (T.glo 4) (zaa (zab 0 (pv 0)) (zaa (zan (hu1 hr) (zab 1 (pv 1)) zaf) zae)))) fun h=>ps_set zaw.nd rfl (by nofun) h)
  (zad (zao (i:=6) (zap (zng rfl) (zaa (zay (zak T) (hr.mono (by omega)) tk (T.glo 4) (zaa (zab 0 (pv 0)) (zaa (zaz zaB (zan (hu1 hr) (zab 1 (pv 1)) zaf) zaf) zae))) (zaa (zay (zak T) (hr.mono (by omega)) tk (T.glo 4) (zaa (zab 0 (pv 0)) (zaa (zaz zaB (zan (hu1 hr) (zab 1 (pv 1)) zaf) zaf) zae))) zae)) fun h1 h2=>pe_callB h1 rfl (T.free 10) boot_max h2) fun h=>ps_set zaw.nd rfl (by nofun) h)
  (zad (zao (i:=7) (zap (zng rfl) (zaa (zay (zak T) (hr.mono (by omega)) tk (T.glo 4) (zaa (zab 0 (pv 0)) (zaa (zaz zaB (zan (hu1 hr) (zab 1 (pv 1)) zaf) zaf) zae))) (zaa (zay (zak T) (hr.mono (by omega)) tk (T.glo 4) (zaa (zab 0 (pv 0)) (zaa (zaz zaB (zan (hu1 hr) (zab 1 (pv 1)) zaf) zaf) zae))) zae)) fun h1 h2=>pe_callB h1 rfl (T.free 10) boot_max h2) fun h=>ps_set zaw.nd rfl (by nofun) h)
  (zad (zao (i:=8) (zaR zgR (zaa (zay (zet T) (hr.mono (by omega)) tk (T.glo 11) (zaa (zab 0 (pv 0)) (zaa (zab 4 (pv 4)) zae))) zae) fun h1 h2=>pe_callTy h1 rfl (T.free 9) boot_tuple h2) fun h=>ps_set zaw.nd rfl (by nofun) h)
  (zad (zao (i:=9) (zay (zet T) (hr.mono (by omega)) tk (T.glo 11) (zaa (zab 0 (pv 0)) (zaa (zaz zaB (zaz zaB (zab 5 (pv 5)) (zab 6 (pv 6))) (zab 7 (pv 7))) zae))) fun h=>ps_set zaw.nd rfl (by nofun) h)
  (zad (zaF (MW.mt (zg6 (zat (zbb (zcN hr)) (zay (zak T) (hr.mono (by omega)) tk (T.glo 4) (zaa (zab 0 (pv 0)) (zaa zaf zae))) zaf) (zgd (zat (zjr (ziP hr)) (zan (hu1 hr) (zab 9 (pv 9)) zaf) (zab 8 (pv 8))))))
  (zah (zao (i:=8) (zaz zaB (zfV (zab 8 (pv 8)) (zck zaf) zcl) (zaC (zaa (zan (hu1 hr) (zab 9 (pv 9)) zaf) zae))) fun h=>ps_set zaw.nd rfl (by nofun) h))
  zaq)
  (zad (zao (i:=10) (zaz zaB (zay (zet T) (hr.mono (by omega)) tk (T.glo 11) (zaa (zab 0 (pv 0)) (zaa zaf zae))) (zcm (zaa (zan (hu1 hr) (zab 9 (pv 9)) zaf) zae))) fun h=>ps_set zaw.nd rfl (by nofun) h)
  (zad (zao (i:=11) (zaR zo9 (zaa (zfV (zab 9 (pv 9)) zcl (zck (zab 5 (pv 5)))) zae) fun h1 h2=>pe_callTy h1 rfl (T.free 9) boot_tuple h2) fun h=>ps_set zaw.nd rfl (by nofun) h)
  (zad (zao (i:=12) (zoG (zfU zam zam (zfU zam (zaR zfF (zaa (zab 11 (pv 11)) zae) fun h1 h2=>pe_callTy h1 rfl (T.free 0) boot_list h2) (zfU zam (zab 11 (pv 11)) (zfU zam (zab 10 (pv 10)) (zfU zam (zab 8 (pv 8)) zou)))))) fun h=>ps_set zaw.nd rfl (by nofun) h)
  (zad (zeU zbV (zeW (hu1 hr) (zab 12 (pv 12)) zam))
  (zad (zeU zbV (zeW (hu1 hr) (zab 12 (pv 12)) zam))
  (zad (zao (i:=13) (zcm zae) fun h=>ps_set zaw.nd rfl (by nofun) h)
  (zad (zbc po rfl (zbY (zaa (zab 6 (pv 6)) zae) fun h=>pi_range1 rfl (T.free 5) h) (zaJ (pg_name zaw.nd rfl (by nofun)))
  (zad (zao (i:=15) (zan (hu1 hr) (zab 9 (pv 9)) (zaz zaB (zab 5 (pv 5)) (zab 14 (pv 14)))) fun h=>ps_set zaw.nd rfl (by nofun) h)
  (zad (zao (i:=16) (zay (zgo T 5) (hr.mono (by omega)) tk (T.glo 7) (zaa (zab 0 (pv 0)) (zaa (zab 12 (pv 12)) (zaa zaf (zaa (zan (hu1 hr) (zab 1 (pv 1)) zaf) zae))))) fun h=>ps_set zaw.nd rfl (by nofun) h)
  (zad (zaF (zat ziE (zay (zak T) (hr.mono (by omega)) tk (T.glo 4) (zaa (zab 0 (pv 0)) (zaa zaf zae))) zaf)
  (zah (zao (i:=16) (zaz zaB (zab 16 (pv 16)) (zaC (zaa (zaC (zaa zam (zaa (zan (hu1 hr) (zab 10 (pv 10)) (zay (zak T) (hr.mono (by omega)) tk (T.glo 4) (zaa (zab 0 (pv 0)) (zaa zaf zae)))) zae))) zae))) fun h=>ps_set zaw.nd rfl (by nofun) h))
  zaq)
  (zad (zaV (zbv (zab 13 (pv 13)) (zaa (zaC (zaa (zab 15 (pv 15)) (zaa (zab 16 (pv 16)) zae))) zae)))
  (zah (zeU (zaz zaB (zan (hu1 hr) (zab 12 (pv 12)) zam) (zcm (zaa (zab 15 (pv 15)) zae))) (zeW (hu1 hr) (zab 12 (pv 12)) zam))))))) (fun h1 h2 h3=>ps_for po rfl h1 h2 h3))
  (zad (zeU zam (zeW (hu1 hr) (zab 12 (pv 12)) zam))
  (zad (zeU (zab 2 (pv 2)) (zeW (hu1 hr) (zab 12 (pv 12)) zam))
  (zad (zeU (zab 3 (pv 3)) (zeW (hu1 hr) (zab 12 (pv 12)) zam))
  (zad (zao (i:=17) (zcm zae) fun h=>ps_set zaw.nd rfl (by nofun) h)
  (zad (zbc po rfl (zbY (zaa (zab 7 (pv 7)) zae) fun h=>pi_range1 rfl (T.free 5) h) (zaJ (pg_name zaw.nd rfl (by nofun)))
  (zad (zao (i:=16) (zay (zgo T 5) (hr.mono (by omega)) tk (T.glo 7) (zaa (zab 0 (pv 0)) (zaa (zab 12 (pv 12)) (zaa zaf (zaa (zan (hu1 hr) (zab 1 (pv 1)) zaf) zae))))) fun h=>ps_set zaw.nd rfl (by nofun) h)
  (zad (zaF (zat ziE (zay (zak T) (hr.mono (by omega)) tk (T.glo 4) (zaa (zab 0 (pv 0)) (zaa zaf zae))) zaf)
  (zah (zao (i:=16) (zaz zaB (zab 16 (pv 16)) (zaC (zaa (zaC (zaa zam (zaa (zan (hu1 hr) (zab 10 (pv 10)) (zay (zak T) (hr.mono (by omega)) tk (T.glo 4) (zaa (zab 0 (pv 0)) (zaa zaf zae)))) zae))) zae))) fun h=>ps_set zaw.nd rfl (by nofun) h))
  zaq)
  (zah (zaV (zbv (zab 17 (pv 17)) (zaa (zaC (zaa (zan (hu1 hr) (zab 9 (pv 9)) (zaz zaB (zaz zaB (zab 5 (pv 5)) (zab 6 (pv 6))) (zab 14 (pv 14)))) (zaa (zab 16 (pv 16)) zae))) zae)))))) (fun h1 h2 h3=>ps_for po rfl h1 h2 h3))
  (zah (zar (zaC (zaa (zab 8 (pv 8)) (zaa (zab 11 (pv 11)) (zaa (zaR zgR (zaa (zab 13 (pv 13)) zae) fun h1 h2=>pe_callTy h1 rfl (T.free 9) boot_tuple h2) (zaa (zaR zgR (zaa (zab 17 (pv 17)) zae) fun h1 h2=>pe_callTy h1 rfl (T.free 9) boot_tuple h2) zae))))))))))))))))))))))))))
def zhg (K:PySem.W.Frag) (W:XW):SM:=
 (zav (mIf (mOr (zeX (zev (mCB zfM (zac (zag 0) (zac (mC (.ty "str")) zal))))) (zeX (mB (zgt vLe vLe (mC (.int 1)) (mCB zcZ (zac (zag 0) zal)) (mC (.int 8))))))
  (zbg (mC (.bl false)))
  mNx) (zav (zfA (ziV (zag 0)) (gNm 1)
  (mIf (zeX (mB (zgt vLe vLe (mC (.str "a")) (zag 1) (mC (.str "z")))))
  (zbg (mC (.bl false)))
  mNx)) (zbg (mC (.bl true)))))
theorem zhz:FnScope ["value", "letter"] ["value"] (defScope zfb):=⟨rfl,rfl,rfl,by decide +kernel,rfl,by decide +kernel,by decide +kernel⟩
def zbP (K:PySem.W.Frag):SpD:=spB 1 1 (zhg K)
theorem zcv (T:Tu fac fns zcb PG_.main.file zcF tabs eqs gts prs sqs nos isl w K mg):Fd PG_ w K mg base 2 (He.ga K "is_name") (zbP K):=by
 obtain ⟨fd,F⟩:=T.df 7 (d:=zhJ)
 have bi:Binds K fd ["value"] []:=FunD.bindsN F fun _ _ _ _ _ _ us hl=>match us,hl with | [_],_=>by kernel_rfl
 refine zaQ (k:=1) F zhz bi rfl rfl fun cdv A outer s H E hr X eX W tk po=>?_
 subst eX
 unfold zhg
 exact (zad (zaF (MW.mt (zcU (zaZ (zaY (zap zbZ (zaa (zab 0 (pv 0)) (zaa (zdY (T.free 12) boot_str) zae)) fun h1 h2=>pe_callB h1 rfl (T.free 13) boot_isinstance h2))) (zb9 (zaZ (zh6 zj3 zj3 zaf (zap zaW (zaa (zab 0 (pv 0)) zae) fun h1 h2=>pe_callB h1 rfl (T.free 1) boot_len h2) zaf)))))
  (zah (zar zbV))
  zaq)
  (zad (zbc po rfl (zeV (zab 0 (pv 0))) (zaJ (pg_name zhz.nd rfl (by nofun)))
  (zah (zaF (zaZ (zh6 zj3 zj3 zam (zab 1 (pv 1)) zam))
  (zah (zar zbV))
  zaq)) (fun h1 h2 h3=>ps_for po rfl h1 h2 h3))
  (zah (zar zbV))))
def zfH (K:PySem.W.Frag) (W:XW):SM:=
 (zav (mIf (mOr (zeX (zev (mCB zfM (zac (zag 0) (zac (mC (.ty "tuple")) zal))))) (zeX (mB (zgt vLe vLe (zag 1) (mCB zcZ (zac (zag 0) zal)) (zag 2)))))
  (zbg (mC (.bl false)))
  mNx) (zav (zaN (mCB znj zal) (gNm 3)) (zav (zfA (ziV (zag 0)) (gNm 4)
  (zav (mIf (mOr (zeX (zev (zas (zbP K) W (zac (zag 4) zal)))) (mB (mOp vIn (zag 4) (zag 3))))
  (zbg (mC (.bl false)))
  mNx) (zcn (zsl (zag 3) (zac (zag 4) zal))))) (zbg (mC (.bl true))))))
theorem zeK:FnScope ["value", "least", "most", "seen", "name"] ["value", "least", "most"] (defScope zdC):=⟨rfl,rfl,rfl,by decide +kernel,rfl,by decide +kernel,by decide +kernel⟩
def zdJ (K:PySem.W.Frag):SpD:=spB 3 2 (zfH K)
theorem zgn (T:Tu fac fns zcb PG_.main.file zcF tabs eqs gts prs sqs nos isl w K mg):Fd PG_ w K mg base 4 (He.ga K "are_names") (zdJ K):=by
 obtain ⟨fd,F⟩:=T.df 8 (d:=zgz)
 have bi:Binds K fd ["value", "least", "most"] []:=FunD.bindsN F fun _ _ _ _ _ _ us hl=>match us,hl with | [_,_,_],_=>by kernel_rfl
 refine zaQ (k:=3) F zeK bi rfl rfl fun cdv A outer s H E hr X eX W tk po=>?_
 subst eX
 unfold zfH
 exact (zad (zaF (MW.mt (zcU (zaZ (zaY (zap zbZ (zaa (zab 0 (pv 0)) (zaa (zdY (T.free 9) boot_tuple) zae)) fun h1 h2=>pe_callB h1 rfl (T.free 13) boot_isinstance h2))) (zb9 (zaZ (zh6 zj3 zj3 (zab 1 (pv 1)) (zap zaW (zaa (zab 0 (pv 0)) zae) fun h1 h2=>pe_callB h1 rfl (T.free 1) boot_len h2) (zab 2 (pv 2)))))))
  (zah (zar zbV))
  zaq)
  (zad (zao (i:=3) (zkZ zpa fun h1=>pe_callTy0 h1 rfl (T.free 14) boot_set) fun h=>ps_set zeK.nd rfl (by nofun) h)
  (zad (zbc po rfl (zeV (zab 0 (pv 0))) (zaJ (pg_name zeK.nd rfl (by nofun)))
  (zad (zaF (MW.mt (zcU (zaZ (zaY (zay (zcv T) (hr.mono (by omega)) tk (T.glo 15) (zaa (zab 4 (pv 4)) zae)))) (zb9 (zat (zg4 (ziP hr)) (zab 4 (pv 4)) (zab 3 (pv 3))))))
  (zah (zar zbV))
  zaq)
  (zah (zaV (zrv (zab 3 (pv 3)) (zaa (zab 4 (pv 4)) zae))))) (fun h1 h2 h3=>ps_for po rfl h1 h2 h3))
  (zah (zar zbV)))))
def zfG (K:PySem.W.Frag) (W:XW):SM:=
 (zav (mIf (mOr (zeX (zev (mCB zfM (zac (zag 0) (zac (mC (.ty "tuple")) zal))))) (mB (mOp vGt (mCB zcZ (zac (zag 0) zal)) (zag 1))))
  (zbg (mC (.bl false)))
  mNx) (zav (zaN (mCB zjM (zac (zag 2) zal)) (gNm 3)) (zav (zfA (ziV (zag 0)) (gNm 4)
  (zav (mIf (mOr (zeX (zev (mCB zfM (zac (zag 4) (zac (mC (.ty "tuple")) zal))))) (mB (mOp vNe (mCB zcZ (zac (zag 4) zal)) (mC (.int 2)))))
  (zbg (mC (.bl false)))
  mNx) (zav (mIf (mOr (zeX (zev (zas (zbP K) W (zac (mOp vIx (zag 4) (mC (.int 0))) zal)))) (mB (mOp vIn (mOp vIx (zag 4) (mC (.int 0))) (zag 3))))
  (zbg (mC (.bl false)))
  mNx) (zaN (mC (.bl true)) (gIx (zag 3) (mOp vIx (zag 4) (mC (.int 0)))))))) (zbg (mC (.bl true))))))
theorem zeJ:FnScope ["value", "most", "taken", "seen", "pair"] ["value", "most", "taken"] (defScope zdB):=⟨rfl,rfl,rfl,by decide +kernel,rfl,by decide +kernel,by decide +kernel⟩
def zdI (K:PySem.W.Frag):SpD:=spB 3 2 (zfG K)
theorem zgm (T:Tu fac fns zcb PG_.main.file zcF tabs eqs gts prs sqs nos isl w K mg):Fd PG_ w K mg base 4 (He.ga K "are_pairs") (zdI K):=by
 obtain ⟨fd,F⟩:=T.df 9 (d:=zgy)
 have bi:Binds K fd ["value", "most", "taken"] []:=FunD.bindsN F fun _ _ _ _ _ _ us hl=>match us,hl with | [_,_,_],_=>by kernel_rfl
 refine zaQ (k:=3) F zeJ bi rfl rfl fun cdv A outer s H E hr X eX W tk po=>?_
 subst eX
 unfold zfG
 exact (zad (zaF (MW.mt (zcU (zaZ (zaY (zap zbZ (zaa (zab 0 (pv 0)) (zaa (zdY (T.free 9) boot_tuple) zae)) fun h1 h2=>pe_callB h1 rfl (T.free 13) boot_isinstance h2))) (zb9 (zat ziE (zap zaW (zaa (zab 0 (pv 0)) zae) fun h1 h2=>pe_callB h1 rfl (T.free 1) boot_len h2) (zab 1 (pv 1))))))
  (zah (zar zbV))
  zaq)
  (zad (zao (i:=3) (zaR zpb (zaa (zab 2 (pv 2)) zae) fun h1 h2=>pe_callTy h1 rfl (T.free 16) boot_dict h2) fun h=>ps_set zeJ.nd rfl (by nofun) h)
  (zad (zbc po rfl (zeV (zab 0 (pv 0))) (zaJ (pg_name zeJ.nd rfl (by nofun)))
  (zad (zaF (MW.mt (zcU (zaZ (zaY (zap zbZ (zaa (zab 4 (pv 4)) (zaa (zdY (T.free 9) boot_tuple) zae)) fun h1 h2=>pe_callB h1 rfl (T.free 13) boot_isinstance h2))) (zb9 (zat (ziD (zcN hr)) (zap zaW (zaa (zab 4 (pv 4)) zae) fun h1 h2=>pe_callB h1 rfl (T.free 1) boot_len h2) zaf))))
  (zah (zar zbV))
  zaq)
  (zad (zaF (MW.mt (zcU (zaZ (zaY (zay (zcv T) (hr.mono (by omega)) tk (T.glo 15) (zaa (zan (hu1 hr) (zab 4 (pv 4)) zaf) zae)))) (zb9 (zat (zg4 (ziP hr)) (zan (hu1 hr) (zab 4 (pv 4)) zaf) (zab 3 (pv 3))))))
  (zah (zar zbV))
  zaq)
  (zah (zeU zbV (zeW (hu1 hr) (zab 3 (pv 3)) (zan (hu1 hr) (zab 4 (pv 4)) zaf)))))) (fun h1 h2 h3=>ps_for po rfl h1 h2 h3))
  (zah (zar zbV)))))
def zb7 (K:PySem.W.Frag) (W:XW):SM:=
 (zbg (zg9 (mCB zfM (zac (zag 1) (zac (mC (.ty "str")) zal))) (mOp vIn (zag 1) (zj4 K (zag 0) "words"))))
theorem zfg:FnScope ["self", "value"] ["self", "value"] (defScope zbe):=⟨rfl,rfl,rfl,by decide +kernel,rfl,by decide +kernel,by decide +kernel⟩
def zbf (K:PySem.W.Frag):SpD:=spB 2 0 (zb7 K)
theorem zc2 (T:Tu fac fns zcb PG_.main.file zcF tabs eqs gts prs sqs nos isl w K mg):Fd PG_ w K mg base 2 (He.ma K (He.ga K "BodyCheck") "is_word") (zbf K):=by
 obtain ⟨fd,F⟩:=T.df 10 (d:=zc5)
 have bi:Binds K fd ["self", "value"] []:=FunD.bindsN F fun _ _ _ _ _ _ us hl=>match us,hl with | [_,_],_=>by kernel_rfl
 refine zaQ (k:=1) F zfg bi rfl rfl fun cdv A outer s H E hr X eX W tk po=>?_
 subst eX
 unfold zb7
 exact (zah (zar (zgs (zap zbZ (zaa (zab 1 (pv 1)) (zaa (zdY (T.free 12) boot_str) zae)) fun h1 h2=>pe_callB h1 rfl (T.free 13) boot_isinstance h2) (zgr (zd8 (zg4 (ziP hr)) (zab 1 (pv 1)) (zfl (zab 0 (pv 0))))))))
def zbJ (K:PySem.W.Frag) (W:XW):SM:=
 (zav (mIf (mOr (mB (mOp vNe (mCB zcZ (zac (zag 1) zal)) (mC (.int 5)))) (mB (mOp vGe (zag 2) (mC (.int 4)))))
  (zbg (mC (.bl false)))
  mNx) (zav (mIf (mOr (zeX (zev (zas (zbP K) W (zac (mOp vIx (zag 1) (mC (.int 1))) zal)))) (zeX (zev (zew (He.ga K "BodyCheck") "is_word" (zbf K) W (zag 0) (zac (mOp vIx (zag 1) (mC (.int 2))) zal)))))
  (zbg (mC (.bl false)))
  mNx) (zbg (zg9 (mCB zfM (zac (mOp vIx (zag 1) (mC (.int 3))) (zac (mC (.ty "tuple")) zal))) (mCB zfM (zac (mOp vIx (zag 1) (mC (.int 4))) (zac (mC (.ty "tuple")) zal)))))))
theorem zeG:FnScope ["self", "row", "depth"] ["self", "row", "depth"] (defScope za3):=⟨rfl,rfl,rfl,by decide +kernel,rfl,by decide +kernel,by decide +kernel⟩
def zbA (K:PySem.W.Frag):SpD:=spB 3 0 (zbJ K)
theorem zeH (T:Tu fac fns zcb PG_.main.file zcF tabs eqs gts prs sqs nos isl w K mg):Fd PG_ w K mg base 4 (He.ma K (He.ga K "BodyCheck") "is_choice") (zbA K):=by
 obtain ⟨fd,F⟩:=T.df 11 (d:=zcs)
 have bi:Binds K fd ["self", "row", "depth"] []:=FunD.bindsN F fun _ _ _ _ _ _ us hl=>match us,hl with | [_,_,_],_=>by kernel_rfl
 refine zaQ (k:=3) F zeG bi rfl rfl fun cdv A outer s H E hr X eX W tk po=>?_
 subst eX
 unfold zbJ
 exact (zad (zaF (MW.mt (zcU (zat (ziD (zcN hr)) (zap zaW (zaa (zab 1 (pv 1)) zae) fun h1 h2=>pe_callB h1 rfl (T.free 1) boot_len h2) zaf) (zb9 (zat zkR (zab 2 (pv 2)) (zjb (T.int 17))))))
  (zah (zar zbV))
  zaq)
  (zad (zaF (MW.mt (zcU (zaZ (zaY (zay (zcv T) (hr.mono (by omega)) tk (T.glo 15) (zaa (zan (hu1 hr) (zab 1 (pv 1)) zaf) zae)))) (zb9 (zaZ (zaY (zht (zab 0 (pv 0)) (T.cls 18) (T.meth 19) (zc2 T) (hr.mono (by omega)) tk (zaa (zan (hu1 hr) (zab 1 (pv 1)) zaf) zae)))))))
  (zah (zar zbV))
  zaq)
  (zah (zar (zgs (zap zbZ (zaa (zan (hu1 hr) (zab 1 (pv 1)) zaf) (zaa (zdY (T.free 9) boot_tuple) zae)) fun h1 h2=>pe_callB h1 rfl (T.free 13) boot_isinstance h2) (zgr (zap zbZ (zaa (zan (hu1 hr) (zab 1 (pv 1)) zaf) (zaa (zdY (T.free 9) boot_tuple) zae)) fun h1 h2=>pe_callB h1 rfl (T.free 13) boot_isinstance h2)))))))
def zcq (K:PySem.W.Frag) (W:XW):SM:=
 (zav (mIf (mOr (zeX (zev (mCB zfM (zac (zag 1) (zac (mC (.ty "tuple")) zal))))) (mOr (mB (mOp vLt (mCB zcZ (zac (zag 1) zal)) (mC (.int 2)))) (zeX (zev (mCB zfM (zac (mOp vIx (zag 1) (mC (.int 0))) (zac (mC (.ty "str")) zal)))))))
  (zbg (mC (.bl false)))
  mNx) (zav (mIf (mB (mOp vEq (mOp vIx (zag 1) (mC (.int 0))) (mC (.str "if"))))
  (zbg (zew (He.ga K "BodyCheck") "is_choice" (zbA K) W (zag 0) (zac (zag 1) (zac (zag 2) zal))))
  mNx) (zav (mIf (mB (mOp vIn (mOp vIx (zag 1) (mC (.int 0))) (zbW (zac (mC (.str "give")) (zac (mC (.str "say")) zal)))))
  (zav (zaN (zoI (mB (mOp vEq (mOp vIx (zag 1) (mC (.int 0))) (mC (.str "give")))) (mC (.str "derived")) (mC (.str "effects"))) (gNm 3)) (zbg (zg9 (mOp vEq (zj4 K (zag 0) "kind") (zag 3)) (zg9 (mOp vEq (mCB zcZ (zac (zag 1) zal)) (mC (.int 2))) (zas (zbP K) W (zac (mOp vIx (zag 1) (mC (.int 1))) zal))))))
  mNx) (zav (mIf (mB (mOp vNe (mCB zcZ (zac (zag 1) zal)) (mC (.int 3))))
  (zbg (mC (.bl false)))
  mNx) (zav (mIf (mB (mOp vEq (mOp vIx (zag 1) (mC (.int 0))) (mC (.str "put"))))
  (zbg (zg9 (zas (zbP K) W (zac (mOp vIx (zag 1) (mC (.int 1))) zal)) (zew (He.ga K "BodyCheck") "is_word" (zbf K) W (zag 0) (zac (mOp vIx (zag 1) (mC (.int 2))) zal))))
  mNx) (zav (mIf (mOr (zeX (zev (zas (zbP K) W (zac (mOp vIx (zag 1) (mC (.int 1))) zal)))) (zeX (zev (zas (zbP K) W (zac (mOp vIx (zag 1) (mC (.int 2))) zal)))))
  (zbg (mC (.bl false)))
  mNx) (zav (mIf (mB (mOp vEq (mOp vIx (zag 1) (mC (.int 0))) (mC (.str "read"))))
  (zbg (mOp vIn (mOp vIx (zag 1) (mC (.int 1))) (zj4 K (zag 0) "readable")))
  mNx) (zav (mIf (mB (mOp vNe (zj4 K (zag 0) "kind") (mC (.str "effects"))))
  (zbg (mC (.bl false)))
  mNx) (zav (mIf (mB (mOp vEq (mOp vIx (zag 1) (mC (.int 0))) (mC (.str "peek"))))
  (zbg (mOp vIn (mOp vIx (zag 1) (mC (.int 1))) (zj4 K (zag 0) "readable")))
  mNx) (zbg (zg9 (mOp vEq (mOp vIx (zag 1) (mC (.int 0))) (mC (.str "write"))) (mOp vIn (mOp vIx (zag 1) (mC (.int 1))) (zj4 K (zag 0) "sources")))))))))))))
theorem zdq:FnScope ["self", "row", "depth", "wanted"] ["self", "row", "depth"] (defScope zbl):=⟨rfl,rfl,rfl,by decide +kernel,rfl,by decide +kernel,by decide +kernel⟩
def zb4 (K:PySem.W.Frag):SpD:=spB 3 1 (zcq K)
theorem zfv (T:Tu fac fns zcb PG_.main.file zcF tabs eqs gts prs sqs nos isl w K mg):Fd PG_ w K mg base 6 (He.ma K (He.ga K "BodyCheck") "is_row") (zb4 K):=by
 obtain ⟨fd,F⟩:=T.df 12 (d:=zdw)
 have bi:Binds K fd ["self", "row", "depth"] []:=FunD.bindsN F fun _ _ _ _ _ _ us hl=>match us,hl with | [_,_,_],_=>by kernel_rfl
 refine zaQ (k:=5) F zdq bi rfl rfl fun cdv A outer s H E hr X eX W tk po=>?_
 subst eX
 unfold zcq
 exact (zad (zaF (MW.mt (zcU (zaZ (zaY (zap zbZ (zaa (zab 1 (pv 1)) (zaa (zdY (T.free 9) boot_tuple) zae)) fun h1 h2=>pe_callB h1 rfl (T.free 13) boot_isinstance h2))) (zcU (zat zkQ (zap zaW (zaa (zab 1 (pv 1)) zae) fun h1 h2=>pe_callB h1 rfl (T.free 1) boot_len h2) zaf) (zb9 (zaZ (zaY (zap zbZ (zaa (zan (hu1 hr) (zab 1 (pv 1)) zaf) (zaa (zdY (T.free 12) boot_str) zae)) fun h1 h2=>pe_callB h1 rfl (T.free 13) boot_isinstance h2)))))))
  (zah (zar zbV))
  zaq)
  (zad (zaF (zat (zbb (zcN hr)) (zan (hu1 hr) (zab 1 (pv 1)) zaf) zam)
  (zah (zar (zht (zab 0 (pv 0)) (T.cls 18) (T.meth 20) (zeH T) (hr.mono (by omega)) tk (zaa (zab 1 (pv 1)) (zaa (zab 2 (pv 2)) zae)))))
  zaq)
  (zad (zaF (zat (zg4 (ziP hr)) (zan (hu1 hr) (zab 1 (pv 1)) zaf) (zaC (zaa zam (zaa zam zae))))
  (zad (zao (i:=3) (zl7 (zat (zbb (zcN hr)) (zan (hu1 hr) (zab 1 (pv 1)) zaf) zam) zam zam) fun h=>ps_set zdq.nd rfl (by nofun) h)
  (zah (zar (zgs (zd8 (zbb (zcN hr)) (zfl (zab 0 (pv 0))) (zab 3 (pv 3))) (zgs (zd8 (zbb (zcN hr)) (zap zaW (zaa (zab 1 (pv 1)) zae) fun h1 h2=>pe_callB h1 rfl (T.free 1) boot_len h2) zaf) (zgr (zay (zcv T) (hr.mono (by omega)) tk (T.glo 15) (zaa (zan (hu1 hr) (zab 1 (pv 1)) zaf) zae))))))))
  zaq)
  (zad (zaF (zat (ziD (zcN hr)) (zap zaW (zaa (zab 1 (pv 1)) zae) fun h1 h2=>pe_callB h1 rfl (T.free 1) boot_len h2) zaf)
  (zah (zar zbV))
  zaq)
  (zad (zaF (zat (zbb (zcN hr)) (zan (hu1 hr) (zab 1 (pv 1)) zaf) zam)
  (zah (zar (zgs (zay (zcv T) (hr.mono (by omega)) tk (T.glo 15) (zaa (zan (hu1 hr) (zab 1 (pv 1)) zaf) zae)) (zgr (zht (zab 0 (pv 0)) (T.cls 18) (T.meth 19) (zc2 T) (hr.mono (by omega)) tk (zaa (zan (hu1 hr) (zab 1 (pv 1)) zaf) zae))))))
  zaq)
  (zad (zaF (MW.mt (zcU (zaZ (zaY (zay (zcv T) (hr.mono (by omega)) tk (T.glo 15) (zaa (zan (hu1 hr) (zab 1 (pv 1)) zaf) zae)))) (zb9 (zaZ (zaY (zay (zcv T) (hr.mono (by omega)) tk (T.glo 15) (zaa (zan (hu1 hr) (zab 1 (pv 1)) zaf) zae)))))))
  (zah (zar zbV))
  zaq)
  (zad (zaF (zat (zbb (zcN hr)) (zan (hu1 hr) (zab 1 (pv 1)) zaf) zam)
  (zah (zar (zd8 (zg4 (ziP hr)) (zan (hu1 hr) (zab 1 (pv 1)) zaf) (zfl (zab 0 (pv 0))))))
  zaq)
  (zad (zaF (zat (ziD (zcN hr)) (zfl (zab 0 (pv 0))) zam)
  (zah (zar zbV))
  zaq)
  (zad (zaF (zat (zbb (zcN hr)) (zan (hu1 hr) (zab 1 (pv 1)) zaf) zam)
  (zah (zar (zd8 (zg4 (ziP hr)) (zan (hu1 hr) (zab 1 (pv 1)) zaf) (zfl (zab 0 (pv 0))))))
  zaq)
  (zah (zar (zgs (zd8 (zbb (zcN hr)) (zan (hu1 hr) (zab 1 (pv 1)) zaf) zam) (zgr (zd8 (zg4 (ziP hr)) (zan (hu1 hr) (zab 1 (pv 1)) zaf) (zfl (zab 0 (pv 0)))))))))))))))))
def zbr (K:PySem.W.Frag) (rec:SpD) (W:XW):SM:=
 (zav (zfA (zfm (zac (zag 1) zal)) (gT 2 (gC (gNm 4) (gC (gNm 5) gN)))
  (zav (zaN (mOp zbK (zag 2) (zbW (zac (zag 4) zal))) (gNm 6)) (zav (mIf (zeX (zev (zew (He.ga K "BodyCheck") "is_row" (zb4 K) W (zag 0) (zac (zag 5) (zac (zag 3) zal)))))
  (zbg (zag 6))
  mNx) (mIf (mB (mOp vEq (mOp vIx (zag 5) (mC (.int 0))) (mC (.str "if"))))
  (zfA (ziV (zbW (zac (mC (.int 0)) (zac (mC (.int 1)) zal)))) (gNm 7)
  (zav (zaN (zew (He.ga K "BodyCheck") "first_wrong" rec W (zag 0) (zac (mOp vIx (zag 5) (mOp zbK (mC (.int 3)) (zag 7))) (zac (mOp zbK (zag 6) (zbW (zac (zag 7) zal))) (zac (mOp zbK (zag 3) (mC (.int 1))) zal)))) (gNm 8)) (mIf (mB (mOp zkm (zag 8) (mC .non)))
  (zbg (zag 8))
  mNx)))
  mNx)))) (zbg (mC .non)))
theorem zaI:FnScope ["self", "rows", "path", "depth", "place", "row", "here", "side", "found"] ["self", "rows", "path", "depth"] (defScope zaT):=⟨rfl,rfl,rfl,by decide +kernel,rfl,by decide +kernel,by decide +kernel⟩
def zaU (K:PySem.W.Frag):Nat->SpD
 | 0=>fun _ _ _ _=>False
 | n+1=>spB 4 5 (zbr K (zaU K n))
theorem zd7 (T:Tu fac fns zcb PG_.main.file zcF tabs eqs gts prs sqs nos isl w K mg):∀ n,Fd PG_ w K mg base (8+n) (He.ma K (He.ga K "BodyCheck") "first_wrong") (zaU K n):=by
 obtain ⟨fd,F⟩:=T.df 13 (d:=zca)
 have bi:Binds K fd ["self", "rows", "path", "depth"] []:=FunD.bindsN F fun _ _ _ _ _ _ us hl=>match us,hl with | [_,_,_,_],_=>by kernel_rfl
 intro n
 induction n with
 | zero=>exact zkb bi F.kp
 | succ n RC=>
 refine zaQ (k:=8+n) F zaI bi rfl rfl fun cdv A outer s H E hr X eX W tk po=>?_
 subst eX
 unfold zbr
 exact (zad (zbc po rfl (zfy (zaa (zab 1 (pv 1)) zae) (T.free 21)) (zg7 rfl (zbE (zaJ (pg_name zaI.nd rfl (by nofun))) (zbE (zaJ (pg_name zaI.nd rfl (by nofun))) zfz)))
  (zad (zao (i:=6) (zaz zaB (zab 2 (pv 2)) (zaC (zaa (zab 4 (pv 4)) zae))) fun h=>ps_set zaI.nd rfl (by nofun) h)
  (zad (zaF (zaZ (zaY (zht (zab 0 (pv 0)) (T.cls 18) (T.meth 22) (zfv T) (hr.mono (by omega)) tk (zaa (zab 5 (pv 5)) (zaa (zab 3 (pv 3)) zae)))))
  (zah (zar (zab 6 (pv 6))))
  zaq)
  (zah (zaF (zat (zbb (zcN hr)) (zan (hu1 hr) (zab 5 (pv 5)) zaf) zam)
  (zah (zbc po rfl (zeV (zaC (zaa zaf (zaa zaf zae)))) (zaJ (pg_name zaI.nd rfl (by nofun)))
  (zad (zao (i:=8) (zht (zab 0 (pv 0)) (T.cls 18) (T.meth 23) RC (hr.mono (by omega)) tk (zaa (zan (hu1 hr) (zab 5 (pv 5)) (zaz zaB zaf (zab 7 (pv 7)))) (zaa (zaz zaB (zab 6 (pv 6)) (zaC (zaa (zab 7 (pv 7)) zae))) (zaa (zaz zaB (zab 3 (pv 3)) zaf) zae)))) fun h=>ps_set zaI.nd rfl (by nofun) h)
  (zah (zaF (zat zjs (zab 8 (pv 8)) zhB)
  (zah (zar (zab 8 (pv 8))))
  zaq))) (fun h1 h2 h3=>ps_for po rfl h1 h2 h3)))
  zaq)))) (fun h1 h2 h3=>ps_for po rfl h1 h2 h3))
  (zah (zar zhB)))
def ze4 (K:PySem.W.Frag) (rec:SpD) (W:XW):SM:=
 (zav (zaN (mCB zcZ (zac (zag 0) zal)) (gNm 1)) (zav (zfA (ziV (zag 0)) (gNm 2)
  (mIf (mB (mOp vEq (mOp vIx (zag 2) (mC (.int 0))) (mC (.str "if"))))
  (zm9 1 (mOp zbK (zas rec W (zac (mOp vIx (zag 2) (mC (.int 3))) zal)) (zas rec W (zac (mOp vIx (zag 2) (mC (.int 4))) zal))) ziZ)
  mNx)) (zbg (zag 1))))
theorem zdg:FnScope ["rows", "total", "row"] ["rows"] (defScope zc9):=⟨rfl,rfl,rfl,by decide +kernel,rfl,by decide +kernel,by decide +kernel⟩
def zdf (K:PySem.W.Frag):Nat->SpD
 | 0=>fun _ _ _ _=>False
 | n+1=>spB 1 2 (ze4 K (zdf K n))
theorem zh1 (T:Tu fac fns zcb PG_.main.file zcF tabs eqs gts prs sqs nos isl w K mg):∀ n,Fd PG_ w K mg base (2+n) (He.ga K "count_rows") (zdf K n):=by
 obtain ⟨fd,F⟩:=T.df 14 (d:=zfZ)
 have bi:Binds K fd ["rows"] []:=FunD.bindsN F fun _ _ _ _ _ _ us hl=>match us,hl with | [_],_=>by kernel_rfl
 intro n
 induction n with
 | zero=>exact zkb bi F.kp
 | succ n RC=>
 refine zaQ (k:=2+n) F zdg bi rfl rfl fun cdv A outer s H E hr X eX W tk po=>?_
 subst eX
 unfold ze4
 exact (zad (zao (i:=1) (zap zaW (zaa (zab 0 (pv 0)) zae) fun h1 h2=>pe_callB h1 rfl (T.free 1) boot_len h2) fun h=>ps_set zdg.nd rfl (by nofun) h)
  (zad (zbc po rfl (zeV (zab 0 (pv 0))) (zaJ (pg_name zdg.nd rfl (by nofun)))
  (zah (zaF (zat (zbb (zcN hr)) (zan (hu1 hr) (zab 2 (pv 2)) zaf) zam)
  (zah (zmV (i:=1) (zaz zaB (zay RC (hr.mono (by omega)) tk (T.glo 24) (zaa (zan (hu1 hr) (zab 2 (pv 2)) zaf) zae)) (zay RC (hr.mono (by omega)) tk (T.glo 24) (zaa (zan (hu1 hr) (zab 2 (pv 2)) zaf) zae))) zjt fun h1 h2=>ps_aug zdg.nd rfl (by nofun) h1 h2))
  zaq)) (fun h1 h2 h3=>ps_for po rfl h1 h2 h3))
  (zah (zar (zab 1 (pv 1))))))
def zcx (K:PySem.W.Frag) (W:XW):SM:=
 (zav (mIf (zeX (zev (mCB zfM (zac (zag 1) (zac (mC (.ty "tuple")) zal)))))
  mNo
  mNx) (zav (zaN (zew (He.ga K "BodyCheck") "first_wrong" (zaU K 6) W (zag 0) (zac (zag 1) (zac (zag 2) (zac (mC (.int 1)) zal)))) (gNm 3)) (zav (mIf (mB (mOp zkm (zag 3) (mC .non)))
  mNo
  mNx) (mIf (mB (mOp vGt (zas (zdf K 6) W (zac (zag 1) zal)) (mC (.int 16))))
  mNo
  mNx))))
theorem zdM:FnScope ["self", "rows", "path", "found"] ["self", "rows", "path"] (defScope zbB):=⟨rfl,rfl,rfl,by decide +kernel,rfl,by decide +kernel,by decide +kernel⟩
def zbC (K:PySem.W.Frag):SpD:=spB 3 1 (zcx K)
theorem zdQ (T:Tu fac fns zcb PG_.main.file zcF tabs eqs gts prs sqs nos isl w K mg):Fd PG_ w K mg base 16 (He.ma K (He.ga K "BodyCheck") "check") (zbC K):=by
 obtain ⟨fd,F⟩:=T.df 15 (d:=zdU)
 have bi:Binds K fd ["self", "rows", "path"] []:=FunD.bindsN F fun _ _ _ _ _ _ us hl=>match us,hl with | [_,_,_],_=>by kernel_rfl
 refine zaQ (k:=15) F zdM bi rfl rfl fun cdv A outer s H E hr X eX W tk po=>?_
 subst eX
 unfold zcx
 exact (zad (zaF (zaZ (zaY (zap zbZ (zaa (zab 1 (pv 1)) (zaa (zdY (T.free 9) boot_tuple) zae)) fun h1 h2=>pe_callB h1 rfl (T.free 13) boot_isinstance h2)))
  (zah zeu)
  zaq)
  (zad (zao (i:=3) (zht (zab 0 (pv 0)) (T.cls 18) (T.meth 23) (zd7 T 6) (hr.mono (by omega)) tk (zaa (zab 1 (pv 1)) (zaa (zab 2 (pv 2)) (zaa zaf zae)))) fun h=>ps_set zdM.nd rfl (by nofun) h)
  (zad (zaF (zat zjs (zab 3 (pv 3)) zhB)
  (zah zeu)
  zaq)
  (zah (zaF (zat ziE (zay (zh1 T 6) (hr.mono (by omega)) tk (T.glo 24) (zaa (zab 1 (pv 1)) zae)) (zjb (T.int 25)))
  (zah zeu)
  zaq)))))
def zcr (K:PySem.W.Frag) (W:XW):SM:=
 (zav (zfX K (zag 0) (zag 1) "kind") (zav (zfX K (zag 0) (zag 2) "words") (zav (zfX K (zag 0) (zag 3) "sources") (zfX K (zag 0) (zag 4) "readable"))))
theorem zfs:FnScope ["self", "kind", "words", "sources", "readable"] ["self", "kind", "words", "sources", "readable"] (defScope zbm):=⟨rfl,rfl,rfl,by decide +kernel,rfl,by decide +kernel,by decide +kernel⟩
def zbo (K:PySem.W.Frag):SpD:=spB 5 0 (zcr K)
theorem zdt (T:Tu fac fns zcb PG_.main.file zcF tabs eqs gts prs sqs nos isl w K mg):Fd PG_ w K mg base 2 (He.ma K (He.ga K "BodyCheck") "__init__") (zbo K):=by
 obtain ⟨fd,F⟩:=T.df 16 (d:=zdx)
 have bi:Binds K fd ["self", "kind", "words", "sources", "readable"] []:=FunD.bindsN F fun _ _ _ _ _ _ us hl=>match us,hl with | [_,_,_,_,_],_=>by kernel_rfl
 refine zaQ (k:=1) F zfs bi rfl rfl fun cdv A outer s H E hr X eX W tk po=>?_
 subst eX
 unfold zcr
 exact (zad (zeT (zab 0 (pv 0)) (zab 1 (pv 1)))
  (zad (zeT (zab 0 (pv 0)) (zab 2 (pv 2)))
  (zad (zeT (zab 0 (pv 0)) (zab 3 (pv 3)))
  (zah (zeT (zab 0 (pv 0)) (zab 4 (pv 4)))))))
def zcY (K:PySem.W.Frag) (W:XW):SM:=
 (zav (mIf (zeX (zev (zas (zdJ K) W (zac (zag 1) (zac (mC (.int 2)) (zac (mC (.int 4)) zal))))))
  mNo
  mNx) (zav (mIf (zeX (zev (zas (zdJ K) W (zac (zag 2) (zac (mC (.int 1)) (zac (mC (.int 4)) zal))))))
  mNo
  mNx) (zav (zaN (mDc (ziV (zag 2)) (gNm 6) zsi (zag 6) (mC (.bl true)) [6]) (gNm 5)) (zav (mIf (zeX (zev (zas (zdI K) W (zac (zag 3) (zac (mC (.int 6)) (zac (zag 5) zal))))))
  mNo
  mNx) (zav (zfA (ziV (zag 3)) (gNm 7)
  (zaN (mC (.bl true)) (gIx (zag 5) (mOp vIx (zag 7) (mC (.int 0)))))) (zav (mIf (zeX (zev (zas (zdI K) W (zac (zag 4) (zac (mC (.int 4)) (zac (zag 5) zal))))))
  mNo
  mNx) (zav (zaN (mCB zfN (zac (zag 2) zal)) (gNm 8)) (zav (zfA (zfm (zac (zag 3) zal)) (gT 2 (gC (gNm 9) (gC (gNm 7) gN)))
  (zav (zcn (zew (He.ga K "BodyCheck") "check" (zbC K) W (ziI (He.ga K "BodyCheck") (zbo K) W (zac (mC (.str "derived")) (zac (zag 1) (zac (zag 2) (zac (mCB zfN (zac (zag 8) zal)) zal))))) (zac (mOp vIx (zag 7) (mC (.int 1))) (zac (zbW (zac (mC (.str "derived")) (zac (zag 9) zal))) zal)))) (zcn (zgP okL zhV (zag 8) (zac (mOp vIx (zag 7) (mC (.int 0))) zal))))) (zav (zfA (zfm (zac (zag 4) zal)) (gT 2 (gC (gNm 9) (gC (gNm 7) gN)))
  (zcn (zew (He.ga K "BodyCheck") "check" (zbC K) W (ziI (He.ga K "BodyCheck") (zbo K) W (zac (mC (.str "effects")) (zac (zag 1) (zac (zag 2) (zac (zag 8) zal))))) (zac (mOp vIx (zag 7) (mC (.int 1))) (zac (zbW (zac (mC (.str "effects")) (zac (zag 9) zal))) zal))))) (zav (zfX K (zag 0) (zag 1) "words") (zav (zfX K (zag 0) (zag 2) "sources") (zav (zfX K (zag 0) (zag 3) "derived") (zfX K (zag 0) (zag 4) "effects")))))))))))))
theorem zaK:FnScope ["self", "words", "sources", "derived", "effects", "taken", "name", "pair", "readable", "index"] ["self", "words", "sources", "derived", "effects"] (defScope zbO):=⟨rfl,rfl,rfl,by decide +kernel,rfl,by decide +kernel,by decide +kernel⟩
def zcu (K:PySem.W.Frag):SpD:=spB 5 5 (zcY K)
theorem zgc (T:Tu fac fns zcb PG_.main.file zcF tabs eqs gts prs sqs nos isl w K mg):Fd PG_ w K mg base 18 (He.ma K (He.ga K "Program") "__init__") (zcu K):=by
 obtain ⟨fd,F⟩:=T.df 17 (d:=zee)
 have bi:Binds K fd ["self", "words", "sources", "derived", "effects"] []:=FunD.bindsN F fun _ _ _ _ _ _ us hl=>match us,hl with | [_,_,_,_,_],_=>by kernel_rfl
 refine zaQ (k:=17) F zaK bi rfl rfl fun cdv A outer s H E hr X eX W tk po=>?_
 subst eX
 unfold zcY
 exact (zad (zaF (zaZ (zaY (zay (zgn T) (hr.mono (by omega)) tk (T.glo 26) (zaa (zab 1 (pv 1)) (zaa zaf (zaa zaf zae))))))
  (zah zeu)
  zaq)
  (zad (zaF (zaZ (zaY (zay (zgn T) (hr.mono (by omega)) tk (T.glo 26) (zaa (zab 2 (pv 2)) (zaa zaf (zaa zaf zae))))))
  (zah zeu)
  zaq)
  (zad (zl2 (i:=5) rfl zaK.nd (zeV (zab 2 (pv 2))) (own:=[("name", 6)]) (blkOk_by (by kernel_rfl)) zva (fun _ _ _ _ _=>pg_name zaK.nd rfl (by nofun)) (fun _ _ _ _ _=>zos) (fun _ _ _ _ _=>(zab 6 (pv 6))) (fun _ _ _ _ _=>zbV))
  (zad (zaF (zaZ (zaY (zay (zgm T) (hr.mono (by omega)) tk (T.glo 27) (zaa (zab 3 (pv 3)) (zaa zaf (zaa (zab 5 (pv 5)) zae))))))
  (zah zeu)
  zaq)
  (zad (zbc po rfl (zeV (zab 3 (pv 3))) (zaJ (pg_name zaK.nd rfl (by nofun)))
  (zah (zeU zbV (zeW (hu1 hr) (zab 5 (pv 5)) (zan (hu1 hr) (zab 7 (pv 7)) zaf)))) (fun h1 h2 h3=>ps_for po rfl h1 h2 h3))
  (zad (zaF (zaZ (zaY (zay (zgm T) (hr.mono (by omega)) tk (T.glo 27) (zaa (zab 4 (pv 4)) (zaa zaf (zaa (zab 5 (pv 5)) zae))))))
  (zah zeu)
  zaq)
  (zad (zao (i:=8) (zaR zfF (zaa (zab 2 (pv 2)) zae) fun h1 h2=>pe_callTy h1 rfl (T.free 0) boot_list h2) fun h=>ps_set zaK.nd rfl (by nofun) h)
  (zad (zbc po rfl (zfy (zaa (zab 3 (pv 3)) zae) (T.free 21)) (zg7 rfl (zbE (zaJ (pg_name zaK.nd rfl (by nofun))) (zbE (zaJ (pg_name zaK.nd rfl (by nofun))) zfz)))
  (zad (zaV (zht (zh7 (T.mkr 28) (zdt T) (hr.mono (by omega)) tk (T.glo 29) (zaa zam (zaa (zab 1 (pv 1)) (zaa (zab 2 (pv 2)) (zaa (zaR zfF (zaa (zab 8 (pv 8)) zae) fun h1 h2=>pe_callTy h1 rfl (T.free 0) boot_list h2) zae))))) (T.cls 18) (T.meth 30) (zdQ T) (hr.mono (by omega)) tk (zaa (zan (hu1 hr) (zab 7 (pv 7)) zaf) (zaa (zaC (zaa zam (zaa (zab 9 (pv 9)) zae))) zae))))
  (zah (zaV (zbv (zab 8 (pv 8)) (zaa (zan (hu1 hr) (zab 7 (pv 7)) zaf) zae))))) (fun h1 h2 h3=>ps_for po rfl h1 h2 h3))
  (zad (zbc po rfl (zfy (zaa (zab 4 (pv 4)) zae) (T.free 21)) (zg7 rfl (zbE (zaJ (pg_name zaK.nd rfl (by nofun))) (zbE (zaJ (pg_name zaK.nd rfl (by nofun))) zfz)))
  (zah (zaV (zht (zh7 (T.mkr 28) (zdt T) (hr.mono (by omega)) tk (T.glo 29) (zaa zam (zaa (zab 1 (pv 1)) (zaa (zab 2 (pv 2)) (zaa (zab 8 (pv 8)) zae))))) (T.cls 18) (T.meth 30) (zdQ T) (hr.mono (by omega)) tk (zaa (zan (hu1 hr) (zab 7 (pv 7)) zaf) (zaa (zaC (zaa zam (zaa (zab 9 (pv 9)) zae))) zae))))) (fun h1 h2 h3=>ps_for po rfl h1 h2 h3))
  (zad (zeT (zab 0 (pv 0)) (zab 1 (pv 1)))
  (zad (zeT (zab 0 (pv 0)) (zab 2 (pv 2)))
  (zad (zeT (zab 0 (pv 0)) (zab 3 (pv 3)))
  (zah (zeT (zab 0 (pv 0)) (zab 4 (pv 4))))))))))))))))
def zd0 (K:PySem.W.Frag) (W:XW):SM:=
 (zbg (ziI (He.ga K "Program") (zcu K) W (zac (mOp vIx (zag 0) (mC (.int 0))) (zac (mOp vIx (zag 0) (mC (.int 1))) (zac (mOp vIx (zag 0) (mC (.int 2))) (zac (mOp vIx (zag 0) (mC (.int 3))) zal))))))
theorem zgW:FnScope ["_law_parts_here"] ["_law_parts_here"] (defScope zcd):=⟨rfl,rfl,rfl,by decide +kernel,rfl,by decide +kernel,by decide +kernel⟩
def zdm (K:PySem.W.Frag):SpD:=spB 1 0 (zd0 K)
theorem zg1 (T:Tu fac fns zcb PG_.main.file zcF tabs eqs gts prs sqs nos isl w K mg):Fd PG_ w K mg base 20 (He.ga K "_law_program") (zdm K):=by
 obtain ⟨fd,F⟩:=T.df 18 (d:=ze1)
 have bi:Binds K fd ["_law_parts_here"] []:=FunD.bindsN F fun _ _ _ _ _ _ us hl=>match us,hl with | [_],_=>by kernel_rfl
 refine zaQ (k:=19) F zgW bi rfl rfl fun cdv A outer s H E hr X eX W tk po=>?_
 subst eX
 unfold zd0
 exact (zah (zar (zh7 (T.mkr 31) (zgc T) (hr.mono (by omega)) tk (T.glo 32) (zaa (zan (hu1 hr) (zab 0 (pv 0)) zaf) (zaa (zan (hu1 hr) (zab 0 (pv 0)) zaf) (zaa (zan (hu1 hr) (zab 0 (pv 0)) zaf) (zaa (zan (hu1 hr) (zab 0 (pv 0)) zaf) zae)))))))
def zeA (K:PySem.W.Frag) (W:XW):SM:=
 (zav (zaN (mCB zfN (zac (zag 1) zal)) (gNm 3)) (zav (zaN (zhk zal) (gNm 4)) (zav (zfA (zcw (zac (zag 2) zal)) (gNm 5)
  (mIf (mB (mOp vGt (mCB zcZ (zac (zag 3) zal)) (mC (.int 0))))
  (zcn (zgP okL zhV (zag 4) (zac (zgP okL rPa (zag 3) (zac (zas (zaj K) W (zac (zag 0) (zac (mCB zcZ (zac (zag 3) zal)) zal))) zal)) zal)))
  mNx)) (zbg (zag 4)))))
theorem zcB:FnScope ["_law_state_here", "_law_rows_here", "_law_many_here", "_law_rest", "_law_told", "_law_turn"] ["_law_state_here", "_law_rows_here", "_law_many_here"] (defScope zcz):=⟨rfl,rfl,rfl,by decide +kernel,rfl,by decide +kernel,by decide +kernel⟩
def zdW (K:PySem.W.Frag):SpD:=spB 3 3 (zeA K)
theorem zhq (T:Tu fac fns zcb PG_.main.file zcF tabs eqs gts prs sqs nos isl w K mg):Fd PG_ w K mg base 4 (He.ga K "_law_chosen") (zdW K):=by
 obtain ⟨fd,F⟩:=T.df 19 (d:=zfp)
 have bi:Binds K fd ["_law_state_here", "_law_rows_here", "_law_many_here"] []:=FunD.bindsN F fun _ _ _ _ _ _ us hl=>match us,hl with | [_,_,_],_=>by kernel_rfl
 refine zaQ (k:=3) F zcB bi rfl rfl fun cdv A outer s H E hr X eX W tk po=>?_
 subst eX
 unfold zeA
 exact (zad (zao (i:=3) (zaR zfF (zaa (zab 1 (pv 1)) zae) fun h1 h2=>pe_callTy h1 rfl (T.free 0) boot_list h2) fun h=>ps_set zcB.nd rfl (by nofun) h)
  (zad (zao (i:=4) (zcm zae) fun h=>ps_set zcB.nd rfl (by nofun) h)
  (zad (zbc po rfl (zbY (zaa (zab 2 (pv 2)) zae) fun h=>pi_range1 rfl (T.free 5) h) (zaJ (pg_name zcB.nd rfl (by nofun)))
  (zah (zaF (zat ziE (zap zaW (zaa (zab 3 (pv 3)) zae) fun h1 h2=>pe_callB h1 rfl (T.free 1) boot_len h2) zaf)
  (zah (zaV (zbv (zab 4 (pv 4)) (zaa (zl5 (zab 3 (pv 3)) (zaa (zay (zak T) (hr.mono (by omega)) tk (T.glo 4) (zaa (zab 0 (pv 0)) (zaa (zap zaW (zaa (zab 3 (pv 3)) zae) fun h1 h2=>pe_callB h1 rfl (T.free 1) boot_len h2) zae))) zae)) zae))))
  zaq)) (fun h1 h2 h3=>ps_for po rfl h1 h2 h3))
  (zah (zar (zab 4 (pv 4)))))))
def ze6 (K:PySem.W.Frag) (rec:SpD) (W:XW):SM:=
 (zav (zaN (zhk zal) (gNm 2)) (zav (zfA (zcw (zac (mCB zcZ (zac (zag 0) zal)) zal)) (gNm 3)
  (zav (zcn (zgP okL zhV (zag 2) (zac (zbW (zac (mOp zbK (zag 1) (zbW (zac (zag 3) zal))) (zac (mOp vIx (zag 0) (zag 3)) zal))) zal))) (mIf (mB (mOp vEq (mOp vIx (mOp vIx (zag 0) (zag 3)) (mC (.int 0))) (mC (.str "if"))))
  (zaN (mOp zbK (mOp zbK (zag 2) (zas rec W (zac (mOp vIx (mOp vIx (zag 0) (zag 3)) (mC (.int 3))) (zac (mOp zbK (zag 1) (zbW (zac (zag 3) (zac (mC (.int 0)) zal)))) zal)))) (zas rec W (zac (mOp vIx (mOp vIx (zag 0) (zag 3)) (mC (.int 4))) (zac (mOp zbK (zag 1) (zbW (zac (zag 3) (zac (mC (.int 1)) zal)))) zal)))) (gNm 2))
  mNx))) (zbg (zag 2))))
theorem zdh:FnScope ["_law_rows_here", "_law_path", "_law_found", "_law_k"] ["_law_rows_here", "_law_path"] (defScope zdb):=⟨rfl,rfl,rfl,by decide +kernel,rfl,by decide +kernel,by decide +kernel⟩
def zcg (K:PySem.W.Frag):Nat->SpD
 | 0=>fun _ _ _ _=>False
 | n+1=>spB 2 2 (ze6 K (zcg K n))
theorem zfR (T:Tu fac fns zcb PG_.main.file zcF tabs eqs gts prs sqs nos isl w K mg):∀ n,Fd PG_ w K mg base (2+n) (He.ga K "_law_paths") (zcg K n):=by
 obtain ⟨fd,F⟩:=T.df 20 (d:=zf1)
 have bi:Binds K fd ["_law_rows_here", "_law_path"] []:=FunD.bindsN F fun _ _ _ _ _ _ us hl=>match us,hl with | [_,_],_=>by kernel_rfl
 intro n
 induction n with
 | zero=>exact zkb bi F.kp
 | succ n RC=>
 refine zaQ (k:=2+n) F zdh bi rfl rfl fun cdv A outer s H E hr X eX W tk po=>?_
 subst eX
 unfold ze6
 exact (zad (zao (i:=2) (zcm zae) fun h=>ps_set zdh.nd rfl (by nofun) h)
  (zad (zbc po rfl (zbY (zaa (zap zaW (zaa (zab 0 (pv 0)) zae) fun h1 h2=>pe_callB h1 rfl (T.free 1) boot_len h2) zae) fun h=>pi_range1 rfl (T.free 5) h) (zaJ (pg_name zdh.nd rfl (by nofun)))
  (zad (zaV (zbv (zab 2 (pv 2)) (zaa (zaC (zaa (zaz zaB (zab 1 (pv 1)) (zaC (zaa (zab 3 (pv 3)) zae))) (zaa (zan (hu1 hr) (zab 0 (pv 0)) (zab 3 (pv 3))) zae))) zae)))
  (zah (zaF (zat (zbb (zcN hr)) (zan (hu1 hr) (zan (hu1 hr) (zab 0 (pv 0)) (zab 3 (pv 3))) zaf) zam)
  (zah (zao (i:=2) (zaz zaB (zaz zaB (zab 2 (pv 2)) (zay RC (hr.mono (by omega)) tk (T.glo 33) (zaa (zan (hu1 hr) (zan (hu1 hr) (zab 0 (pv 0)) (zab 3 (pv 3))) zaf) (zaa (zaz zaB (zab 1 (pv 1)) (zaC (zaa (zab 3 (pv 3)) (zaa zaf zae)))) zae)))) (zay RC (hr.mono (by omega)) tk (T.glo 33) (zaa (zan (hu1 hr) (zan (hu1 hr) (zab 0 (pv 0)) (zab 3 (pv 3))) zaf) (zaa (zaz zaB (zab 1 (pv 1)) (zaC (zaa (zab 3 (pv 3)) (zaa zaf zae)))) zae)))) fun h=>ps_set zdh.nd rfl (by nofun) h))
  zaq))) (fun h1 h2 h3=>ps_for po rfl h1 h2 h3))
  (zah (zar (zab 2 (pv 2))))))
def zcX (K:PySem.W.Frag) (W:XW):SM:=
 (zav (zaN (zhk zal) (gNm 1)) (zav (zfA (zcw (zac (mCB zcZ (zac (mOp vIx (zag 0) (mC (.int 2))) zal)) zal)) (gNm 2)
  (zaN (mOp zbK (zag 1) (zas (zcg K 6) W (zac (mOp vIx (mOp vIx (mOp vIx (zag 0) (mC (.int 2))) (zag 2)) (mC (.int 1))) (zac (zbW (zac (mC (.str "derived")) (zac (zag 2) zal))) zal)))) (gNm 1))) (zav (zfA (zcw (zac (mCB zcZ (zac (mOp vIx (zag 0) (mC (.int 3))) zal)) zal)) (gNm 2)
  (zaN (mOp zbK (zag 1) (zas (zcg K 6) W (zac (mOp vIx (mOp vIx (mOp vIx (zag 0) (mC (.int 3))) (zag 2)) (mC (.int 1))) (zac (zbW (zac (mC (.str "effects")) (zac (zag 2) zal))) zal)))) (gNm 1))) (zbg (zag 1)))))
theorem za0:FnScope ["_law_parts_here", "_law_found", "_law_k"] ["_law_parts_here"] (defScope zbM):=⟨rfl,rfl,rfl,by decide +kernel,rfl,by decide +kernel,by decide +kernel⟩
def zbQ (K:PySem.W.Frag):SpD:=spB 1 2 (zcX K)
theorem zd6 (T:Tu fac fns zcb PG_.main.file zcF tabs eqs gts prs sqs nos isl w K mg):Fd PG_ w K mg base 10 (He.ga K "_law_all_paths") (zbQ K):=by
 obtain ⟨fd,F⟩:=T.df 21 (d:=zec)
 have bi:Binds K fd ["_law_parts_here"] []:=FunD.bindsN F fun _ _ _ _ _ _ us hl=>match us,hl with | [_],_=>by kernel_rfl
 refine zaQ (k:=9) F za0 bi rfl rfl fun cdv A outer s H E hr X eX W tk po=>?_
 subst eX
 unfold zcX
 exact (zad (zao (i:=1) (zcm zae) fun h=>ps_set za0.nd rfl (by nofun) h)
  (zad (zbc po rfl (zbY (zaa (zap zaW (zaa (zan (hu1 hr) (zab 0 (pv 0)) zaf) zae) fun h1 h2=>pe_callB h1 rfl (T.free 1) boot_len h2) zae) fun h=>pi_range1 rfl (T.free 5) h) (zaJ (pg_name za0.nd rfl (by nofun)))
  (zah (zao (i:=1) (zaz zaB (zab 1 (pv 1)) (zay (zfR T 6) (hr.mono (by omega)) tk (T.glo 33) (zaa (zan (hu1 hr) (zan (hu1 hr) (zan (hu1 hr) (zab 0 (pv 0)) zaf) (zab 2 (pv 2))) zaf) (zaa (zaC (zaa zam (zaa (zab 2 (pv 2)) zae))) zae)))) fun h=>ps_set za0.nd rfl (by nofun) h)) (fun h1 h2 h3=>ps_for po rfl h1 h2 h3))
  (zad (zbc po rfl (zbY (zaa (zap zaW (zaa (zan (hu1 hr) (zab 0 (pv 0)) zaf) zae) fun h1 h2=>pe_callB h1 rfl (T.free 1) boot_len h2) zae) fun h=>pi_range1 rfl (T.free 5) h) (zaJ (pg_name za0.nd rfl (by nofun)))
  (zah (zao (i:=1) (zaz zaB (zab 1 (pv 1)) (zay (zfR T 6) (hr.mono (by omega)) tk (T.glo 33) (zaa (zan (hu1 hr) (zan (hu1 hr) (zan (hu1 hr) (zab 0 (pv 0)) zaf) (zab 2 (pv 2))) zaf) (zaa (zaC (zaa zam (zaa (zab 2 (pv 2)) zae))) zae)))) fun h=>ps_set za0.nd rfl (by nofun) h)) (fun h1 h2 h3=>ps_for po rfl h1 h2 h3))
  (zah (zar (zab 1 (pv 1)))))))
def zcW (K:PySem.W.Frag) (W:XW):SM:=
 (zav (zaN (zas (zbQ K) W (zac (zag 1) zal)) (gNm 2)) (zav (zaN (zas (zaj K) W (zac (zag 0) (zac (mC (.int 8)) zal))) (gNm 3)) (zav (mIf (mOr (mB (mOp vEq (zag 3) (mC (.int 0)))) (mB (mOp vEq (mCB zcZ (zac (zag 2) zal)) (mC (.int 0)))))
  (zbg (mOp vIx (zbW (zac (mC .non) (zac (zbW zal) (zac (mC (.str "peek")) (zac (zhk zal) (zac (zbW (zac (mC (.str "early")) (zac (zbW zal) zal))) (zac (zbW (zac (mC (.str "early")) (zac (zbW (zac (mC (.str "derived")) (zac (mC (.int 9)) (zac (mC (.int 0)) zal)))) zal))) zal))))))) (zas (zaj K) W (zac (zag 0) (zac (mC (.int 6)) zal)))))
  mNx) (zav (zaN (mOp vIx (zag 2) (zas (zaj K) W (zac (zag 0) (zac (mCB zcZ (zac (zag 2) zal)) zal)))) (gNm 4)) (zav (zaN (mOp vIx (zbW (zac (mC (.str "peek")) (zac (mC (.str "early")) zal))) (zas (zaj K) W (zac (zag 0) (zac (mC (.int 2)) zal)))) (gNm 5)) (zav (mIf (mB (mOp vEq (zag 3) (mC (.int 1))))
  (zbg (zbW (zac (mC (.str "read")) (zac (mOp vIx (zag 4) (mC (.int 0))) zal))))
  mNx) (zav (mIf (mB (mOp vEq (zag 3) (mC (.int 2))))
  (zbg (zbW (zac (zag 5) (zac (mCB zfN (zac (mOp vIx (zag 4) (mC (.int 0))) zal)) zal))))
  mNx) (zav (mIf (mB (mOp vEq (zag 3) (mC (.int 3))))
  (zbg (zbW (zac (zag 5) (zac (mSl (mOp vIx (zag 4) (mC (.int 0))) ziH (mP (mC (.int 2)))) zal))))
  mNx) (zav (mIf (mB (mOp vEq (zag 3) (mC (.int 4))))
  (zbg (zhk (zac (zag 5) (zac (mOp vIx (zag 4) (mC (.int 0))) zal))))
  mNx) (zav (mIf (mB (mOp vEq (zag 3) (mC (.int 5))))
  (zbg (zbW (zac (zag 5) (zac (mOp vIx (zag 4) (mC (.int 0))) (zac (mC (.int 0)) zal)))))
  mNx) (zav (mIf (mB (mOp vEq (zag 3) (mC (.int 6))))
  (zbg (zbW (zac (zag 5) (zac (mOp zbK (mOp vIx (zag 4) (mC (.int 0))) (zbW (zac (mC (.int 0)) zal))) zal))))
  mNx) (zbg (zbW (zac (zag 5) (zac (mOp zbK (mSl (mOp vIx (zag 4) (mC (.int 0))) ziH (mP (zpi (mC (.int 1))))) (zbW (zac (zoI (mB (mOp vEq (mOp vIx (mOp vIx (zag 4) (mC (.int 0))) (zpi (mC (.int 1)))) (mC (.int 1)))) (mC (.bl true)) (zoI (mB (mOp vEq (mOp vIx (mOp vIx (zag 4) (mC (.int 0))) (zpi (mC (.int 1)))) (mC (.int 0)))) (mC (.bl false)) (zpi (mC (.int 1))))) zal))) zal)))))))))))))))
theorem zbi:FnScope ["_law_state_here", "_law_parts_here", "_law_found", "_law_kind", "_law_pair", "_law_word"] ["_law_state_here", "_law_parts_here"] (defScope zbL):=⟨rfl,rfl,rfl,by decide +kernel,rfl,by decide +kernel,by decide +kernel⟩
def zct (K:PySem.W.Frag):SpD:=spB 2 4 (zcW K)
theorem zga (T:Tu fac fns zcb PG_.main.file zcF tabs eqs gts prs sqs nos isl w K mg):Fd PG_ w K mg base 12 (He.ga K "_law_no_change") (zct K):=by
 obtain ⟨fd,F⟩:=T.df 22 (d:=zeb)
 have bi:Binds K fd ["_law_state_here", "_law_parts_here"] []:=FunD.bindsN F fun _ _ _ _ _ _ us hl=>match us,hl with | [_,_],_=>by kernel_rfl
 refine zaQ (k:=11) F zbi bi rfl rfl fun cdv A outer s H E hr X eX W tk po=>?_
 subst eX
 unfold zcW
 exact (zad (zao (i:=2) (zay (zd6 T) (hr.mono (by omega)) tk (T.glo 34) (zaa (zab 1 (pv 1)) zae)) fun h=>ps_set zbi.nd rfl (by nofun) h)
  (zad (zao (i:=3) (zay (zak T) (hr.mono (by omega)) tk (T.glo 4) (zaa (zab 0 (pv 0)) (zaa zaf zae))) fun h=>ps_set zbi.nd rfl (by nofun) h)
  (zad (zaF (MW.mt (zcU (zat (zbb (zcN hr)) (zab 3 (pv 3)) zaf) (zb9 (zat (zbb (zcN hr)) (zap zaW (zaa (zab 2 (pv 2)) zae) fun h1 h2=>pe_callB h1 rfl (T.free 1) boot_len h2) zaf))))
  (zah (zar (zan (hu1 hr) (zaC (zaa zhB (zaa (zaC zae) (zaa zam (zaa (zcm zae) (zaa (zaC (zaa zam (zaa (zaC zae) zae))) (zaa (zaC (zaa zam (zaa (zaC (zaa zam (zaa zaf (zaa zaf zae)))) zae))) zae))))))) (zay (zak T) (hr.mono (by omega)) tk (T.glo 4) (zaa (zab 0 (pv 0)) (zaa zaf zae))))))
  zaq)
  (zad (zao (i:=4) (zan (hu1 hr) (zab 2 (pv 2)) (zay (zak T) (hr.mono (by omega)) tk (T.glo 4) (zaa (zab 0 (pv 0)) (zaa (zap zaW (zaa (zab 2 (pv 2)) zae) fun h1 h2=>pe_callB h1 rfl (T.free 1) boot_len h2) zae)))) fun h=>ps_set zbi.nd rfl (by nofun) h)
  (zad (zao (i:=5) (zan (hu1 hr) (zaC (zaa zam (zaa zam zae))) (zay (zak T) (hr.mono (by omega)) tk (T.glo 4) (zaa (zab 0 (pv 0)) (zaa zaf zae)))) fun h=>ps_set zbi.nd rfl (by nofun) h)
  (zad (zaF (zat (zbb (zcN hr)) (zab 3 (pv 3)) zaf)
  (zah (zar (zaC (zaa zam (zaa (zan (hu1 hr) (zab 4 (pv 4)) zaf) zae)))))
  zaq)
  (zad (zaF (zat (zbb (zcN hr)) (zab 3 (pv 3)) zaf)
  (zah (zar (zaC (zaa (zab 5 (pv 5)) (zaa (zaR zfF (zaa (zan (hu1 hr) (zab 4 (pv 4)) zaf) zae) fun h1 h2=>pe_callTy h1 rfl (T.free 0) boot_list h2) zae)))))
  zaq)
  (zad (zaF (zat (zbb (zcN hr)) (zab 3 (pv 3)) zaf)
  (zah (zar (zaC (zaa (zab 5 (pv 5)) (zaa (zfV (zan (hu1 hr) (zab 4 (pv 4)) zaf) zcl (zck zaf)) zae)))))
  zaq)
  (zad (zaF (zat (zbb (zcN hr)) (zab 3 (pv 3)) zaf)
  (zah (zar (zcm (zaa (zab 5 (pv 5)) (zaa (zan (hu1 hr) (zab 4 (pv 4)) zaf) zae)))))
  zaq)
  (zad (zaF (zat (zbb (zcN hr)) (zab 3 (pv 3)) zaf)
  (zah (zar (zaC (zaa (zab 5 (pv 5)) (zaa (zan (hu1 hr) (zab 4 (pv 4)) zaf) (zaa zaf zae))))))
  zaq)
  (zad (zaF (zat (zbb (zcN hr)) (zab 3 (pv 3)) zaf)
  (zah (zar (zaC (zaa (zab 5 (pv 5)) (zaa (zaz zaB (zan (hu1 hr) (zab 4 (pv 4)) zaf) (zaC (zaa zaf zae))) zae)))))
  zaq)
  (zah (zar (zaC (zaa (zab 5 (pv 5)) (zaa (zaz zaB (zfV (zan (hu1 hr) (zab 4 (pv 4)) zaf) zcl (zck (zjB zaf))) (zaC (zaa (zl7 (zat (zbb (zcN hr)) (zan (hu1 hr) (zan (hu1 hr) (zab 4 (pv 4)) zaf) (zjB zaf)) zaf) zbV (zl7 (zat (zbb (zcN hr)) (zan (hu1 hr) (zan (hu1 hr) (zab 4 (pv 4)) zaf) (zjB zaf)) zaf) zbV (zjB zaf))) zae))) zae))))))))))))))))
def zd1 (K:PySem.W.Frag) (W:XW):SM:=
 (zav (zaN (zhk zal) (gNm 1)) (zav (zfA (ziV (zas (zbQ K) W (zac (zag 0) zal))) (gNm 2)
  (mIf (mB (mOp vEq (mOp vIx (mOp vIx (zag 2) (mC (.int 1))) (mC (.int 0))) (mC (.str "read"))))
  (zav (mIf (mB (mOp vEq (mOp vIx (mOp vIx (zag 2) (mC (.int 0))) (mC (.int 0))) (mC (.str "effects"))))
  (zcn (zgP okL zhV (zag 1) (zac (zbW (zac (mC (.str "peek")) (zac (mOp vIx (zag 2) (mC (.int 0))) zal))) zal)))
  mNx) (zcn (zgP okL zhV (zag 1) (zac (zbW (zac (mC (.str "early")) (zac (mOp vIx (zag 2) (mC (.int 0))) zal))) zal))))
  mNx)) (zbg (zag 1))))
theorem zdo:FnScope ["_law_parts_here", "_law_found", "_law_pair"] ["_law_parts_here"] (defScope zce):=⟨rfl,rfl,rfl,by decide +kernel,rfl,by decide +kernel,by decide +kernel⟩
def zbI (K:PySem.W.Frag):SpD:=spB 1 2 (zd1 K)
theorem zds (T:Tu fac fns zcb PG_.main.file zcF tabs eqs gts prs sqs nos isl w K mg):Fd PG_ w K mg base 12 (He.ga K "_law_changes") (zbI K):=by
 obtain ⟨fd,F⟩:=T.df 23 (d:=ze2)
 have bi:Binds K fd ["_law_parts_here"] []:=FunD.bindsN F fun _ _ _ _ _ _ us hl=>match us,hl with | [_],_=>by kernel_rfl
 refine zaQ (k:=11) F zdo bi rfl rfl fun cdv A outer s H E hr X eX W tk po=>?_
 subst eX
 unfold zd1
 exact (zad (zao (i:=1) (zcm zae) fun h=>ps_set zdo.nd rfl (by nofun) h)
  (zad (zbc po rfl (zeV (zay (zd6 T) (hr.mono (by omega)) tk (T.glo 34) (zaa (zab 0 (pv 0)) zae))) (zaJ (pg_name zdo.nd rfl (by nofun)))
  (zah (zaF (zat (zbb (zcN hr)) (zan (hu1 hr) (zan (hu1 hr) (zab 2 (pv 2)) zaf) zaf) zam)
  (zad (zaF (zat (zbb (zcN hr)) (zan (hu1 hr) (zan (hu1 hr) (zab 2 (pv 2)) zaf) zaf) zam)
  (zah (zaV (zbv (zab 1 (pv 1)) (zaa (zaC (zaa zam (zaa (zan (hu1 hr) (zab 2 (pv 2)) zaf) zae))) zae))))
  zaq)
  (zah (zaV (zbv (zab 1 (pv 1)) (zaa (zaC (zaa zam (zaa (zan (hu1 hr) (zab 2 (pv 2)) zaf) zae))) zae)))))
  zaq)) (fun h1 h2 h3=>ps_for po rfl h1 h2 h3))
  (zah (zar (zab 1 (pv 1))))))
def zgh (K:PySem.W.Frag) (rec:SpD) (W:XW):SM:=
 (zav (zaN (zhk zal) (gNm 2)) (zav (zfA (zfm (zac (zag 0) zal)) (gT 2 (gC (gNm 3) (gC (gNm 4) gN)))
  (zav (zaN (mOp zbK (zag 1) (zbW (zac (zag 3) zal))) (gNm 5)) (zav (zcn (zgP okL zhV (zag 2) (zac (zag 5) zal))) (mIf (mB (mOp vEq (mOp vIx (zag 4) (mC (.int 0))) (mC (.str "if"))))
  (zav (zcn (zgP okL zlq (zag 2) (zac (zas rec W (zac (mOp vIx (zag 4) (mC (.int 3))) (zac (mOp zbK (zag 5) (zbW (zac (mC (.int 0)) zal))) zal))) zal))) (zcn (zgP okL zlq (zag 2) (zac (zas rec W (zac (mOp vIx (zag 4) (mC (.int 4))) (zac (mOp zbK (zag 5) (zbW (zac (mC (.int 1)) zal))) zal))) zal))))
  mNx)))) (zbg (zag 2))))
theorem zdn:FnScope ["rows", "path", "found", "place", "row", "here"] ["rows", "path"] (defScope zeh):=⟨rfl,rfl,rfl,by decide +kernel,rfl,by decide +kernel,by decide +kernel⟩
def zdl (K:PySem.W.Frag):Nat->SpD
 | 0=>fun _ _ _ _=>False
 | n+1=>spB 2 4 (zgh K (zdl K n))
theorem zg0 (T:Tu fac fns zcb PG_.main.file zcF tabs eqs gts prs sqs nos isl w K mg):∀ n,Fd PG_ w K mg base (2+n) (He.ga K "paths_of") (zdl K n):=by
 obtain ⟨fd,F⟩:=T.df 24 (d:=zhc)
 have bi:Binds K fd ["rows", "path"] []:=FunD.bindsN F fun _ _ _ _ _ _ us hl=>match us,hl with | [_,_],_=>by kernel_rfl
 intro n
 induction n with
 | zero=>exact zkb bi F.kp
 | succ n RC=>
 refine zaQ (k:=2+n) F zdn bi rfl rfl fun cdv A outer s H E hr X eX W tk po=>?_
 subst eX
 unfold zgh
 exact (zad (zao (i:=2) (zcm zae) fun h=>ps_set zdn.nd rfl (by nofun) h)
  (zad (zbc po rfl (zfy (zaa (zab 0 (pv 0)) zae) (T.free 21)) (zg7 rfl (zbE (zaJ (pg_name zdn.nd rfl (by nofun))) (zbE (zaJ (pg_name zdn.nd rfl (by nofun))) zfz)))
  (zad (zao (i:=5) (zaz zaB (zab 1 (pv 1)) (zaC (zaa (zab 3 (pv 3)) zae))) fun h=>ps_set zdn.nd rfl (by nofun) h)
  (zad (zaV (zbv (zab 2 (pv 2)) (zaa (zab 5 (pv 5)) zae)))
  (zah (zaF (zat (zbb (zcN hr)) (zan (hu1 hr) (zab 4 (pv 4)) zaf) zam)
  (zad (zaV (zfW (zab 2 (pv 2)) (zaa (zay RC (hr.mono (by omega)) tk (T.glo 35) (zaa (zan (hu1 hr) (zab 4 (pv 4)) zaf) (zaa (zaz zaB (zab 5 (pv 5)) (zaC (zaa zaf zae))) zae))) zae)))
  (zah (zaV (zfW (zab 2 (pv 2)) (zaa (zay RC (hr.mono (by omega)) tk (T.glo 35) (zaa (zan (hu1 hr) (zab 4 (pv 4)) zaf) (zaa (zaz zaB (zab 5 (pv 5)) (zaC (zaa zaf zae))) zae))) zae)))))
  zaq)))) (fun h1 h2 h3=>ps_for po rfl h1 h2 h3))
  (zah (zar (zab 2 (pv 2))))))
def zb6 (K:PySem.W.Frag) (W:XW):SM:=
 (zav (zaN (zhk zal) (gNm 1)) (zav (zfA (zfm (zac (zj4 K (zag 0) "derived") zal)) (gT 2 (gC (gNm 2) (gC (gNm 3) gN)))
  (zcn (zgP okL zlq (zag 1) (zac (zas (zdl K 6) W (zac (mOp vIx (zag 3) (mC (.int 1))) (zac (zbW (zac (mC (.str "derived")) (zac (zag 2) zal))) zal))) zal)))) (zav (zfA (zfm (zac (zj4 K (zag 0) "effects") zal)) (gT 2 (gC (gNm 2) (gC (gNm 3) gN)))
  (zcn (zgP okL zlq (zag 1) (zac (zas (zdl K 6) W (zac (mOp vIx (zag 3) (mC (.int 1))) (zac (zbW (zac (mC (.str "effects")) (zac (zag 2) zal))) zal))) zal)))) (zbg (zag 1)))))
theorem zaO:FnScope ["self", "found", "index", "pair"] ["self"] (defScope zbd):=⟨rfl,rfl,rfl,by decide +kernel,rfl,by decide +kernel,by decide +kernel⟩
def zbT (K:PySem.W.Frag):SpD:=spB 1 3 (zb6 K)
theorem zfj (T:Tu fac fns zcb PG_.main.file zcF tabs eqs gts prs sqs nos isl w K mg):Fd PG_ w K mg base 10 (He.ma K (He.ga K "Program") "row_paths") (zbT K):=by
 obtain ⟨fd,F⟩:=T.df 25 (d:=zc4)
 have bi:Binds K fd ["self"] []:=FunD.bindsN F fun _ _ _ _ _ _ us hl=>match us,hl with | [_],_=>by kernel_rfl
 refine zaQ (k:=9) F zaO bi rfl rfl fun cdv A outer s H E hr X eX W tk po=>?_
 subst eX
 unfold zb6
 exact (zad (zao (i:=1) (zcm zae) fun h=>ps_set zaO.nd rfl (by nofun) h)
  (zad (zbc po rfl (zfy (zaa (zfl (zab 0 (pv 0))) zae) (T.free 21)) (zg7 rfl (zbE (zaJ (pg_name zaO.nd rfl (by nofun))) (zbE (zaJ (pg_name zaO.nd rfl (by nofun))) zfz)))
  (zah (zaV (zfW (zab 1 (pv 1)) (zaa (zay (zg0 T 6) (hr.mono (by omega)) tk (T.glo 35) (zaa (zan (hu1 hr) (zab 3 (pv 3)) zaf) (zaa (zaC (zaa zam (zaa (zab 2 (pv 2)) zae))) zae))) zae)))) (fun h1 h2 h3=>ps_for po rfl h1 h2 h3))
  (zad (zbc po rfl (zfy (zaa (zfl (zab 0 (pv 0))) zae) (T.free 21)) (zg7 rfl (zbE (zaJ (pg_name zaO.nd rfl (by nofun))) (zbE (zaJ (pg_name zaO.nd rfl (by nofun))) zfz)))
  (zah (zaV (zfW (zab 1 (pv 1)) (zaa (zay (zg0 T 6) (hr.mono (by omega)) tk (T.glo 35) (zaa (zan (hu1 hr) (zab 3 (pv 3)) zaf) (zaa (zaC (zaa zam (zaa (zab 2 (pv 2)) zae))) zae))) zae)))) (fun h1 h2 h3=>ps_for po rfl h1 h2 h3))
  (zah (zar (zab 1 (pv 1)))))))
def zcM (K:PySem.W.Frag) (W:XW):SM:=
 (zbg (zg9 (mCB zfM (zac (zag 0) (zac (mC (.ty "int")) zal))) (zmb (mCB zfM (zac (zag 0) (zac (mC (.ty "bool")) zal))))))
theorem zhN:FnScope ["value"] ["value"] (defScope zc8):=⟨rfl,rfl,rfl,by decide +kernel,rfl,by decide +kernel,by decide +kernel⟩
def zcf (K:PySem.W.Frag):SpD:=spB 1 0 (zcM K)
theorem zh0 (T:Tu fac fns zcb PG_.main.file zcF tabs eqs gts prs sqs nos isl w K mg):Fd PG_ w K mg base 2 (He.ga K "is_integer") (zcf K):=by
 obtain ⟨fd,F⟩:=T.df 26 (d:=zfY)
 have bi:Binds K fd ["value"] []:=FunD.bindsN F fun _ _ _ _ _ _ us hl=>match us,hl with | [_],_=>by kernel_rfl
 refine zaQ (k:=1) F zhN bi rfl rfl fun cdv A outer s H E hr X eX W tk po=>?_
 subst eX
 unfold zcM
 exact (zah (zar (zgs (zap zbZ (zaa (zab 0 (pv 0)) (zaa (zdY (T.free 3) boot_int) zae)) fun h1 h2=>pe_callB h1 rfl (T.free 13) boot_isinstance h2) (zgr (zrs (zap zbZ (zaa (zab 0 (pv 0)) (zaa (zdY (T.free 36) boot_bool) zae)) fun h1 h2=>pe_callB h1 rfl (T.free 13) boot_isinstance h2))))))
def zbF (K:PySem.W.Frag) (W:XW):SM:=
 (zav (mIf (mOr (zeX (zev (mCB zfM (zac (zag 1) (zac (mC (.ty "tuple")) zal))))) (mOr (mB (mOp vLt (mCB zcZ (zac (zag 1) zal)) (mC (.int 3)))) (zeX (zev (mCB zfM (zac (mOp vIx (zag 1) (mC (.int 0))) (zac (mC (.ty "str")) zal)))))))
  (zbg (mC (.bl false)))
  mNx) (zav (zfA (ziV (mSl (zag 1) (mP (mC (.int 1))) ziH)) (gNm 2)
  (mIf (zeX (zev (zas (zcf K) W (zac (zag 2) zal))))
  (zbg (mC (.bl false)))
  mNx)) (zbg (mOp vIn (zag 1) (zew (He.ga K "Program") "row_paths" (zbT K) W (zag 0) zal)))))
theorem zdp:FnScope ["self", "path", "place"] ["self", "path"] (defScope zbk):=⟨rfl,rfl,rfl,by decide +kernel,rfl,by decide +kernel,by decide +kernel⟩
def zbn (K:PySem.W.Frag):SpD:=spB 2 1 (zbF K)
theorem zfu (T:Tu fac fns zcb PG_.main.file zcF tabs eqs gts prs sqs nos isl w K mg):Fd PG_ w K mg base 12 (He.ma K (He.ga K "Program") "has_path") (zbn K):=by
 obtain ⟨fd,F⟩:=T.df 27 (d:=zdv)
 have bi:Binds K fd ["self", "path"] []:=FunD.bindsN F fun _ _ _ _ _ _ us hl=>match us,hl with | [_,_],_=>by kernel_rfl
 refine zaQ (k:=11) F zdp bi rfl rfl fun cdv A outer s H E hr X eX W tk po=>?_
 subst eX
 unfold zbF
 exact (zad (zaF (MW.mt (zcU (zaZ (zaY (zap zbZ (zaa (zab 1 (pv 1)) (zaa (zdY (T.free 9) boot_tuple) zae)) fun h1 h2=>pe_callB h1 rfl (T.free 13) boot_isinstance h2))) (zcU (zat zkQ (zap zaW (zaa (zab 1 (pv 1)) zae) fun h1 h2=>pe_callB h1 rfl (T.free 1) boot_len h2) zaf) (zb9 (zaZ (zaY (zap zbZ (zaa (zan (hu1 hr) (zab 1 (pv 1)) zaf) (zaa (zdY (T.free 12) boot_str) zae)) fun h1 h2=>pe_callB h1 rfl (T.free 13) boot_isinstance h2)))))))
  (zah (zar zbV))
  zaq)
  (zad (zbc po rfl (zeV (zfV (zab 1 (pv 1)) (zck zaf) zcl)) (zaJ (pg_name zdp.nd rfl (by nofun)))
  (zah (zaF (zaZ (zaY (zay (zh0 T) (hr.mono (by omega)) tk (T.glo 37) (zaa (zab 2 (pv 2)) zae))))
  (zah (zar zbV))
  zaq)) (fun h1 h2 h3=>ps_for po rfl h1 h2 h3))
  (zah (zar (zd8 (zg4 (ziP hr)) (zab 1 (pv 1)) (zrt (zab 0 (pv 0)) (T.cls 38) (T.meth 39) (zfj T) (hr.mono (by omega)) tk))))))
def zb2 (K:PySem.W.Frag) (W:XW):SM:=
 (zav (mIf (zeX (zev (zew (He.ga K "Program") "has_path" (zbn K) W (zag 0) (zac (zag 1) zal))))
  (zhC (He.ga K "InvalidPath") "path" W (zac (zag 1) zal))
  mNx) (zav (zaN (zoI (mB (mOp vEq (mOp vIx (zag 1) (mC (.int 0))) (mC (.str "derived")))) (zj4 K (zag 0) "derived") (zj4 K (zag 0) "effects")) (gNm 2)) (zav (zaN (mOp vIx (mOp vIx (zag 2) (mOp vIx (zag 1) (mC (.int 1)))) (mC (.int 1))) (gNm 3)) (zav (zaN (mOp vIx (zag 3) (mOp vIx (zag 1) (mC (.int 2)))) (gNm 4)) (zav (zfA (zie (zac (mC (.int 3)) (zac (mCB zcZ (zac (zag 1) zal)) (zac (mC (.int 2)) zal)))) (gNm 5)
  (zaN (mOp vIx (mOp vIx (zag 4) (mOp zbK (mC (.int 3)) (mOp vIx (zag 1) (zag 5)))) (mOp vIx (zag 1) (mOp zbK (zag 5) (mC (.int 1))))) (gNm 4))) (zbg (zag 4)))))))
theorem za1:FnScope ["self", "path", "pairs", "rows", "row", "step"] ["self", "path"] (defScope zbN):=⟨rfl,rfl,rfl,by decide +kernel,rfl,by decide +kernel,by decide +kernel⟩
def zbR (K:PySem.W.Frag):SpD:=spB 2 4 (zb2 K)
theorem zgb (T:Tu fac fns zcb PG_.main.file zcF tabs eqs gts prs sqs nos isl w K mg):Fd PG_ w K mg base 14 (He.ma K (He.ga K "Program") "row_at") (zbR K):=by
 obtain ⟨fd,F⟩:=T.df 28 (d:=zed)
 have bi:Binds K fd ["self", "path"] []:=FunD.bindsN F fun _ _ _ _ _ _ us hl=>match us,hl with | [_,_],_=>by kernel_rfl
 refine zaQ (k:=13) F za1 bi rfl rfl fun cdv A outer s H E hr X eX W tk po=>?_
 subst eX
 unfold zb2
 exact (zad (zaF (zaZ (zaY (zht (zab 0 (pv 0)) (T.cls 38) (T.meth 40) (zfu T) (hr.mono (by omega)) tk (zaa (zab 1 (pv 1)) zae))))
  (zah (zgO rfl tk (hr.mono (by omega)) (zhv T) (zaa (zab 1 (pv 1)) zae)))
  zaq)
  (zad (zao (i:=2) (zl7 (zat (zbb (zcN hr)) (zan (hu1 hr) (zab 1 (pv 1)) zaf) zam) (zfl (zab 0 (pv 0))) (zfl (zab 0 (pv 0)))) fun h=>ps_set za1.nd rfl (by nofun) h)
  (zad (zao (i:=3) (zan (hu1 hr) (zan (hu1 hr) (zab 2 (pv 2)) (zan (hu1 hr) (zab 1 (pv 1)) zaf)) zaf) fun h=>ps_set za1.nd rfl (by nofun) h)
  (zad (zao (i:=4) (zan (hu1 hr) (zab 3 (pv 3)) (zan (hu1 hr) (zab 1 (pv 1)) zaf)) fun h=>ps_set za1.nd rfl (by nofun) h)
  (zad (zbc po rfl (zkX (zaa zaf (zaa (zap zaW (zaa (zab 1 (pv 1)) zae) fun h1 h2=>pe_callB h1 rfl (T.free 1) boot_len h2) (zaa zaf zae))) fun h=>pi_range3 rfl (T.free 5) h) (zaJ (pg_name za1.nd rfl (by nofun)))
  (zah (zao (i:=4) (zan (hu1 hr) (zan (hu1 hr) (zab 4 (pv 4)) (zaz zaB zaf (zan (hu1 hr) (zab 1 (pv 1)) (zab 5 (pv 5))))) (zan (hu1 hr) (zab 1 (pv 1)) (zaz zaB (zab 5 (pv 5)) zaf))) fun h=>ps_set za1.nd rfl (by nofun) h)) (fun h1 h2 h3=>ps_for po rfl h1 h2 h3))
  (zah (zar (zab 4 (pv 4)))))))))
def zey (K:PySem.W.Frag) (W:XW):SM:=
 (zav (mIf (mOr (zeX (zev (mCB zfM (zac (zag 1) (zac (mC (.ty "tuple")) zal))))) (mOr (mB (mOp vNe (mCB zcZ (zac (zag 1) zal)) (mC (.int 2)))) (zeX (zev (mCB zfM (zac (mOp vIx (zag 1) (mC (.int 0))) (zac (mC (.ty "str")) zal)))))))
  (zbg (mC (.bl false)))
  mNx) (zav (zma K (fun W1=>(zaN (zew (He.ga K "Program") "row_at" (zbR K) W1 (zag 0) (zac (mOp vIx (zag 1) (mC (.int 1))) zal)) (gNm 2))) (He.ga K "InvalidPath") (fun a cls fs=>(zbg (mC (.bl false)))) W) (zav (mIf (mB (mOp vNe (mOp vIx (zag 2) (mC (.int 0))) (mC (.str "read"))))
  (zbg (mC (.bl false)))
  mNx) (zbg (zsk (mOp vEq (mOp vIx (zag 1) (mC (.int 0))) (mC (.str "early"))) (zg9 (mOp vEq (mOp vIx (zag 1) (mC (.int 0))) (mC (.str "peek"))) (mOp vEq (mOp vIx (mOp vIx (zag 1) (mC (.int 1))) (mC (.int 0))) (mC (.str "effects")))))))))
theorem zgj:FnScope ["program", "value", "row"] ["program", "value"] (defScope zdA):=⟨rfl,rfl,rfl,by decide +kernel,rfl,by decide +kernel,by decide +kernel⟩
def zdH (K:PySem.W.Frag):SpD:=spB 2 1 (zey K)
theorem ziA (T:Tu fac fns zcb PG_.main.file zcF tabs eqs gts prs sqs nos isl w K mg):Fd PG_ w K mg base 16 (He.ga K "is_change") (zdH K):=by
 obtain ⟨fd,F⟩:=T.df 29 (d:=zgx)
 have bi:Binds K fd ["program", "value"] []:=FunD.bindsN F fun _ _ _ _ _ _ us hl=>match us,hl with | [_,_],_=>by kernel_rfl
 refine zaQ (k:=15) F zgj bi rfl rfl fun cdv A outer s H E hr X eX W tk po=>?_
 subst eX
 unfold zey
 exact (zad (zaF (MW.mt (zcU (zaZ (zaY (zap zbZ (zaa (zab 1 (pv 1)) (zaa (zdY (T.free 9) boot_tuple) zae)) fun h1 h2=>pe_callB h1 rfl (T.free 13) boot_isinstance h2))) (zcU (zat (ziD (zcN hr)) (zap zaW (zaa (zab 1 (pv 1)) zae) fun h1 h2=>pe_callB h1 rfl (T.free 1) boot_len h2) zaf) (zb9 (zaZ (zaY (zap zbZ (zaa (zan (hu1 hr) (zab 1 (pv 1)) zaf) (zaa (zdY (T.free 12) boot_str) zae)) fun h1 h2=>pe_callB h1 rfl (T.free 13) boot_isinstance h2)))))))
  (zah (zar zbV))
  zaq)
  (zad (zot rfl rfl ⟨rfl,by decide,.inl (T.glo 42)⟩ tk (fun B2 W1 pn xe tk po=>(zah (zao (i:=2) (zht (zab 0 (pv 0)) (T.cls 38) (T.meth 41) (zgb T) (hr.mono (by omega)) tk (zaa (zan (hu1 hr) (zab 1 (pv 1)) zaf) zae)) fun h=>ps_set zgj.nd rfl (by nofun) h))) (fun a oe cls d pn hz hf fs B2 xd=>(zah (zar zbV))))
  (zad (zaF (zat (ziD (zcN hr)) (zan (hu1 hr) (zab 2 (pv 2)) zaf) zam)
  (zah (zar zbV))
  zaq)
  (zah (zar (zul (zd8 (zbb (zcN hr)) (zan (hu1 hr) (zab 1 (pv 1)) zaf) zam) (zgr (zgs (zd8 (zbb (zcN hr)) (zan (hu1 hr) (zab 1 (pv 1)) zaf) zam) (zgr (zd8 (zbb (zcN hr)) (zan (hu1 hr) (zan (hu1 hr) (zab 1 (pv 1)) zaf) zaf) zam))))))))))
def zdy (K:PySem.W.Frag) (W:XW):SM:=
 (zfA (zfm (zac (zag 1) zal)) (gT 2 (gC (gNm 3) (gC (gNm 4) gN)))
  (mIf (mOr (mB (mOp vGe (zag 3) (zag 2))) (mOr (zeX (zev (zas (zdH K) W (zac (zag 0) (zac (zag 4) zal))))) (mB (mOp vIn (zag 4) (mSl (zag 1) ziH (mP (zag 3)))))))
  (zhC (He.ga K "InvalidChange") "index" W (zac (zag 3) zal))
  mNx))
theorem zcP:FnScope ["program", "changes", "greatest", "index", "change"] ["program", "changes", "greatest"] (defScope zb0):=⟨rfl,rfl,rfl,by decide +kernel,rfl,by decide +kernel,by decide +kernel⟩
def zcO (K:PySem.W.Frag):SpD:=spB 3 2 (zdy K)
theorem zgK (T:Tu fac fns zcb PG_.main.file zcF tabs eqs gts prs sqs nos isl w K mg):Fd PG_ w K mg base 18 (He.ga K "check_changes") (zcO K):=by
 obtain ⟨fd,F⟩:=T.df 30 (d:=zeE)
 have bi:Binds K fd ["program", "changes", "greatest"] []:=FunD.bindsN F fun _ _ _ _ _ _ us hl=>match us,hl with | [_,_,_],_=>by kernel_rfl
 refine zaQ (k:=17) F zcP bi rfl rfl fun cdv A outer s H E hr X eX W tk po=>?_
 subst eX
 unfold zdy
 exact (zah (zbc po rfl (zfy (zaa (zab 1 (pv 1)) zae) (T.free 21)) (zg7 rfl (zbE (zaJ (pg_name zcP.nd rfl (by nofun))) (zbE (zaJ (pg_name zcP.nd rfl (by nofun))) zfz)))
  (zah (zaF (MW.mt (zcU (zat zkR (zab 3 (pv 3)) (zab 2 (pv 2))) (zcU (zaZ (zaY (zay (ziA T) (hr.mono (by omega)) tk (T.glo 43) (zaa (zab 0 (pv 0)) (zaa (zab 4 (pv 4)) zae))))) (zb9 (zat (zg4 (ziP hr)) (zab 4 (pv 4)) (zfV (zab 1 (pv 1)) zcl (zck (zab 3 (pv 3)))))))))
  (zah (zgO rfl tk (hr.mono (by omega)) (zcV T) (zaa (zab 3 (pv 3)) zae)))
  zaq)) (fun h1 h2 h3=>ps_for po rfl h1 h2 h3)))
def zez (K:PySem.W.Frag) (W:XW):SM:=
 (zav (mIf (mOr (zev (mCB zfM (zac (zag 0) (zac (mC (.ty "bool")) zal)))) (zeX (zev (mCB zfM (zac (zag 0) (zac (mC (.ty "int")) zal))))))
  mNo
  mNx) (mIf (mOr (mB (mOp vLt (zag 0) (mC (.int 1)))) (mB (mOp vGt (zag 0) (zag 1))))
  mNo
  mNx))
theorem zhm:FnScope ["value", "greatest"] ["value", "greatest"] (defScope zcy):=⟨rfl,rfl,rfl,by decide +kernel,rfl,by decide +kernel,by decide +kernel⟩
def zbx (K:PySem.W.Frag):SpD:=spB 2 0 (zez K)
theorem zcD (T:Tu fac fns zcb PG_.main.file zcF tabs eqs gts prs sqs nos isl w K mg):Fd PG_ w K mg base 2 (He.ga K "check_bound") (zbx K):=by
 obtain ⟨fd,F⟩:=T.df 31 (d:=zfo)
 have bi:Binds K fd ["value", "greatest"] []:=FunD.bindsN F fun _ _ _ _ _ _ us hl=>match us,hl with | [_,_],_=>by kernel_rfl
 refine zaQ (k:=1) F zhm bi rfl rfl fun cdv A outer s H E hr X eX W tk po=>?_
 subst eX
 unfold zez
 exact (zad (zaF (MW.mt (zcU (zaY (zap zbZ (zaa (zab 0 (pv 0)) (zaa (zdY (T.free 36) boot_bool) zae)) fun h1 h2=>pe_callB h1 rfl (T.free 13) boot_isinstance h2)) (zb9 (zaZ (zaY (zap zbZ (zaa (zab 0 (pv 0)) (zaa (zdY (T.free 3) boot_int) zae)) fun h1 h2=>pe_callB h1 rfl (T.free 13) boot_isinstance h2))))))
  (zah zeu)
  zaq)
  (zah (zaF (MW.mt (zcU (zat zkQ (zab 0 (pv 0)) zaf) (zb9 (zat ziE (zab 0 (pv 0)) (zab 1 (pv 1))))))
  (zah zeu)
  zaq)))
def zij (K:PySem.W.Frag) (W:XW):SM:=
 (zav (zcn (zas (zbx K) W (zac (zag 5) (zac (mC (.int 2000)) zal)))) (zav (zcn (zas (zbx K) W (zac (zag 6) (zac (mC (.int 10000)) zal)))) (zav (mIf (mB (zia ["mixed", "through", "twice", "needless", "missed", "long"] (fun b=>!b) (zag 2)))
  (zhC (He.ga K "InvalidKind") "kind" W (zac (zag 2) zal))
  mNx) (zav (zcn (zas (zcO K) W (zac (zag 0) (zac (zag 3) (zac (mC (.int 8)) zal))))) (zav mNo (zav mNo (zav mNo mNo)))))))
theorem zlD:FnScope ["program", "rule", "kind", "candidates", "batches", "most", "limit", "search", "size", "found", "row", "changes", "at"] ["program", "rule", "kind", "candidates", "batches", "most", "limit"] (defScope zgL):=⟨rfl,rfl,rfl,by decide +kernel,rfl,by decide +kernel,by decide +kernel⟩
def zgM (K:PySem.W.Frag):SpD:=spB 7 6 (zij K)
theorem zj2 (T:Tu fac fns zcb PG_.main.file zcF tabs eqs gts prs sqs nos isl w K mg):FdL PG_ w K mg base 20 (He.ga K "heals") (zgM K) 4 ["limit"] (fun ds ws=>ds++weave [false,false,true] [.bl true,.int 200] ws):=by
 obtain ⟨fd,F⟩:=T.df 32 (d:=zgQ)
 refine zkO (k:=19) (ps:=["program", "rule", "kind", "candidates", "batches", "most", "limit"]) F zlD ["limit"] [("batches", .bl true),("most", .int 200)] [.bl true,.int 200] [false,false,true] (by simp [zgQ,He.DefD.kws]) (by simp [zgQ,He.DefD.kws,He.Dv.v]) (fun H=>(.cons (.bl _) (.cons (.int _) DVs.nil))) (fun D doc pm an cdv ct us mv ws l1 l2 l3=>match us,mv,ws,l1,l2,l3 with | [_,_,_,_],[_,_],[_],_,_,_=>⟨_,_,_,_,_,_,rfl,rfl,⟨_,_,_,_,_,_,rfl,rfl,rfl⟩⟩) rfl rfl fun cdv A outer s H E hr X eX W tk po=>?_
 subst eX
 unfold zij
 exact (zad (zaV (zay (zcD T) (hr.mono (by omega)) tk (T.glo 44) (zaa (zab 5 (pv 5)) (zaa zaf zae))))
  (zad (zaV (zay (zcD T) (hr.mono (by omega)) tk (T.glo 44) (zaa (zab 6 (pv 6)) (zaa zaf zae))))
  (zad (zaF (zfd (ziP hr) (T.gt 0 (x := "KINDS")) (T.glo 45) (zab 2 (pv 2)))
  (zah (zgO rfl tk (hr.mono (by omega)) (zby T) (zaa (zab 2 (pv 2)) zae)))
  zaq)
  (zad (zaV (zay (zgK T) (hr.mono (by omega)) tk (T.glo 47) (zaa (zab 0 (pv 0)) (zaa (zab 3 (pv 3)) (zaa (zjb (T.int 46)) zae)))))
  (zad zeu
  (zad zeu
  (zad zeu
  (zah zeu))))))))
def ze3 (K:PySem.W.Frag) (W:XW):SM:=
 (zav (zcn (zas (zbx K) W (zac (zag 3) (zac (mC (.int 2000)) zal)))) (zav (zcn (zas (zbx K) W (zac (zag 4) (zac (mC (.int 10000)) zal)))) (zav (zfA (ziV (zag 1)) (gNm 5)
  (mIf (mB (zia ["mixed", "through", "twice", "needless", "missed", "long"] (fun b=>!b) (zag 5)))
  (zhC (He.ga K "InvalidKind") "kind" W (zac (zag 5) zal))
  mNx)) (zav mNo (zav mNo mNo)))))
theorem zfO:FnScope ["program", "kinds", "batches", "most", "limit", "kind", "found", "rule", "book"] ["program", "kinds", "batches", "most", "limit"] (defScope zc7):=⟨rfl,rfl,rfl,by decide +kernel,rfl,by decide +kernel,by decide +kernel⟩
def zej (K:PySem.W.Frag):SpD:=spB 5 4 (ze3 K)
theorem zg2 (T:Tu fac fns zcb PG_.main.file zcF tabs eqs gts prs sqs nos isl w K mg):FdL PG_ w K mg base 4 (He.ga K "rules_free") (zej K) 2 ["limit"] (fun ds ws=>ds++weave [false,false,true] [.bl true,.int 200] ws):=by
 obtain ⟨fd,F⟩:=T.df 33 (d:=zdi)
 refine zkO (k:=3) (ps:=["program", "kinds", "batches", "most", "limit"]) F zfO ["limit"] [("batches", .bl true),("most", .int 200)] [.bl true,.int 200] [false,false,true] (by simp [zdi,He.DefD.kws]) (by simp [zdi,He.DefD.kws,He.Dv.v]) (fun H=>(.cons (.bl _) (.cons (.int _) DVs.nil))) (fun D doc pm an cdv ct us mv ws l1 l2 l3=>match us,mv,ws,l1,l2,l3 with | [_,_],[_,_],[_],_,_,_=>⟨_,_,_,_,_,_,rfl,rfl,⟨_,_,_,_,_,_,rfl,rfl,rfl⟩⟩) rfl rfl fun cdv A outer s H E hr X eX W tk po=>?_
 subst eX
 unfold ze3
 exact (zad (zaV (zay (zcD T) (hr.mono (by omega)) tk (T.glo 44) (zaa (zab 3 (pv 3)) (zaa zaf zae))))
  (zad (zaV (zay (zcD T) (hr.mono (by omega)) tk (T.glo 44) (zaa (zab 4 (pv 4)) (zaa zaf zae))))
  (zad (zbc po rfl (zeV (zab 1 (pv 1))) (zaJ (pg_name zfO.nd rfl (by nofun)))
  (zah (zaF (zfd (ziP hr) (T.gt 0 (x := "KINDS")) (T.glo 45) (zab 5 (pv 5)))
  (zah (zgO rfl tk (hr.mono (by omega)) (zby T) (zaa (zab 5 (pv 5)) zae)))
  zaq)) (fun h1 h2 h3=>ps_for po rfl h1 h2 h3))
  (zad zeu
  (zad zeu
  (zah zeu))))))
def zeB (K:PySem.W.Frag) (W:XW):SM:=
 (zav (mIf (mOr (zeX (zev (mCB zfM (zac (zag 1) (zac (mC (.ty "str")) zal))))) (mB (zia ["push", "pull", "level"] (fun b=>!b) (zag 1))))
  mNo
  mNx) (zav (mIf (zeX (zev (mCB zfM (zac (zag 2) (zac (mC (.ty "bool")) zal)))))
  mNo
  mNx) (zav (mIf (mOr (zeX (zev (mCB zfM (zac (zag 3) (zac (mC (.ty "str")) zal))))) (mB (zia ["once", "later"] (fun b=>!b) (zag 3))))
  mNo
  mNx) (zav (zfX K (zag 0) (zag 1) "mode") (zav (zfX K (zag 0) (zag 2) "cut") (zfX K (zag 0) (zag 3) "inner"))))))
theorem zhn:FnScope ["self", "mode", "cut", "inner"] ["self", "mode", "cut", "inner"] (defScope zcA):=⟨rfl,rfl,rfl,by decide +kernel,rfl,by decide +kernel,by decide +kernel⟩
def zfk (K:PySem.W.Frag):SpD:=spB 4 0 (zeB K)
theorem zhr (T:Tu fac fns zcb PG_.main.file zcF tabs eqs gts prs sqs nos isl w K mg):Fd PG_ w K mg base 2 (He.ma K (He.ga K "Rule") "__init__") (zfk K):=by
 obtain ⟨fd,F⟩:=T.df 34 (d:=zfq)
 have bi:Binds K fd ["self", "mode", "cut", "inner"] []:=FunD.bindsN F fun _ _ _ _ _ _ us hl=>match us,hl with | [_,_,_,_],_=>by kernel_rfl
 refine zaQ (k:=1) F zhn bi rfl rfl fun cdv A outer s H E hr X eX W tk po=>?_
 subst eX
 unfold zeB
 exact (zad (zaF (MW.mt (zcU (zaZ (zaY (zap zbZ (zaa (zab 1 (pv 1)) (zaa (zdY (T.free 12) boot_str) zae)) fun h1 h2=>pe_callB h1 rfl (T.free 13) boot_isinstance h2))) (zb9 (zfd (ziP hr) (T.gt 1 (x := "MODES")) (T.glo 48) (zab 1 (pv 1))))))
  (zah zeu)
  zaq)
  (zad (zaF (zaZ (zaY (zap zbZ (zaa (zab 2 (pv 2)) (zaa (zdY (T.free 36) boot_bool) zae)) fun h1 h2=>pe_callB h1 rfl (T.free 13) boot_isinstance h2)))
  (zah zeu)
  zaq)
  (zad (zaF (MW.mt (zcU (zaZ (zaY (zap zbZ (zaa (zab 3 (pv 3)) (zaa (zdY (T.free 12) boot_str) zae)) fun h1 h2=>pe_callB h1 rfl (T.free 13) boot_isinstance h2))) (zb9 (zfd (ziP hr) (T.gt 2 (x := "INNERS")) (T.glo 49) (zab 3 (pv 3))))))
  (zah zeu)
  zaq)
  (zad (zeT (zab 0 (pv 0)) (zab 1 (pv 1)))
  (zad (zeT (zab 0 (pv 0)) (zab 2 (pv 2)))
  (zah (zeT (zab 0 (pv 0)) (zab 3 (pv 3)))))))))
def zfI (K:PySem.W.Frag) (W:XW):SM:=
 (zav (zaN (mOp vIx (zbW (zac (mC (.str "push")) (zac (mC (.str "pull")) (zac (mC (.str "level")) zal)))) (zas (zaj K) W (zac (zag 0) (zac (mC (.int 3)) zal)))) (gNm 1)) (zav (zaN (mOp vEq (zas (zaj K) W (zac (zag 0) (zac (mC (.int 2)) zal))) (mC (.int 1))) (gNm 2)) (zav (zaN (mOp vIx (zbW (zac (mC (.str "once")) (zac (mC (.str "later")) zal))) (zas (zaj K) W (zac (zag 0) (zac (mC (.int 2)) zal)))) (gNm 3)) (zbg (ziI (He.ga K "Rule") (zfk K) W (zac (zag 1) (zac (zag 2) (zac (zag 3) zal))))))))
theorem zdK:FnScope ["_law_state_here", "_law_mode", "_law_cut", "_law_inner"] ["_law_state_here"] (defScope zdD):=⟨rfl,rfl,rfl,by decide +kernel,rfl,by decide +kernel,by decide +kernel⟩
def zeI (K:PySem.W.Frag):SpD:=spB 1 3 (zfI K)
theorem ziC (T:Tu fac fns zcb PG_.main.file zcF tabs eqs gts prs sqs nos isl w K mg):Fd PG_ w K mg base 4 (He.ga K "_law_rule") (zeI K):=by
 obtain ⟨fd,F⟩:=T.df 35 (d:=zgA)
 have bi:Binds K fd ["_law_state_here"] []:=FunD.bindsN F fun _ _ _ _ _ _ us hl=>match us,hl with | [_],_=>by kernel_rfl
 refine zaQ (k:=3) F zdK bi rfl rfl fun cdv A outer s H E hr X eX W tk po=>?_
 subst eX
 unfold zfI
 exact (zad (zao (i:=1) (zan (hu1 hr) (zaC (zaa zam (zaa zam (zaa zam zae)))) (zay (zak T) (hr.mono (by omega)) tk (T.glo 4) (zaa (zab 0 (pv 0)) (zaa zaf zae)))) fun h=>ps_set zdK.nd rfl (by nofun) h)
  (zad (zao (i:=2) (zd8 (zbb (zcN hr)) (zay (zak T) (hr.mono (by omega)) tk (T.glo 4) (zaa (zab 0 (pv 0)) (zaa zaf zae))) zaf) fun h=>ps_set zdK.nd rfl (by nofun) h)
  (zad (zao (i:=3) (zan (hu1 hr) (zaC (zaa zam (zaa zam zae))) (zay (zak T) (hr.mono (by omega)) tk (T.glo 4) (zaa (zab 0 (pv 0)) (zaa zaf zae)))) fun h=>ps_set zdK.nd rfl (by nofun) h)
  (zah (zar (zh7 (T.mkr 50) (zhr T) (hr.mono (by omega)) tk (T.glo 51) (zaa (zab 1 (pv 1)) (zaa (zab 2 (pv 2)) (zaa (zab 3 (pv 3)) zae)))))))))
def ze9 (K:PySem.W.Frag) (W:XW):SM:=
 (zbg (zhk (zac (mC (.str "mixed")) (zac (mC (.str "through")) (zac (mC (.str "twice")) (zac (mC (.str "needless")) (zac (mC (.str "missed")) (zac (mC (.str "long")) zal))))))))
theorem zhP:FnScope [] [] (defScope zde):=⟨rfl,rfl,rfl,by decide +kernel,rfl,by decide +kernel,by decide +kernel⟩
def zen (K:PySem.W.Frag):SpD:=spB 0 0 (ze9 K)
theorem zh4 (T:Tu fac fns zcb PG_.main.file zcF tabs eqs gts prs sqs nos isl w K mg):Fd PG_ w K mg base 2 (He.ga K "_law_kinds") (zen K):=by
 obtain ⟨fd,F⟩:=T.df 36 (d:=zf4)
 have bi:Binds K fd [] []:=FunD.bindsN F fun _ _ _ _ _ _ us hl=>match us,hl with | [],_=>by kernel_rfl
 refine zaQ (k:=1) F zhP bi rfl rfl fun cdv A outer s H E hr X eX W tk po=>?_
 subst eX
 unfold ze9
 exact (zah (zar (zcm (zaa zam (zaa zam (zaa zam (zaa zam (zaa zam (zaa zam zae)))))))))
def zcG (K:PySem.W.Frag) (W:XW):SM:=
 (zav (zaN (zbW (zac (mC (.str "none")) (zac (mC .non) zal))) (gNm 4)) (zav (zsj K (fun W2=>(zaN (zbW (zac (mC (.str "told")) (zac (ziJ (zgM K) W2 4 1 (fun ds ws=>ds++weave [false,false,true] [.bl true,.int 200] ws) (zac (zag 0) (zac (zag 1) (zac (zag 2) (zac (zag 3) zal)))) (zac (mC (.int 1)) zal)) zal))) (gNm 4))) [⟨He.ga K "InvalidKind", 5,fun a cls fs=>(zaN (zbW (zac (mC (.str "kind")) (zac (mXf 5 (He.ga K "InvalidKind") a cls fs "kind") zal))) (gNm 4))⟩,⟨He.ga K "InvalidChange", 5,fun a cls fs=>(zaN (zbW (zac (mC (.str "change")) (zac (mXf 5 (He.ga K "InvalidChange") a cls fs "index") zal))) (gNm 4))⟩] W) (zbg (zag 4))))
theorem zbh:FnScope ["_law_program_here", "_law_rule_here", "_law_kind", "_law_handed", "_law_told", "e"] ["_law_program_here", "_law_rule_here", "_law_kind", "_law_handed"] (defScope zcc):=⟨rfl,rfl,rfl,by decide +kernel,rfl,by decide +kernel,by decide +kernel⟩
def zbH (K:PySem.W.Frag):SpD:=spB 4 2 (zcG K)
theorem zeR (T:Tu fac fns zcb PG_.main.file zcF tabs eqs gts prs sqs nos isl w K mg):Fd PG_ w K mg base 22 (He.ga K "_law_refused") (zbH K):=by
 obtain ⟨fd,F⟩:=T.df 37 (d:=ze0)
 have bi:Binds K fd ["_law_program_here", "_law_rule_here", "_law_kind", "_law_handed"] []:=FunD.bindsN F fun _ _ _ _ _ _ us hl=>match us,hl with | [_,_,_,_],_=>by kernel_rfl
 refine zaQ (k:=21) F zbh bi rfl rfl fun cdv A outer s H E hr X eX W tk po=>?_
 subst eX
 unfold zcG
 exact (zad (zao (i:=4) (zaC (zaa zam (zaa zhB zae))) fun h=>ps_set zbh.nd rfl (by nofun) h)
  (zad (zmU rfl rfl zbh.nd tk (fun B2 W2 pn xe tk po=>(zah (zao (i:=4) (zaC (zaa zam (zaa (zmZ (zj2 T) (hr.mono (by omega)) tk (T.glo 52) (zaa (zab 0 (pv 0)) (zaa (zab 1 (pv 1)) (zaa (zab 2 (pv 2)) (zaa (zab 3 (pv 3)) zae)))) (zkW zaf zmY)) zae))) fun h=>ps_set zbh.nd rfl (by nofun) h))) (.cons rfl rfl ⟨rfl,by decide,.inl (T.glo 53)⟩ (fun a oe cls d pn hz hf fs B2 xd=>(zah (zao (i:=4) (zaC (zaa zam (zaa (zoE (zby (w:=w) (base:=base) T).xf (zby (w:=w) (base:=base) T).hno hz hf xd (zab 5 (pv 5))) zae))) fun h=>ps_set zbh.nd rfl (by nofun) h))) (.cons rfl rfl ⟨rfl,by decide,.inl (T.glo 54)⟩ (fun a oe cls d pn hz hf fs B2 xd=>(zah (zao (i:=4) (zaC (zaa zam (zaa (zoE (zcV (w:=w) (base:=base) T).xf (zcV (w:=w) (base:=base) T).hno hz hf xd (zab 5 (pv 5))) zae))) fun h=>ps_set zbh.nd rfl (by nofun) h))) .nil)))
  (zah (zar (zab 4 (pv 4))))))
def zcp (K:PySem.W.Frag) (W:XW):SM:=
 (zav (zaN (zas (zbI K) W (zac (zag 0) zal)) (gNm 2)) (zav (zfA (zcw (zac (mCB zcZ (zac (zag 1) zal)) zal)) (gNm 3)
  (mIf (mOr (mB (mOp vGt (zag 3) (mC (.int 7)))) (mOr (mB (mOp zkl (mOp vIx (zag 1) (zag 3)) (zag 2))) (mB (mOp vIn (mOp vIx (zag 1) (zag 3)) (mSl (zag 1) ziH (mP (zag 3)))))))
  (zbg (zag 3))
  mNx)) (zbg (mCB zcZ (zac (zag 1) zal)))))
theorem zb5:FnScope ["_law_parts_here", "_law_handed", "_law_right", "_law_k"] ["_law_parts_here", "_law_handed"] (defScope zbj):=⟨rfl,rfl,rfl,by decide +kernel,rfl,by decide +kernel,by decide +kernel⟩
def zb3 (K:PySem.W.Frag):SpD:=spB 2 2 (zcp K)
theorem zft (T:Tu fac fns zcb PG_.main.file zcF tabs eqs gts prs sqs nos isl w K mg):Fd PG_ w K mg base 14 (He.ga K "_law_first_wrong") (zb3 K):=by
 obtain ⟨fd,F⟩:=T.df 38 (d:=zdu)
 have bi:Binds K fd ["_law_parts_here", "_law_handed"] []:=FunD.bindsN F fun _ _ _ _ _ _ us hl=>match us,hl with | [_,_],_=>by kernel_rfl
 refine zaQ (k:=13) F zb5 bi rfl rfl fun cdv A outer s H E hr X eX W tk po=>?_
 subst eX
 unfold zcp
 exact (zad (zao (i:=2) (zay (zds T) (hr.mono (by omega)) tk (T.glo 55) (zaa (zab 0 (pv 0)) zae)) fun h=>ps_set zb5.nd rfl (by nofun) h)
  (zad (zbc po rfl (zbY (zaa (zap zaW (zaa (zab 1 (pv 1)) zae) fun h1 h2=>pe_callB h1 rfl (T.free 1) boot_len h2) zae) fun h=>pi_range1 rfl (T.free 5) h) (zaJ (pg_name zb5.nd rfl (by nofun)))
  (zah (zaF (MW.mt (zcU (zat ziE (zab 3 (pv 3)) zaf) (zcU (zat (zjr (ziP hr)) (zan (hu1 hr) (zab 1 (pv 1)) (zab 3 (pv 3))) (zab 2 (pv 2))) (zb9 (zat (zg4 (ziP hr)) (zan (hu1 hr) (zab 1 (pv 1)) (zab 3 (pv 3))) (zfV (zab 1 (pv 1)) zcl (zck (zab 3 (pv 3)))))))))
  (zah (zar (zab 3 (pv 3))))
  zaq)) (fun h1 h2 h3=>ps_for po rfl h1 h2 h3))
  (zah (zar (zap zaW (zaa (zab 1 (pv 1)) zae) fun h1 h2=>pe_callB h1 rfl (T.free 1) boot_len h2)))))
def zbX (K:PySem.W.Frag) (W:XW):SM:=
 (zav (zaN (mC .non) (gNm 2)) (zav (zsj K (fun W3=>(zcn (ziJ (zej K) W3 2 1 (fun ds ws=>ds++weave [false,false,true] [.bl true,.int 200] ws) (zac (zag 0) (zac (zag 1) zal)) (zac (mC (.int 1)) zal)))) [⟨He.ga K "InvalidKind", 3,fun a cls fs=>(zaN (mXf 3 (He.ga K "InvalidKind") a cls fs "kind") (gNm 2))⟩] W) (zbg (zag 2))))
theorem zba:FnScope ["_law_program_here", "_law_kinds_here", "_law_told", "e"] ["_law_program_here", "_law_kinds_here"] (defScope za7):=⟨rfl,rfl,rfl,by decide +kernel,rfl,by decide +kernel,by decide +kernel⟩
def zbG (K:PySem.W.Frag):SpD:=spB 2 2 (zbX K)
theorem zeQ (T:Tu fac fns zcb PG_.main.file zcF tabs eqs gts prs sqs nos isl w K mg):Fd PG_ w K mg base 6 (He.ga K "_law_rules_refused") (zbG K):=by
 obtain ⟨fd,F⟩:=T.df 39 (d:=zcJ)
 have bi:Binds K fd ["_law_program_here", "_law_kinds_here"] []:=FunD.bindsN F fun _ _ _ _ _ _ us hl=>match us,hl with | [_,_],_=>by kernel_rfl
 refine zaQ (k:=5) F zba bi rfl rfl fun cdv A outer s H E hr X eX W tk po=>?_
 subst eX
 unfold zbX
 exact (zad (zao (i:=2) zhB fun h=>ps_set zba.nd rfl (by nofun) h)
  (zad (zmU rfl rfl zba.nd tk (fun B2 W3 pn xe tk po=>(zah (zaV (zmZ (zg2 T) (hr.mono (by omega)) tk (T.glo 56) (zaa (zab 0 (pv 0)) (zaa (zab 1 (pv 1)) zae)) (zkW zaf zmY))))) (.cons rfl rfl ⟨rfl,by decide,.inl (T.glo 53)⟩ (fun a oe cls d pn hz hf fs B2 xd=>(zah (zao (i:=2) (zoE (zby (w:=w) (base:=base) T).xf (zby (w:=w) (base:=base) T).hno hz hf xd (zab 3 (pv 3))) fun h=>ps_set zba.nd rfl (by nofun) h))) .nil))
  (zah (zar (zab 2 (pv 2))))))
def zpc (K:PySem.W.Frag) (W:XW):SM:=
 (zav (zaN (zas (zek K) W (zac (zag 0) zal)) (gNm 1)) (zav (zaN (zas (zeI K) W (zac (zag 1) zal)) (gNm 2)) (zav (zaN (zas (zaj K) W (zac (zag 1) (zac (mC (.int 2)) zal))) (gNm 3)) (zav (zaN (zas (zaj K) W (zac (zag 1) (zac (mC (.int 13)) zal))) (gNm 4)) (zav (zaN (zas (zen K) W zal) (gNm 5)) (zav (zaN (mOp vIx (zag 5) (zas (zaj K) W (zac (zag 1) (zac (mC (.int 6)) zal)))) (gNm 6)) (zav (zaN (mOp zbK (mOp vIx (zag 5) (zas (zaj K) W (zac (zag 1) (zac (mC (.int 6)) zal)))) (mC (.str "s"))) (gNm 7)) (zav (zaN (zas (zem K) W (zac (zag 1) (zac (zbW (zac (mC (.int 2)) (zac (mC (.int 2)) (zac (mC (.int 2)) (zac (mC (.int 3)) (zac (mC (.int 12)) zal)))))) (zac (mC (.bl true)) (zac (mC (.bl true)) zal))))) (gNm 8)) (zav (zaN (zas (zdm K) W (zac (zag 8) zal)) (gNm 9)) (zav (zaN (zas (zdW K) W (zac (zag 1) (zac (zas (zbI K) W (zac (zag 8) zal)) (zac (zag 4) zal)))) (gNm 10)) (zav (zaN (zas (zaj K) W (zac (zag 1) (zac (mOp zbK (mCB zcZ (zac (zag 10) zal)) (mC (.int 1))) zal))) (gNm 11)) (zav (mIf (mOr (mB (mOp vEq (zag 3) (mC (.int 0)))) (mB (mOp vEq (mCB zcZ (zac (zag 10) zal)) (mC (.int 0)))))
  (zav (zaN (zas (zct K) W (zac (zag 1) (zac (zag 8) zal))) (gNm 12)) (zav (mIf (mB (mOp vIn (zag 12) (zas (zbI K) W (zac (zag 8) zal))))
  (zbg (mC (.bl true)))
  mNx) (zaN (mOp zbK (mOp zbK (mSl (zag 10) ziH (mP (zag 11))) (zhk (zac (zag 12) zal))) (mSl (zag 10) (mP (zag 11)) ziH)) (gNm 10))))
  (zaN (mOp zbK (mOp zbK (mSl (zag 10) ziH (mP (zag 11))) (zhk (zac (mOp vIx (zag 10) (zas (zaj K) W (zac (zag 1) (zac (mCB zcZ (zac (zag 10) zal)) zal)))) zal))) (mSl (zag 10) (mP (zag 11)) ziH)) (gNm 10))) (zav (mIf (mB (mOp vNe (zas (zbH K) W (zac (zag 9) (zac (zag 2) (zac (zag 7) (zac (zag 10) zal))))) (zbW (zac (mC (.str "kind")) (zac (zag 7) zal)))))
  (zbg (mC (.bl false)))
  mNx) (zav (mIf (mB (mOp vNe (zas (zbH K) W (zac (zag 9) (zac (zag 2) (zac (zag 6) (zac (mCB zfN (zac (zag 10) zal)) zal))))) (zbW (zac (mC (.str "change")) (zac (zas (zb3 K) W (zac (zag 8) (zac (zag 10) zal))) zal)))))
  (zbg (mC (.bl false)))
  mNx) (zav (zaN (zas (zaj K) W (zac (zag 1) (zac (mC (.int 7)) zal))) (gNm 13)) (zbg (mOp vEq (zas (zbG K) W (zac (zag 9) (zac (mOp zbK (mOp zbK (mSl (zag 5) ziH (mP (zag 13))) (zhk (zac (zag 7) (zac (mC (.str "other")) zal)))) (mSl (zag 5) (mP (zag 13)) ziH)) zal))) (zag 7))))))))))))))))))
theorem zc0:FnScope ["_law_script", "_law_state_here", "_law_rule_here", "_law_spoil", "_law_many_here", "_law_kinds_here", "_law_kind", "_law_wrong_kind", "_law_parts_here", "_law_program_here", "_law_handed", "_law_at", "_law_wrong", "_law_place"] ["_law_script"] (defScope zjk):=⟨rfl,rfl,rfl,by decide +kernel,rfl,by decide +kernel,by decide +kernel⟩
def sp_law (K:PySem.W.Frag):SpD:=spB 1 13 (zpc K)
theorem zr4 (T:Tu fac fns zcb PG_.main.file zcF tabs eqs gts prs sqs nos isl w K mg) {fd:FuncData} (F:FunD K zfn.name zfn.qual zfn.params zfn.body zfn.scope (zfn.dvs K) (zfn.kws K) (He.fAd K zfn.at_) fd) :
  FnOk PG_ w K mg base (L2.CX PG_ w) 24 (He.ga K "law") fd ["_law_script"] (zil K PG_ w (sp_law K)):=by
 refine zom (k:=23) F zc0 rfl rfl fun cdv A outer s H E hr X eX W tk po=>?_
 subst eX
 unfold zpc
 exact (zad (zao (i:=1) (zay (zh2 T) (hr.mono (by omega)) tk (T.glo 57) (zaa (zab 0 (pv 0)) zae)) fun h=>ps_set zc0.nd rfl (by nofun) h)
  (zad (zao (i:=2) (zay (ziC T) (hr.mono (by omega)) tk (T.glo 58) (zaa (zab 1 (pv 1)) zae)) fun h=>ps_set zc0.nd rfl (by nofun) h)
  (zad (zao (i:=3) (zay (zak T) (hr.mono (by omega)) tk (T.glo 4) (zaa (zab 1 (pv 1)) (zaa zaf zae))) fun h=>ps_set zc0.nd rfl (by nofun) h)
  (zad (zao (i:=4) (zay (zak T) (hr.mono (by omega)) tk (T.glo 4) (zaa (zab 1 (pv 1)) (zaa zaf zae))) fun h=>ps_set zc0.nd rfl (by nofun) h)
  (zad (zao (i:=5) (zru (zh4 T) (hr.mono (by omega)) tk (T.glo 59)) fun h=>ps_set zc0.nd rfl (by nofun) h)
  (zad (zao (i:=6) (zan (hu1 hr) (zab 5 (pv 5)) (zay (zak T) (hr.mono (by omega)) tk (T.glo 4) (zaa (zab 1 (pv 1)) (zaa zaf zae)))) fun h=>ps_set zc0.nd rfl (by nofun) h)
  (zad (zao (i:=7) (zaz zaB (zan (hu1 hr) (zab 5 (pv 5)) (zay (zak T) (hr.mono (by omega)) tk (T.glo 4) (zaa (zab 1 (pv 1)) (zaa zaf zae)))) zam) fun h=>ps_set zc0.nd rfl (by nofun) h)
  (zad (zao (i:=8) (zay (zh3 T) (hr.mono (by omega)) tk (T.glo 60) (zaa (zab 1 (pv 1)) (zaa (zaC (zaa zaf (zaa zaf (zaa zaf (zaa zaf (zaa zaf zae)))))) (zaa zbV (zaa zbV zae))))) fun h=>ps_set zc0.nd rfl (by nofun) h)
  (zad (zao (i:=9) (zay (zg1 T) (hr.mono (by omega)) tk (T.glo 61) (zaa (zab 8 (pv 8)) zae)) fun h=>ps_set zc0.nd rfl (by nofun) h)
  (zad (zao (i:=10) (zay (zhq T) (hr.mono (by omega)) tk (T.glo 62) (zaa (zab 1 (pv 1)) (zaa (zay (zds T) (hr.mono (by omega)) tk (T.glo 55) (zaa (zab 8 (pv 8)) zae)) (zaa (zab 4 (pv 4)) zae)))) fun h=>ps_set zc0.nd rfl (by nofun) h)
  (zad (zao (i:=11) (zay (zak T) (hr.mono (by omega)) tk (T.glo 4) (zaa (zab 1 (pv 1)) (zaa (zaz zaB (zap zaW (zaa (zab 10 (pv 10)) zae) fun h1 h2=>pe_callB h1 rfl (T.free 1) boot_len h2) zaf) zae))) fun h=>ps_set zc0.nd rfl (by nofun) h)
  (zad (zaF (MW.mt (zcU (zat (zbb (zcN hr)) (zab 3 (pv 3)) zaf) (zb9 (zat (zbb (zcN hr)) (zap zaW (zaa (zab 10 (pv 10)) zae) fun h1 h2=>pe_callB h1 rfl (T.free 1) boot_len h2) zaf))))
  (zad (zao (i:=12) (zay (zga T) (hr.mono (by omega)) tk (T.glo 63) (zaa (zab 1 (pv 1)) (zaa (zab 8 (pv 8)) zae))) fun h=>ps_set zc0.nd rfl (by nofun) h)
  (zad (zaF (zat (zg4 (ziP hr)) (zab 12 (pv 12)) (zay (zds T) (hr.mono (by omega)) tk (T.glo 55) (zaa (zab 8 (pv 8)) zae)))
  (zah (zar zbV))
  zaq)
  (zah (zao (i:=10) (zaz zaB (zaz zaB (zfV (zab 10 (pv 10)) zcl (zck (zab 11 (pv 11)))) (zcm (zaa (zab 12 (pv 12)) zae))) (zfV (zab 10 (pv 10)) (zck (zab 11 (pv 11))) zcl)) fun h=>ps_set zc0.nd rfl (by nofun) h))))
  (zah (zao (i:=10) (zaz zaB (zaz zaB (zfV (zab 10 (pv 10)) zcl (zck (zab 11 (pv 11)))) (zcm (zaa (zan (hu1 hr) (zab 10 (pv 10)) (zay (zak T) (hr.mono (by omega)) tk (T.glo 4) (zaa (zab 1 (pv 1)) (zaa (zap zaW (zaa (zab 10 (pv 10)) zae) fun h1 h2=>pe_callB h1 rfl (T.free 1) boot_len h2) zae)))) zae))) (zfV (zab 10 (pv 10)) (zck (zab 11 (pv 11))) zcl)) fun h=>ps_set zc0.nd rfl (by nofun) h)))
  (zad (zaF (zat (ziD (zcN hr)) (zay (zeR T) (hr.mono (by omega)) tk (T.glo 64) (zaa (zab 9 (pv 9)) (zaa (zab 2 (pv 2)) (zaa (zab 7 (pv 7)) (zaa (zab 10 (pv 10)) zae))))) (zaC (zaa zam (zaa (zab 7 (pv 7)) zae))))
  (zah (zar zbV))
  zaq)
  (zad (zaF (zat (ziD (zcN hr)) (zay (zeR T) (hr.mono (by omega)) tk (T.glo 64) (zaa (zab 9 (pv 9)) (zaa (zab 2 (pv 2)) (zaa (zab 6 (pv 6)) (zaa (zaR zfF (zaa (zab 10 (pv 10)) zae) fun h1 h2=>pe_callTy h1 rfl (T.free 0) boot_list h2) zae))))) (zaC (zaa zam (zaa (zay (zft T) (hr.mono (by omega)) tk (T.glo 65) (zaa (zab 8 (pv 8)) (zaa (zab 10 (pv 10)) zae))) zae))))
  (zah (zar zbV))
  zaq)
  (zad (zao (i:=13) (zay (zak T) (hr.mono (by omega)) tk (T.glo 4) (zaa (zab 1 (pv 1)) (zaa zaf zae))) fun h=>ps_set zc0.nd rfl (by nofun) h)
  (zah (zar (zd8 (zbb (zcN hr)) (zay (zeQ T) (hr.mono (by omega)) tk (T.glo 66) (zaa (zab 9 (pv 9)) (zaa (zaz zaB (zaz zaB (zfV (zab 5 (pv 5)) zcl (zck (zab 13 (pv 13)))) (zcm (zaa (zab 7 (pv 7)) (zaa zam zae)))) (zfV (zab 5 (pv 5)) (zck (zab 13 (pv 13))) zcl)) zae))) (zab 7 (pv 7))))))))))))))))))))
theorem facts {h:Heap} {f:Addr} (X:K.In h) (G:h.Ns mainGlobals mg) (hfa:mg ("law" : Str)=some (.ref f)) (c:ziU fac fns zcb PG_.main.file zcF tabs eqs gts prs sqs nos isl K=zjJ fns zcb tabs prs w) :
  Tu fac fns zcb PG_.main.file zcF tabs eqs gts prs sqs nos isl w K mg∧∃ fd:FuncData,(∀ (s:Shared) (v:Value),BindsTo s fd ⟨[v],[]⟩ [("_law_script", v)])∧∀ base:Heap,FnOk PG_ w K mg base (L2.CX PG_ w) 24 f fd ["_law_script"] (zil K PG_ w (sp_law K)):=by
 have T:Tu fac fns zcb PG_.main.file zcF tabs eqs gts prs sqs nos isl w K mg:=Tu.mk' X G c
 obtain ⟨fd,F⟩:=T.df 40 (d:=zfn)
 have e:=hfa.symm.trans (T.glo 83 (x := "law"))
 cases e
 have b:=FunD.bindsA (ps:=["_law_script"]) F fun _ _ _ _ _ _ us hl=>match us,hl with | [_],_=>by kernel_rfl
 exact ⟨T,fd,fun s v=>b s [v] rfl,fun base=>zr4 T F⟩
end
set_option maxHeartbeats 1000000
local macro_rules | `(tactic| walk_at "dx") => `(tactic| (first | ((with_reducible refine zd9 0 ?_); first | ((with_reducible refine znT (env' := ?_) ?_ ?_); rotate_left 1; (first | (simp only [zo5, zo4, zo6, zo3, zo2, zo1, zo0, zoZ, zoY, zoX]; rfl) | rfl)) | ((with_reducible refine zqZ (env' := ?_) ?_ ?_); rotate_left 1; (first | (simp only [zo5, zo4, zo6, zo3, zo2, zo1, zo0, zoZ, zoY, zoX]; rfl) | rfl)) | ((with_reducible refine zlJ (env' := ?_) ?_ ?_); rotate_left 1; (first | (simp only [zo5, zo4, zo6, zo3, zo2, zo1, zo0, zoZ, zoY, zoX]; rfl) | rfl)) | with_reducible refine znS ?_ | with_reducible refine zgJ ?_ | with_reducible refine znQ ?_) | ((with_reducible refine zd9 1 ?_); first | ((with_reducible refine zta (d := ?_) ?_ ?_); rotate_left 1; (first | with_reducible assumption | rfl)) | ((with_reducible refine zqD (C := ?_) (fs := ?_) (d := ?_) ?_ ?_ ?_ ?_); rotate_left 3; (walk_at "dp"); (first | with_reducible assumption | rfl); (first | with_reducible assumption | (apply_assumption)))) | ((with_reducible refine zd9 2 ?_); first | ((with_reducible refine ztJ (d := ?_) ?_ ?_); rotate_left 1; (first | with_reducible assumption | rfl)) | ((with_reducible refine zis (xs := ?_) (d := ?_) ?_ ?_ ?_); rotate_left 2; (walk_at "dp"); (first | with_reducible assumption | rfl)) | ((with_reducible refine ztM (kvs := ?_) (kk := ?_) (d := ?_) ?_ ?_ ?_ ?_); rotate_left 3; (walk_at "dp"); (first | with_reducible assumption | rfl); (first | with_reducible assumption | rfl)) | ((with_reducible refine ztL (d := ?_) ?_ ?_); rotate_left 1; (first | with_reducible assumption | rfl)) | ((with_reducible refine ztK (c := ?_) ?_ ?_); rotate_left 1; (first | with_reducible assumption | rfl))) | ((with_reducible refine zd9 3 ?_); first | ((with_reducible refine zqw (fs := ?_) ?_ ?_ ?_); rotate_left 1; (walk_at "dp"); (first | with_reducible assumption | rfl)) | ((with_reducible refine zp5 (xs := ?_) (j := ?_) ?_ ?_ ?_); rotate_left 2; (walk_at "dp"); (first | with_reducible assumption | rfl)) | ((with_reducible refine s_aug (d := ?_) ?_ ?_); rotate_left 1; (first | with_reducible assumption | rfl)) | ((with_reducible refine zqB (kvs := ?_) ?_ ?_); rotate_left 1; (walk_at "dp")) | ((with_reducible refine zqz (kvs := ?_) (kk := ?_) ?_ ?_ ?_); rotate_left 2; (walk_at "dp"); (first | with_reducible assumption | rfl))) | ((with_reducible refine zd9 4 ?_); first | ((with_reducible refine zp0 (xs := ?_) ?_ ?_); rotate_left 1; (walk_at "dp")) | ((with_reducible refine zp1 (kvs := ?_) ?_ ?_); rotate_left 1; (walk_at "dp")) | ((with_reducible refine zqP (c := ?_) ?_ ?_); rotate_left 1; (first | with_reducible assumption | rfl)) | ((with_reducible refine zqQ (c := ?_) ?_ ?_); rotate_left 1; (first | with_reducible assumption | rfl)) | ((with_reducible refine zqR (xs := ?_) (c := ?_) ?_ ?_ ?_); rotate_left 2; (walk_at "dp"); (first | with_reducible assumption | rfl))) | ((with_reducible refine zd9 5 ?_); first | ((with_reducible refine znH (xs := ?_) ?_ ?_); rotate_left 1; (walk_at "dp")) | ((with_reducible refine zxf ?_ ?_); (first | with_reducible assumption | rfl)) | ((with_reducible refine zqK (xs := ?_) (j := ?_) ?_ ?_ ?_); rotate_left 2; (walk_at "dp"); (first | with_reducible assumption | rfl)) | ((with_reducible refine znB (xs := ?_) ?_ ?_); rotate_left 1; (walk_at "dp")) | with_reducible refine zqJ ?_) | ((with_reducible refine zd9 6 ?_); first | ((with_reducible refine ztn ?_ ?_); (first | assumption | omega | exact .inr ⟨by decide, by decide⟩ | exact .inl ⟨by decide, by decide⟩ | exact .inr ⟨by omega, by omega⟩ | exact .inl ⟨by omega, by omega⟩ | exact ⟨by decide, by decide +kernel⟩ | exact ⟨by decide, by decide, by decide⟩ | exact ⟨by assumption, by assumption⟩)) | ((with_reducible refine zq3 ?_ ?_); (first | assumption | omega | exact .inr ⟨by decide, by decide⟩ | exact .inl ⟨by decide, by decide⟩ | exact .inr ⟨by omega, by omega⟩ | exact .inl ⟨by omega, by omega⟩ | exact ⟨by decide, by decide +kernel⟩ | exact ⟨by decide, by decide, by decide⟩ | exact ⟨by assumption, by assumption⟩)) | ((with_reducible refine zti ?_ ?_); (first | assumption | omega | exact .inr ⟨by decide, by decide⟩ | exact .inl ⟨by decide, by decide⟩ | exact .inr ⟨by omega, by omega⟩ | exact .inl ⟨by omega, by omega⟩ | exact ⟨by decide, by decide +kernel⟩ | exact ⟨by decide, by decide, by decide⟩ | exact ⟨by assumption, by assumption⟩)) | ((with_reducible refine zpT ?_ ?_); (first | assumption | omega | exact .inr ⟨by decide, by decide⟩ | exact .inl ⟨by decide, by decide⟩ | exact .inr ⟨by omega, by omega⟩ | exact .inl ⟨by omega, by omega⟩ | exact ⟨by decide, by decide +kernel⟩ | exact ⟨by decide, by decide, by decide⟩ | exact ⟨by assumption, by assumption⟩)) | ((with_reducible refine zn9 (a := ?_) ?_ ?_ ?_); rotate_left 1; rfl; decide)) | ((with_reducible refine zd9 7 ?_); first | ((with_reducible refine zmL (xs := ?_) ?_ ?_); rotate_left 1; (walk_at "dp")) | ((with_reducible refine zqO (fu := ?_) (n := ?_) ?_ ?_); rotate_left 2; (walk_at "dp")) | ((with_reducible refine zlF (xs := ?_) ?_ ?_); rotate_left 1; (walk_at "dp")) | ((with_reducible refine zpF (xs := ?_) ?_ ?_); rotate_left 1; (walk_at "dp")) | ((with_reducible refine ztx (xs := ?_) (ys := ?_) ?_ ?_ ?_); rotate_left 2; (walk_at "dp"); (walk_at "dp")))))
local macro_rules | `(tactic| walk_at "dl") => `(tactic| (repeat (first | with_reducible refine zlz ?_ | with_reducible refine zfh ?_ | walk_at "dx" | ((with_reducible refine zd9 8 ?_); first | with_reducible refine zfi (fun h => absurd h (by decide +kernel)) (fun _ => ?_) | with_reducible refine zfi (fun _ => ?_) (fun h => absurd h (by decide +kernel)) | with_reducible refine zcR (fun h => absurd h (by decide +kernel)) (fun _ => ?_) | with_reducible refine zcR (fun _ => ?_) (fun h => absurd h (by decide +kernel))) | ((with_reducible refine zd9 9 ?_); first | with_reducible refine zbp (fun h => absurd h (by decide +kernel)) (fun _ => ?_) | with_reducible refine zbp (fun _ => ?_) (fun h => absurd h (by decide +kernel)) | with_reducible refine zeC (fun h => absurd h (by decide +kernel)) (fun _ => ?_) | with_reducible refine zeC (fun _ => ?_) (fun h => absurd h (by decide +kernel))) | ((with_reducible refine zd9 10 ?_); first | with_reducible refine zb1 (fun h => absurd h (by decide +kernel)) (fun _ => ?_) | with_reducible refine zb1 (fun _ => ?_) (fun h => absurd h (by decide +kernel)) | with_reducible refine zcQ (fun h => absurd h (by decide +kernel)) (fun _ => ?_) | with_reducible refine zcQ (fun _ => ?_) (fun h => absurd h (by decide +kernel)) | with_reducible refine zcS (fun h => absurd h (by decide +kernel)) (fun _ => ?_) | with_reducible refine zcS (fun _ => ?_) (fun h => absurd h (by decide +kernel))))))
local macro_rules | `(tactic| walk_at "dln") => `(tactic| (repeat (first | with_reducible refine zlz ?_ | walk_at "dx" | ((with_reducible refine zd9 8 ?_); first | with_reducible refine zfi (fun h => absurd h (by decide +kernel)) (fun _ => ?_) | with_reducible refine zfi (fun _ => ?_) (fun h => absurd h (by decide +kernel)) | with_reducible refine zcR (fun h => absurd h (by decide +kernel)) (fun _ => ?_) | with_reducible refine zcR (fun _ => ?_) (fun h => absurd h (by decide +kernel))) | ((with_reducible refine zd9 9 ?_); first | with_reducible refine zbp (fun h => absurd h (by decide +kernel)) (fun _ => ?_) | with_reducible refine zbp (fun _ => ?_) (fun h => absurd h (by decide +kernel)) | with_reducible refine zeC (fun h => absurd h (by decide +kernel)) (fun _ => ?_) | with_reducible refine zeC (fun _ => ?_) (fun h => absurd h (by decide +kernel))) | ((with_reducible refine zd9 10 ?_); first | with_reducible refine zb1 (fun h => absurd h (by decide +kernel)) (fun _ => ?_) | with_reducible refine zb1 (fun _ => ?_) (fun h => absurd h (by decide +kernel)) | with_reducible refine zcQ (fun h => absurd h (by decide +kernel)) (fun _ => ?_) | with_reducible refine zcQ (fun _ => ?_) (fun h => absurd h (by decide +kernel)) | with_reducible refine zcS (fun h => absurd h (by decide +kernel)) (fun _ => ?_) | with_reducible refine zcS (fun _ => ?_) (fun h => absurd h (by decide +kernel))))))
local macro_rules | `(tactic| walk_at "dm") => `(tactic| (repeat (first | with_reducible refine zlz ?_ | with_reducible refine zfh ?_ | walk_at "dx" | ((with_reducible refine zd9 8 ?_); first | with_reducible refine zfi (fun h => absurd h (by decide +kernel)) (fun _ => ?_) | with_reducible refine zfi (fun _ => ?_) (fun h => absurd h (by decide +kernel)) | with_reducible refine zfi (fun h => absurd h (by first | (simp; done) | (simp; omega))) (fun _ => ?_) | with_reducible refine zfi (fun _ => ?_) (fun h => absurd h (by first | (simp; done) | (simp; omega))) | with_reducible refine zcR (fun h => absurd h (by decide +kernel)) (fun _ => ?_) | with_reducible refine zcR (fun _ => ?_) (fun h => absurd h (by decide +kernel)) | with_reducible refine zcR (fun h => absurd h (by first | (simp; done) | (simp; omega))) (fun _ => ?_) | with_reducible refine zcR (fun _ => ?_) (fun h => absurd h (by first | (simp; done) | (simp; omega)))) | ((with_reducible refine zd9 9 ?_); first | with_reducible refine zbp (fun h => absurd h (by decide +kernel)) (fun _ => ?_) | with_reducible refine zbp (fun _ => ?_) (fun h => absurd h (by decide +kernel)) | with_reducible refine zbp (fun h => absurd h (by first | (simp; done) | (simp; omega))) (fun _ => ?_) | with_reducible refine zbp (fun _ => ?_) (fun h => absurd h (by first | (simp; done) | (simp; omega))) | with_reducible refine zeC (fun h => absurd h (by decide +kernel)) (fun _ => ?_) | with_reducible refine zeC (fun _ => ?_) (fun h => absurd h (by decide +kernel)) | with_reducible refine zeC (fun h => absurd h (by first | (simp; done) | (simp; omega))) (fun _ => ?_) | with_reducible refine zeC (fun _ => ?_) (fun h => absurd h (by first | (simp; done) | (simp; omega)))) | ((with_reducible refine zd9 10 ?_); first | with_reducible refine zb1 (fun h => absurd h (by decide +kernel)) (fun _ => ?_) | with_reducible refine zb1 (fun _ => ?_) (fun h => absurd h (by decide +kernel)) | with_reducible refine zb1 (fun h => absurd h (by first | (simp; done) | (simp; omega))) (fun _ => ?_) | with_reducible refine zb1 (fun _ => ?_) (fun h => absurd h (by first | (simp; done) | (simp; omega))) | with_reducible refine zcQ (fun h => absurd h (by decide +kernel)) (fun _ => ?_) | with_reducible refine zcQ (fun _ => ?_) (fun h => absurd h (by decide +kernel)) | with_reducible refine zcQ (fun h => absurd h (by first | (simp; done) | (simp; omega))) (fun _ => ?_) | with_reducible refine zcQ (fun _ => ?_) (fun h => absurd h (by first | (simp; done) | (simp; omega))) | with_reducible refine zcS (fun h => absurd h (by decide +kernel)) (fun _ => ?_) | with_reducible refine zcS (fun _ => ?_) (fun h => absurd h (by decide +kernel)) | with_reducible refine zcS (fun h => absurd h (by first | (simp; done) | (simp; omega))) (fun _ => ?_) | with_reducible refine zcS (fun _ => ?_) (fun h => absurd h (by first | (simp; done) | (simp; omega)))))))
local macro_rules | `(tactic| ext) => `(tactic| walk_at "dm")
local macro_rules | `(tactic| walk_at "dmn") => `(tactic| (repeat (first | with_reducible refine zlz ?_ | walk_at "dx" | ((with_reducible refine zd9 8 ?_); first | with_reducible refine zfi (fun h => absurd h (by decide +kernel)) (fun _ => ?_) | with_reducible refine zfi (fun _ => ?_) (fun h => absurd h (by decide +kernel)) | with_reducible refine zfi (fun h => absurd h (by first | (simp; done) | (simp; omega))) (fun _ => ?_) | with_reducible refine zfi (fun _ => ?_) (fun h => absurd h (by first | (simp; done) | (simp; omega))) | with_reducible refine zcR (fun h => absurd h (by decide +kernel)) (fun _ => ?_) | with_reducible refine zcR (fun _ => ?_) (fun h => absurd h (by decide +kernel)) | with_reducible refine zcR (fun h => absurd h (by first | (simp; done) | (simp; omega))) (fun _ => ?_) | with_reducible refine zcR (fun _ => ?_) (fun h => absurd h (by first | (simp; done) | (simp; omega)))) | ((with_reducible refine zd9 9 ?_); first | with_reducible refine zbp (fun h => absurd h (by decide +kernel)) (fun _ => ?_) | with_reducible refine zbp (fun _ => ?_) (fun h => absurd h (by decide +kernel)) | with_reducible refine zbp (fun h => absurd h (by first | (simp; done) | (simp; omega))) (fun _ => ?_) | with_reducible refine zbp (fun _ => ?_) (fun h => absurd h (by first | (simp; done) | (simp; omega))) | with_reducible refine zeC (fun h => absurd h (by decide +kernel)) (fun _ => ?_) | with_reducible refine zeC (fun _ => ?_) (fun h => absurd h (by decide +kernel)) | with_reducible refine zeC (fun h => absurd h (by first | (simp; done) | (simp; omega))) (fun _ => ?_) | with_reducible refine zeC (fun _ => ?_) (fun h => absurd h (by first | (simp; done) | (simp; omega)))) | ((with_reducible refine zd9 10 ?_); first | with_reducible refine zb1 (fun h => absurd h (by decide +kernel)) (fun _ => ?_) | with_reducible refine zb1 (fun _ => ?_) (fun h => absurd h (by decide +kernel)) | with_reducible refine zb1 (fun h => absurd h (by first | (simp; done) | (simp; omega))) (fun _ => ?_) | with_reducible refine zb1 (fun _ => ?_) (fun h => absurd h (by first | (simp; done) | (simp; omega))) | with_reducible refine zcQ (fun h => absurd h (by decide +kernel)) (fun _ => ?_) | with_reducible refine zcQ (fun _ => ?_) (fun h => absurd h (by decide +kernel)) | with_reducible refine zcQ (fun h => absurd h (by first | (simp; done) | (simp; omega))) (fun _ => ?_) | with_reducible refine zcQ (fun _ => ?_) (fun h => absurd h (by first | (simp; done) | (simp; omega))) | with_reducible refine zcS (fun h => absurd h (by decide +kernel)) (fun _ => ?_) | with_reducible refine zcS (fun _ => ?_) (fun h => absurd h (by decide +kernel)) | with_reducible refine zcS (fun h => absurd h (by first | (simp; done) | (simp; omega))) (fun _ => ?_) | with_reducible refine zcS (fun _ => ?_) (fun h => absurd h (by first | (simp; done) | (simp; omega)))))))
theorem zcT {S:Sto} {a:Addr} {o o':O}:put (put S a o) a o'=put S a o':=by
 funext b
 unfold put
 by_cases h:b=a <;> simp [h]
theorem zi1 {m n:SM} {A:DL.Fin} {env:Slo} {S:Sto} (I:Slo->Sto->Prop) (h2:∀ env S,I env S->n A env S) (h1:∀ nx:Slo->Sto->Prop,(∀ env S,I env S->nx env S)->m { A with nx:=nx } env S):zav m n A env S:=h1 (n A) h2
theorem za2 {g:GM} {m:SM} {G:Sto->Prop} {A:DL.Fin} (I:Nat->Slo->Sto->Prop):∀ (xs:List D) (i0:Nat) {env:Slo} {S:Sto},I i0 env S ->
  (∀ i x env S,xs[i]? = some x->I (i0+i) env S->∀ nx:Slo->Sto->Prop,(∀ e s,I (i0+i+1) e s->nx e s)->G S∧g x env S fun env2 S2=>m { A with nx:=nx,ct:=nx,bk:=A.nx } env2 S2) ->
  (∀ env S,I (i0+xs.length) env S->G S∧A.nx env S)->forL g m G A xs env S
 | [],i0,env,S,h0,_,done=>done env S h0
 | x :: xs,i0,env,S,h0,step,done=>by
  refine step 0 x env S rfl h0 (forL g m G A xs) fun e s h=>?_
  refine za2 I xs (i0+1) h (fun i y e s hy hi nx hnx=>step (i+1) y e s hy (by rw [show i0+(i+1)=i0+1+i by omega];exact hi) nx fun e s h=>hnx e s (by rw [show i0+1+i+1=i0+(i+1)+1 by omega];exact h)) fun e s h=>?_
  exact done e s (by rw [List.length_cons,show i0+(xs.length+1)=i0+1+xs.length by omega];exact h)
theorem zfP {n i:Nat} {x:D} (h:(zi3 0 n)[i]? = some x):x = .int i∧i < n:=by
 unfold zi3 at h
 rw [List.getElem?_map] at h
 cases e:(List.range n)[i]? with
 | none=>rw [e] at h;cases h
 | some j=>
  rw [e] at h
  have hj:=List.getElem?_eq_some_iff.mp e
  obtain ⟨h1,h2⟩:=hj
  rw [List.getElem_range] at h2
  subst h2
  cases h
  exact ⟨by simp,by simpa using h1⟩
theorem zer {lo:Int} {n:Nat}:(zi3 lo n).length=n:=by simp [zi3]
theorem szl {n:Nat} (h:n≤1000):n≤sizeLine:=Nat.le_trans h (by decide)
theorem zhy {n:Nat} (h:n≤1000):n < sizeLine:=Nat.lt_of_le_of_lt h (by decide)
theorem zbw {n:Int} (h0:0≤n) (h:n < 9000):n.natAbs.log2 < 9000:=by
 have:=Nat.log2_le_self n.natAbs
 omega
def Fr (a:Addr) (S S':Sto):Prop:=∀ b o,b≠a->S b=some o->S' b=some o
theorem Fr.refl {a:Addr} {S:Sto}:Fr a S S:=fun _ _ _ h=>h
theorem Fr.trans {a:Addr} {S S1 S2:Sto} (h:Fr a S S1) (h':Fr a S1 S2):Fr a S S2:=fun b o hb e=>h' b o hb (h b o hb e)
theorem Fr.put {a:Addr} {S S':Sto} {o:O} (h:Fr a S S'):Fr a S (put S' a o):=fun b o' hb e=>by rw [zaP hb];exact h b o' hb e
theorem Fr.new {a p:Addr} {S S':Sto} {o:O} (h:Fr a S S') (hp:S' p=none):Fr a S (DL.put S' p o):=fun b o' hb e=>by
 have e':=h b o' hb e
 rw [zaP (fun z=>by subst z;rw [hp] at e';cases e')]
 exact e'
structure StA (ns:List Int) (a l:Addr) (S:Sto):Prop where
 ex:∃ (p:Nat) (big cnt seed:Int),S a=some (.lst [.ref l,.int p,.int big,.int cnt,.int seed])∧p≤ns.length∧0≤big
 sl:S l=some (.lst (ns.map D.int))
 ne:l≠a
theorem atI_nat {xs:List D} {p:Nat} {d:D} (h:xs[p]? = some d):L2.atI xs (p:Int)=some d:=by
 have hl:p < xs.length:=(List.getElem?_eq_some_iff.mp h).1
 unfold L2.atI
 rw [show L2.ixN xs.length (p:Int)=some p by unfold L2.ixN;rw [if_pos (by omega),if_pos (by omega)];simp]
 exact h
theorem zaG {K:PySem.W.Frag} {ns:List Int} {a l:Addr} {S:Sto} {n:Int} {Q:DQ} {E:XQ} (h:StA ns a l S) (hn:0 < n) (hb:n.natAbs.log2 < 9000)
  (hQ:∀ r S',0≤r->r < n->StA ns a l S'->Fr a S S'->Q (.int r) S'):zaj K [.ref a,.int n] S Q E:=by
 refine zaH rfl ?_
 obtain ⟨⟨p,big,cnt,seed,e1,hp,hbig⟩,e2,ne⟩:=h
 unfold zfL
 refine zfh ?_
 walk_at "dln"
 with_reducible refine zi1 (fun env1 S1=>∃ (c:Option D) (p:Nat) (big cnt seed:Int),env1=[some (.ref a),some (.int n),c,none,none,none,none]∧S1 a=some (.lst [.ref l,.int p,.int big,.int cnt,.int seed])∧Fr a S S1∧p≤ns.length∧0≤big) ?_ ?_
 ·rintro _ S1 ⟨c,p,big,cnt,seed,rfl,e3,fr,hp,hbig⟩
  have e4:=fr l _ ne e2
  walk_at "dl"
  with_reducible refine zeq (fun hpos=>?_) (fun hneg=>?_)
  ·walk_at "dl"
   refine hQ _ _ (Int.emod_nonneg _ (by omega)) (Int.emod_lt_of_pos _ hn) ⟨⟨p,big / n,cnt,seed,zai,hp,Int.ediv_nonneg hbig (by omega)⟩,?_,ne⟩ fr.put
   rw [zaP ne]
   exact e4
  ·walk_at "dl"
   exact hQ _ _ (Int.emod_nonneg _ (by omega)) (Int.emod_lt_of_pos _ hn) ⟨⟨p,big,cnt,seed,e3,hp,hbig⟩,e4,ne⟩ fr
 ·intro nx hnx
  walk_at "dl"
  with_reducible refine zbp (fun hz=>?_) (fun hz=>?_)
  ·walk_at "dl"
   with_reducible refine zeq (fun hlt=>?_) (fun hge=>?_)
   ·have hp2:p < ns.length:=by simpa using hlt
    have hc:L2.atI (ns.map D.int) (p:Int)=some (.int ns[p]):=atI_nat (by simp [hp2])
    walk_at "dl"
    with_reducible refine zeq (fun hbg=>?_) (fun hsm=>?_)
    ·walk_at "dl"
     refine hnx _ _ ⟨_,p+1,_,_,_,rfl,zai,?_,hp2,?_⟩
     ·exact ((Fr.refl.put).put).put
     ·split <;> omega
    ·walk_at "dl"
     refine hnx _ _ ⟨_,p+1,big,_,_,rfl,zai,?_,hp2,hbig⟩
     exact ((Fr.refl.put).put).put
   ·walk_at "dl"
    exact hnx _ _ ⟨_,p,big,_,_,rfl,zai,Fr.refl.put,hp,hbig⟩
  ·walk_at "dl"
   exact hnx _ _ ⟨_,p,big,_,_,rfl,zai,Fr.refl.put,hp,hbig⟩
theorem zlx {K:PySem.W.Frag} {ns:List Int} (hn:ns.length≤63) {S:Sto} {Q:DQ} {E:XQ} (hQ:∀ a l S',StA ns a l S'->Q (.ref a) S'):zek K [.rol (ns.map D.int)] S Q E:=by
 refine zaH rfl ?_
 unfold ze5
 walk_at "dl"
 refine zte fun l0 hl0=>?_
 walk_at "dl"
 refine zhQ zai fun l hl=>?_
 walk_at "dl"
 with_reducible refine zdX (szl (by simp)) fun a ha=>?_
 have hc:DL.cutD (ns.map D.int) none (some 63)=ns.map D.int:=by
  unfold DL.cutD
  have e1:HT.sIx (ns.map D.int).length 0 none=0:=rfl
  have e2:HT.sIx (ns.map D.int).length (ns.map D.int).length (some 63)=(ns.map D.int).length:=by
   rw [List.length_map]
   simp [HT.sIx]
   omega
  rw [e1,e2,List.drop_zero,Nat.sub_zero,List.take_length]
 rw [hc] at ha ⊢
 have ne:l≠a:=fun z=>by
  subst z
  rw [zai] at ha
  cases ha
 exact hQ _ _ _ ⟨⟨0,0,0,1,zai,Nat.zero_le _,by decide⟩,by rw [zaP ne];exact zai,ne⟩
theorem zle:(Str.ofString "").cps.toList=[]:=by decide +kernel
theorem len1 {c:Nat}:Str.length ⟨#[c]⟩=1:=by unfold Str.length;rfl
structure zmD (z:Str):Prop where
 one:1≤z.cps.size
 eight:z.cps.size≤8
 az:∀ c∈z.cps.toList,97≤c∧c≤122
def Nms (zs:List Str):Prop:=(∀ z∈zs,zmD z)∧zs.Nodup
theorem zhD {i:Int} (h0:0≤i) (h1:i < 26):L2.atI (Str.cps "abcdefghijklmnopqrstuvwxyz").toList i=some (97+i.toNat):=by
 have:∀ k:Fin 26,L2.atI (Str.cps "abcdefghijklmnopqrstuvwxyz").toList (k.val:Int)=some (97+k.val):=by decide +kernel
 have h:=this ⟨i.toNat,by omega⟩
 simp only [Int.toNat_of_nonneg h0] at h
 exact h
structure Way (n place x:Nat) (z:Str):Prop where
 len:z.cps.size=n
 az:∀ c∈z.cps.toList,97≤c∧c≤122
 at_:place < n->z.cps[place]? = some x
theorem Way.add {n place x y:Nat} {z:Str} (h:Way n place x z) (hy:97≤y∧y≤122) (hx:n=place->y=x):Way (n+1) place x (z++(⟨#[y]⟩:Str)) where
 len:=by
  show (z.cps++#[y]).size=n+1
  rw [Array.size_append,h.len]
  rfl
 az:=fun c hc=>by
  have hc':c∈(z.cps++#[y]).toList:=hc
  rw [Array.toList_append] at hc'
  rcases List.mem_append.mp hc' with q | q
  ·exact h.az c q
  ·have:c=y:=by simpa using q
   rw [this]
   exact hy
 at_:=fun hp=>by
  show (z.cps++#[y])[place]? = some x
  by_cases q:place < n
  ·rw [Array.getElem?_append_left (by rw [h.len];exact q)]
   exact h.at_ q
  ·have e:n=place:=by omega
   rw [Array.getElem?_append_right (by rw [h.len];omega),h.len,e,Nat.sub_self]
   simp [hx e]
theorem zh5 {K:PySem.W.Frag} {ns:List Int} {a l:Addr} {S:Sto} {many:Nat} {Q:DQ} {E:XQ} (h:StA ns a l S) (hm:many≤26)
  (hQ:∀ p S' zs,zs.length=many->Nms zs->S' p=some (.lst (zs.map D.str))->S p=none->StA ns a l S'->Fr a S S'->Q (.ref p) S'):zch K [.ref a,.int many] S Q E:=by
 refine zaH rfl ?_
 unfold ze8
 walk_at "dl"
 refine zaG h (by decide) (by decide +kernel) fun place S1 p0 p1 h1 f1=>?_
 walk_at "dl"
 refine zaG h1 (by decide) (by decide +kernel) fun first S2 q0 q1 h2 f2=>?_
 walk_at "dl"
 refine zaG h2 (by decide) (by decide +kernel) fun shared S3 _ _ h3 f3=>?_
 walk_at "dl"
 refine zaG h3 (by decide) (by decide +kernel) fun bas S4 b0 b1 h4 f4=>?_
 walk_at "dl"
 with_reducible refine zdX (szl (by simp)) fun p hp=>?_
 have fr4:Fr a S S4:=((f1.trans f2).trans f3).trans f4
 walk_at "dl"
 with_reducible refine zho (by omega) (by omega) ?_
 walk_at "dl"
 have pa:p≠a:=fun z=>by
  obtain ⟨⟨_,_,_,_,e,_⟩,_,_⟩:=h4
  rw [← z,hp] at e
  cases e
 have pl:l≠p:=fun z=>by
  have e:=h4.sl
  rw [z,hp] at e
  cases e
 let Gd:List Str->Prop:=fun zs=>∀ (j:Nat) z,zs[j]? = some z->zmD z∧z.cps[place.toNat]? = some (97+((first+7 * (j:Int)) % 26).toNat)
 refine za2 (fun i env S5=>∃ (k o sz nm at_:Option D) (zs:List Str),env=[some (.ref a),some (.int many),some (.int place),some (.int first),some (.int shared),some (.int bas),some (.str "abcdefghijklmnopqrstuvwxyz"),some (.ref p),k,o,sz,nm,at_]∧
   zs.length=i∧Gd zs∧S5 p=some (.lst (zs.map D.str))∧StA ns a l S5∧Fr a S4 S5) _ 0 ?_ ?_ ?_
 ·refine ⟨_,_,_,_,_,[],rfl,rfl,fun j z hz=>by simp at hz,zai,⟨?_,?_,h4.ne⟩,Fr.refl.new hp⟩
  ·obtain ⟨p',big,cnt,seed,e,r⟩:=h4.ex
   exact ⟨p',big,cnt,seed,by rw [zaP (Ne.symm pa)];exact e,r⟩
  ·rw [zaP pl];exact h4.sl
 ·rintro i x _ S5 hx ⟨k,o,sz,nm,at_,zs,rfl,hl,hg,ep,h5,f5⟩ nx hnx
  obtain ⟨rfl,hi⟩:=zfP hx
  rw [Nat.zero_add] at hl hnx
  have hi26:i < 26:=by omega
  refine ⟨trivial,?_⟩
  refine zgJ ?_
  with_reducible refine zfh ?_
  walk_at "dln"
  with_reducible refine zfh ?_
  walk_at "dln"
  with_reducible refine zi1 (fun env S6=>∃ (ot sz:Int) (nm at_:Option D),env=[some (.ref a),some (.int many),some (.int place),some (.int first),some (.int shared),some (.int bas),some (.str "abcdefghijklmnopqrstuvwxyz"),some (.ref p),some (.int i),some (.int ot),some (.int sz),nm,at_]∧
   0≤ot∧place+1≤sz∧sz≤8∧S6 p=some (.lst (zs.map D.str))∧StA ns a l S6∧Fr a S4 S6) ?_ ?_
  ·rintro _ S6 ⟨ot,sz,nm,at_,rfl,ho,hs1,hs2,ep6,h6,f6⟩
   with_reducible refine zfh ?_
   walk_at "dln"
   with_reducible refine zfh ?_
   with_reducible refine zq2 ?_
   walk_at "dln"
   with_reducible refine zho (by omega) (by omega) ?_
   with_reducible refine zmJ ?_
   refine za2 (fun t env S7=>∃ (ot:Int) (z:Str) (at_:Option D),env=[some (.ref a),some (.int many),some (.int place),some (.int first),some (.int shared),some (.int bas),some (.str "abcdefghijklmnopqrstuvwxyz"),some (.ref p),some (.int i),some (.int ot),some (.int sz),some (.str z),at_]∧
    0≤ot∧Way t place.toNat (97+((first+7 * (i:Int)) % 26).toNat) z∧S7=S6) _ 0 ?_ ?_ ?_
   ·exact ⟨ot,_,_,rfl,ho,⟨rfl,fun c hc=>(by rw [zle] at hc;cases hc),fun hp=>by omega⟩,rfl⟩
   ·rintro t x _ S7 hx ⟨ot,z,at_,rfl,ho,hw,rfl⟩ nx2 hnx2
    obtain ⟨rfl,ht⟩:=zfP hx
    rw [Nat.zero_add] at hw hnx2
    refine ⟨trivial,?_⟩
    refine zgJ ?_
    have l1:=zhD (i:=(first+7 * (i:Int)) % 26) (Int.emod_nonneg _ (by decide)) (Int.emod_lt_of_pos _ (by decide))
    have l2:=zhD (i:=ot % 26) (Int.emod_nonneg _ (by decide)) (Int.emod_lt_of_pos _ (by decide))
    have zl:z.length=t:=hw.len
    walk_at "dl"
    with_reducible refine zeq (fun he=>?_) (fun hne=>?_)
    ·walk_at "dl"
     with_reducible refine zkw (by rw [zl,len1];exact szl (by omega)) ?_
     walk_at "dl"
     exact hnx2 _ _ ⟨ot,_,_,rfl,ho,hw.add (by omega) (fun _=>rfl),rfl⟩
    ·walk_at "dl"
     with_reducible refine zkw (by rw [zl,len1];exact szl (by omega)) ?_
     walk_at "dl"
     exact hnx2 _ _ ⟨ot / 26,_,_,rfl,Int.ediv_nonneg ho (by decide),hw.add (by omega) (fun e=>absurd (by omega) hne),rfl⟩
   ·rintro _ S7 ⟨ot,z,at_,rfl,ho,hw,rfl⟩
    refine ⟨trivial,?_⟩
    rw [Nat.zero_add,zer] at hw
    have zl:zs.length≤26:=by omega
    walk_at "dl"
    with_reducible refine s_app ep6 (by rw [List.length_map];exact zhy (by omega)) ?_
    walk_at "dl"
    have nb:place.toNat < sz.toNat:=by omega
    refine hnx _ _ ⟨_,_,_,_,_,zs++[z],rfl,by simp [hl],?_,by rw [zai];simp,⟨?_,?_,h6.ne⟩,?_⟩
    ·intro j y hy
     by_cases hj:j < zs.length
     ·rw [List.getElem?_append_left hj] at hy
      exact hg j y hy
     ·rw [List.getElem?_append_right (by omega)] at hy
      have ej:j=i:=by
       have:=(List.getElem?_eq_some_iff.mp hy).1
       simp at this
       omega
      subst ej
      rw [hl,Nat.sub_self] at hy
      cases hy
      exact ⟨⟨by rw [hw.len];omega,by rw [hw.len];omega,hw.az⟩,hw.at_ nb⟩
    ·obtain ⟨p',big,cnt,seed,e,r⟩:=h6.ex
     exact ⟨p',big,cnt,seed,by rw [zaP (Ne.symm pa)];exact e,r⟩
    ·rw [zaP pl];exact h6.sl
    ·intro b o hb e
     have e':=f6 b o hb e
     rw [zaP (fun z=>by subst z;rw [hp] at e;cases e)]
     exact e'
  ·intro nx3 hnx3
   walk_at "dl"
   with_reducible refine zeq (fun he=>?_) (fun hne=>?_)
   ·walk_at "dl"
    refine zaG h5 (by decide) (by decide +kernel) fun ot S6 o0 o1 h6 g6=>?_
    walk_at "dl"
    refine zaG h6 (by omega) (zbw (by omega) (by omega)) fun more S7 m0 m1 h7 g7=>?_
    walk_at "dl"
    exact hnx3 _ _ ⟨ot,_,_,_,rfl,o0,by omega,by omega,g7 p _ pa (g6 p _ pa ep),h7,(f5.trans g6).trans g7⟩
   ·walk_at "dl"
    exact hnx3 _ _ ⟨bas,_,_,_,rfl,b0,by omega,by omega,ep,h5,f5⟩
 ·rintro _ S5 ⟨k,o,sz,nm,at_,zs,rfl,hl,hg,ep,h5,f5⟩
  rw [Nat.zero_add,zer] at hl
  refine ⟨trivial,?_⟩
  walk_at "dl"
  have sp:S p=none:=by
   cases e:S p with
   | none=>rfl
   | some o'=>rw [fr4 p o' pa e] at hp;cases hp
  refine hQ p S5 zs (by simpa using hl) ⟨fun z hz=>?_,?_⟩ ep sp h5 (fr4.trans f5)
  ·obtain ⟨j,hj,e⟩:=List.getElem_of_mem hz
   exact (hg j z (by rw [List.getElem?_eq_getElem hj,e])).1
  ·refine List.pairwise_iff_getElem.mpr fun i j hi hj hij e=>?_
   have e1:=(hg i _ (List.getElem?_eq_getElem hi)).2
   have e2:=(hg j _ (List.getElem?_eq_getElem hj)).2
   rw [e,e2] at e1
   have e3:=Option.some.inj e1
   have:zs.length≤26:=by
    rw [hl]
    simpa using hm
   omega
inductive Row where
 | read (c s:Str) | peek (c s:Str) | put (s w:Str) | give (s:Str) | say (s:Str) | write (c s:Str)
 | ite (s w:Str) (y n:List Row)
mutual
def Row.d:Row->D
 | .read c s=>.tup [.str "read", .str c,.str s]
 | .peek c s=>.tup [.str "peek", .str c,.str s]
 | .put s w=>.tup [.str "put", .str s,.str w]
 | .give s=>.tup [.str "give", .str s]
 | .say s=>.tup [.str "say", .str s]
 | .write c s=>.tup [.str "write", .str c,.str s]
 | .ite s w y n=>.tup [.str "if", .str s,.str w,.tup (zaM y),.tup (zaM n)]
def zaM:List Row->List D
 | []=>[]
 | r :: rs=>r.d :: zaM rs
end
mutual
def Row.ex:Row->Nat
 | .ite _ _ y n=>zau y+zau n
 | .read _ _=>0
 | .peek _ _=>0
 | .put _ _=>0
 | .give _=>0
 | .say _=>0
 | .write _ _=>0
def zau:List Row->Nat
 | []=>0
 | r :: rs=>1+r.ex+zau rs
end
mutual
def Row.dep:Row->Nat
 | .ite _ _ y n=>1+max (zaE y) (zaE n)
 | .read _ _=>0
 | .peek _ _=>0
 | .put _ _=>0
 | .give _=>0
 | .say _=>0
 | .write _ _=>0
def zaE:List Row->Nat
 | []=>0
 | r :: rs=>max r.dep (zaE rs)
end
theorem zcj:∀ rs:List Row,zaM rs=rs.map Row.d
 | []=>by simp [zaM]
 | r :: rs=>by simp [zaM,zcj rs]
theorem zbt {rs:List Row}:(zaM rs).length=rs.length:=by rw [zcj,List.length_map]
theorem zgN {rs:List Row} {i:Nat} {x:D} (h:(zaM rs)[i]? = some x):∃ r,rs[i]? = some r∧x=r.d:=by
 rw [zcj,List.getElem?_map] at h
 cases e:rs[i]? with
 | none=>rw [e] at h;cases h
 | some r=>rw [e] at h;exact ⟨r,rfl,(Option.some.inj h).symm⟩
theorem zex:∀ {rs:List Row} {r:Row},r∈rs->r.dep≤zaE rs
 | x :: rs,r,h=>by
  rw [zaE]
  rcases List.mem_cons.mp h with e | h
  ·subst e;omega
  ·have:=zex h;omega
def zea (rs:List Row):Nat:=(rs.map Row.ex).sum
theorem zeF:∀ rs:List Row,zau rs=rs.length+zea rs
 | []=>rfl
 | r :: rs=>by
  rw [zau,zeF rs]
  simp [zea]
  omega
theorem zge {rs:List Row} {i:Nat} {r:Row} (h:rs[i]? = some r):zea (rs.take (i+1))=zea (rs.take i)+r.ex:=by
 obtain ⟨hi,e⟩:=List.getElem?_eq_some_iff.mp h
 rw [List.take_succ,h]
 simp [zea]
theorem zh9 {K:PySem.W.Frag}:∀ (n:Nat) (rs:List Row) {S:Sto} {Q:DQ} {E:XQ},zaE rs < n->Q (.int (zau rs)) S->zcI K n [.tup (zaM rs)] S Q E
 | 0,rs,S,Q,E,h,_=>absurd h (Nat.not_lt_zero _)
 | n+1,rs,S,Q,E,h,hQ=>by
  refine zaH rfl ?_
  unfold zfK
  walk_at "dl"
  refine za2 (fun i env S'=>∃ x:Option D,env=[some (.tup (zaM rs)),some (.int ((rs.length+zea (rs.take i):Nat):Int)),x]∧S'=S) _ 0 ?_ ?_ ?_
  ·have e0:((zaM rs).length:Int)=((rs.length+zea (rs.take 0):Nat):Int):=by
    rw [zbt]
    simp [zea]
   rw [e0]
   exact ⟨_,rfl,rfl⟩
  ·rintro i x _ _ hx ⟨y,rfl,rfl⟩ nx hnx
   rw [Nat.zero_add] at hnx ⊢
   obtain ⟨r,hr,rfl⟩:=zgN hx
   have hd:=zex (List.mem_of_getElem? hr)
   have et:=zge hr
   refine ⟨trivial,?_⟩
   refine zgJ ?_
   cases r with
   | ite s w y n'=>
    rw [Row.d]
    rw [Row.dep] at hd
    rw [Row.ex] at et
    walk_at "dl"
    refine zh9 n y (by omega) ?_
    walk_at "dl"
    refine zh9 n n' (by omega) ?_
    walk_at "dl"
    have e1:((rs.length+zea (rs.take i):Nat):Int)+((zau y:Int)+(zau n':Int))=((rs.length+zea (rs.take (i+1)):Nat):Int):=by
     rw [et]
     omega
    rw [e1]
    exact hnx _ _ ⟨_,rfl,rfl⟩
   | _=>
    rw [Row.d]
    rw [Row.ex] at et
    walk_at "dl"
    replace et:zea (rs.take (i+1))=zea (rs.take i):=et
    rw [← et]
    exact hnx _ _ ⟨_,rfl,rfl⟩
  ·rintro _ _ ⟨y,rfl,rfl⟩
   refine ⟨trivial,?_⟩
   walk_at "dl"
   rw [zbt,Nat.zero_add,List.take_length,← zeF]
   exact hQ
structure Shp where
 der:Bool
 pk:Bool
 wr:Bool
 words:List Str
 sources:List Str
 cells:List Str
 slots:List Str
mutual
def Row.ok (h:Shp):Row->Prop
 | .read c s=>c∈h.cells∧s∈h.slots
 | .peek c s=>h.der=false∧c∈h.cells∧s∈h.slots
 | .put s w=>s∈h.slots∧w∈h.words
 | .give s=>h.der=true∧s∈h.slots
 | .say s=>h.der=false∧s∈h.slots
 | .write c s=>h.der=false∧c∈h.sources∧s∈h.slots
 | .ite s w y n=>s∈h.slots∧w∈h.words∧zbs h y∧zbs h n
def zbs (h:Shp):List Row->Prop
 | []=>True
 | r :: rs=>r.ok h∧zbs h rs
end
theorem zf9 {h:Shp}:∀ {rs:List Row},zbs h rs ↔ ∀ r∈rs,r.ok h
 | []=>by simp [zbs]
 | r :: rs=>by rw [zbs,zf9];simp
def kindS (b:Bool):Str:=match b with
 | true => "derived"
 | false => "effects"
theorem zme {b:Bool} (h:kindS b = "derived"):b=true:=by
 cases b
 ·exact absurd h (by decide +kernel)
 ·rfl
theorem zmd {b:Bool} (h:¬ kindS b = "derived"):b=false:=by
 cases b
 ·rfl
 ·exact absurd rfl h
structure ShD (h:Shp) (sl ce:Addr) (kvs:List (Key×D)):Prop where
 kind:valD kvs (.inr "kind")=some (.str (kindS h.der))
 cells:valD kvs (.inr "cells")=some (.ref ce)
 sources:valD kvs (.inr "sources")=some (.tp true (h.sources.map D.str))
 slots:valD kvs (.inr "slots")=some (.ref sl)
 words:valD kvs (.inr "words")=some (.tup (h.words.map D.str))
 peeks:valD kvs (.inr "peeks")=some (.bl h.pk)
 writes:valD kvs (.inr "writes")=some (.bl h.wr)
structure ShS (h:Shp) (a sh sl ce:Addr) (S:Sto):Prop where
 ex:∃ kvs,S sh=some (.dic kvs)∧ShD h sl ce kvs
 sl_:S sl=some (.lst (h.slots.map D.str))
 ce_:S ce=some (.lst (h.cells.map D.str))
 nsh:sh≠a
 nsl:sl≠a
 nce:ce≠a
theorem ShS.fr {h:Shp} {a sh sl ce:Addr} {S S':Sto} (x:ShS h a sh sl ce S) (f:Fr a S S'):ShS h a sh sl ce S':=by
 obtain ⟨⟨kvs,e,d⟩,e1,e2,n1,n2,n3⟩:=x
 exact ⟨⟨kvs,f _ _ n1 e,d⟩,f _ _ n2 e1,f _ _ n3 e2,n1,n2,n3⟩
structure ShW (h:Shp):Prop where
 w0:0 < h.words.length
 w1:h.words.length≤100
 s0:0 < h.sources.length
 s1:h.sources.length≤100
 c0:0 < h.cells.length
 c1:h.cells.length≤100
 l0:0 < h.slots.length
 l1:h.slots.length≤100
 flags:h.der=true->h.pk=false∧h.wr=false
theorem zlm {zs:List Str} {r:Int} (h0:0≤r) (h1:r < (zs.map D.str).length):∃ z∈zs,L2.atI (zs.map D.str) r=some (.str z):=by
 obtain ⟨n,rfl⟩:=Int.eq_ofNat_of_zero_le h0
 have hn:n < zs.length:=by simpa using h1
 exact ⟨zs[n],List.getElem_mem hn,atI_nat (by simp [hn])⟩
theorem zfC {K:PySem.W.Frag} {ns:List Int} {a l:Addr} {S:Sto} {zs:List Str} {Q:DQ} {E:XQ} (h:StA ns a l S) (h0:0 < zs.length) (h1:zs.length≤100)
  (hQ:∀ r S' z,z∈zs->L2.atI (zs.map D.str) r=some (.str z)->StA ns a l S'->Fr a S S'->Q (.int r) S'):zaj K [.ref a,.int ((zs.map D.str).length:Nat)] S Q E:=by
 refine zaG h (by simpa using h0) (zbw (by omega) (by simp;omega)) fun r S' r0 r1 h' f'=>?_
 obtain ⟨z,hz,ez⟩:=zlm r0 r1
 exact hQ r S' z hz ez h' f'
theorem zre {K:PySem.W.Frag} {ns:List Int} {a l sh sl ce:Addr} {S:Sto} {h:Shp} {Q:DQ} {E:XQ} (hS:StA ns a l S) (hh:ShS h a sh sl ce S) (hw:ShW h)
  (hQ:∀ (r:Row) S',r.ok h->r.dep=0->r.ex=0->StA ns a l S'->Fr a S S'->Q r.d S'):zel K [.ref a,.ref sh] S Q E:=by
 refine zaH rfl ?_
 unfold zgi
 walk_at "dl"
 refine zaG hS (by decide) (by decide +kernel) fun k S1 k0 k1 h1 f1=>?_
 obtain ⟨⟨kvs,e1,d⟩,e2,e3,_,_,_⟩:=hh.fr f1
 have dk:=d.kind
 have dc:=d.cells
 have ds:=d.sources
 have dl:=d.slots
 have dw:=d.words
 have dp:=d.peeks
 have dr:=d.writes
 walk_at "dl"
 refine zfC h1 hw.l0 hw.l1 fun r2 S2 s hs es h2 f2=>?_
 obtain ⟨⟨kvs',e1',d'⟩,e2',e3',n1,n2,n3⟩:=hh.fr (f1.trans f2)
 have ek:kvs'=kvs:=by
  have z:=f2 _ _ n1 e1
  rw [e1'] at z
  cases z
  rfl
 subst ek
 walk_at "dl"
 have rest:∀ (env:Slo),env=[some (.ref a),some (.ref sh),some (.int k),some (.str s),none]->¬ k=0->¬ k=1->(zav (mIf (zj6 (mB (mOp vEq (zag 2) (mC (.int 2)))) (zev (mOp vIx (zag 1) (mC (.str "writes")))))
   (zbg (zbW (zac (mC (.str "write")) (zac (mOp vIx (mOp vIx (zag 1) (mC (.str "sources"))) (zas (zaj K) (fun c fs _ S'=>E c fs S') (zac (zag 0) (zac (mCB zcZ (zac (mOp vIx (zag 1) (mC (.str "sources"))) zal)) zal)))) (zac (zag 3) zal))))) mNx)
   (zav (zaN (mOp vIx (mOp vIx (zag 1) (mC (.str "cells"))) (zas (zaj K) (fun c fs _ S'=>E c fs S') (zac (zag 0) (zac (mCB zcZ (zac (mOp vIx (zag 1) (mC (.str "cells"))) zal)) zal)))) (gNm 4))
    (zav (mIf (zj6 (mB (mOp vEq (zag 2) (mC (.int 3)))) (zev (mOp vIx (zag 1) (mC (.str "peeks"))))) (zbg (zbW (zac (mC (.str "peek")) (zac (zag 4) (zac (zag 3) zal))))) mNx)
     (zbg (zbW (zac (mC (.str "read")) (zac (zag 4) (zac (zag 3) zal)))))))) { nx:=fun _ S'=>Q .non S',rt:=Q } env S2:=by
  rintro _ rfl hk0 hk1
  have last:∀ (env:Slo),env=[some (.ref a),some (.ref sh),some (.int k),some (.str s),none]->(zav (zaN (mOp vIx (mOp vIx (zag 1) (mC (.str "cells"))) (zas (zaj K) (fun c fs _ S'=>E c fs S') (zac (zag 0) (zac (mCB zcZ (zac (mOp vIx (zag 1) (mC (.str "cells"))) zal)) zal)))) (gNm 4))
    (zav (mIf (zj6 (mB (mOp vEq (zag 2) (mC (.int 3)))) (zev (mOp vIx (zag 1) (mC (.str "peeks"))))) (zbg (zbW (zac (mC (.str "peek")) (zac (zag 4) (zac (zag 3) zal))))) mNx)
     (zbg (zbW (zac (mC (.str "read")) (zac (zag 4) (zac (zag 3) zal))))))) { nx:=fun _ S'=>Q .non S',rt:=Q } env S2:=by
   rintro _ rfl
   walk_at "dl"
   refine zfC h2 hw.c0 hw.c1 fun r3 S3 c hc ec h3 f3=>?_
   have e1s:=f3 _ _ n1 e1'
   have e3s:=f3 _ _ n3 e3'
   have f03:Fr a S S3:=(f1.trans f2).trans f3
   walk_at "dl"
   with_reducible refine zbp (fun hk3=>?_) (fun hk3=>?_)
   ·walk_at "dl"
    with_reducible refine zfi (fun hp=>?_) (fun hp=>?_)
    ·walk_at "dl"
     with_reducible refine zaL (szl (by simp)) ?_
     refine hQ (.peek c s) S3 ⟨?_,hc,hs⟩ rfl rfl h3 f03
     cases hd:h.der
     ·rfl
     ·rw [(hw.flags hd).1] at hp
      cases hp
    ·walk_at "dl"
     with_reducible refine zaL (szl (by simp)) ?_
     exact hQ (.read c s) S3 ⟨hc,hs⟩ rfl rfl h3 f03
   ·walk_at "dl"
    with_reducible refine zaL (szl (by simp)) ?_
    exact hQ (.read c s) S3 ⟨hc,hs⟩ rfl rfl h3 f03
  with_reducible refine zfh ?_
  walk_at "dln"
  with_reducible refine zbp (fun hk2=>?_) (fun hk2=>?_)
  ·walk_at "dln"
   with_reducible refine zfi (fun hp=>?_) (fun hp=>?_)
   ·walk_at "dln"
    refine zfC h2 hw.s0 hw.s1 fun r3 S3 c hc ec h3 f3=>?_
    walk_at "dln"
    with_reducible refine zaL (szl (by simp)) ?_
    refine hQ (.write c s) S3 ⟨?_,hc,hs⟩ rfl rfl h3 ((f1.trans f2).trans f3)
    cases hd:h.der
    ·rfl
    ·rw [(hw.flags hd).2] at hp
     cases hp
   ·walk_at "dln"
    exact last _ rfl
  ·walk_at "dln"
   exact last _ rfl
 with_reducible refine zeq (fun hk=>?_) (fun hk=>?_)
 ·walk_at "dl"
  refine zfC h2 hw.w0 hw.w1 fun r3 S3 w hww ew h3 f3=>?_
  walk_at "dl"
  with_reducible refine zaL (szl (by simp)) ?_
  exact hQ (.put s w) S3 ⟨hs,hww⟩ rfl rfl h3 ((f1.trans f2).trans f3)
 ·with_reducible refine zvm ?_
  with_reducible refine zfh ?_
  walk_at "dln"
  with_reducible refine zbp (fun hk1=>?_) (fun hk1=>?_)
  ·walk_at "dln"
   with_reducible refine zeq (fun hd=>?_) (fun hd=>?_)
   ·walk_at "dln"
    with_reducible refine zaL (szl (by simp)) ?_
    exact hQ (.give s) S2 ⟨zme hd,hs⟩ rfl rfl h2 (f1.trans f2)
   ·walk_at "dln"
    with_reducible refine zfh ?_
    walk_at "dln"
    with_reducible refine zeq (fun hk'=>?_) (fun hk'=>?_)
    ·walk_at "dln"
     with_reducible refine zaL (szl (by simp)) ?_
     exact hQ (.say s) S2 ⟨zmd hd,hs⟩ rfl rfl h2 (f1.trans f2)
    ·exact absurd (of_decide_eq_true hk1) hk'
  ·walk_at "dln"
   with_reducible refine zfh ?_
   walk_at "dln"
   with_reducible refine zeq (fun hk'=>?_) (fun hk'=>?_)
   ·rw [decide_eq_true hk'] at hk1
    cases hk1
   ·walk_at "dln"
    exact rest _ rfl hk hk'
theorem zeO (rs:List Row) (r:Row):zaM rs++[r.d]=zaM (rs++[r]):=by
 rw [zcj,zcj,List.map_append]
 rfl
theorem zfE (rs:List Row) (r:Row):zau (rs++[r])=zau rs+1+r.ex:=by
 rw [zeF,zeF]
 simp [zea]
 omega
theorem zgg:∀ (rs:List Row) (r:Row),zaE (rs++[r])=max (zaE rs) r.dep
 | [],r=>by simp [zaE]
 | x :: rs,r=>by
  rw [List.cons_append,zaE,zaE,zgg rs r]
  omega
theorem ziB {h:Shp} {rs:List Row} {r:Row} (h1:zbs h rs) (h2:r.ok h):zbs h (rs++[r]):=by
 rw [zf9] at h1 ⊢
 intro x hx
 rcases List.mem_append.mp hx with q | q
 ·exact h1 x q
 ·rw [List.mem_singleton.mp q];exact h2
theorem Fr.wr {a p:Addr} {S S':Sto} {o:O} (h:Fr a S S') (hp:S p=none):Fr a S (DL.put S' p o):=fun b o' hb e=>by
 rw [zaP (fun z=>by subst z;rw [hp] at e;cases e)]
 exact h b o' hb e
theorem StA.wr {ns:List Int} {a l p:Addr} {S:Sto} {o:O} (h:StA ns a l S) (pa:p≠a) (pl:l≠p):StA ns a l (DL.put S p o):=by
 obtain ⟨⟨p',big,cnt,seed,e,r⟩,e2,ne⟩:=h
 exact ⟨⟨p',big,cnt,seed,by rw [zaP (Ne.symm pa)];exact e,r⟩,by rw [zaP pl];exact e2,ne⟩
theorem StA.fresh {ns:List Int} {a l p:Addr} {S:Sto} (h:StA ns a l S) (hp:S p=none):p≠a∧l≠p:=by
 obtain ⟨⟨p',big,cnt,seed,e,r⟩,e2,ne⟩:=h
 refine ⟨fun z=>?_,fun z=>?_⟩
 ·rw [← z,hp] at e;cases e
 ·rw [z,hp] at e2;cases e2
theorem zhT {K:PySem.W.Frag} {ns:List Int} {a l sh sl ce:Addr} {h:Shp} (hw:ShW h):∀ (n:Nat) {S:Sto} {d room:Int} {Q:DQ} {E:XQ},StA ns a l S->ShS h a sh sl ce S->1≤d->d≤4->4 - d < n->0≤room->room≤900 ->
  (∀ (rs:List Row) S',zbs h rs->(zau rs:Int)≤room->(zaE rs:Int)≤4 - d->StA ns a l S'->Fr a S S'->Q (.tup (zaM rs)) S')->zcH K n [.ref a,.ref sh,.int d,.int room] S Q E
 | 0,S,d,room,Q,E,hS,hh,d1,d4,hn,r0,r1,hQ=>by omega
 | n+1,S,d,room,Q,E,hS,hh,d1,d4,hn,r0,r1,hQ=>by
  refine zaH rfl ?_
  unfold zfJ
  walk_at "dl"
  with_reducible refine zdX (szl (by simp)) fun p hp=>?_
  obtain ⟨pa,pl⟩:=hS.fresh hp
  have f0:Fr a S (put S p (.lst [])):=Fr.refl.new hp
  have hS0:StA ns a l (put S p (.lst [])):=hS.wr pa pl
  walk_at "dl"
  refine zaG hS0 (by decide) (by decide +kernel) fun t S1 t0 t1 h1 f1=>?_
  have ep1:S1 p=some (.lst []):=f1 _ _ pa zai
  walk_at "dl"
  with_reducible refine zho (by omega) (by omega) ?_
  walk_at "dl"
  refine za2 (fun i env S'=>∃ (rs:List Row) (left:Int) (x1 x2 x3 x4 x5 x6:Option D),env=[some (.ref a),some (.ref sh),some (.int d),some (.int room),some (.ref p),some (.int left),x1,x2,x3,x4,x5,x6]∧zbs h rs∧(zau rs:Int)+left=room∧0≤left∧
   (zaE rs:Int)≤4 - d∧S' p=some (.lst (zaM rs))∧StA ns a l S'∧Fr a S S') _ 0 ?_ ?_ ?_
  ·refine ⟨[],room,_,_,_,_,_,_,rfl,trivial,by simp [zau],r0,by simp [zaE];omega,by rw [zaM];exact ep1,h1,f0.trans f1⟩
  ·rintro i x _ S2 hx ⟨rs,left,x1,x2,x3,x4,x5,x6,rfl,hok,hcnt,hl0,hdep,ep,h2,f2⟩ nx hnx
   have hlen:(zaM rs).length < sizeLine:=by
    rw [zbt]
    have:=zeF rs
    exact zhy (by omega)
   have hlen':∀ r:Row,(zaM (rs++[r])).length < sizeLine:=fun r=>by
    rw [zbt]
    have:=zeF rs
    exact zhy (by simp;omega)
   refine ⟨trivial,?_⟩
   refine zgJ ?_
   have other:∀ (x:Option D) (S3:Sto),StA ns a l S3->Fr a S2 S3->(mIf (mB (mOp vGe (zag 5) (mC (.int 1))))
     (zav (zcn (zgP okL zhV (zag 4) (zac (zas (zel K) (fun c fs _ S'=>E c fs S') (zac (zag 0) (zac (zag 1) zal))) zal))) (zaN (mOp zlo (zag 5) (mC (.int 1))) (gNm 5)))
     mNx) { nx:=nx,rt:=Q,bk:=fun e s=>(zbg (mCB zdz (zac (zag 4) zal))) { nx:=fun _ S'=>Q .non S',rt:=Q } e s,ct:=nx } [some (.ref a),some (.ref sh),some (.int d),some (.int room),some (.ref p),some (.int left),x,x2,x3,x4,x5,x6] S3:=by
    intro x S3 h3 f3
    have ep3:=f3 _ _ pa ep
    walk_at "dl"
    with_reducible refine zeq (fun hl=>?_) (fun hl=>?_)
    ·walk_at "dl"
     refine zre h3 (hh.fr (f2.trans f3)) hw fun r S4 rok rdep rex h4 f4=>?_
     have ep4:=f4 _ _ pa ep3
     walk_at "dl"
     with_reducible refine s_app ep4 hlen ?_
     walk_at "dl"
     rw [zeO]
     refine hnx _ _ ⟨rs++[r],left - 1,_,_,_,_,_,_,rfl,ziB hok rok,by rw [zfE,rex];omega,by omega,by rw [zgg,rdep];omega,zai,h4.wr pa pl,((f2.trans f3).trans f4).wr hp⟩
    ·walk_at "dl"
     exact hnx _ _ ⟨rs,left,_,_,_,_,_,_,rfl,hok,hcnt,hl0,hdep,ep3,h3,f2.trans f3⟩
   walk_at "dln"
   with_reducible refine zbp (fun hl2=>?_) (fun hl2=>?_)
   ·have hl2:=of_decide_eq_true hl2
    walk_at "dln"
    with_reducible refine zbp (fun hd4=>?_) (fun hd4=>?_)
    ·have hd4:=of_decide_eq_true hd4
     walk_at "dln"
     refine zaG h2 (by decide) (by decide +kernel) fun r S3 _ _ h3 f3=>?_
     walk_at "dln"
     with_reducible refine zeq (fun hr=>?_) (fun hr=>?_)
     ·obtain ⟨⟨kvs,e1,dd⟩,e2,e3,n1,n2,n3⟩:=hh.fr (f2.trans f3)
      have dc:=dd.cells
      have dl:=dd.slots
      have dw:=dd.words
      walk_at "dl"
      refine zfC h3 hw.l0 hw.l1 fun r4 S4 s hs es h4 f4=>?_
      have e14:=f4 _ _ n1 e1
      have e24:=f4 _ _ n2 e2
      have e34:=f4 _ _ n3 e3
      walk_at "dl"
      refine zfC h4 hw.c0 hw.c1 fun r5 S5 c hc ec h5 f5=>?_
      have e15:=f5 _ _ n1 e14
      have e35:=f5 _ _ n3 e34
      walk_at "dl"
      refine zfC h5 hw.w0 hw.w1 fun r6 S6 w hww ew h6 f6=>?_
      have ep6:=f6 _ _ pa (f5 _ _ pa (f4 _ _ pa (f3 _ _ pa ep)))
      have f06:Fr a S S6:=(((f2.trans f3).trans f4).trans f5).trans f6
      walk_at "dl"
      with_reducible refine zaL (szl (by simp)) ?_
      walk_at "dl"
      with_reducible refine s_app ep6 hlen ?_
      walk_at "dl"
      have h7:StA ns a l (put S6 p (.lst (zaM rs++[.tup [.str "read", .str c,.str s]]))):=h6.wr pa pl
      have f07:Fr a S (put S6 p (.lst (zaM rs++[.tup [.str "read", .str c,.str s]]))):=f06.wr hp
      refine zhT hw n h7 (hh.fr f07) (by omega) (by omega) (by omega) (by omega) (by omega) fun ys S8 yok ycnt ydep h8 f8=>?_
      walk_at "dl"
      refine zhT hw n h8 (hh.fr (f07.trans f8)) (by omega) (by omega) (by omega) (by omega) (by omega) fun zs S9 zok zcnt zdep h9 f9=>?_
      have ep9:=f9 _ _ pa (f8 _ _ pa zai)
      have f09:Fr a S S9:=(f07.trans f8).trans f9
      walk_at "dl"
      with_reducible refine zaL (szl (by simp)) ?_
      walk_at "dl"
      have e9:zaM rs++[.tup [.str "read", .str c,.str s]]=zaM (rs++[.read c s]):=by rw [← zeO,Row.d]
      rw [e9] at ep9
      with_reducible refine s_app ep9 (hlen' _) ?_
      walk_at "dl"
      refine zh9 6 ys (by omega) ?_
      walk_at "dl"
      refine zh9 6 zs (by omega) ?_
      walk_at "dl"
      have ea:zaM (rs++[.read c s])++[.tup [.str "if", .str s,.str w,.tup (zaM ys),.tup (zaM zs)]]=zaM (rs++[.read c s]++[.ite s w ys zs]):=by
       have z:=zeO (rs++[Row.read c s]) (Row.ite s w ys zs)
       rw [Row.d] at z
       exact z
      rw [ea]
      refine hnx _ _ ⟨rs++[.read c s]++[.ite s w ys zs],_,_,_,_,_,_,_,rfl,ziB (r:=.ite s w ys zs) (ziB (r:=.read c s) hok (by rw [Row.ok];exact ⟨hc,hs⟩)) (by rw [Row.ok];exact ⟨hs,hww,yok,zok⟩),?_,by omega,?_,zai,h9.wr pa pl,f09.wr hp⟩
      ·rw [zfE,zfE,Row.ex,Row.ex]
       omega
      ·rw [zgg,zgg,Row.dep,Row.dep]
       omega
     ·exact other _ S3 h3 f3
    ·with_reducible refine ztD ?_
     exact other _ S2 h2 Fr.refl
   ·with_reducible refine ztD ?_
    exact other _ S2 h2 Fr.refl
  ·rintro _ S2 ⟨rs,left,x1,x2,x3,x4,x5,x6,rfl,hok,hcnt,hl0,hdep,ep,h2,f2⟩
   refine ⟨trivial,?_⟩
   walk_at "dl"
   exact hQ rs S2 hok (by omega) hdep h2 f2
set_option maxHeartbeats 2000000
theorem zc6 {κ:Type} [DecidableEq κ] {kvs:List (κ×D)} {k k':κ} {v:D}:valD (putD kvs k v) k'=if k'=k then some v else valD kvs k':=by
 unfold putD
 by_cases h:(kvs.any fun kv=>decide (kv.1=k))=true
 ·rw [if_pos h]
  induction kvs with
  | nil=>simp at h
  | cons p kvs ih=>
   obtain ⟨q,u⟩:=p
   unfold valD at ih ⊢
   by_cases e:q=k
   ·subst e
    by_cases e':k'=q
    ·subst e';simp
    ·have e2:¬ q=k':=fun z=>e' z.symm
     simp only [List.map_cons,if_true,List.find?_cons,decide_eq_false e2,if_neg e']
     clear ih h
     induction kvs with
     | nil=>rfl
     | cons p kvs ih2=>
      obtain ⟨q2,u2⟩:=p
      by_cases e3:q2=q
      ·subst e3
       simp only [List.map_cons,if_true,List.find?_cons,decide_eq_false e2]
       exact ih2
      ·by_cases e4:q2=k'
       ·subst e4
        simp [e3]
       ·simp only [List.map_cons,if_neg e3,List.find?_cons,decide_eq_false e4]
        exact ih2
   ·have h2:(kvs.any fun kv=>decide (kv.1=k))=true:=by simpa [e] using h
    by_cases e4:q=k'
    ·subst e4
     simp [e]
    ·simp only [List.map_cons,if_neg e,List.find?_cons,decide_eq_false e4]
     exact ih h2
 ·rw [if_neg h]
  unfold valD
  rw [List.find?_append]
  by_cases e:k'=k
  ·subst e
   have:kvs.find? (fun kv=>decide (kv.1=k'))=none:=by
    rw [List.find?_eq_none]
    intro x hx hd
    exact h (List.any_eq_true.mpr ⟨x,hx,hd⟩)
   rw [this]
   simp
  ·have e2:¬ k=k':=fun z=>e z.symm
   rw [if_neg e]
   cases q:kvs.find? (fun kv=>decide (kv.1=k')) with
   | none=>simp [e2]
   | some x=>simp
theorem Fr.none_ {a p:Addr} {S S':Sto} (f:Fr a S S') (h:S' p=none) (pa:p≠a):S p=none:=by
 cases e:S p with
 | none=>rfl
 | some o=>rw [f p o pa e] at h;cases h
theorem zkF {S:Sto} {n:Nat} (zs:List Str):(zs.map D.str).mapM (rs S n)=some (zs.map PyData.str):=by
 induction zs with
 | nil=>rfl
 | cons z zs ih=>
  rw [List.map_cons,List.mapM_cons,ih]
  cases n <;> rfl
theorem zhS {S:Sto} {fl:Bool} (zs:List Str):rs S 40 (.tp fl (zs.map D.str))=some (.tuple (zs.map PyData.str)):=by
 show (List.mapM (rs S 39) (zs.map D.str)).map PyData.tuple=_
 rw [zkF]
 rfl
theorem zhh (zs:List Str) (x:Str):((zs.map PyData.str).any fun z=>PyData.eqv z (.str x))=decide (x∈zs):=by
 induction zs with
 | nil=>rfl
 | cons z zs ih=>
  rw [List.map_cons,List.any_cons,ih]
  have e:PyData.eqv (.str z) (.str x)=decide (z=x):=(zfD z x).symm
  rw [e]
  by_cases h:z=x
  ·subst h;simp
  ·have h2:¬ x=z:=fun q=>h q.symm
   simp [h,h2]
structure Parts where
 words:List Str
 sources:List Str
 derived:List (Str×List Row)
 effects:List (Str×List Row)
 fl:Bool
def pairD (p:Str×List Row):D:=.tup [.str p.1,.tup (zaM p.2)]
def Parts.d (x:Parts):D:=.tup [.tup (x.words.map D.str),.tp x.fl (x.sources.map D.str),.tup (x.derived.map pairD),.tup (x.effects.map pairD)]
structure BodyOk (h:Shp) (rs:List Row):Prop where
 ok:zbs h rs
 cnt:zau rs≤16
 dep:zaE rs≤3
structure za5 (x:Parts) (slots:List Str) (pk wr:Bool):Prop where
 ww:Nms x.words
 w2:2≤x.words.length
 w4:x.words.length≤4
 nn:Nms (x.sources++x.derived.map (·.1)++x.effects.map (·.1))
 s1:1≤x.sources.length
 s4:x.sources.length≤4
 d6:x.derived.length≤6
 e4:x.effects.length≤4
 sl:∀ z∈slots,zmD z
 der:∀ i p,x.derived[i]? = some p->BodyOk ⟨true,false,false,x.words,x.sources,x.sources++(x.derived.take i).map (·.1),slots⟩ p.2
 eff:∀ p∈x.effects,BodyOk ⟨false,pk,wr,x.words,x.sources,x.sources++x.derived.map (·.1),slots⟩ p.2
theorem zc3 {ns:List Int} {a l p:Addr} {S S':Sto} {o:O} (h:StA ns a l S') (f:Fr a S S') (hp:S' p=none) :
  StA ns a l (DL.put S' p o)∧Fr a S (DL.put S' p o)∧p≠a∧S p=none∧(∀ b x,S' b=some x->DL.put S' p o b=some x)∧DL.put S' p o p=some o:=by
 obtain ⟨pa,pl⟩:=h.fresh hp
 refine ⟨h.wr pa pl,f.new hp,pa,f.none_ hp pa,fun b x e=>?_,zai⟩
 rw [zaP (fun z=>by subst z;rw [hp] at e;cases e)]
 exact e
theorem zhL {ns:List Int} {a l p:Addr} {S S':Sto} {o o':O} (h:StA ns a l S') (f:Fr a S S') (pa:p≠a) (pl:l≠p) (hp:S p=none) :
  StA ns a l (DL.put S' p o)∧Fr a S (DL.put S' p o)∧(∀ b x,b≠p->S' b=some x->DL.put S' p o b=some x)∧DL.put S' p o p=some o:=
 ⟨h.wr pa pl,f.wr hp,fun b x hb e=>by rw [zaP hb];exact e,zai⟩
theorem zlg (zs:List Str):DL.cutD (zs.map D.str) (some 1) none=(zs.drop 1).map D.str:=by
 unfold DL.cutD
 have e1:HT.sIx (zs.map D.str).length 0 (some 1)=min 1 zs.length:=by rw [List.length_map];rfl
 have e2:HT.sIx (zs.map D.str).length (zs.map D.str).length none=zs.length:=by rw [List.length_map];rfl
 rw [e1,e2]
 cases zs with
 | nil=>rfl
 | cons z zs=>
  have:min 1 (z :: zs).length=1:=by simp
  rw [this,List.map_cons,List.drop_one,List.drop_one,List.tail_cons,List.tail_cons]
  rw [List.take_of_length_le (by simp)]
theorem zmw (zs:List Str) (k:Nat):DL.cutD (zs.map D.str) none (some (k:Int))=(zs.take k).map D.str:=by
 unfold DL.cutD
 have e1:HT.sIx (zs.map D.str).length 0 none=0:=rfl
 have e2:HT.sIx (zs.map D.str).length (zs.map D.str).length (some (k:Int))=min k zs.length:=by
  rw [List.length_map]
  exact HT.sIx_nat _ _ _
 rw [e1,e2,List.drop_zero,Nat.sub_zero,List.map_take]
 by_cases h:k≤zs.length
 ·rw [Nat.min_eq_left h]
 ·rw [Nat.min_eq_right (by omega),List.take_of_length_le (by simp),List.take_of_length_le (by simp;omega)]
theorem zl0 {ws:List Str} {n:Str} (h:Nms ws) (hn:zmD n) (hx:n∉ws):Nms (ws.drop 1++[n]):=by
 refine ⟨fun z hz=>?_,?_⟩
 ·rcases List.mem_append.mp hz with q | q
  ·exact h.1 z (List.mem_of_mem_drop q)
  ·rw [List.mem_singleton.mp q];exact hn
 ·refine List.nodup_append.mpr ⟨h.2.sublist (List.drop_sublist _ _),by simp,fun x hx1 y hy=>?_⟩
  rw [List.mem_singleton.mp hy]
  intro e
  subst e
  exact hx (List.mem_of_mem_drop hx1)
theorem zcC {κ:Type} [DecidableEq κ] {kvs:List (κ×D)} {k:κ} {v:D}:(putD kvs k v).length≤kvs.length+1:=by
 unfold putD
 split
 ·simp
 ·simp
theorem zfe:∀ (more kvs:List (Key×D)),(zdR kvs more).length≤kvs.length+more.length
 | [],kvs=>by simp [zdR]
 | p :: more,kvs=>by
  have h:=zfe more (putD kvs p.1 p.2)
  have h2:=zcC (kvs:=kvs) (k:=p.1) (v:=p.2)
  have e:zdR kvs (p :: more)=zdR (putD kvs p.1 p.2) more:=rfl
  rw [e,List.length_cons]
  omega
abbrev kv0 (ce sl:Addr) (so wo:List Str):List (Key×D):=[(.inr "kind", .str "derived"),(.inr "cells", .ref ce),(.inr "sources", .tp true (so.map D.str)),(.inr "slots", .ref sl),(.inr "words", .tup (wo.map D.str))]
abbrev kv1 (ce sl:Addr) (so wo:List Str):List (Key×D):=putD (putD (zdR [] (kv0 ce sl so wo)) (.inr "peeks") (.bl false)) (.inr "writes") (.bl false)
theorem zoM {ce sl:Addr} {so wo:List Str}:(kv1 ce sl so wo).length≤7:=by
 have h:=zfe (kv0 ce sl so wo) []
 have h1:=zcC (kvs:=zdR [] (kv0 ce sl so wo)) (k:=(.inr "peeks" : Key)) (v:=.bl false)
 have h2:=zcC (kvs:=putD (zdR [] (kv0 ce sl so wo)) (.inr "peeks") (.bl false)) (k:=(.inr "writes" : Key)) (v:=.bl false)
 simp at h
 show (putD (putD (zdR [] (kv0 ce sl so wo)) (.inr "peeks") (.bl false)) (.inr "writes") (.bl false)).length≤7
 omega
theorem zrH {ce sl:Addr} {so wo slots:List Str}:ShD ⟨true,false,false,wo,so,so,slots⟩ sl ce (kv1 ce sl so wo):=by
 refine ⟨?_,?_,?_,?_,?_,?_,?_⟩ <;> (simp only [kv1,kv0,zdR,List.foldl_cons,List.foldl_nil];repeat (first | rw [zc6,if_pos (by with_reducible rfl)] | rw [zc6,if_neg (by decide +kernel)])) <;> rfl
theorem ShD.cells_put {h:Shp} {sl ce ce':Addr} {kvs:List (Key×D)} {cs:List Str} (x:ShD h sl ce kvs):ShD { h with cells:=cs } sl ce' (putD kvs (.inr "cells") (.ref ce')):=by
 obtain ⟨k1,k2,k3,k4,k5,k6,k7⟩:=x
 refine ⟨?_,?_,?_,?_,?_,?_,?_⟩ <;> (first | rw [zc6,if_pos (by with_reducible rfl)] | rw [zc6,if_neg (by decide +kernel)]) <;> assumption
theorem ShD.eff_put {h:Shp} {sl ce:Addr} {kvs:List (Key×D)} {pk wr:Bool} (x:ShD h sl ce kvs):ShD { h with der:=false,pk:=pk,wr:=wr } sl ce (putD (putD (putD kvs (.inr "kind") (.str "effects")) (.inr "peeks") (.bl pk)) (.inr "writes") (.bl wr)):=by
 obtain ⟨k1,k2,k3,k4,k5,k6,k7⟩:=x
 refine ⟨?_,?_,?_,?_,?_,?_,?_⟩ <;> (repeat (first | rw [zc6,if_pos (by with_reducible rfl)] | rw [zc6,if_neg (by decide +kernel)])) <;> first | assumption | rfl
theorem zlZ {K:PySem.W.Frag} {ns:List Int} {a l:Addr} {S:Sto} {w s d e r:Int} {pk wr:Bool} {Q:DQ} {E:XQ} (hS:StA ns a l S)
  (w0:0 < w) (w3:w≤3) (s0:0 < s) (s4:s≤4) (d0:0≤d) (d6:d≤6) (e0:0≤e) (e4:e≤4) (r0:0≤r) (r15:r≤15)
  (hQ:∀ x slots S',x.fl=true->za5 x slots pk wr->slots.length=3->(∀ p∈x.derived++x.effects,(zau p.2:Int)≤r+1)->StA ns a l S'->Fr a S S'->Q x.d S'):zem K [.ref a,.tup [.int w,.int s,.int d,.int e,.int r],.bl pk,.bl wr] S Q E:=by
 refine zaH rfl ?_
 unfold ze7
 walk_at "dl"
 refine zaG hS w0 (zbw (by omega) (by omega)) fun mw S1 mw0 mw1 h1 f1=>?_
 walk_at "dl"
 refine zaG h1 s0 (zbw (by omega) (by omega)) fun ms S2 ms0 ms1 h2 f2=>?_
 walk_at "dl"
 refine zaG h2 (by omega) (zbw (by omega) (by omega)) fun md1 S3 a0 a1 h3 f3=>?_
 walk_at "dl"
 refine zaG h3 (by omega) (zbw (by omega) (by omega)) fun md2 S4 b0 b1 h4 f4=>?_
 walk_at "dl"
 refine zaG h4 (by omega) (zbw (by omega) (by omega)) fun me1 S5 c0 c1 h5 f5=>?_
 walk_at "dl"
 refine zaG h5 (by omega) (zbw (by omega) (by omega)) fun me2 S6 g0 g1 h6 f6=>?_
 walk_at "dl"
 obtain ⟨kw,ekw⟩:∃ k:Nat,2+mw=k:=⟨(2+mw).toNat,by omega⟩
 obtain ⟨ks,eks⟩:∃ k:Nat,1+ms=k:=⟨(1+ms).toNat,by omega⟩
 obtain ⟨kd,ekd⟩:∃ k:Nat,(if md2 > md1 then md2 else md1)=k:=⟨(if md2 > md1 then md2 else md1).toNat,by split <;> omega⟩
 obtain ⟨ke,eke⟩:∃ k:Nat,(if me2 > me1 then me2 else me1)=k:=⟨(if me2 > me1 then me2 else me1).toNat,by split <;> omega⟩
 have bd:kd≤6:=by
  have:(if md2 > md1 then md2 else md1)≤6:=by split <;> omega
  omega
 have be:ke≤4:=by
  have:(if me2 > me1 then me2 else me1)≤4:=by split <;> omega
  omega
 rw [ekw,eks,ekd,eke]
 refine zh5 h6 (by omega) fun p1 S7 ws wl wok ep1 sp1 h7 f7=>?_
 walk_at "dln"
 with_reducible refine zfh ?_
 walk_at "dln"
 have ekn:(ks:Int)+(kd:Int)+(ke:Int)=((ks+kd+ke:Nat):Int):=by omega
 rw [ekn]
 refine zh5 h7 (by omega) fun nm S8 nms nl nok enm snm h8 f8=>?_
 obtain ⟨nma,nml⟩:=h7.fresh snm
 have f08:Fr a S S8:=((((((f1.trans f2).trans f3).trans f4).trans f5).trans f6).trans f7).trans f8
 have n0:0 < nms.length:=by omega
 have en0:L2.atI (nms.map D.str) 0=some (.str nms[0]):=atI_nat (p:=0) (by simp [n0])
 walk_at "dln"
 with_reducible refine zi1 (fun env S9=>∃ ws':List Str,env=[some (.ref a),some (.tup [.int w,.int s,.int d,.int e,.int r]),some (.bl pk),some (.bl wr),some (.int kw),some (.int ks),some (.int kd),some (.int ke),some (.tup (ws'.map D.str)),some (.ref nm),none,none,none,none,none,none,none,none]∧
  Nms ws'∧ws'.length=kw∧StA ns a l S9∧Fr a S8 S9) ?_ ?_
 rotate_left
 ·intro nx hnx
  walk_at "dln"
  refine zaG h8 (by decide) (by decide +kernel) fun r9 S9 _ _ h9 f9=>?_
  have en9:=f9 _ _ nma enm
  walk_at "dln"
  with_reducible refine zbp (fun hr=>?_) (fun hr=>?_)
  ·walk_at "dln"
   refine zgX (p:=.str nms[0]) rfl (zhS ws) ?_
   rw [zhh]
   walk_at "dln"
   with_reducible refine zfi (fun hin=>?_) (fun hin=>?_)
   ·walk_at "dln"
    rw [zlg]
    with_reducible refine zaL (szl (by simp)) ?_
    walk_at "dln"
    with_reducible refine zc1 (szl (by simp;omega)) ?_
    walk_at "dln"
    have e:(ws.drop 1).map D.str++[.str nms[0]]=(ws.drop 1++[nms[0]]).map D.str:=by simp
    rw [e]
    refine hnx _ _ ⟨ws.drop 1++[nms[0]],rfl,zl0 wok (nok.1 _ (List.getElem_mem n0)) (by simpa using hin),by simp;omega,h9,f9⟩
   ·walk_at "dln"
    exact hnx _ _ ⟨ws,rfl,wok,wl,h9,f9⟩
  ·walk_at "dln"
   exact hnx _ _ ⟨ws,rfl,wok,wl,h9,f9⟩
 rintro _ S9 ⟨ws',rfl,wok',wl',h9,f9⟩
 have en9:=f9 _ _ nma enm
 have f09:Fr a S S9:=f08.trans f9
 clear f08 ekn
 walk_at "dl"
 refine zh5 (many:=2) h9 (by decide) fun p3 S10 zs zl zok ep3 sp3 h10 f10=>?_
 have en10:=f10 _ _ nma en9
 have f010:Fr a S S10:=f09.trans f10
 walk_at "dl"
 with_reducible refine zdX (szl (by simp)) fun p4 hp4=>?_
 obtain ⟨h11,f11,p4a,p4S,k11,t11⟩:=zc3 (o:=.lst [.str nms[0]]) h10 f010 hp4
 have en11:=k11 _ _ en10
 have e311:=k11 _ _ ep3
 generalize DL.put S10 p4 (.lst [.str nms[0]])=S11 at h11 f11 k11 t11 en11 e311 ⊢
 walk_at "dl"
 refine zdN e311 t11 (szl (by simp;omega)) fun sl hsl=>?_
 have esl:zs.map D.str++[.str nms[0]]=(zs++[nms[0]]).map D.str:=by simp
 rw [esl]
 obtain ⟨h12,f12,sla,slS,k12,t12⟩:=zc3 (o:=.lst ((zs++[nms[0]]).map D.str)) h11 f11 hsl
 have en12:=k12 _ _ en11
 generalize DL.put S11 sl (.lst ((zs++[nms[0]]).map D.str))=S12 at h12 f12 k12 t12 en12 ⊢
 walk_at "dl"
 refine zgI en12 fun q hq=>?_
 rw [zmw]
 obtain ⟨h13,f13,qa,qS,k13,t13⟩:=zc3 (o:=.lst ((nms.take ks).map D.str)) h12 f12 hq
 have en13:=k13 _ _ en12
 have t12_13:=k13 _ _ t12
 generalize DL.put S12 q (.lst ((nms.take ks).map D.str))=S13 at h13 f13 k13 t13 en13 t12_13 ⊢
 walk_at "dl"
 refine zq5 fun sh hsh=>?_
 obtain ⟨h14,f14,sha,shS,k14,t14⟩:=zc3 (o:=.dic []) h13 f13 hsh
 have shl:=(h13.fresh hsh).2
 have en14:=k14 _ _ en13
 have t12_14:=k14 _ _ t12_13
 have nsl:sl≠sh:=fun x=>by rw [x,hsh] at t12_13;cases t12_13
 have nnm:nm≠sh:=fun x=>by rw [x,hsh] at en13;cases en13
 generalize DL.put S13 sh (.dic [])=S14 at h14 f14 k14 t14 en14 t12_14 ⊢
 walk_at "dl"
 refine zi0 fun ce hce=>?_
 obtain ⟨h15,f15,cea,ceS,k15,t15⟩:=zc3 (o:=.lst ((nms.take ks).map D.str)) h14 f14 hce
 have en15:=k15 _ _ en14
 have t12_15:=k15 _ _ t12_14
 have t14_15:=k15 _ _ t14
 have nce:ce≠sh:=fun x=>by rw [x,t14] at hce;cases hce
 generalize DL.put S14 ce (.lst ((nms.take ks).map D.str))=S15 at h15 f15 k15 t15 en15 t12_15 t14_15 ⊢
 walk_at "dl"
 refine ztE (kvs:=kv0 ce sl (nms.take ks) ws') rfl t14_15 (by simp) ?_
 walk_at "dl"
 refine zgk zai rfl (Nat.lt_of_le_of_lt (zfe _ _) (by simp;exact zhy (by decide))) ?_
 walk_at "dl"
 refine zgk zai rfl (Nat.lt_of_le_of_lt zcC (Nat.lt_of_le_of_lt (Nat.succ_le_succ (zfe _ _)) (by simp;exact zhy (by decide)))) ?_
 rw [zcT,zcT]
 obtain ⟨h16,f16,k16,t16⟩:=zhL (o:=.dic (kv1 ce sl (nms.take ks) ws')) (o':=.dic []) h15 f15 sha shl shS
 have en16:=k16 _ _ nnm en15
 have t12_16:=k16 _ _ nsl t12_15
 have t15_16:=k16 _ _ nce t15
 have shd:=zrH (ce:=ce) (sl:=sl) (so:=nms.take ks) (wo:=ws') (slots:=zs++[nms[0]])
 have shn:=zoM (ce:=ce) (sl:=sl) (so:=nms.take ks) (wo:=ws')
 generalize DL.put S15 sh (.dic (kv1 ce sl (nms.take ks) ws'))=S16 at h16 f16 k16 t16 en16 t12_16 t15_16 ⊢
 generalize kv1 ce sl (nms.take ks) ws'=kvs1 at shd shn t16
 clear k11 k12 k13 k14 k15 k16 f15 h15 en15 t12_15 t14_15 h14 f14 en14 t12_14 t14 h13 f13 en13 t12_13 t13 h12 f12 en12 t12 h11 f11 en11 e311 t11 h10 f10 f010 en10 ep3 h9 f9 f09 en9
 walk_at "dl"
 with_reducible refine zdX (szl (by simp)) fun dl hdl=>?_
 obtain ⟨h17,f17,dla,dlS,k17,t17⟩:=zc3 (o:=.lst []) h16 f16 hdl
 have dll:=(h16.fresh hdl).2
 have en17:=k17 _ _ en16
 have t12_17:=k17 _ _ t12_16
 have t15_17:=k17 _ _ t15_16
 have t16_17:=k17 _ _ t16
 have ndnm:nm≠dl:=fun x=>by rw [x,hdl] at en16;cases en16
 have ndsl:sl≠dl:=fun x=>by rw [x,hdl] at t12_16;cases t12_16
 have ndce:ce≠dl:=fun x=>by rw [x,hdl] at t15_16;cases t15_16
 have ndsh:sh≠dl:=fun x=>by rw [x,hdl] at t16;cases t16
 generalize DL.put S16 dl (.lst [])=S17 at h17 f17 k17 t17 en17 t12_17 t15_17 t16_17 ⊢
 walk_at "dl"
 with_reducible refine zho (by omega) (by omega) ?_
 walk_at "dl"
 have sll:∀ y∈zs++[nms[0]],zmD y:=fun y hy=>by
  rcases List.mem_append.mp hy with q | q
  ·exact zok.1 y q
  ·rw [List.mem_singleton.mp q];exact nok.1 _ (List.getElem_mem n0)
 have ksb:1≤ks∧ks≤4:=by omega
 have kwb:2≤kw∧kw≤4:=by omega
 have sl3:(zs++[nms[0]]).length=3:=by simp [zl]
 refine za2 (fun i env S'=>∃ (x14 x15 x16:Option D) (ce':Addr) (kvs:List (Key×D)) (dv:List (Str×List Row)),env=[some (.ref a),some (.tup [.int w,.int s,.int d,.int e,.int r]),some (.bl pk),some (.bl wr),some (.int kw),some (.int ks),some (.int kd),some (.int ke),some (.tup (ws'.map D.str)),some (.ref nm),some (.ref sl),some (.tp true ((nms.take ks).map D.str)),some (.ref sh),some (.ref dl),x14,x15,x16,none]∧
  dv.map (·.1)=(nms.drop ks).take i∧dv.length=i∧(∀ j p,dv[j]? = some p->BodyOk ⟨true,false,false,ws',nms.take ks,nms.take (ks+j),zs++[nms[0]]⟩ p.2∧(zau p.2:Int)≤r+1)∧
  S' nm=some (.lst (nms.map D.str))∧S' sl=some (.lst ((zs++[nms[0]]).map D.str))∧S' sh=some (.dic kvs)∧kvs.length≤7+i∧
  ShD ⟨true,false,false,ws',nms.take ks,nms.take (ks+i),zs++[nms[0]]⟩ sl ce' kvs∧S' ce'=some (.lst ((nms.take (ks+i)).map D.str))∧ce'≠a∧ce'≠dl∧S' dl=some (.lst (dv.map pairD))∧StA ns a l S'∧Fr a S S') _ 0 ?_ ?_ ?_
 ·exact ⟨_,_,_,ce,kvs1,[],rfl,by simp,rfl,fun j p hj=>by simp at hj,en17,t12_17,t16_17,shn,shd,t15_17,cea,ndce,t17,h17,f17⟩
 ·rintro i x _ S2 hx ⟨x14,x15,x16,ce',kvs,dv,rfl,dn,dlen,dok,  en2,es2,eh2,hl2,shd2,ec2,ca2,ndc,ed2,hS2,f2'⟩ nx hnx
  obtain ⟨rfl,hi⟩:=zfP hx
  rw [Nat.zero_add] at dlen shd2 ec2 dn hl2 hnx
  refine ⟨trivial,?_⟩
  refine zgJ ?_
  have hik:i < kd:=by simpa using hi
  have hnm:L2.atI (nms.map D.str) ((ks:Int)+(i:Int))=some (.str nms[ks+i]):=by
   have e:(ks:Int)+(i:Int)=((ks+i:Nat):Int):=by omega
   rw [e]
   exact atI_nat (by simp [show ks+i < nms.length by omega])
  have hw2:ShW ⟨true,false,false,ws',nms.take ks,nms.take (ks+i),zs++[nms[0]]⟩:=⟨by show 0 < ws'.length;omega,by show ws'.length≤100;omega,by simp;omega,by simp;omega,by simp;omega,by simp;omega,by simp,by show (zs++[nms[0]]).length≤100;omega,fun _=>⟨rfl,rfl⟩⟩
  walk_at "dl"
  refine zhT hw2 5 hS2 ⟨⟨kvs,eh2,shd2⟩,es2,ec2,sha,sla,ca2⟩ (by decide) (by decide) (by decide) r0 (by omega) fun rs S3 rok rcnt rdep h3 f3=>?_
  have en3:=f3 _ _ nma en2
  have es3:=f3 _ _ sla es2
  have eh3:=f3 _ _ sha eh2
  have ec3:=f3 _ _ ca2 ec2
  have ed3:=f3 _ _ dla ed2
  have rl:rs.length≤900:=by
   have:=zeF rs
   omega
  walk_at "dln"
  with_reducible refine zi1 (fun env S4=>∃ rs':List Row,env=[some (.ref a),some (.tup [.int w,.int s,.int d,.int e,.int r]),some (.bl pk),some (.bl wr),some (.int kw),some (.int ks),some (.int kd),some (.int ke),some (.tup (ws'.map D.str)),some (.ref nm),some (.ref sl),some (.tp true ((nms.take ks).map D.str)),some (.ref sh),some (.ref dl),some (.int i),some (.str nms[ks+i]),some (.tup (zaM rs')),none]∧(BodyOk ⟨true,false,false,ws',nms.take ks,nms.take (ks+i),zs++[nms[0]]⟩ rs'∧(zau rs':Int)≤r+1)∧StA ns a l S4∧Fr a S3 S4) ?_ ?_
  rotate_left
  ·intro nx2 hnx2
   walk_at "dln"
   refine zaG h3 (by decide) (by decide +kernel) fun t S4 _ _ h4 f4=>?_
   have es4:=f4 _ _ sla es3
   walk_at "dln"
   with_reducible refine zeq (fun ht=>?_) (fun ht=>?_)
   ·walk_at "dln"
    refine zaG h4 (by decide) (by decide +kernel) fun t2 S5 t20 t21 h5 f5=>?_
    have es5:=f5 _ _ sla es4
    obtain ⟨sv,hsv,esv⟩:=zlm (zs:=zs++[nms[0]]) t20 (by rw [List.length_map,sl3];omega)
    walk_at "dln"
    with_reducible refine zaL (szl (by simp)) ?_
    walk_at "dln"
    with_reducible refine zaL (szl (by simp)) ?_
    walk_at "dln"
    with_reducible refine zc1 (szl (by rw [zbt];simp;omega)) ?_
    walk_at "dln"
    have e:zaM rs++[.tup [.str "give", .str sv]]=zaM (rs++[.give sv]):=by
     have q:=zeO rs (Row.give sv)
     rw [Row.d] at q
     exact q
    rw [e]
    exact hnx2 _ _ ⟨rs++[.give sv],rfl,⟨⟨ziB (r:=.give sv) rok (by rw [Row.ok];exact ⟨rfl,hsv⟩),by rw [zfE,Row.ex];omega,by rw [zgg,Row.dep];omega⟩,by rw [zfE,Row.ex];omega⟩,h5,f4.trans f5⟩
   ·walk_at "dln"
    exact hnx2 _ _ ⟨rs,rfl,⟨⟨rok,by omega,by omega⟩,by omega⟩,h4,f4⟩
  rintro _ S4 ⟨rs',rfl,bok,h4,f4⟩
  have en4:=f4 _ _ nma en3
  have es4:=f4 _ _ sla es3
  have eh4:=f4 _ _ sha eh3
  have ec4:=f4 _ _ ca2 ec3
  have ed4:=f4 _ _ dla ed3
  have f04:Fr a S S4:=(f2'.trans f3).trans f4
  walk_at "dl"
  with_reducible refine zaL (szl (by simp)) ?_
  walk_at "dl"
  with_reducible refine s_app ed4 (zhy (by rw [List.length_map];omega)) ?_
  obtain ⟨h5,f5,k5,t5⟩:=zhL (o:=.lst (dv.map pairD++[.tup [.str nms[ks+i],.tup (zaM rs')]])) (o':=.lst []) h4 f04 dla dll dlS
  have en5:=k5 _ _ ndnm en4
  have es5:=k5 _ _ ndsl es4
  have eh5:=k5 _ _ ndsh eh4
  have ec5:=k5 _ _ ndc ec4
  generalize DL.put S4 dl (.lst (dv.map pairD++[.tup [.str nms[ks+i],.tup (zaM rs')]]))=S5 at h5 f5 k5 t5 en5 es5 eh5 ec5 ⊢
  have dcs:=shd2.cells
  walk_at "dl"
  with_reducible refine zdX (szl (by simp)) fun p6 hp6=>?_
  obtain ⟨h6',f6',p6a,p6S,k6,t6⟩:=zc3 (o:=.lst [.str nms[ks+i]]) h5 f5 hp6
  have en6:=k6 _ _ en5
  have es6:=k6 _ _ es5
  have eh6:=k6 _ _ eh5
  have ec6:=k6 _ _ ec5
  have ed6:=k6 _ _ t5
  generalize DL.put S5 p6 (.lst [.str nms[ks+i]])=S6' at h6' f6' k6 t6 en6 es6 eh6 ec6 ed6 ⊢
  walk_at "dl"
  refine zdN ec6 t6 (szl (by simp;omega)) fun ce2 hce2=>?_
  have ecs:(nms.take (ks+i)).map D.str++[.str nms[ks+i]]=(nms.take (ks+(i+1))).map D.str:=by
   rw [show ks+(i+1)=(ks+i)+1 by omega,List.take_succ,List.getElem?_eq_getElem (show ks+i < nms.length by omega),List.map_append]
   rfl
  rw [ecs]
  obtain ⟨h7',f7',ce2a,ce2S,k7,t7⟩:=zc3 (o:=.lst ((nms.take (ks+(i+1))).map D.str)) h6' f6' hce2
  have en7:=k7 _ _ en6
  have es7:=k7 _ _ es6
  have eh7:=k7 _ _ eh6
  have ed7:=k7 _ _ ed6
  have ncd2:ce2≠dl:=fun x=>by rw [x,ed6] at hce2;cases hce2
  have nce2:ce2≠sh:=fun x=>by rw [x,eh6] at hce2;cases hce2
  generalize DL.put S6' ce2 (.lst ((nms.take (ks+(i+1))).map D.str))=S7' at h7' f7' k7 t7 en7 es7 eh7 ed7 ⊢
  walk_at "dl"
  refine zgk eh7 rfl (zhy (by omega)) ?_
  obtain ⟨h8',f8',k8,t8⟩:=zhL (o:=.dic (putD kvs (.inr "cells") (.ref ce2))) (o':=.lst []) h7' f7' sha shl shS
  have pl:=zcC (kvs:=kvs) (k:=(.inr "cells" : Key)) (v:=.ref ce2)
  refine hnx _ _ ⟨_,_,_,ce2,_,dv++[(nms[ks+i],rs')],rfl,?_,by simp [dlen],?_,  k8 _ _ nnm en7,k8 _ _ nsl es7,t8,by omega,shd2.cells_put,k8 _ _ nce2 t7,ce2a,ncd2,?_,h8',f8'⟩
  ·rw [List.map_append,dn,List.take_succ,List.getElem?_drop,List.getElem?_eq_getElem (show ks+i < nms.length by omega)]
   rfl
  ·intro j p hj
   by_cases hji:j < dv.length
   ·rw [List.getElem?_append_left hji] at hj
    exact dok j p hj
   ·rw [List.getElem?_append_right (by omega)] at hj
    have ej:j=i:=by
     have:=(List.getElem?_eq_some_iff.mp hj).1
     simp at this
     omega
    subst ej
    rw [dlen,Nat.sub_self] at hj
    cases hj
    exact bok
  ·have e:=k8 _ _ ndsh.symm ed7
   rw [List.map_append]
   exact e
 ·rintro _ S2 ⟨x14,x15,x16,ce',kvs,dv,rfl,dn,dlen,dok,  en2,es2,eh2,hl2,shd2,ec2,ca2,ndc,ed2,hS2,f2'⟩
  rw [Nat.zero_add,zer,Int.toNat_natCast] at dlen shd2 ec2 dn hl2
  refine ⟨trivial,?_⟩
  walk_at "dl"
  refine zgk eh2 rfl (zhy (by omega)) ?_
  walk_at "dl"
  have pl1:=zcC (kvs:=kvs) (k:=(.inr "kind" : Key)) (v:=.str "effects")
  refine zgk zai rfl (zhy (by omega)) ?_
  walk_at "dl"
  have pl2:=zcC (kvs:=putD kvs (.inr "kind") (.str "effects")) (k:=(.inr "peeks" : Key)) (v:=.bl pk)
  refine zgk zai rfl (zhy (by omega)) ?_
  rw [zcT,zcT]
  have shd3:=shd2.eff_put (pk:=pk) (wr:=wr)
  obtain ⟨h3,f3,k3,t3⟩:=zhL (o:=.dic (putD (putD (putD kvs (.inr "kind") (.str "effects")) (.inr "peeks") (.bl pk)) (.inr "writes") (.bl wr))) (o':=.lst []) hS2 f2' sha shl shS
  have nch:ce'≠sh:=fun x=>by rw [x,eh2] at ec2;cases ec2
  have en3:=k3 _ _ nnm en2
  have es3:=k3 _ _ nsl es2
  have ec3:=k3 _ _ nch ec2
  have ed3:=k3 _ _ ndsh.symm ed2
  generalize putD (putD (putD kvs (.inr "kind") (.str "effects")) (.inr "peeks") (.bl pk)) (.inr "writes") (.bl wr)=kvs3 at shd3 t3 h3 f3 k3 en3 es3 ec3 ed3 ⊢
  generalize DL.put S2 sh (.dic kvs3)=S3 at t3 h3 f3 k3 en3 es3 ec3 ed3 ⊢
  walk_at "dl"
  with_reducible refine zdX (szl (by simp)) fun el hel=>?_
  obtain ⟨h4,f4,ela,elS,k4,t4⟩:=zc3 (o:=.lst []) h3 f3 hel
  have ell:=(h3.fresh hel).2
  have en4:=k4 _ _ en3
  have es4:=k4 _ _ es3
  have ec4:=k4 _ _ ec3
  have ed4:=k4 _ _ ed3
  have eh4:=k4 _ _ t3
  have nenm:nm≠el:=fun x=>by rw [x,hel] at en3;cases en3
  have nesl:sl≠el:=fun x=>by rw [x,hel] at es3;cases es3
  have nece:ce'≠el:=fun x=>by rw [x,hel] at ec3;cases ec3
  have nedl:dl≠el:=fun x=>by rw [x,hel] at ed3;cases ed3
  have nesh:sh≠el:=fun x=>by rw [x,hel] at t3;cases t3
  generalize DL.put S3 el (.lst [])=S4 at h4 f4 k4 t4 en4 es4 ec4 ed4 eh4 ⊢
  walk_at "dl"
  with_reducible refine zho (by omega) (by omega) ?_
  walk_at "dl"
  refine za2 (fun i env S'=>∃ (x14 x15 x16:Option D) (ev:List (Str×List Row)),env=[some (.ref a),some (.tup [.int w,.int s,.int d,.int e,.int r]),some (.bl pk),some (.bl wr),some (.int kw),some (.int ks),some (.int kd),some (.int ke),some (.tup (ws'.map D.str)),some (.ref nm),some (.ref sl),some (.tp true ((nms.take ks).map D.str)),some (.ref sh),some (.ref dl),x14,x15,x16,some (.ref el)]∧
   ev.map (·.1)=(nms.drop (ks+kd)).take i∧ev.length=i∧(∀ p∈ev,BodyOk ⟨false,pk,wr,ws',nms.take ks,nms.take (ks+kd),zs++[nms[0]]⟩ p.2∧(zau p.2:Int)≤r+1)∧
   S' nm=some (.lst (nms.map D.str))∧S' sl=some (.lst ((zs++[nms[0]]).map D.str))∧S' sh=some (.dic kvs3)∧
   S' ce'=some (.lst ((nms.take (ks+kd)).map D.str))∧S' dl=some (.lst (dv.map pairD))∧S' el=some (.lst (ev.map pairD))∧StA ns a l S'∧Fr a S S') _ 0 ?_ ?_ ?_
  ·exact ⟨_,_,_,[],rfl,by simp,rfl,fun p hp=>by simp at hp,  en4,es4,eh4,ec4,ed4,t4,h4,f4⟩
  ·rintro i x _ S5 hx ⟨y14,y15,y16,ev,rfl,en',elen,eok,  en5,es5,eh5,ec5,ed5,ee5,h5,f5⟩ nx hnx
   obtain ⟨rfl,hi⟩:=zfP hx
   rw [Nat.zero_add] at elen en' hnx
   refine ⟨trivial,?_⟩
   refine zgJ ?_
   have hik:i < ke:=by simpa using hi
   have hnm:L2.atI (nms.map D.str) ((ks:Int)+(kd:Int)+(i:Int))=some (.str nms[ks+kd+i]):=by
    have e:(ks:Int)+(kd:Int)+(i:Int)=((ks+kd+i:Nat):Int):=by omega
    rw [e]
    exact atI_nat (by simp [show ks+kd+i < nms.length by omega])
   have hw2:ShW ⟨false,pk,wr,ws',nms.take ks,nms.take (ks+kd),zs++[nms[0]]⟩:=⟨by show 0 < ws'.length;omega,by show ws'.length≤100;omega,by simp;omega,by simp;omega,by simp;omega,by simp;omega,by simp,by show (zs++[nms[0]]).length≤100;omega,fun q=>by cases q⟩
   walk_at "dl"
   refine zhT hw2 5 h5 ⟨⟨kvs3,eh5,shd3⟩,es5,ec5,sha,sla,ca2⟩ (by decide) (by decide) (by decide) r0 (by omega) fun rs S6' rok rcnt rdep h6' f6'=>?_
   have en6:=f6' _ _ nma en5
   have es6:=f6' _ _ sla es5
   have eh6:=f6' _ _ sha eh5
   have ec6:=f6' _ _ ca2 ec5
   have ed6:=f6' _ _ dla ed5
   have ee6:=f6' _ _ ela ee5
   have rl:rs.length≤900:=by
    have:=zeF rs
    omega
   walk_at "dln"
   with_reducible refine zi1 (fun env S7'=>∃ rs':List Row,env=[some (.ref a),some (.tup [.int w,.int s,.int d,.int e,.int r]),some (.bl pk),some (.bl wr),some (.int kw),some (.int ks),some (.int kd),some (.int ke),some (.tup (ws'.map D.str)),some (.ref nm),some (.ref sl),some (.tp true ((nms.take ks).map D.str)),some (.ref sh),some (.ref dl),some (.int i),y15,some (.tup (zaM rs')),some (.ref el)]∧(BodyOk ⟨false,pk,wr,ws',nms.take ks,nms.take (ks+kd),zs++[nms[0]]⟩ rs'∧(zau rs':Int)≤r+1)∧StA ns a l S7'∧Fr a S6' S7') ?_ ?_
   rotate_left
   ·intro nx2 hnx2
    walk_at "dln"
    refine zaG h6' (by decide) (by decide +kernel) fun t S7' _ _ h7' f7'=>?_
    have es7:=f7' _ _ sla es6
    walk_at "dln"
    with_reducible refine zeq (fun ht=>?_) (fun ht=>?_)
    ·walk_at "dln"
     refine zaG h7' (by decide) (by decide +kernel) fun t2 S8' t20 t21 h8' f8'=>?_
     have es8:=f8' _ _ sla es7
     obtain ⟨sv,hsv,esv⟩:=zlm (zs:=zs++[nms[0]]) t20 (by rw [List.length_map,sl3];omega)
     walk_at "dln"
     with_reducible refine zaL (szl (by simp)) ?_
     walk_at "dln"
     with_reducible refine zaL (szl (by simp)) ?_
     walk_at "dln"
     with_reducible refine zc1 (szl (by rw [zbt];simp;omega)) ?_
     walk_at "dln"
     have e:zaM rs++[.tup [.str "say", .str sv]]=zaM (rs++[.say sv]):=by
      have q:=zeO rs (Row.say sv)
      rw [Row.d] at q
      exact q
     rw [e]
     exact hnx2 _ _ ⟨rs++[.say sv],rfl,⟨⟨ziB (r:=.say sv) rok (by rw [Row.ok];exact ⟨rfl,hsv⟩),by rw [zfE,Row.ex];omega,by rw [zgg,Row.dep];omega⟩,by rw [zfE,Row.ex];omega⟩,h8',f7'.trans f8'⟩
    ·walk_at "dln"
     exact hnx2 _ _ ⟨rs,rfl,⟨⟨rok,by omega,by omega⟩,by omega⟩,h7',f7'⟩
   rintro _ S7' ⟨rs',rfl,bok,h7',f7'⟩
   have en7:=f7' _ _ nma en6
   have es7:=f7' _ _ sla es6
   have eh7:=f7' _ _ sha eh6
   have ec7:=f7' _ _ ca2 ec6
   have ed7:=f7' _ _ dla ed6
   have ee7:=f7' _ _ ela ee6
   walk_at "dl"
   with_reducible refine zaL (szl (by simp)) ?_
   walk_at "dl"
   with_reducible refine s_app ee7 (zhy (by rw [List.length_map];omega)) ?_
   obtain ⟨h8',f8',k8,t8⟩:=zhL (o:=.lst (ev.map pairD++[.tup [.str nms[ks+kd+i],.tup (zaM rs')]])) (o':=.lst []) h7' ((f5.trans f6').trans f7') ela ell elS
   walk_at "dl"
   refine hnx _ _ ⟨_,_,_,ev++[(nms[ks+kd+i],rs')],rfl,?_,by simp [elen],?_,  k8 _ _ nenm en7,k8 _ _ nesl es7,k8 _ _ nesh eh7,k8 _ _ nece ec7,k8 _ _ nedl ed7,?_,h8',f8'⟩
   ·rw [List.map_append,en',List.take_succ,List.getElem?_drop,List.getElem?_eq_getElem (show ks+kd+i < nms.length by omega)]
    rfl
   ·intro p hp
    rcases List.mem_append.mp hp with q | q
    ·exact eok p q
    ·rw [List.mem_singleton.mp q];exact bok
   ·rw [List.map_append]
    exact t8
  ·rintro _ S5 ⟨y14,y15,y16,ev,rfl,en',elen,eok,  en5,es5,eh5,ec5,ed5,ee5,h5,f5⟩
   rw [Nat.zero_add,zer,Int.toNat_natCast] at elen en'
   refine ⟨trivial,?_⟩
   walk_at "dl"
   with_reducible refine zaL (szl (by simp)) ?_
   have ed:dv.map (·.1)=(nms.drop ks).take kd:=dn
   have tl:nms.take ks++dv.map (·.1)=nms.take (ks+kd):=by rw [ed,List.take_add]
   have tl2:nms.take ks++dv.map (·.1)++ev.map (·.1)=nms:=by
    rw [tl,en',List.take_of_length_le (l:=nms.drop (ks+kd)) (by rw [List.length_drop];omega),List.take_append_drop]
   refine hQ ⟨ws',nms.take ks,dv,ev,true⟩ (zs++[nms[0]]) S5 rfl ⟨wok',by show 2≤ws'.length;omega,by show ws'.length≤4;omega,by show Nms (nms.take ks++dv.map (·.1)++ev.map (·.1));rw [tl2];exact nok,by simp;omega,by simp;omega,by show dv.length≤6;omega,by show ev.length≤4;omega,sll,fun i p hp=>?_,fun p hp=>?_⟩ sl3 (fun p hp=>?_) h5 f5
   ·have q:=(dok i p hp).1
    have hi:i≤kd:=by
     have hh:i < dv.length:=(List.getElem?_eq_some_iff.mp hp).1
     omega
    have e2:nms.take ks++(dv.take i).map (·.1)=nms.take (ks+i):=by
     rw [List.map_take,ed,List.take_take,Nat.min_eq_left hi,List.take_add]
    show BodyOk ⟨true,false,false,ws',nms.take ks,nms.take ks++(dv.take i).map (·.1),zs++[nms[0]]⟩ p.2
    rw [e2]
    exact q
   ·have q:=(eok p hp).1
    show BodyOk ⟨false,pk,wr,ws',nms.take ks,nms.take ks++dv.map (·.1),zs++[nms[0]]⟩ p.2
    rw [tl]
    exact q
   ·rcases List.mem_append.mp hp with q | q
    ·obtain ⟨i,hi⟩:=List.getElem?_of_mem q
     exact (dok i p hi).2
    ·exact (eok p q).2
def zxD (p:Addr) (nx:Sto->Prop):DQ:=fun d S4=>match S4 p with
 | some (.lst ys)=>ys.length < sizeLine∧nx (DL.put S4 p (.lst (ys++[d])))
 | _=>False
theorem zu9:(Str.ofString "a").cps.toList=[97]:=by decide +kernel
theorem zu8:(Str.ofString "z").cps.toList=[122]:=by decide +kernel
theorem zxB {c:Nat} (h:97≤c):(!decide ((⟨#[c]⟩:Str).cps.toList < (Str.ofString "a").cps.toList))=true:=by
 rw [zu9]
 have:¬ ([c] < [97]):=by
  intro q
  rw [List.cons_lt_cons_iff] at q
  rcases q with q | ⟨_,q⟩
  ·omega
  ·exact absurd q (List.not_lt_nil _)
 simp only [Bool.not_eq_true',decide_eq_false_iff_not]
 exact this
theorem zxA {c:Nat} (h:c≤122):(!decide ((Str.ofString "z").cps.toList < (⟨#[c]⟩:Str).cps.toList))=true:=by
 rw [zu8]
 have:¬ ([122] < [c]):=by
  intro q
  rw [List.cons_lt_cons_iff] at q
  rcases q with q | ⟨_,q⟩
  ·omega
  ·exact absurd q (List.not_lt_nil _)
 simp only [Bool.not_eq_true',decide_eq_false_iff_not]
 exact this
theorem zpD {z:Str} {i:Nat} {x:D} (h:(zkf z)[i]? = some x):∃ c,c∈z.cps.toList∧x = .str ⟨#[c]⟩:=by
 unfold zkf at h
 rw [List.getElem?_map] at h
 cases e:z.cps.toList[i]? with
 | none=>rw [e] at h;cases h
 | some c=>rw [e] at h;exact ⟨c,List.mem_of_getElem? e,(Option.some.inj h).symm⟩
theorem za6 {K:PySem.W.Frag} {S:Sto} {z:Str} {Q:DQ} {E:XQ} (hz:zmD z) (hQ:Q (.bl true) S):zbP K [.str z] S Q E:=by
 refine zaH rfl ?_
 unfold zhg
 have hl:z.length=z.cps.size:=by unfold Str.length;rfl
 have h1:=hz.one
 have h8:=hz.eight
 walk_at "dl"
 rw [decide_eq_true (show (1:Int)≤z.length by omega)]
 walk_at "dl"
 rw [decide_eq_true (show (z.length:Int)≤8 by omega)]
 walk_at "dl"
 refine za2 (fun i env S'=>∃ x1:Option D,env=[some (.str z),x1]∧S'=S) _ 0 ⟨_,rfl,rfl⟩ ?_ ?_
 ·rintro i x _ _ hx ⟨x1,rfl,rfl⟩ nx hnx
  obtain ⟨c,hc,rfl⟩:=zpD hx
  obtain ⟨c1,c2⟩:=hz.az c hc
  refine ⟨trivial,?_⟩
  refine zgJ ?_
  walk_at "dl"
  rw [zxB c1]
  walk_at "dl"
  rw [zxA c2]
  walk_at "dl"
  exact hnx _ _ ⟨_,rfl,rfl⟩
 ·rintro _ _ ⟨x1,rfl,rfl⟩
  refine ⟨trivial,?_⟩
  walk_at "dl"
  exact hQ
theorem zgG {K:PySem.W.Frag} {fl:Bool} {S:Sto} {zs:List Str} {lo hi:Int} {Q:DQ} {E:XQ} (hz:Nms zs) (h1:lo≤zs.length) (h2:(zs.length:Int)≤hi) (hb:zs.length≤50) (hQ:∀ S',(∀ b o,S b=some o->S' b=some o)->Q (.bl true) S'):zdJ K [.tp fl (zs.map D.str),.int lo,.int hi] S Q E:=by
 refine zaH rfl ?_
 unfold zfH
 walk_at "dl"
 rw [decide_eq_true (show lo≤((zs.map D.str).length:Int) by simpa using h1)]
 walk_at "dl"
 rw [decide_eq_true (show ((zs.map D.str).length:Int)≤hi by simpa using h2)]
 walk_at "dl"
 refine zpL fun p hp=>?_
 walk_at "dl"
 refine za2 (fun i env S'=>∃ (x4:Option D) (f:Key->Bool) (n:Nat),env=[some (.tp fl (zs.map D.str)),some (.int lo),some (.int hi),some (.ref p),x4]∧S' p=some (.set f n)∧n≤i∧(∀ z,f (.inr z)=true->z∈zs.take i)∧∀ b o,S b=some o->S' b=some o) _ 0 ?_ ?_ ?_
 ·refine ⟨_,_,_,rfl,zai,Nat.le_refl _,fun z h=>(by cases h),fun b o e=>?_⟩
  rw [zaP (fun q=>by subst q;rw [hp] at e;cases e)]
  exact e
 ·rintro i x _ S2 hx ⟨x4,f,n,rfl,ep,hn,hf,hk⟩ nx hnx
  rw [Nat.zero_add] at hn hf hnx
  refine ⟨trivial,?_⟩
  refine zgJ ?_
  have hi:i < zs.length:=by
   have:=(List.getElem?_eq_some_iff.mp hx).1
   simpa using this
  have ex:x = .str zs[i]:=by
   rw [List.getElem?_map,List.getElem?_eq_getElem hi] at hx
   exact (Option.some.inj hx).symm
  subst ex
  walk_at "dl"
  refine za6 (hz.1 _ (List.getElem_mem hi)) ?_
  walk_at "dl"
  refine znW ep rfl ?_
  have hnew:f (.inr zs[i])=false:=by
   cases q:f (.inr zs[i]) with
   | false=>rfl
   | true=>
    have hm:=hf _ q
    have hnd:=hz.2
    rw [← List.take_append_drop i zs,List.nodup_append] at hnd
    exact absurd rfl (hnd.2.2 _ hm _ (by rw [List.drop_eq_getElem_cons hi];exact List.mem_cons_self))
  rw [hnew]
  walk_at "dl"
  have hsb:n+1 < scanBound:=by
   have q:scanBound=4096:=rfl
   omega
  with_reducible refine zqN ep rfl hsb ?_
  walk_at "dl"
  refine hnx _ _ ⟨_,_,_,rfl,zai,?_,fun z h=>?_,fun b o e=>?_⟩
  ·split <;> omega
  ·rw [List.take_succ,List.getElem?_eq_getElem hi]
   rcases Bool.or_eq_true_iff.mp h with q | q
   ·exact List.mem_append_left _ (hf z q)
   ·have:=of_decide_eq_true q
    cases this
    exact List.mem_append_right _ (List.mem_cons_self ..)
  ·rw [zaP (fun q=>by subst q;rw [hp] at e;cases e)]
   exact hk b o e
 ·rintro _ S2 ⟨x4,f,n,rfl,ep,hn,hf,hk⟩
  refine ⟨trivial,?_⟩
  walk_at "dl"
  exact hQ S2 hk
theorem zii {K:PySem.W.Frag}:∀ (n:Nat) (rs:List Row) {S:Sto} {Q:DQ} {E:XQ},zaE rs < n->Q (.int (zau rs)) S->zdf K n [.tup (zaM rs)] S Q E
 | 0,rs,S,Q,E,h,_=>absurd h (Nat.not_lt_zero _)
 | n+1,rs,S,Q,E,h,hQ=>by
  refine zaH rfl ?_
  unfold ze4
  walk_at "dl"
  refine za2 (fun i env S'=>∃ x:Option D,env=[some (.tup (zaM rs)),some (.int ((rs.length+zea (rs.take i):Nat):Int)),x]∧S'=S) _ 0 ?_ ?_ ?_
  ·have e0:((zaM rs).length:Int)=((rs.length+zea (rs.take 0):Nat):Int):=by
    rw [zbt]
    simp [zea]
   rw [e0]
   exact ⟨_,rfl,rfl⟩
  ·rintro i x _ _ hx ⟨y,rfl,rfl⟩ nx hnx
   rw [Nat.zero_add] at hnx ⊢
   obtain ⟨r,hr,rfl⟩:=zgN hx
   have hd:=zex (List.mem_of_getElem? hr)
   have et:=zge hr
   refine ⟨trivial,?_⟩
   refine zgJ ?_
   cases r with
   | ite s w y n'=>
    rw [Row.d]
    rw [Row.dep] at hd
    rw [Row.ex] at et
    walk_at "dl"
    refine zii n y (by omega) ?_
    walk_at "dl"
    refine zii n n' (by omega) ?_
    walk_at "dl"
    have e1:((rs.length+zea (rs.take i):Nat):Int)+((zau y:Int)+(zau n':Int))=((rs.length+zea (rs.take (i+1)):Nat):Int):=by
     rw [et]
     omega
    rw [e1]
    exact hnx _ _ ⟨_,rfl,rfl⟩
   | _=>
    rw [Row.d]
    rw [Row.ex] at et
    walk_at "dl"
    replace et:zea (rs.take (i+1))=zea (rs.take i):=et
    rw [← et]
    exact hnx _ _ ⟨_,rfl,rfl⟩
  ·rintro _ _ ⟨y,rfl,rfl⟩
   refine ⟨trivial,?_⟩
   walk_at "dl"
   rw [zbt,Nat.zero_add,List.take_length,← zeF]
   exact hQ
def Kp (S S':Sto):Prop:=∀ b o,S b=some o->S' b=some o
theorem Kp.refl {S:Sto}:Kp S S:=fun _ _ e=>e
theorem Kp.trans {S S1 S2:Sto} (h:Kp S S1) (h':Kp S1 S2):Kp S S2:=fun b o e=>h' b o (h b o e)
theorem Kp.wr {S S':Sto} {p:Addr} {o:O} (h:Kp S S') (hp:S p=none):Kp S (DL.put S' p o):=fun b o' e=>by
 rw [zaP (fun q=>by subst q;rw [hp] at e;cases e)]
 exact h b o' e
theorem zgF {K:PySem.W.Frag} {S:Sto} {ps:List (Str×List Row)} {most:Int} {tk:Addr} {kvs:List (Key×D)} {tn:List Str} {Q:DQ} {E:XQ} (et:S tk=some (.dic kvs)) (hk:∀ z,(valD kvs (.inr z)).isSome=true->z∈tn) (hl:kvs.length≤100)
  (hz:Nms (tn++ps.map (·.1))) (hm:(ps.length:Int)≤most) (hb:ps.length≤50) (hQ:∀ S',Kp S S'->Q (.bl true) S'):zdI K [.tup (ps.map pairD),.int most,.ref tk] S Q E:=by
 refine zaH rfl ?_
 unfold zfG
 walk_at "dl"
 rw [decide_eq_false (show ¬ most < ((ps.map pairD).length:Int) by simp;omega)]
 walk_at "dl"
 refine zq6 et fun p hp=>?_
 walk_at "dl"
 refine za2 (fun i env S'=>∃ (x4:Option D) (kv:List (Key×D)),env=[some (.tup (ps.map pairD)),some (.int most),some (.ref tk),some (.ref p),x4]∧S' p=some (.dic kv)∧kv.length≤100+i∧(∀ z,(valD kv (.inr z)).isSome=true->z∈tn++(ps.map (·.1)).take i)∧Kp S S') _ 0 ?_ ?_ ?_
 ·exact ⟨_,_,rfl,zai,by omega,fun z h=>by simpa using hk z h,Kp.refl.wr hp⟩
 ·rintro i x _ S2 hx ⟨x4,kv,rfl,ep,hn,hf,hkp⟩ nx hnx
  rw [Nat.zero_add] at hn hf hnx
  refine ⟨trivial,?_⟩
  refine zgJ ?_
  have hi:i < ps.length:=by
   have:=(List.getElem?_eq_some_iff.mp hx).1
   simpa using this
  have ex:x = .tup [.str ps[i].1,.tup (zaM ps[i].2)]:=by
   rw [List.getElem?_map,List.getElem?_eq_getElem hi] at hx
   exact (Option.some.inj hx).symm
  subst ex
  have hmem:ps[i].1∈ps.map (·.1):=List.mem_map.mpr ⟨ps[i],List.getElem_mem hi,rfl⟩
  walk_at "dl"
  with_reducible refine zfi (fun h=>absurd h (by simp)) (fun _=>?_)
  walk_at "dl"
  refine za6 (hz.1 _ (List.mem_append_right _ hmem)) ?_
  walk_at "dl"
  refine ztQ ep rfl ?_
  have hnew:(valD kv (.inr ps[i].1)).isSome=false:=by
   cases q:(valD kv (.inr ps[i].1)).isSome with
   | false=>rfl
   | true=>
    have hm2:=hf _ q
    have hnd:=hz.2
    have hi2:i < (ps.map (·.1)).length:=by simpa using hi
    rw [← List.take_append_drop i (ps.map (·.1)),← List.append_assoc,List.nodup_append] at hnd
    exact absurd rfl (hnd.2.2 _ hm2 _ (by rw [List.drop_eq_getElem_cons hi2];simp))
  rw [hnew]
  walk_at "dl"
  refine zgk ep rfl (zhy (by omega)) ?_
  have pl:=zcC (kvs:=kv) (k:=(.inr ps[i].1:Key)) (v:=.bl true)
  refine hnx _ _ ⟨_,_,rfl,zai,by omega,fun z h=>?_,hkp.wr hp⟩
  rw [zc6] at h
  have e1:(ps.map (·.1)).take (i+1)=(ps.map (·.1)).take i++[ps[i].1]:=by
   rw [List.take_succ,List.getElem?_map,List.getElem?_eq_getElem hi]
   rfl
  rw [e1,← List.append_assoc]
  by_cases q:(Sum.inr z:Key) = .inr ps[i].1
  ·cases q
   exact List.mem_append_right _ (List.mem_cons_self ..)
  ·rw [if_neg q] at h
   exact List.mem_append_left _ (hf z h)
 ·rintro _ S2 ⟨x4,kv,rfl,ep,hn,hf,hkp⟩
  refine ⟨trivial,?_⟩
  walk_at "dl"
  exact hQ S2 hkp
structure FBc (K:PySem.W.Frag):Prop where
 kind:FOk K (He.ga K "BodyCheck") "kind"
 words:FOk K (He.ga K "BodyCheck") "words"
 sources:FOk K (He.ga K "BodyCheck") "sources"
 readable:FOk K (He.ga K "BodyCheck") "readable"
structure Bc (K:PySem.W.Frag) (h:Shp) (b rd:Addr) (S:Sto):Prop where
 ob:∃ fl,S b=some (.ins (He.ga K "BodyCheck") [("kind", .str (kindS h.der)),("words", .tup (h.words.map D.str)),("sources", .tp fl (h.sources.map D.str)),("readable", .ref rd)])
 rd_:S rd=some (.lst (h.cells.map D.str))
structure ShN (h:Shp):Prop where
 sl:∀ z∈h.slots,zmD z
 ce:∀ z∈h.cells,zmD z
 so:∀ z∈h.sources,zmD z
theorem zkG {S:Sto} {a:Addr} {zs:List Str} (h:S a=some (.lst (zs.map D.str))):rs S 40 (.ref a)=some (.list (zs.map PyData.str)):=by
 unfold rs
 simp only [h]
 rw [zkF]
 rfl
theorem zhp {n:Nat} {f:Str} {v:D}:∀ {l:List (Str×D)},l.length≤n->(zeP f v l).length≤n+1
 | [],h=>by simp [zeP]
 | (g,u) :: r,h=>by
  unfold zeP
  split
  ·simp at h ⊢; omega
  ·cases n with
   | zero=>simp at h
   | succ n=>
    have:=zhp (n:=n) (f:=f) (v:=v) (l:=r) (by simpa using h)
    simp
    omega
theorem zhK {K:PySem.W.Frag} {S:Sto} {q:Addr} {k w s r:D} {Q:DQ} {E:XQ} (F:FBc K) (e:S q=some (.ins (He.ga K "BodyCheck") [])) (hQ:Q .non (DL.put S q (.ins (He.ga K "BodyCheck") [("kind", k),("words", w),("sources", s),("readable", r)]))) :
  zbo K [.ref q,k,w,s,r] S Q E:=by
 obtain ⟨f1,f2,f3,f4⟩:=F
 refine zaH rfl ?_
 unfold zcr
 ext
 with_reducible refine zeN e f1 (by simp) ?_
 ext
 with_reducible refine zeN zai f2 (by refine Nat.lt_of_le_of_lt (?_:_≤20) (by decide);repeat (first | refine zhp ?_ | (simp;done))) ?_
 ext
 with_reducible refine zeN zai f3 (by refine Nat.lt_of_le_of_lt (?_:_≤20) (by decide);repeat (first | refine zhp ?_ | (simp;done))) ?_
 ext
 with_reducible refine zeN zai f4 (by refine Nat.lt_of_le_of_lt (?_:_≤20) (by decide);repeat (first | refine zhp ?_ | (simp;done))) ?_
 rw [zcT,zcT,zcT]
 exact hQ
theorem zhF {K:PySem.W.Frag} {S:Sto} {h:Shp} {b rd:Addr} {w:Str} {Q:DQ} {E:XQ} (F:FBc K) (B:Bc K h b rd S) (hw:w∈h.words) (hQ:Q (.bl true) S):zbf K [.ref b,.str w] S Q E:=by
 obtain ⟨f1,f2,f3,f4⟩:=F
 obtain ⟨flb,e⟩:=B.ob
 refine zaH rfl ?_
 unfold zb7
 ext
 refine zgX (p:=.str w) rfl (zhS h.words) ?_
 rw [zhh,decide_eq_true hw]
 exact hQ
theorem ziN {K:PySem.W.Frag} {S:Sto} {h:Shp} {b rd:Addr} {s w:Str} {y n:List Row} {d:Int} {Q:DQ} {E:XQ} (F:FBc K) (B:Bc K h b rd S) (N:ShN h) (hs:s∈h.slots) (hw:w∈h.words) (hd:d < 4) (hQ:Q (.bl true) S) :
  zbA K [.ref b,(Row.ite s w y n).d,.int d] S Q E:=by
 obtain ⟨flb,e⟩:=B.ob
 refine zaH rfl ?_
 unfold zbJ
 rw [Row.d]
 ext
 refine za6 (N.sl _ hs) ?_
 ext
 refine zhF F B hw ?_
 ext
 exact hQ
theorem zk8 {K:PySem.W.Frag} {S:Sto} {h:Shp} {b rd:Addr} {r:Row} {d:Int} {Q:DQ} {E:XQ} (F:FBc K) (B:Bc K h b rd S) (N:ShN h) (hr:r.ok h) (hd:r.dep≠0->d < 4) (hQ:Q (.bl true) S) :
  zb4 K [.ref b,r.d,.int d] S Q E:=by
 have F':=F
 obtain ⟨f1,f2,f3,f4⟩:=F
 obtain ⟨flb,e⟩:=B.ob
 have e2:=B.rd_
 have gs:rs S 40 (.tup [.str "give", .str "say"])=some (.tuple [.str "give", .str "say"]):=zhS ["give", "say"]
 refine zaH rfl ?_
 unfold zcq
 cases r with
 | read c s=>
  rw [Row.ok] at hr
  rw [Row.d]
  ext
  with_reducible refine zaL (szl (by simp)) ?_
  ext
  refine zgX (p:=.str "read") rfl gs ?_
  ext
  refine za6 (N.ce _ hr.1) ?_
  ext
  refine za6 (N.sl _ hr.2) ?_
  ext
  refine znX (p:=.str c) e2 rfl (zkG e2) ?_
  rw [zhh,decide_eq_true hr.1]
  exact hQ
 | peek c s=>
  rw [Row.ok] at hr
  rw [hr.1] at e
  rw [Row.d]
  ext
  with_reducible refine zaL (szl (by simp)) ?_
  ext
  refine zgX (p:=.str "peek") rfl gs ?_
  ext
  refine za6 (N.ce _ hr.2.1) ?_
  ext
  refine za6 (N.sl _ hr.2.2) ?_
  ext
  refine znX (p:=.str c) e2 rfl (zkG e2) ?_
  rw [zhh,decide_eq_true hr.2.1]
  exact hQ
 | put s w=>
  rw [Row.ok] at hr
  rw [Row.d]
  ext
  with_reducible refine zaL (szl (by simp)) ?_
  ext
  refine zgX (p:=.str "put") rfl gs ?_
  ext
  refine za6 (N.sl _ hr.1) ?_
  ext
  refine zhF F' B hr.2 ?_
  exact hQ
 | give s=>
  rw [Row.ok] at hr
  rw [hr.1] at e
  rw [Row.d]
  ext
  with_reducible refine zaL (szl (by simp)) ?_
  ext
  refine zgX (p:=.str "give") rfl gs ?_
  ext
  refine za6 (N.sl _ hr.2) ?_
  exact hQ
 | say s=>
  rw [Row.ok] at hr
  rw [hr.1] at e
  rw [Row.d]
  ext
  with_reducible refine zaL (szl (by simp)) ?_
  ext
  refine zgX (p:=.str "say") rfl gs ?_
  ext
  refine za6 (N.sl _ hr.2) ?_
  exact hQ
 | write c s=>
  rw [Row.ok] at hr
  rw [hr.1] at e
  rw [Row.d]
  ext
  with_reducible refine zaL (szl (by simp)) ?_
  ext
  refine zgX (p:=.str "write") rfl gs ?_
  ext
  refine za6 (N.so _ hr.2.1) ?_
  ext
  refine za6 (N.sl _ hr.2.2) ?_
  ext
  refine zgX (p:=.str c) rfl (zhS h.sources) ?_
  rw [zhh,decide_eq_true hr.2.1]
  exact hQ
 | ite s w y n=>
  rw [Row.ok] at hr
  have hd4:d < 4:=hd (by rw [Row.dep];omega)
  have ed:(Row.ite s w y n).d = .tup [.str "if", .str s,.str w,.tup (zaM y),.tup (zaM n)]:=by rw [Row.d]
  rw [ed]
  ext
  rw [← ed]
  exact ziN F' B N hr.1 hr.2.1 hd4 hQ
theorem zfx {xs:List D} {i:Nat} {y:D} (h:(zhs 0 xs)[i]? = some y):∃ x,xs[i]? = some x∧y = .tup [.int i,x]:=by
 rw [zfS] at h
 cases e:xs[i]? with
 | none=>rw [e] at h;cases h
 | some x=>rw [e] at h;exact ⟨x,rfl,by simpa using (Option.some.inj h).symm⟩
theorem zdZ {K:PySem.W.Frag} {h:Shp} {b rd:Addr} (F:FBc K) (N:ShN h):∀ (n:Nat) (rs:List Row) {S:Sto} {pth:List D} {d:Int} {Q:DQ} {E:XQ},Bc K h b rd S->zbs h rs->zaE rs < n->d+zaE rs≤4->pth.length+3 * n≤500->Q .non S->zaU K n [.ref b,.tup (zaM rs),.tup pth,.int d] S Q E
 | 0,rs,S,pth,d,Q,E,_,_,hn,_,_,_=>absurd hn (Nat.not_lt_zero _)
 | n+1,rs,S,pth,d,Q,E,B,ok,hn,hd,hp,hQ=>by
  refine zaH rfl ?_
  obtain ⟨flb,e⟩:=B.ob
  unfold zbr
  ext
  refine za2 (fun i env S'=>∃ x4 x5 x6 x7 x8:Option D,env=[some (.ref b),some (.tup (zaM rs)),some (.tup pth),some (.int d),x4,x5,x6,x7,x8]∧S'=S) _ 0 ⟨_,_,_,_,_,rfl,rfl⟩ ?_ ?_
  ·rintro i y _ S1 hy ⟨x4,x5,x6,x7,x8,rfl,rfl⟩ nx hnx
   obtain ⟨x,hx,rfl⟩:=zfx hy
   obtain ⟨r,hr,rfl⟩:=zgN hx
   have hm:=List.mem_of_getElem? hr
   have hrd:=zex hm
   have hok:=zf9.mp ok r hm
   refine ⟨trivial,?_⟩
   ext
   with_reducible refine zaL (szl (by simp)) ?_
   ext
   with_reducible refine zc1 (szl (by simp;omega)) ?_
   ext
   refine zk8 F B N hok (by omega) ?_
   cases r with
   | ite s w yy nn=>
    rw [Row.ok] at hok
    rw [Row.dep] at hrd
    rw [Row.d]
    ext
    with_reducible refine zaL (szl (by simp)) ?_
    ext
    refine za2 (fun j env S'=>∃ x7 x8:Option D,env=[some (.ref b),some (.tup (zaM rs)),some (.tup pth),some (.int d),some (.int i),some (.tup [.str "if", .str s,.str w,.tup (zaM yy),.tup (zaM nn)]),some (.tup (pth++[.int i])),x7,x8]∧S'=S1) _ 0 ⟨_,_,rfl,rfl⟩ ?_ ?_
    ·rintro j z _ _ hz ⟨x7,x8,rfl,rfl⟩ nx2 hnx2
     refine ⟨trivial,?_⟩
     rcases j with _ | _ | j
     ·cases hz
      ext
      with_reducible refine zaL (szl (by simp)) ?_
      ext
      with_reducible refine zc1 (szl (by simp;omega)) ?_
      ext
      refine zdZ F N n yy B hok.2.2.1 (by omega) (by omega) (by simp;omega) ?_
      ext
      exact hnx2 _ _ ⟨_,_,rfl,rfl⟩
     ·cases hz
      ext
      with_reducible refine zaL (szl (by simp)) ?_
      ext
      with_reducible refine zc1 (szl (by simp;omega)) ?_
      ext
      refine zdZ F N n nn B hok.2.2.2 (by omega) (by omega) (by simp;omega) ?_
      ext
      exact hnx2 _ _ ⟨_,_,rfl,rfl⟩
     ·cases hz
    ·rintro _ _ ⟨x7,x8,rfl,rfl⟩
     exact ⟨trivial,hnx _ _ ⟨_,_,_,_,_,rfl,rfl⟩⟩
   | _=>
    rw [Row.d]
    ext
    exact hnx _ _ ⟨_,_,_,_,_,rfl,rfl⟩
  ·rintro _ _ ⟨x4,x5,x6,x7,x8,rfl,rfl⟩
   refine ⟨trivial,?_⟩
   ext
   exact hQ
def zsw (p:Addr) (y:D) (nx:Sto->Prop):DQ:=fun z S5=>match S5 p,keyD y with
 | some (.dic kvs),some k=>kvs.length < sizeLine∧nx (DL.put S5 p (.dic (putD kvs k z)))
 | _,_=>False
def zrN (p:Addr) (mv:EM) (env:Slo) (nx:Sto->Prop):DQ:=fun y S4=>mv env S4 (zsw p y nx)
theorem zqi {p:Addr} {y z:D} {nx:Sto->Prop} {S:Sto} {kvs:List (Key×D)} {k:Key} (e0:S p=some (.dic kvs)) (ek:keyD y=some k) (hl:kvs.length < sizeLine) (h:nx (DL.put S p (.dic (putD kvs k z)))):zsw p y nx z S:=by
 unfold zsw
 simp only [e0,ek]
 exact ⟨hl,h⟩
theorem znD {p:Addr} {mv:EM} {env:Slo} {nx:Sto->Prop} {y:D} {S:Sto} (h:mv env S (zsw p y nx)):zrN p mv env nx y S:=h
theorem zr7 {g:GM} {mk mv:EM} {G:Sto->Prop} {p:Addr} {Q:DQ} {env:Slo} (I:Nat->List (Key×D)->Sto->Prop):∀ (xs:List D) (i0:Nat) {S:Sto} {kvs:List (Key×D)},S p=some (.dic kvs)->I i0 kvs S ->
  (∀ i x S kvs,xs[i]? = some x->S p=some (.dic kvs)->I (i0+i) kvs S->∀ nx:Sto->Prop,(∀ s kv,s p=some (.dic kv)->I (i0+i+1) kv s->nx s)->G S∧g x env S fun env2 S2=>mk env2 S2 (zrN p mv env2 nx)) ->
  (∀ S kvs,S p=some (.dic kvs)->I (i0+xs.length) kvs S->G S∧Q (.ref p) S)->dcL g zsi mk mv G p Q env xs S
 | [],i0,S,kvs,hp,h0,_,done=>done S kvs hp h0
 | x :: xs,i0,S,kvs,hp,h0,step,done=>by
  have hh:=step 0 x S kvs rfl hp h0 (dcL g zsi mk mv G p Q env xs) fun s kv hz h=>?_
  ·exact hh
  refine zr7 I xs (i0+1) hz h (fun i y s kv hy hz hi nx hnx=>step (i+1) y s kv hy hz (by rw [show i0+(i+1)=i0+1+i by omega];exact hi) nx fun s kv hz h=>hnx s kv hz (by rw [show i0+1+i+1=i0+(i+1)+1 by omega];exact h)) fun s kv hz h=>?_
  exact done s kv hz (by rw [List.length_cons,show i0+(xs.length+1)=i0+1+xs.length by omega];exact h)
structure FPr (K:PySem.W.Frag):Prop where
 words:FOk K (He.ga K "Program") "words"
 sources:FOk K (He.ga K "Program") "sources"
 derived:FOk K (He.ga K "Program") "derived"
 effects:FOk K (He.ga K "Program") "effects"
def zd5 (K:PySem.W.Frag) (x:Parts):O:=.ins (He.ga K "Program") [("words", .tup (x.words.map D.str)),("sources", .tp x.fl (x.sources.map D.str)),("derived", .tup (x.derived.map pairD)),("effects", .tup (x.effects.map pairD))]
theorem Kp.new {S S':Sto} {p:Addr} {o:O} (h:Kp S S') (hp:S' p=none):Kp S (DL.put S' p o):=fun b o' e=>by
 have e2:=h b o' e
 rw [zaP (fun q=>by subst q;rw [hp] at e2;cases e2)]
 exact e2
theorem Kp.none_ {S S':Sto} {p:Addr} (h:Kp S S') (hp:S' p=none):S p=none:=by
 cases e:S p with
 | none=>rfl
 | some o=>rw [h p o e] at hp;cases hp
theorem Kp.fr {S S':Sto} {p:Addr} (h:Kp S S'):Fr p S S':=fun b o _ e=>h b o e
theorem Nms.left {xs ys:List Str} (h:Nms (xs++ys)):Nms xs:=⟨fun z hz=>h.1 z (List.mem_append_left _ hz),(List.nodup_append.mp h.2).1⟩
theorem zhx {ps:List (Str×List Row)} {i:Nat} {p:Str×List Row} (h:ps[i]? = some p):(ps.take (i+1)).map (·.1)=(ps.take i).map (·.1)++[p.1]:=by
 rw [List.take_succ,h]
 simp
theorem pair_at {ps:List (Str×List Row)} {i:Nat} {y:D} (h:(ps.map pairD)[i]? = some y):∃ p,ps[i]? = some p∧y = .tup [.str p.1,.tup (zaM p.2)]:=by
 rw [List.getElem?_map] at h
 cases e:ps[i]? with
 | none=>rw [e] at h;cases h
 | some p=>rw [e] at h;exact ⟨p,rfl,(Option.some.inj h).symm⟩
theorem zmy {rs:List Row} {i:Nat} {x:Row} (h:rs[i]? = some x):zau (rs.take (i+1))=zau (rs.take i)+(1+x.ex):=by
 have l1:(rs.take (i+1)).length=(rs.take i).length+1:=by
  have:=(List.getElem?_eq_some_iff.mp h).1
  simp
  omega
 rw [zeF,zeF,zge h,l1]
 omega
theorem zjH:∀ xs ys:List Row,zau (xs++ys)=zau xs+zau ys
 | [],ys=>by rw [List.nil_append,zau];omega
 | x :: xs,ys=>by rw [List.cons_append,zau,zau,zjH xs ys];omega
theorem zr8 {rs:List Row} {i:Nat}:zau (rs.take i)≤zau rs:=by
 have:rs=rs.take i++rs.drop i:=(List.take_append_drop i rs).symm
 conv=>rhs;rw [this]
 rw [zjH]
 omega
def kLt (m:EM) (env2:Slo) (p:Addr) (nx:Sto->Prop):Bool->Sto->Prop:=fun c S3=>match c with
 | true=>m env2 S3 (zxD p nx)
 | false=>nx S3
def zfT (i:Nat):D:=.int i
theorem zob {S:Sto} {n:Nat} (ps:List Nat):(ps.map zfT).mapM (rs S n)=some (ps.map fun (i:Nat)=>PyData.int (i:Int)):=by
 induction ps with
 | nil=>rfl
 | cons z zs ih=>
  rw [List.map_cons,List.mapM_cons,ih]
  cases n <;> rfl
theorem zoa {S:Sto} {fl:Bool} (ps:List Nat):rs S 40 (.tp fl (ps.map zfT))=some (.tuple (ps.map fun (i:Nat)=>PyData.int (i:Int))):=by
 show (List.mapM (rs S 39) (ps.map zfT)).map PyData.tuple=_
 rw [zob]
 rfl
theorem zmB (ps:List Nat) (i:Nat):((ps.map fun (i:Nat)=>PyData.int (i:Int)).any fun z=>PyData.eqv z (.int i))=decide (i∈ps):=by
 induction ps with
 | nil=>rfl
 | cons z zs ih=>
  rw [List.map_cons,List.any_cons,ih]
  have e:PyData.eqv (.int (z:Int)) (.int (i:Int))=decide (z=i):=by
   show decide ((z:Int)=(i:Int))=_
   by_cases h:z=i
   ·subst h;simp
   ·rw [decide_eq_false h,decide_eq_false (by omega)]
  rw [e]
  by_cases h:z=i
  ·subst h;simp
  ·have h2:¬ i=z:=fun q=>h q.symm
   simp [h,h2]
theorem ztP {g:Bool->Bool} {S:Sto} {Q:DQ} {ps:List Nat} {i:Nat} (h:Q (.bl (g (decide (i∈ps)))) S):zhl g (.int (i:Int)) (.tup (ps.map zfT)) S Q:=by
 refine zgX (p:=.int i) (qs:=ps.map fun (i:Nat)=>PyData.int (i:Int)) rfl (zoa ps) ?_
 rw [zmB]
 exact h
theorem zlM {a b:Addr} {xs ys:List D} {S:Sto} {Q:DQ} (e1:S a=some (.lst xs)) (e2:S b=some (.lst ys)) (hl:xs.length+ys.length≤sizeLine) (h:Q .non (DL.put S a (.lst (xs++ys)))):zlq (.ref a) [.ref b] S Q:=by
 unfold zlq
 simp only [e1,e2]
 exact ⟨hl,h⟩
mutual
def Row.subs (i:Nat):Row->List (List Nat×Row)
 | .ite _ _ y n=>(zax 0 y).map (fun q=>(i :: 0 :: q.1,q.2))++(zax 0 n).map fun q=>(i :: 1 :: q.1,q.2)
 | .read _ _=>[]
 | .peek _ _=>[]
 | .put _ _=>[]
 | .give _=>[]
 | .say _=>[]
 | .write _ _=>[]
def zax (i:Nat):List Row->List (List Nat×Row)
 | []=>[]
 | r :: rs=>([i],r) :: (r.subs i++zax (i+1) rs)
end
theorem zjo:∀ (xs ys:List Row) (i:Nat),zax i (xs++ys)=zax i xs++zax (i+xs.length) ys
 | [],ys,i=>by rw [zax];rfl
 | x :: xs,ys,i=>by
  rw [List.cons_append,zax,zax,zjo xs ys (i+1),List.length_cons,show i+(xs.length+1)=i+1+xs.length by omega]
  simp
theorem ziv {rs:List Row} {i:Nat} {r:Row} (h:rs[i]? = some r):zax 0 (rs.take (i+1))=zax 0 (rs.take i)++([i],r) :: r.subs i:=by
 have hi:i < rs.length:=(List.getElem?_eq_some_iff.mp h).1
 rw [List.take_succ,h,zjo]
 have e:0+(rs.take i).length=i:=by simp;omega
 rw [e]
 show _=_
 rw [Option.toList,zax,zax,List.append_nil]
mutual
theorem zlw:∀ (r:Row) (i:Nat),(r.subs i).length=r.ex
 | .ite _ _ y n,i=>by rw [Row.subs,Row.ex,List.length_append,List.length_map,List.length_map,zbD y 0,zbD n 0]
 | .read _ _,_=>by rw [Row.subs,Row.ex];rfl
 | .peek _ _,_=>by rw [Row.subs,Row.ex];rfl
 | .put _ _,_=>by rw [Row.subs,Row.ex];rfl
 | .give _,_=>by rw [Row.subs,Row.ex];rfl
 | .say _,_=>by rw [Row.subs,Row.ex];rfl
 | .write _ _,_=>by rw [Row.subs,Row.ex];rfl
theorem zbD:∀ (rs:List Row) (i:Nat),(zax i rs).length=zau rs
 | [],_=>by rw [zax,zau];rfl
 | r :: rs,i=>by rw [zax,zau,List.length_cons,List.length_append,zlw r i,zbD rs (i+1)];omega
end
theorem zjG {rs:List Row} {i:Nat} {r:Row} (h:rs[i]? = some r):zau (rs.take i)+1+r.ex≤zau rs:=by
 have h1:=zmy h
 have h2:=zr8 (rs:=rs) (i:=i+1)
 omega
def zsh (pth:List D) (q:List Nat×Row):D:=.tup (pth++q.1.map zfT)
theorem zhY (pth:List D):zsh pth=fun q=>.tup (pth++q.1.map zfT):=rfl
theorem zeS:zfT=fun (i:Nat)=>D.int i:=rfl
theorem zes {K:PySem.W.Frag}:∀ (n:Nat) (rs:List Row) {S:Sto} {pth:List D} {Q:DQ} {E:XQ},zaE rs < n->pth.length+3 * n≤500->zau rs≤100 ->
  (∀ p S',S p=none->S' p=some (.lst ((zax 0 rs).map (zsh pth)))->Kp S S'->Q (.ref p) S')->zdl K n [.tup (zaM rs),.tup pth] S Q E
 | 0,rs,S,pth,Q,E,hn,_,_,_=>absurd hn (Nat.not_lt_zero _)
 | n+1,rs,S,pth,Q,E,hn,hp,hc,hQ=>by
  refine zaH rfl ?_
  unfold zgh
  ext
  with_reducible refine zdX (szl (by simp)) fun p h0=>?_
  ext
  refine za2 (fun i env S'=>∃ x3 x4 x5:Option D,env=[some (.tup (zaM rs)),some (.tup pth),some (.ref p),x3,x4,x5]∧S' p=some (.lst ((zax 0 (rs.take i)).map (zsh pth)))∧Kp S S') _ 0 ⟨_,_,_,rfl,zai,Kp.refl.new h0⟩ ?_ ?_
  ·rintro i y _ S1 hy ⟨x3,x4,x5,rfl,ep,k1⟩ nx hnx
   rw [Nat.zero_add] at ep hnx
   obtain ⟨x,hx,rfl⟩:=zfx hy
   obtain ⟨r,hr,rfl⟩:=zgN hx
   have hrd:=zex (List.mem_of_getElem? hr)
   have hct:=zjG hr
   have et:=ziv hr
   have hl:((zax 0 (rs.take i)).map (zsh pth)).length=zau (rs.take i):=by rw [List.length_map,zbD]
   refine ⟨trivial,?_⟩
   ext
   with_reducible refine zaL (szl (by simp)) ?_
   ext
   with_reducible refine zc1 (szl (by simp;omega)) ?_
   ext
   with_reducible refine s_app ep (zhy (by omega)) ?_
   cases r with
   | ite s w yy nn=>
    rw [Row.d]
    rw [Row.dep] at hrd
    rw [Row.ex] at hct
    rw [Row.subs] at et
    ext
    with_reducible refine zaL (szl (by simp)) ?_
    ext
    with_reducible refine zc1 (szl (by simp;omega)) ?_
    ext
    refine zes n yy (by omega) (by simp;omega) (by omega) fun b1 S2 hb1 eb1 k2=>?_
    have ep2:=k2 _ _ zai
    ext
    refine zlM ep2 eb1 (szl (by simp [zbD];omega)) ?_
    ext
    with_reducible refine zaL (szl (by simp)) ?_
    ext
    with_reducible refine zc1 (szl (by simp;omega)) ?_
    ext
    refine zes n nn (by omega) (by simp;omega) (by omega) fun b2 S3 hb2 eb2 k3=>?_
    have ep3:=k3 _ _ zai
    ext
    refine zlM ep3 eb2 (szl (by simp [zbD];omega)) ?_
    ext
    refine hnx _ _ ⟨_,_,_,rfl,?_,?_⟩
    ·rw [zai,et]
     simp [zhY,zeS,Function.comp_def]
    ·exact ((((k1.wr h0).trans k2).wr h0).trans k3).wr h0
   | _=>
    rw [Row.d]
    rw [Row.subs] at et
    ext
    refine hnx _ _ ⟨_,_,_,rfl,?_,k1.wr h0⟩
    rw [zai,et]
    simp [zhY,zeS]
  ·rintro _ S1 ⟨x3,x4,x5,rfl,ep,k1⟩
   refine ⟨trivial,?_⟩
   rw [Nat.zero_add] at ep
   ext
   refine hQ _ _ h0 ?_ k1
   rw [ep,zbq,zbt,List.take_length]
def zsg (pth:List D) (q:List Nat×Row):D:=.tup [.tup (pth++q.1.map zfT),q.2.d]
theorem zhX (pth:List D):zsg pth=fun q=>.tup [.tup (pth++q.1.map zfT),q.2.d]:=rfl
theorem zdS {K:PySem.W.Frag}:∀ (n:Nat) (rs:List Row) {S:Sto} {pth:List D} {Q:DQ} {E:XQ},zaE rs < n->pth.length+3 * n≤500->zau rs≤100 ->
  (∀ p S',S p=none->S' p=some (.lst ((zax 0 rs).map (zsg pth)))->Kp S S'->Q (.ref p) S')->zcg K n [.tup (zaM rs),.tup pth] S Q E
 | 0,rs,S,pth,Q,E,hn,_,_,_=>absurd hn (Nat.not_lt_zero _)
 | n+1,rs,S,pth,Q,E,hn,hp,hc,hQ=>by
  refine zaH rfl ?_
  unfold ze6
  ext
  with_reducible refine zdX (szl (by simp)) fun p h0=>?_
  ext
  with_reducible refine zho (by omega) (by rw [zbt];have:=zeF rs;omega) ?_
  ext
  refine za2 (fun i env S'=>∃ (p:Addr) (x3:Option D),env=[some (.tup (zaM rs)),some (.tup pth),some (.ref p),x3]∧S p=none∧S' p=some (.lst ((zax 0 (rs.take i)).map (zsg pth)))∧Kp S S') _ 0 ⟨_,_,rfl,h0,zai,Kp.refl.new h0⟩ ?_ ?_
  ·rintro i y _ S1 hy ⟨p,x3,rfl,h0,ep,k1⟩ nx hnx
   rw [Nat.zero_add] at ep hnx
   obtain ⟨rfl,hi⟩:=zfP hy
   rw [zbt] at hi
   have hr:rs[i]? = some rs[i]:=List.getElem?_eq_getElem (by omega)
   generalize rs[i]'(by omega)=r at hr
   have hat:L2.atI (zaM rs) (i:Int)=some r.d:=atI_nat (by rw [zcj,List.getElem?_map,hr];rfl)
   have hrd:=zex (List.mem_of_getElem? hr)
   have hct:=zjG hr
   have et:=ziv hr
   have hl:((zax 0 (rs.take i)).map (zsg pth)).length=zau (rs.take i):=by rw [List.length_map,zbD]
   refine ⟨trivial,?_⟩
   ext
   with_reducible refine zaL (szl (by simp)) ?_
   ext
   with_reducible refine zc1 (szl (by simp;omega)) ?_
   ext
   with_reducible refine zaL (szl (by simp)) ?_
   ext
   with_reducible refine s_app ep (zhy (by omega)) ?_
   cases r with
   | ite s w yy nn=>
    rw [Row.d] at hat ⊢
    rw [Row.dep] at hrd
    rw [Row.ex] at hct
    rw [Row.subs] at et
    ext
    with_reducible refine zaL (szl (by simp)) ?_
    ext
    with_reducible refine zc1 (szl (by simp;omega)) ?_
    ext
    refine zdS n yy (by omega) (by simp;omega) (by omega) fun b1 S2 hb1 eb1 k2=>?_
    have ep2:=k2 _ _ zai
    ext
    refine zdN ep2 eb1 (szl (by simp [zbD];omega)) fun c1 hc1=>?_
    ext
    with_reducible refine zaL (szl (by simp)) ?_
    ext
    with_reducible refine zc1 (szl (by simp;omega)) ?_
    ext
    refine zdS n nn (by omega) (by simp;omega) (by omega) fun b2 S3 hb2 eb2 k3=>?_
    have ep3:=k3 _ _ zai
    ext
    refine zdN ep3 eb2 (szl (by simp [zbD];omega)) fun c2 hc2=>?_
    ext
    have kk:Kp S S3:=(((k1.wr h0).trans k2).new hc1).trans k3
    refine hnx _ _ ⟨_,_,rfl,kk.none_ hc2,?_,kk.new hc2⟩
    rw [zai,et]
    simp [zhX,Row.d,zeS,Function.comp_def]
   | _=>
    rw [Row.d] at hat ⊢
    rw [Row.subs] at et
    ext
    refine hnx _ _ ⟨_,_,rfl,h0,?_,k1.wr h0⟩
    rw [zai,et]
    simp [zhX,Row.d,zeS]
  ·rintro _ S1 ⟨p,x3,rfl,h0,ep,k1⟩
   refine ⟨trivial,?_⟩
   rw [Nat.zero_add] at ep
   ext
   refine hQ _ _ h0 ?_ k1
   rw [ep,zer,zbt]
   simp
abbrev Pz:Type:=Str×List Nat
def zbU (z:Pz):D:=.tup (.str z.1 :: z.2.map zfT)
theorem zri:Enc 1 zbU (fun z=>.tuple (.str z.1 :: z.2.map fun (i:Nat)=>PyData.int (i:Int))):=Enc.cons zeZ zlc false
def zbS (i:Nat):List (Str×List Row)->List (List Nat×Row)
 | []=>[]
 | p :: ps=>(zax 0 p.2).map (fun q=>(i :: q.1,q.2))++zbS (i+1) ps
theorem ziL:∀ (xs ys:List (Str×List Row)) (i:Nat),zbS i (xs++ys)=zbS i xs++zbS (i+xs.length) ys
 | [],ys,i=>by rw [zbS];rfl
 | x :: xs,ys,i=>by
  rw [List.cons_append,zbS,zbS,ziL xs ys (i+1),List.length_cons,show i+(xs.length+1)=i+1+xs.length by omega]
  simp
theorem zff {ps:List (Str×List Row)} {i:Nat} {p:Str×List Row} (h:ps[i]? = some p):zbS 0 (ps.take (i+1))=zbS 0 (ps.take i)++(zax 0 p.2).map fun q=>(i :: q.1,q.2):=by
 have hi:i < ps.length:=(List.getElem?_eq_some_iff.mp h).1
 rw [List.take_succ,h,ziL]
 have e:0+(ps.take i).length=i:=by simp;omega
 rw [e]
 show _++zbS i [p]=_
 rw [zbS,zbS,List.append_nil]
theorem zeY:∀ {ps:List (Str×List Row)} (i:Nat),(∀ p∈ps,zau p.2≤16)->(zbS i ps).length≤16 * ps.length
 | [],i,_=>by simp [zbS]
 | p :: ps,i,h=>by
  have h1:=h p List.mem_cons_self
  have h2:=zeY (ps:=ps) (i+1) fun q hq=>h q (List.mem_cons_of_mem _ hq)
  rw [zbS,List.length_append,List.length_map,zbD,List.length_cons]
  omega
def znf (q:List Nat×Row):Pz×Row:=(("derived", q.1),q.2)
def zpl (q:List Nat×Row):Pz×Row:=(("effects", q.1),q.2)
def Parts.pths (x:Parts):List (Pz×Row):=(zbS 0 x.derived).map znf++(zbS 0 x.effects).map zpl
def zke {x:Parts} {slots:List Str} {pk wr:Bool} (P:za5 x slots pk wr):(∀ p∈x.derived,zau p.2≤16∧zaE p.2≤3)∧∀ p∈x.effects,zau p.2≤16∧zaE p.2≤3:=
 ⟨fun p hp=>by
  obtain ⟨i,hi,e⟩:=List.getElem_of_mem hp
  have b:=P.der i p (by rw [List.getElem?_eq_getElem hi,e])
  exact ⟨b.cnt,b.dep⟩,fun p hp=>⟨(P.eff p hp).cnt,(P.eff p hp).dep⟩⟩
theorem zi8 {x:Parts} {slots:List Str} {pk wr:Bool} (P:za5 x slots pk wr):x.pths.length≤160:=by
 have h1:=zeY (ps:=x.derived) 0 fun p hp=>((zke P).1 p hp).1
 have h2:=zeY (ps:=x.effects) 0 fun p hp=>((zke P).2 p hp).1
 have h3:=P.d6
 have h4:=P.e4
 unfold Parts.pths
 rw [List.length_append,List.length_map,List.length_map]
 omega
section
variable {K:PySem.W.Frag} {S:Sto} {o:Addr} {x:Parts} {slots:List Str} {pk wr:Bool} {Q:DQ} {E:XQ}
theorem zgl (G:FPr K) (P:za5 x slots pk wr) (eo:S o=some (zd5 K x))
  (hQ:∀ p S',S p=none->S' p=some (.lst (x.pths.map fun q=>zbU q.1))->Kp S S'->Q (.ref p) S'):zbT K [.ref o] S Q E:=by
 obtain ⟨f1,f2,f3,f4⟩:=G
 have B:=zke P
 have d6:=P.d6
 have e4:=P.e4
 unfold zd5 at eo
 refine zaH rfl ?_
 unfold zb6
 ext
 with_reducible refine zdX (szl (by simp)) fun p h0=>?_
 have po:o≠p:=fun z=>by subst z;rw [eo] at h0;cases h0
 ext
 have hlen:∀ i (ps:List (Str×List Row)),(∀ p∈ps,zau p.2≤16∧zaE p.2≤3)->ps.length≤6->(zbS 0 (ps.take i)).length≤96:=fun i ps h hl=>by
  have h1:=zeY (ps:=ps.take i) 0 fun p hp=>(h p (List.mem_of_mem_take hp)).1
  simp at h1
  omega
 refine za2 (fun i env S'=>∃ x2 x3:Option D,env=[some (.ref o),some (.ref p),x2,x3]∧S' p=some (.lst ((zbS 0 (x.derived.take i)).map fun q=>zbU (znf q).1))∧Kp S S') _ 0 ⟨_,_,rfl,zai,Kp.refl.new h0⟩ ?_ ?_
 ·rintro i y _ S1 hy ⟨x2,x3,rfl,ep,k1⟩ nx hnx
  rw [Nat.zero_add] at ep hnx
  obtain ⟨d,hd,rfl⟩:=zfx hy
  obtain ⟨b,hb,rfl⟩:=pair_at hd
  have hbm:=B.1 b (List.mem_of_getElem? hb)
  have hl:=hlen i x.derived B.1 d6
  refine ⟨trivial,?_⟩
  ext
  with_reducible refine zaL (szl (by simp)) ?_
  ext
  refine zes 6 b.2 (by omega) (by simp) (by omega) fun c S2 hc ec k2=>?_
  have ep2:=k2 _ _ ep
  ext
  refine zlM ep2 ec (szl (by simp [zbD];omega)) ?_
  ext
  refine hnx _ _ ⟨_,_,rfl,?_,(k1.trans k2).wr h0⟩
  rw [zai,zff hb]
  simp [zbU,znf,zhY,zeS,Function.comp_def]
 rintro _ S1 ⟨x2,x3,rfl,ep,k1⟩
 rw [Nat.zero_add,zbq,List.length_map,List.take_length] at ep
 have o1:=k1 _ _ eo
 have hd:=hlen x.derived.length x.derived B.1 d6
 rw [List.take_length] at hd
 refine ⟨trivial,?_⟩
 ext
 refine za2 (fun i env S'=>∃ x2 x3:Option D,env=[some (.ref o),some (.ref p),x2,x3]∧S' p=some (.lst (((zbS 0 x.derived).map fun q=>zbU (znf q).1)++(zbS 0 (x.effects.take i)).map fun q=>zbU (zpl q).1))∧Kp S S') _ 0 ⟨_,_,rfl,by rw [ep];simp [zbS],k1⟩ ?_ ?_
 ·rintro i y _ S1 hy ⟨x2,x3,rfl,ep,k1⟩ nx hnx
  rw [Nat.zero_add] at ep hnx
  obtain ⟨d,hd',rfl⟩:=zfx hy
  obtain ⟨b,hb,rfl⟩:=pair_at hd'
  have hbm:=B.2 b (List.mem_of_getElem? hb)
  have hl:=hlen i x.effects B.2 (by omega)
  refine ⟨trivial,?_⟩
  ext
  with_reducible refine zaL (szl (by simp)) ?_
  ext
  refine zes 6 b.2 (by omega) (by simp) (by omega) fun c S2 hc ec k2=>?_
  have ep2:=k2 _ _ ep
  ext
  refine zlM ep2 ec (szl (by simp [zbD];omega)) ?_
  ext
  refine hnx _ _ ⟨_,_,rfl,?_,(k1.trans k2).wr h0⟩
  rw [zai,zff hb]
  simp [zbU,zpl,zhY,zeS,Function.comp_def]
 ·rintro _ S1 ⟨x2,x3,rfl,ep,k1⟩
  rw [Nat.zero_add,zbq,List.length_map,List.take_length] at ep
  refine ⟨trivial,?_⟩
  ext
  refine hQ _ _ h0 ?_ k1
  rw [ep]
  simp [Parts.pths,Function.comp_def]
theorem zgH (P:za5 x slots pk wr)
  (hQ:∀ p S',S p=none->S' p=some (.lst (x.pths.map fun q=>.tup [zbU q.1,q.2.d]))->Kp S S'->Q (.ref p) S'):zbQ K [x.d] S Q E:=by
 have B:=zke P
 have d6:=P.d6
 have e4:=P.e4
 refine zaH rfl ?_
 unfold zcX
 unfold Parts.d
 ext
 with_reducible refine zdX (szl (by simp)) fun p h0=>?_
 ext
 with_reducible refine zho (by omega) (by simp;omega) ?_
 ext
 have hlen:∀ i (ps:List (Str×List Row)),(∀ p∈ps,zau p.2≤16∧zaE p.2≤3)->ps.length≤6->(zbS 0 (ps.take i)).length≤96:=fun i ps h hl=>by
  have h1:=zeY (ps:=ps.take i) 0 fun p hp=>(h p (List.mem_of_mem_take hp)).1
  simp at h1
  omega
 have pat:∀ {ps:List (Str×List Row)} {i:Nat},i < (ps.map pairD).length->∃ b,ps[i]? = some b∧L2.atI (ps.map pairD) (i:Int)=some (.tup [.str b.1,.tup (zaM b.2)]):=fun {ps i} hi=>by
  rw [List.length_map] at hi
  exact ⟨ps[i],List.getElem?_eq_getElem hi,atI_nat (by rw [List.getElem?_map,List.getElem?_eq_getElem hi];rfl)⟩
 refine za2 (fun i env S'=>∃ (p:Addr) (x2:Option D),env=[some (.tup [.tup (x.words.map D.str),.tp x.fl (x.sources.map D.str),.tup (x.derived.map pairD),.tup (x.effects.map pairD)]),some (.ref p),x2]∧S p=none∧S' p=some (.lst ((zbS 0 (x.derived.take i)).map fun q=>.tup [zbU (znf q).1,q.2.d]))∧Kp S S') _ 0 ⟨_,_,rfl,h0,zai,Kp.refl.new h0⟩ ?_ ?_
 ·rintro i y _ S1 hy ⟨p,x2,rfl,h0,ep,k1⟩ nx hnx
  rw [Nat.zero_add] at ep hnx
  obtain ⟨rfl,hi⟩:=zfP hy
  obtain ⟨b,hb,hat⟩:=pat (ps:=x.derived) (i:=i) (by simpa using hi)
  have hbm:=B.1 b (List.mem_of_getElem? hb)
  have hl:=hlen i x.derived B.1 d6
  refine ⟨trivial,?_⟩
  ext
  with_reducible refine zaL (szl (by simp)) ?_
  ext
  refine zdS 6 b.2 (by omega) (by simp) (by omega) fun c S2 hc ec k2=>?_
  have ep2:=k2 _ _ ep
  ext
  refine zdN ep2 ec (szl (by simp [zbD];omega)) fun c1 hc1=>?_
  ext
  have kk:=k1.trans k2
  refine hnx _ _ ⟨_,_,rfl,kk.none_ hc1,?_,kk.new hc1⟩
  rw [zai,zff hb]
  simp [zbU,znf,zhX,zeS,Function.comp_def]
 rintro _ S1 ⟨p,x2,rfl,h0,ep,k1⟩
 rw [Nat.zero_add,zer,show (((x.derived.map pairD).length:Nat):Int).toNat=x.derived.length by simp,List.take_length] at ep
 have hd:=hlen x.derived.length x.derived B.1 d6
 rw [List.take_length] at hd
 refine ⟨trivial,?_⟩
 ext
 with_reducible refine zho (by omega) (by simp;omega) ?_
 ext
 refine za2 (fun i env S'=>∃ (p:Addr) (x2:Option D),env=[some (.tup [.tup (x.words.map D.str),.tp x.fl (x.sources.map D.str),.tup (x.derived.map pairD),.tup (x.effects.map pairD)]),some (.ref p),x2]∧S p=none∧S' p=some (.lst (((zbS 0 x.derived).map fun q=>.tup [zbU (znf q).1,q.2.d])++(zbS 0 (x.effects.take i)).map fun q=>.tup [zbU (zpl q).1,q.2.d]))∧Kp S S') _ 0 ⟨_,_,rfl,h0,by rw [ep];simp [zbS],k1⟩ ?_ ?_
 ·rintro i y _ S1 hy ⟨p,x2,rfl,h0,ep,k1⟩ nx hnx
  rw [Nat.zero_add] at ep hnx
  obtain ⟨rfl,hi⟩:=zfP hy
  obtain ⟨b,hb,hat⟩:=pat (ps:=x.effects) (i:=i) (by simpa using hi)
  have hbm:=B.2 b (List.mem_of_getElem? hb)
  have hl:=hlen i x.effects B.2 (by omega)
  refine ⟨trivial,?_⟩
  ext
  with_reducible refine zaL (szl (by simp)) ?_
  ext
  refine zdS 6 b.2 (by omega) (by simp) (by omega) fun c S2 hc ec k2=>?_
  have ep2:=k2 _ _ ep
  ext
  refine zdN ep2 ec (szl (by simp [zbD];omega)) fun c1 hc1=>?_
  ext
  have kk:=k1.trans k2
  refine hnx _ _ ⟨_,_,rfl,kk.none_ hc1,?_,kk.new hc1⟩
  rw [zai,zff hb]
  simp [zbU,zpl,zhX,zeS,Function.comp_def]
 ·rintro _ S1 ⟨p,x2,rfl,h0,ep,k1⟩
  rw [Nat.zero_add,zer,show (((x.effects.map pairD).length:Nat):Int).toNat=x.effects.length by simp,List.take_length] at ep
  refine ⟨trivial,?_⟩
  ext
  refine hQ _ _ h0 ?_ k1
  rw [ep]
  simp [Parts.pths,Function.comp_def,znf,zpl]
end
inductive zhj:Row->List Nat->Row->Prop
 | here (r:Row):zhj r [] r
 | yes {s w:Str} {y n:List Row} {p:Nat} {r t:Row} {q:List Nat}:y[p]? = some r->zhj r q t->zhj (.ite s w y n) (0 :: p :: q) t
 | no {s w:Str} {y n:List Row} {p:Nat} {r t:Row} {q:List Nat}:n[p]? = some r->zhj r q t->zhj (.ite s w y n) (1 :: p :: q) t
mutual
theorem zjP:∀ (r:Row) (i:Nat) (q:List Nat) (t:Row),(q,t)∈r.subs i->∃ q',q=i :: q'∧zhj r q' t
 | .ite s w y n,i,q,t,h=>by
  rw [Row.subs] at h
  rcases List.mem_append.mp h with h | h
  ·obtain ⟨⟨q1,t1⟩,h1,e⟩:=List.mem_map.mp h
   cases e
   obtain ⟨j,q',r,rfl,hr,hl⟩:=zfc y 0 q1 t1 h1
   exact ⟨_,rfl,.yes (by rw [Nat.zero_add];exact hr) hl⟩
  ·obtain ⟨⟨q1,t1⟩,h1,e⟩:=List.mem_map.mp h
   cases e
   obtain ⟨j,q',r,rfl,hr,hl⟩:=zfc n 0 q1 t1 h1
   exact ⟨_,rfl,.no (by rw [Nat.zero_add];exact hr) hl⟩
 | .read _ _,i,q,t,h=>by rw [Row.subs] at h;cases h
 | .peek _ _,i,q,t,h=>by rw [Row.subs] at h;cases h
 | .put _ _,i,q,t,h=>by rw [Row.subs] at h;cases h
 | .give _,i,q,t,h=>by rw [Row.subs] at h;cases h
 | .say _,i,q,t,h=>by rw [Row.subs] at h;cases h
 | .write _ _,i,q,t,h=>by rw [Row.subs] at h;cases h
theorem zfc:∀ (rs:List Row) (i:Nat) (q:List Nat) (t:Row),(q,t)∈zax i rs->∃ j q' r,q=(i+j) :: q'∧rs[j]? = some r∧zhj r q' t
 | [],i,q,t,h=>by rw [zax] at h;cases h
 | r :: rs,i,q,t,h=>by
  rw [zax] at h
  rcases List.mem_cons.mp h with h | h
  ·cases h
   exact ⟨0,[],r,rfl,rfl,.here r⟩
  ·rcases List.mem_append.mp h with h | h
   ·obtain ⟨q',rfl,hl⟩:=zjP r i q t h
    exact ⟨0,q',r,rfl,rfl,hl⟩
   ·obtain ⟨j,q',r',rfl,hr,hl⟩:=zfc rs (i+1) q t h
    exact ⟨j+1,q',r',by rw [show i+1+j=i+(j+1) by omega],hr,hl⟩
end
theorem zfB:∀ (ps:List (Str×List Row)) (i:Nat) (q:List Nat) (t:Row),(q,t)∈zbS i ps->∃ j p q',q=(i+j) :: q'∧ps[j]? = some p∧(q',t)∈zax 0 p.2
 | [],i,q,t,h=>by rw [zbS] at h;cases h
 | p :: ps,i,q,t,h=>by
  rw [zbS] at h
  rcases List.mem_append.mp h with h | h
  ·obtain ⟨⟨q1,t1⟩,h1,e⟩:=List.mem_map.mp h
   cases e
   exact ⟨0,p,q1,rfl,rfl,h1⟩
  ·obtain ⟨j,p',q',rfl,hr,hl⟩:=zfB ps (i+1) q t h
   exact ⟨j+1,p',q',by rw [show i+1+j=i+(j+1) by omega],hr,hl⟩
theorem zhj.len {r t:Row} {q:List Nat} (h:zhj r q t):∃ m,q.length=2 * m∧m≤r.dep:=by
 induction h with
 | here r=>exact ⟨0,rfl,Nat.zero_le _⟩
 | @yes s w y n p r t q hr hl ih=>
  obtain ⟨m,e,hm⟩:=ih
  have:=zex (List.mem_of_getElem? hr)
  exact ⟨m+1,by simp [e];omega,by rw [Row.dep];omega⟩
 | @no s w y n p r t q hr hl ih=>
  obtain ⟨m,e,hm⟩:=ih
  have:=zex (List.mem_of_getElem? hr)
  exact ⟨m+1,by simp [e];omega,by rw [Row.dep];omega⟩
def Parts.bodies (x:Parts) (d:Bool):List (Str×List Row):=if d then x.derived else x.effects
theorem zof {x:Parts} {z:Pz} {t:Row} (h:(z,t)∈x.pths):∃ (d:Bool) (j:Nat) (p:Str×List Row) (q:List Nat),z=(kindS d,j :: q)∧(x.bodies d)[j]? = some p∧(q,t)∈zax 0 p.2:=by
 unfold Parts.pths at h
 rcases List.mem_append.mp h with h | h
 ·obtain ⟨⟨q1,t1⟩,h1,e⟩:=List.mem_map.mp h
  cases e
  obtain ⟨j,p,q',rfl,hr,hl⟩:=zfB _ _ _ _ h1
  exact ⟨true,j,p,q',by rw [Nat.zero_add];rfl,hr,hl⟩
 ·obtain ⟨⟨q1,t1⟩,h1,e⟩:=List.mem_map.mp h
  cases e
  obtain ⟨j,p,q',rfl,hr,hl⟩:=zfB _ _ _ _ h1
  exact ⟨false,j,p,q',by rw [Nat.zero_add];rfl,hr,hl⟩
theorem zdj {x:Parts} {slots:List Str} {pk wr:Bool} (P:za5 x slots pk wr) {z:Pz} {t:Row} (h:(z,t)∈x.pths) :
  ∃ (d:Bool) (j m n:Nat) (p:Str×List Row) (r:Row) (q:List Nat),z=(kindS d,j :: m :: q)∧(x.bodies d)[j]? = some p∧p.2[m]? = some r∧zhj r q t∧q.length=2 * n∧n≤3:=by
 obtain ⟨d,j,p,q,rfl,hj,hm⟩:=zof h
 obtain ⟨m,q',r,rfl,hr,hl⟩:=zfc _ _ _ _ hm
 obtain ⟨n,e1,e2⟩:=hl.len
 have hd:zaE p.2≤3:=by
  cases d with
  | true=>exact ((zke P).1 p (List.mem_of_getElem? hj)).2
  | false=>exact ((zke P).2 p (List.mem_of_getElem? hj)).2
 have:=zex (List.mem_of_getElem? hr)
 exact ⟨d,j,m,n,p,r,q',by rw [Nat.zero_add],hj,hr,hl,e1,by omega⟩
theorem zod {m:Nat} (h:m≤6):RgC 3 (3+2 * (m:Int)) 2 m:=by
 have:∀ k:Fin 7,Builtin.Range.small 3 (3+2 * (k.val:Int)) 2=true∧Builtin.Range.rangeSize 3 (3+2 * (k.val:Int)) 2=(k.val:Int):=by decide +kernel
 obtain ⟨a,b⟩:=this ⟨m,by omega⟩
 exact ⟨by decide,by decide,a,b⟩
theorem zih (d:D) (xs:List D):DL.cutD (d :: xs) (some 1) none=xs:=by
 unfold DL.cutD
 have e1:HT.sIx (d :: xs).length 0 (some 1)=1:=by
  have:=HT.sIx_nat (d :: xs).length 0 1
  rw [show ((1:Nat):Int)=1 from rfl] at this
  rw [this]
  simp
 have e2:HT.sIx (d :: xs).length (d :: xs).length none=xs.length+1:=rfl
 rw [e1,e2]
 simp
theorem zef (xs:List D) (k:Nat):DL.cutD xs none (some (k:Int))=xs.take k:=by
 unfold DL.cutD
 have e1:HT.sIx xs.length 0 none=0:=rfl
 rw [e1,HT.sIx_nat,List.drop_zero,Nat.sub_zero]
 by_cases h:k≤xs.length
 ·rw [Nat.min_eq_left h]
 ·rw [Nat.min_eq_right (by omega),List.take_of_length_le (Nat.le_refl _),List.take_of_length_le (by omega)]
theorem zfQ (k:Str) (j m:Nat) (q:List Nat):∃ L:List D,zbU (k,j :: m :: q) = .tup L∧L2.atI L 0=some (.str k)∧L2.atI L 1=some (.int j)∧L2.atI L 2=some (.int m)∧(∀ (i c:Nat),q[i]? = some c->L2.atI L (3+(i:Int))=some (.int c))∧L.length=q.length+3∧DL.cutD L (some 1) none=(j :: m :: q).map zfT:=by
 refine ⟨.str k :: (j :: m :: q).map zfT,rfl,atI_nat (p:=0) rfl,atI_nat (p:=1) rfl,atI_nat (p:=2) rfl,fun i c h=>?_,by simp,zih _ _⟩
 rw [show (3+(i:Int))=((i+3:Nat):Int) by omega]
 exact atI_nat (by simp [h,zfT])
section
variable {K:PySem.W.Frag} {S:Sto} {o:Addr} {x:Parts} {slots:List Str} {pk wr:Bool} {Q:DQ} {E:XQ}
theorem zk9 {i:Nat} (hQ:Q (.bl true) S):zcf K [.int (i:Int)] S Q E:=by
 refine zaH rfl ?_
 unfold zcM
 ext
 exact hQ
theorem zjc (G:FPr K) (P:za5 x slots pk wr) (eo:S o=some (zd5 K x)) {z:Pz} {t:Row} (hz:(z,t)∈x.pths) (hQ:∀ S',Kp S S'->Q (.bl true) S'):zbn K [.ref o,zbU z] S Q E:=by
 obtain ⟨d,j,m,n,p,r,q,rfl,hj,hr,hl,hn,hn3⟩:=zdj P hz
 obtain ⟨L,e,a0,a1,a2,aq,hLl,hcut⟩:=zfQ (kindS d) j m q
 rw [e]
 refine zaH rfl ?_
 unfold zbF
 ext
 rw [hcut]
 refine za2 (fun i env S'=>∃ x2:Option D,env=[some (.ref o),some (.tup L),x2]∧S'=S) _ 0 ⟨_,rfl,rfl⟩ ?_ ?_
 ·rintro i y _ _ hy ⟨x2,rfl,rfl⟩ nx hnx
  refine ⟨trivial,?_⟩
  have:∃ k:Nat,y=zfT k:=by
   have hm:=List.mem_of_getElem? hy
   have hm:y∈(j :: m :: q).map zfT:=hm
   obtain ⟨k,_,e⟩:=List.mem_map.mp hm
   exact ⟨k,e.symm⟩
  obtain ⟨k,rfl⟩:=this
  unfold zfT
  ext
  refine zk9 ?_
  ext
  exact hnx _ _ ⟨_,rfl,rfl⟩
 ·rintro _ _ ⟨x2,rfl,rfl⟩
  refine ⟨trivial,?_⟩
  unfold zd5 at eo
  ext
  refine zgl G P eo fun b S1 hb eb k1=>?_
  ext
  have hin:(kindS d,j :: m :: q)∈x.pths.map (·.1):=List.mem_map.mpr ⟨_,hz,rfl⟩
  have eb':S1 b=some (.lst ((x.pths.map (·.1)).map zbU)):=by rw [eb,List.map_map];rfl
  rw [← e]
  refine zri.inL (z:=(kindS d,j :: m :: q)) (by decide) eb' ?_
  simp only [hin,decide_true]
  ext
  exact hQ _ k1
theorem zit (G:FPr K) (P:za5 x slots pk wr) (eo:S o=some (zd5 K x)) {z:Pz} {t:Row} (hz:(z,t)∈x.pths) (hQ:∀ S',Kp S S'->Q t.d S'):zbR K [.ref o,zbU z] S Q E:=by
 obtain ⟨d,j,m,n,p,r,q,rfl,hj,hr,hl,hn,hn3⟩:=zdj P hz
 obtain ⟨L,e,a0,a1,a2,aq,hLl,hcut⟩:=zfQ (kindS d) j m q
 have G':=G
 obtain ⟨f1,f2,f3,f4⟩:=G
 have eo':=eo
 unfold zd5 at eo
 refine zaH rfl ?_
 unfold zb2
 ext
 refine zjc G' P eo' hz fun S1 k1=>?_
 have o1:=k1 _ _ eo
 rw [e]
 walk_at "dmn"
 with_reducible refine zi1 (fun env S2=>env=[some (.ref o),some (.tup L),some (.tup ((x.bodies d).map pairD)),none,none,none]∧S2=S1) ?_ ?_
 rotate_left
 ·intro nx hnx
  unfold Parts.bodies at hnx
  cases d with
  | true=>
   unfold kindS at a0
   ext
   exact hnx _ _ ⟨rfl,rfl⟩
  | false=>
   unfold kindS at a0
   ext
   exact hnx _ _ ⟨rfl,rfl⟩
 rintro _ S1 ⟨rfl,rfl⟩
 have hat:L2.atI ((x.bodies d).map pairD) (j:Int)=some (.tup [.str p.1,.tup (zaM p.2)]):=atI_nat (by rw [List.getElem?_map,hj];rfl)
 have hat2:L2.atI (zaM p.2) (m:Int)=some r.d:=atI_nat (by rw [zcj,List.getElem?_map,hr];rfl)
 ext
 refine ztA (n:=n) (by have:=zod (m:=n) (by omega);rw [hLl,hn,show ((2 * n+3:Nat):Int)=3+2 * n by omega];exact this) ?_
 ext
 refine za2 (fun i env S'=>∃ (x5:Option D) (r':Row),env=[some (.ref o),some (.tup L),some (.tup ((x.bodies d).map pairD)),some (.tup (zaM p.2)),some r'.d,x5]∧zhj r' (q.drop (2 * i)) t∧S'=S1) _ 0 ⟨_,r,rfl,hl,rfl⟩ ?_ ?_
 ·rintro i y _ _ hy ⟨x5,r',rfl,hl',rfl⟩ nx hnx
  rw [Nat.zero_add] at hl' hnx
  obtain ⟨rfl,hi⟩:=zoc hy
  have hne:(q.drop (2 * i)).length=2 * n - 2 * i:=by rw [List.length_drop,hn]
  refine ⟨trivial,?_⟩
  have pos:∀ (k c:Nat) (l:List Nat),q.drop (2 * i)=c :: k :: l->L2.atI L (3+(i:Int) * 2)=some (.int (c:Int))∧
    L2.atI L (3+(i:Int) * 2+1)=some (.int (k:Int))∧q.drop (2 * (i+1))=l:=fun k c l e=>by
   have g1:q[2 * i]? = some c:=by
    have:=congrArg (fun z=>z[0]?) e
    simpa [List.getElem?_drop] using this
   have g2:q[2 * i+1]? = some k:=by
    have:=congrArg (fun z=>z[1]?) e
    simpa [List.getElem?_drop] using this
   refine ⟨?_,?_,?_⟩
   ·rw [show (3+(i:Int) * 2)=3+((2 * i:Nat):Int) by omega]
    exact aq _ _ g1
   ·rw [show (3+(i:Int) * 2+1)=3+((2 * i+1:Nat):Int) by omega]
    exact aq _ _ g2
   ·rw [show 2 * (i+1)=2 * i+2 by omega,← List.drop_drop,e]
    rfl
  generalize eq':q.drop (2 * i)=q' at hl' hne pos
  cases hl' with
  | here=>simp at hne;omega
  | @yes s w yy nn pp r2 _ ql hr2 hl2=>
   obtain ⟨g1,g2,g3⟩:=pos _ _ _ rfl
   have hat3:L2.atI (zaM yy) (pp:Int)=some r2.d:=atI_nat (by rw [zcj,List.getElem?_map,hr2];rfl)
   rw [Row.d]
   ext
   exact hnx _ _ ⟨_,r2,rfl,by rw [g3];exact hl2,rfl⟩
  | @no s w yy nn pp r2 _ ql hr2 hl2=>
   obtain ⟨g1,g2,g3⟩:=pos _ _ _ rfl
   have hat3:L2.atI (zaM nn) (pp:Int)=some r2.d:=atI_nat (by rw [zcj,List.getElem?_map,hr2];rfl)
   rw [Row.d]
   ext
   exact hnx _ _ ⟨_,r2,rfl,by rw [g3];exact hl2,rfl⟩
 ·rintro _ _ ⟨x5,r',rfl,hl',rfl⟩
  rw [Nat.zero_add,zlT] at hl'
  have e0:q.drop (2 * n)=[]:=by rw [← hn];exact List.drop_length
  rw [e0] at hl'
  cases hl'
  refine ⟨trivial,?_⟩
  ext
  exact hQ _ k1
end
structure Ch where
 early:Bool
 z:Pz
 c:Str
 s:Str
def zhI (b:Bool):Str:=match b with
 | true => "early"
 | false => "peek"
def Ch.key (h:Ch):Str×Pz:=(zhI h.early,h.z)
def zhE (k:Str×Pz):D:=.tup [.str k.1,zbU k.2]
theorem zoN:Enc 2 zhE (fun k=>.tuple [.str k.1,.tuple (.str k.2.1 :: k.2.2.map fun (i:Nat)=>PyData.int (i:Int))]):=(zeZ.mono (k':=1) (by omega)).pair zri false
def chD (h:Ch):D:=zhE h.key
structure zpn (x:Parts) (h:Ch):Prop where
 at_:(h.z,Row.read h.c h.s)∈x.pths
 eff:h.early=false->h.z.1 = "effects"
section
variable {K:PySem.W.Frag} {S:Sto} {o:Addr} {x:Parts} {slots:List Str} {pk wr:Bool} {Q:DQ} {E:XQ}
theorem zgv (G:FPr K) (P:za5 x slots pk wr) (eo:S o=some (zd5 K x)) {h:Ch} (hh:zpn x h) (hQ:∀ S',Kp S S'->Q (.bl true) S'):zdH K [.ref o,chD h] S Q E:=by
 obtain ⟨d,j,m,n,p,r,q,ez,hj,hr,hl,hn,hn3⟩:=zdj P hh.at_
 obtain ⟨L,e,a0,a1,a2,aq,hLl,hcut⟩:=zfQ (kindS d) j m q
 have ep:zbU h.z = .tup L:=by rw [ez,e]
 have eo':=eo
 unfold zd5 at eo
 refine zaH rfl ?_
 unfold zey
 unfold chD zhE Ch.key
 ext
 refine zit G P eo' hh.at_ fun S1 k1=>?_
 rw [Row.d]
 ext
 cases he:h.early with
 | true=>
  unfold zhI
  ext
  exact hQ _ k1
 | false=>
  have hk:kindS d = "effects" := by
   have:=hh.eff he
   rw [ez] at this
   exact this
  rw [hk] at a0
  rw [ep]
  unfold zhI
  ext
  exact hQ _ k1
mutual
def Row.slot:Row->List Str
 | .ite s _ y n=>s :: (slotsOf y++slotsOf n)
 | .read _ s=>[s]
 | .peek _ s=>[s]
 | .put s _=>[s]
 | .give s=>[s]
 | .say s=>[s]
 | .write _ s=>[s]
def slotsOf:List Row->List Str
 | []=>[]
 | r :: rs=>r.slot++slotsOf rs
end
mutual
theorem zlA:∀ r:Row,r.slot.length=1+r.ex
 | .ite _ _ y n=>by rw [Row.slot,Row.ex,List.length_cons,List.length_append,zgV y,zgV n];omega
 | .read _ _=>by rw [Row.slot,Row.ex];rfl
 | .peek _ _=>by rw [Row.slot,Row.ex];rfl
 | .put _ _=>by rw [Row.slot,Row.ex];rfl
 | .give _=>by rw [Row.slot,Row.ex];rfl
 | .say _=>by rw [Row.slot,Row.ex];rfl
 | .write _ _=>by rw [Row.slot,Row.ex];rfl
theorem zgV:∀ rs:List Row,(slotsOf rs).length=zau rs
 | []=>by rw [slotsOf,zau];rfl
 | r :: rs=>by rw [slotsOf,zau,List.length_append,zlA r,zgV rs]
end
mutual
theorem slot_mem {h:Shp}:∀ r:Row,r.ok h->∀ s∈r.slot,s∈h.slots
 | .ite _ _ y n,ok,s,hs=>by
  rw [Row.ok] at ok
  rw [Row.slot] at hs
  rcases List.mem_cons.mp hs with e | hs
  ·rw [e];exact ok.1
  ·rcases List.mem_append.mp hs with hs | hs
   ·exact zgU y ok.2.2.1 s hs
   ·exact zgU n ok.2.2.2 s hs
 | .read _ _,ok,s,hs=>by rw [Row.ok] at ok;rw [Row.slot] at hs;rw [List.mem_singleton.mp hs];exact ok.2
 | .peek _ _,ok,s,hs=>by rw [Row.ok] at ok;rw [Row.slot] at hs;rw [List.mem_singleton.mp hs];exact ok.2.2
 | .put _ _,ok,s,hs=>by rw [Row.ok] at ok;rw [Row.slot] at hs;rw [List.mem_singleton.mp hs];exact ok.1
 | .give _,ok,s,hs=>by rw [Row.ok] at ok;rw [Row.slot] at hs;rw [List.mem_singleton.mp hs];exact ok.2
 | .say _,ok,s,hs=>by rw [Row.ok] at ok;rw [Row.slot] at hs;rw [List.mem_singleton.mp hs];exact ok.2
 | .write _ _,ok,s,hs=>by rw [Row.ok] at ok;rw [Row.slot] at hs;rw [List.mem_singleton.mp hs];exact ok.2.2
theorem zgU {h:Shp}:∀ rs:List Row,zbs h rs->∀ s∈slotsOf rs,s∈h.slots
 | [],_,s,hs=>by rw [slotsOf] at hs;cases hs
 | r :: rs,ok,s,hs=>by
  rw [zbs] at ok
  rw [slotsOf] at hs
  rcases List.mem_append.mp hs with hs | hs
  ·exact slot_mem r ok.1 s hs
  ·exact zgU rs ok.2 s hs
end
def zoL:List Str:=(Str.cps "abcdefghijklmnopqrstuvwxyz").toList.map fun c=>⟨#[c]⟩
def zs7 (rs:List Row):Str:=(zoL.find? fun z=>!decide (z∈slotsOf rs)).getD ""
end
mutual
def Row.pk (ch:List Nat->Bool) (i:Nat):Row->Row
 | .ite s w y n=>.ite s w (zdP (fun q=>ch (i :: 0 :: q)) 0 y) (zdP (fun q=>ch (i :: 1 :: q)) 0 n)
 | .read c s=>if ch [i] then .peek c s else .read c s
 | .peek c s=>.peek c s
 | .put s w=>.put s w
 | .give s=>.give s
 | .say s=>.say s
 | .write c s=>.write c s
def zdP (ch:List Nat->Bool) (i:Nat):List Row->List Row
 | []=>[]
 | r :: rs=>r.pk ch i :: zdP ch (i+1) rs
end
def zoj (chs:List Ch):List Pz:=(chs.filter fun h=>!h.early).map (·.z)
def zo7 (k:Str) (i:Nat) (h:Ch):Bool:=h.early && decide ((h.z.1,h.z.2.take 1)=(k,[i]))
def zr5 (chs:List Ch) (k:Str) (i:Nat) (sl:Str):List Row:=(chs.filter (zo7 k i)).map fun h=>Row.read h.c sl
def zvn (chs:List Ch) (k:Str) (i:Nat) (p:Str×List Row):Str×List Row:=(p.1,zr5 chs k i (zs7 p.2)++zdP (fun q=>decide ((k,i :: q)∈zoj chs)) 0 p.2)
def Parts.ch (x:Parts) (chs:List Ch):Parts:={ x with derived:=x.derived.mapIdx (zvn chs "derived"),effects:=x.effects.mapIdx (zvn chs "effects") }
section
variable {K:PySem.W.Frag} {S:Sto} {o:Addr} {x:Parts} {slots:List Str} {pk wr:Bool} {Q:DQ} {E:XQ}
theorem zll (P:za5 x slots pk wr) (d:Bool):(x.bodies d).length≤6:=by
 have h1:=P.d6
 have h2:=P.e4
 cases d with
 | true=>exact h1
 | false=>show x.effects.length≤6;omega
end
mutual
theorem zpB {h:Shp}:∀ (r:Row) (i:Nat),r.ok h->∀ p∈r.subs i,p.2.ok h
 | .ite s w y n,i,ok,p,hp=>by
  rw [Row.ok] at ok
  rw [Row.subs] at hp
  rcases List.mem_append.mp hp with hp | hp
  ·obtain ⟨q,hq,rfl⟩:=List.mem_map.mp hp
   exact zi7 y 0 ok.2.2.1 q hq
  ·obtain ⟨q,hq,rfl⟩:=List.mem_map.mp hp
   exact zi7 n 0 ok.2.2.2 q hq
 | .read _ _,_,_,p,hp=>by rw [Row.subs] at hp;cases hp
 | .peek _ _,_,_,p,hp=>by rw [Row.subs] at hp;cases hp
 | .put _ _,_,_,p,hp=>by rw [Row.subs] at hp;cases hp
 | .give _,_,_,p,hp=>by rw [Row.subs] at hp;cases hp
 | .say _,_,_,p,hp=>by rw [Row.subs] at hp;cases hp
 | .write _ _,_,_,p,hp=>by rw [Row.subs] at hp;cases hp
theorem zi7 {h:Shp}:∀ (rs:List Row) (i:Nat),zbs h rs->∀ p∈zax i rs,p.2.ok h
 | [],_,_,p,hp=>by rw [zax] at hp;cases hp
 | r :: rs,i,ok,p,hp=>by
  rw [zbs] at ok
  rw [zax] at hp
  rcases List.mem_cons.mp hp with rfl | hp
  ·exact ok.1
  ·rcases List.mem_append.mp hp with hp | hp
   ·exact zpB r i ok.1 p hp
   ·exact zi7 rs (i+1) ok.2 p hp
end
def Shp.more (h:Shp) (l:List Str):Shp:={ h with slots:=h.slots++l }
mutual
theorem zlS {h:Shp} {l:List Str}:∀ r:Row,r.ok h->r.ok (h.more l)
 | .ite _ _ y n,ok=>by
  rw [Row.ok] at ok ⊢
  exact ⟨List.mem_append_left _ ok.1,ok.2.1,zgY y ok.2.2.1,zgY n ok.2.2.2⟩
 | .read _ _,ok=>by rw [Row.ok] at ok ⊢; exact ⟨ok.1,List.mem_append_left _ ok.2⟩
 | .peek _ _,ok=>by rw [Row.ok] at ok ⊢; exact ⟨ok.1,ok.2.1,List.mem_append_left _ ok.2.2⟩
 | .put _ _,ok=>by rw [Row.ok] at ok ⊢; exact ⟨List.mem_append_left _ ok.1,ok.2⟩
 | .give _,ok=>by rw [Row.ok] at ok ⊢; exact ⟨ok.1,List.mem_append_left _ ok.2⟩
 | .say _,ok=>by rw [Row.ok] at ok ⊢; exact ⟨ok.1,List.mem_append_left _ ok.2⟩
 | .write _ _,ok=>by rw [Row.ok] at ok ⊢; exact ⟨ok.1,ok.2.1,List.mem_append_left _ ok.2.2⟩
theorem zgY {h:Shp} {l:List Str}:∀ rs:List Row,zbs h rs->zbs (h.more l) rs
 | [],_=>by rw [zbs];trivial
 | r :: rs,ok=>by rw [zbs] at ok ⊢; exact ⟨zlS r ok.1,zgY rs ok.2⟩
end
mutual
theorem zlQ {h:Shp} (hd:h.der=false):∀ (r:Row) (ch:List Nat->Bool) (i:Nat),r.ok h->(r.pk ch i).ok h
 | .ite _ _ y n,ch,i,ok=>by
  rw [Row.ok] at ok
  rw [Row.pk,Row.ok]
  exact ⟨ok.1,ok.2.1,zoh hd y _ 0 ok.2.2.1,zoh hd n _ 0 ok.2.2.2⟩
 | .read _ _,ch,i,ok=>by
  rw [Row.pk]
  split
  ·rw [Row.ok] at ok
   rw [Row.ok]
   exact ⟨hd,ok⟩
  ·exact ok
 | .peek _ _,ch,i,ok=>by rw [Row.pk];exact ok
 | .put _ _,ch,i,ok=>by rw [Row.pk];exact ok
 | .give _,ch,i,ok=>by rw [Row.pk];exact ok
 | .say _,ch,i,ok=>by rw [Row.pk];exact ok
 | .write _ _,ch,i,ok=>by rw [Row.pk];exact ok
theorem zoh {h:Shp} (hd:h.der=false):∀ (rs:List Row) (ch:List Nat->Bool) (i:Nat),zbs h rs->zbs h (zdP ch i rs)
 | [],_,_,_=>by rw [zdP,zbs];trivial
 | r :: rs,ch,i,ok=>by
  rw [zbs] at ok
  rw [zdP,zbs]
  exact ⟨zlQ hd r ch i ok.1,zoh hd rs ch (i+1) ok.2⟩
end
mutual
theorem zlR:∀ (r:Row) (ch:List Nat->Bool) (i:Nat),(∀ q,ch q=false)->r.pk ch i=r
 | .ite _ _ y n,ch,i,h=>by rw [Row.pk,zoi y _ 0 fun q=>h _,zoi n _ 0 fun q=>h _]
 | .read _ _,ch,i,h=>by rw [Row.pk,h];rfl
 | .peek _ _,_,_,_=>by rw [Row.pk]
 | .put _ _,_,_,_=>by rw [Row.pk]
 | .give _,_,_,_=>by rw [Row.pk]
 | .say _,_,_,_=>by rw [Row.pk]
 | .write _ _,_,_,_=>by rw [Row.pk]
theorem zoi:∀ (rs:List Row) (ch:List Nat->Bool) (i:Nat),(∀ q,ch q=false)->zdP ch i rs=rs
 | [],_,_,_=>by rw [zdP]
 | r :: rs,ch,i,h=>by rw [zdP,zlR r ch i h,zoi rs ch (i+1) h]
end
mutual
theorem zlP:∀ (r:Row) (ch:List Nat->Bool) (i:Nat),(r.pk ch i).ex=r.ex∧(r.pk ch i).dep=r.dep
 | .ite _ _ y n,ch,i=>by
  have h1:=zog y (fun q=>ch (i :: 0 :: q)) 0
  have h2:=zog n (fun q=>ch (i :: 1 :: q)) 0
  rw [Row.pk,Row.ex,Row.dep,Row.ex,Row.dep,h1.1,h1.2,h2.1,h2.2]
  exact ⟨rfl,rfl⟩
 | .read _ _,ch,i=>by
  rw [Row.pk]
  split
  ·exact ⟨by rw [Row.ex,Row.ex],by rw [Row.dep,Row.dep]⟩
  ·exact ⟨rfl,rfl⟩
 | .peek _ _,_,_=>by rw [Row.pk];exact ⟨rfl,rfl⟩
 | .put _ _,_,_=>by rw [Row.pk];exact ⟨rfl,rfl⟩
 | .give _,_,_=>by rw [Row.pk];exact ⟨rfl,rfl⟩
 | .say _,_,_=>by rw [Row.pk];exact ⟨rfl,rfl⟩
 | .write _ _,_,_=>by rw [Row.pk];exact ⟨rfl,rfl⟩
theorem zog:∀ (rs:List Row) (ch:List Nat->Bool) (i:Nat),zau (zdP ch i rs)=zau rs∧zaE (zdP ch i rs)=zaE rs
 | [],_,_=>by rw [zdP];exact ⟨rfl,rfl⟩
 | r :: rs,ch,i=>by
  have h1:=zlP r ch i
  have h2:=zog rs ch (i+1)
  rw [zdP,zau,zaE,zau,zaE,h1.1,h1.2,h2.1,h2.2]
  exact ⟨rfl,rfl⟩
end
section
variable {x:Parts} {slots:List Str} {pk wr:Bool}
end
def ziW (q:Pz×Row):List Ch:=match q.2 with
 | .read c s=>(if q.1.1 = "effects" then [⟨false,q.1,c,s⟩] else [])++[⟨true,q.1,c,s⟩]
 | _=>[]
def Parts.changes (x:Parts):List Ch:=x.pths.flatMap ziW
theorem zlj (q:Pz×Row):(ziW q).length≤2:=by
 unfold ziW
 split
 ·split <;> simp
 ·simp
theorem zje {α β:Type} {f:α->List β} {k:Nat} (h:∀ a,(f a).length≤k):∀ xs:List α,(xs.flatMap f).length≤k * xs.length
 | []=>by simp
 | x :: xs=>by
  have h1:=h x
  have h2:=zje h xs
  rw [List.flatMap_cons,List.length_append,List.length_cons,Nat.mul_succ]
  omega
theorem zko {α β:Type} {f:α->List β} {xs:List α} {i:Nat} {a:α} (h:xs[i]? = some a):(xs.take (i+1)).flatMap f=(xs.take i).flatMap f++f a:=by
 rw [List.take_succ,h]
 simp
theorem zhf {x:Parts}:∀ h∈x.changes,zpn x h:=by
 intro h hm
 obtain ⟨⟨z,r⟩,hq,hm⟩:=List.mem_flatMap.mp hm
 unfold ziW at hm
 cases r with
 | read c s=>
  dsimp only at hm
  rcases List.mem_append.mp hm with hm | hm
  ·split at hm
   ·rename_i e
    rw [List.mem_singleton.mp hm]
    exact ⟨hq,fun _=>e⟩
   ·cases hm
  ·rw [List.mem_singleton.mp hm]
   exact ⟨hq,fun h=>by cases h⟩
 | _=>cases hm
theorem zg5 {α β γ:Type} {f:α->β} {l:List α} {g:β->γ} (hg:∀ a b,g a=g b->a=b) (h:(l.map f).Nodup):(l.map fun a=>g (f a)).Nodup:=by
 have e:(l.map fun a=>g (f a))=(l.map f).map g:=by rw [List.map_map];rfl
 rw [e]
 exact List.Pairwise.map (R:=(·≠·)) g (fun a b h e=>h (hg a b e)) h
mutual
theorem zpC:∀ (r:Row) (i:Nat),((r.subs i).map (·.1)).Nodup∧∀ q∈(r.subs i).map (·.1),∃ c q',q=i :: c :: q'
 | .ite _ _ y n,i=>by
  have h1:=(zhW y 0).1
  have h2:=(zhW n 0).1
  rw [Row.subs,List.map_append,List.map_map,List.map_map]
  refine ⟨List.nodup_append.mpr ⟨zg5 (g:=fun q:List Nat=>i :: 0 :: q) (by intro a b h;simpa using h) h1,zg5 (g:=fun q:List Nat=>i :: 1 :: q) (by intro a b h;simpa using h) h2,?_⟩,?_⟩
  ·intro a ha b hb e
   obtain ⟨q,_,rfl⟩:=List.mem_map.mp ha
   obtain ⟨q',_,rfl⟩:=List.mem_map.mp hb
   simp at e
  ·intro q hq
   rcases List.mem_append.mp hq with hq | hq
   ·obtain ⟨q',_,rfl⟩:=List.mem_map.mp hq
    exact ⟨_,_,rfl⟩
   ·obtain ⟨q',_,rfl⟩:=List.mem_map.mp hq
    exact ⟨_,_,rfl⟩
 | .read _ _,i=>by rw [Row.subs];simp
 | .peek _ _,i=>by rw [Row.subs];simp
 | .put _ _,i=>by rw [Row.subs];simp
 | .give _,i=>by rw [Row.subs];simp
 | .say _,i=>by rw [Row.subs];simp
 | .write _ _,i=>by rw [Row.subs];simp
theorem zhW:∀ (rs:List Row) (i:Nat),((zax i rs).map (·.1)).Nodup∧∀ q∈(zax i rs).map (·.1),∃ c q',q=c :: q'∧i≤c
 | [],i=>by rw [zax];simp
 | r :: rs,i=>by
  obtain ⟨a1,a2⟩:=zpC r i
  obtain ⟨b1,b2⟩:=zhW rs (i+1)
  rw [zax,List.map_cons,List.map_append]
  refine ⟨List.nodup_cons.mpr ⟨fun hm=>?_,List.nodup_append.mpr ⟨a1,b1,fun a ha b hb e=>?_⟩⟩,fun q hq=>?_⟩
  ·rcases List.mem_append.mp hm with hm | hm
   ·obtain ⟨c,q',e⟩:=a2 _ hm
    simp at e
   ·obtain ⟨c,q',e,hc⟩:=b2 _ hm
    simp at e
    omega
  ·obtain ⟨c,q',e1⟩:=a2 _ ha
   obtain ⟨c',q'',e2,hc⟩:=b2 _ hb
   rw [e1,e2] at e
   simp at e
   omega
  ·rcases List.mem_cons.mp hq with rfl | hq
   ·exact ⟨i,[],rfl,Nat.le_refl _⟩
   ·rcases List.mem_append.mp hq with hq | hq
    ·obtain ⟨c,q',rfl⟩:=a2 _ hq
     exact ⟨_,_,rfl,Nat.le_refl _⟩
    ·obtain ⟨c,q',rfl,hc⟩:=b2 _ hq
     exact ⟨_,_,rfl,by omega⟩
end
theorem zib:∀ (ps:List (Str×List Row)) (i:Nat),((zbS i ps).map (·.1)).Nodup∧∀ q∈(zbS i ps).map (·.1),∃ c q',q=c :: q'∧i≤c
 | [],i=>by rw [zbS];simp
 | p :: ps,i=>by
  have h1:=(zhW p.2 0).1
  obtain ⟨b1,b2⟩:=zib ps (i+1)
  rw [zbS,List.map_append,List.map_map]
  refine ⟨List.nodup_append.mpr ⟨zg5 (g:=fun q:List Nat=>i :: q) (by intro a b h;simpa using h) h1,b1,fun a ha b hb e=>?_⟩,fun q hq=>?_⟩
  ·obtain ⟨q,_,rfl⟩:=List.mem_map.mp ha
   obtain ⟨c',q'',e2,hc⟩:=b2 _ hb
   rw [e2] at e
   simp at e
   omega
  ·rcases List.mem_append.mp hq with hq | hq
   ·obtain ⟨q',_,rfl⟩:=List.mem_map.mp hq
    exact ⟨_,_,rfl,Nat.le_refl _⟩
   ·obtain ⟨c,q',rfl,hc⟩:=b2 _ hq
    exact ⟨_,_,rfl,by omega⟩
theorem zpe (x:Parts):(x.pths.map (·.1)).Nodup:=by
 unfold Parts.pths
 rw [List.map_append,List.map_map,List.map_map]
 refine List.nodup_append.mpr ⟨zg5 (g:=fun q:List Nat=>(("derived", q):Pz)) (by intro a b h;exact (Prod.mk.inj h).2) (zib x.derived 0).1,zg5 (g:=fun q:List Nat=>(("effects", q):Pz)) (by intro a b h;exact (Prod.mk.inj h).2) (zib x.effects 0).1,fun a ha b hb e=>?_⟩
 obtain ⟨q,_,rfl⟩:=List.mem_map.mp ha
 obtain ⟨q',_,rfl⟩:=List.mem_map.mp hb
 have:=(Prod.mk.inj e).1
 exact absurd (show ("derived" : Str) = "effects" from this) (by decide +kernel)
theorem zkc (x:Parts):(x.changes.map Ch.key).Nodup:=by
 have h:=zpe x
 unfold Parts.changes
 generalize x.pths=l at h
 induction l with
 | nil=>simp
 | cons q l ih=>
  rw [List.map_cons,List.nodup_cons] at h
  rw [List.flatMap_cons,List.map_append]
  refine List.nodup_append.mpr ⟨?_,ih h.2,fun a ha b hb e=>?_⟩
  ·unfold ziW
   split
   ·split
    ·simp only [List.cons_append,List.nil_append,List.map_cons,List.map_nil,Ch.key,zhI,List.nodup_cons,List.mem_singleton,List.nodup_nil,and_true,List.not_mem_nil,not_false_eq_true]
     intro e
     exact absurd (Prod.mk.inj e).1 (by decide +kernel)
    ·simp
   ·simp
  ·obtain ⟨g,hg,rfl⟩:=List.mem_map.mp ha
   obtain ⟨g',hg',rfl⟩:=List.mem_map.mp hb
   obtain ⟨q',hq',hg'⟩:=List.mem_flatMap.mp hg'
   have z1:∀ q:Pz×Row,∀ g∈ziW q,g.z=q.1:=by
    intro q g hg
    unfold ziW at hg
    split at hg
    ·split at hg
     ·rcases List.mem_append.mp hg with hg | hg <;> rw [List.mem_singleton.mp hg]
     ·rcases List.mem_append.mp hg with hg | hg
      ·cases hg
      ·rw [List.mem_singleton.mp hg]
    ·cases hg
   have e2:=(Prod.mk.inj e).2
   rw [z1 q g hg,z1 q' g' hg'] at e2
   exact h.1 (List.mem_map.mpr ⟨q',hq',e2.symm⟩)
theorem ziR {α β:Type} {f:α->β}:∀ (xs:List α) (k:Nat),(xs.map f).eraseIdx k=(xs.eraseIdx k).map f
 | [],k=>by simp
 | x :: xs,0=>by simp
 | x :: xs,k+1=>by
  rw [List.map_cons,List.eraseIdx_cons_succ,List.eraseIdx_cons_succ,List.map_cons,ziR xs k]
theorem erase_perm {α:Type}:∀ {xs:List α} {k:Nat} (h:k < xs.length),(xs[k] :: xs.eraseIdx k).Perm xs
 | [],k,h=>by cases h
 | x :: xs,0,h=>by simp
 | x :: xs,k+1,h=>by
  rw [List.eraseIdx_cons_succ,List.getElem_cons_succ]
  have:=erase_perm (xs:=xs) (k:=k) (by simpa using h)
  exact (List.Perm.swap _ _ _).trans (this.cons x)
section
variable {K:PySem.W.Frag} {S:Sto} {o:Addr} {x:Parts} {slots:List Str} {pk wr:Bool} {Q:DQ} {E:XQ}
theorem zcE (P:za5 x slots pk wr)
  (hQ:∀ p S',S p=none->S' p=some (.lst (x.changes.map chD))->Kp S S'->Q (.ref p) S'):zbI K [x.d] S Q E:=by
 have hle:=zi8 P
 refine zaH rfl ?_
 unfold zd1
 ext
 with_reducible refine zdX (szl (by simp)) fun p h0=>?_
 ext
 refine zgH P fun b S1 hb eb k1=>?_
 have ep1:=k1 _ _ zai
 have pb:b≠p:=fun z=>by subst z;rw [zai] at hb;cases hb
 ext
 refine za2 (fun i env S'=>∃ x2:Option D,env=[some x.d,some (.ref p),x2]∧S' p=some (.lst (((x.pths.take i).flatMap ziW).map chD))∧S' b=some (.lst (x.pths.map fun q=>.tup [zbU q.1,q.2.d]))∧Kp S S') _ 0 ⟨_,rfl,ep1,eb,(Kp.refl.new h0).trans k1⟩ ?_ ?_
 ·rintro i y _ S2 hy ⟨x2,rfl,ep,eb,k2⟩ nx hnx
  rw [Nat.zero_add] at ep hnx
  rw [List.getElem?_map] at hy
  cases eq':x.pths[i]? with
  | none=>rw [eq'] at hy;cases hy
  | some q=>
  rw [eq'] at hy
  cases hy
  obtain ⟨z,r⟩:=q
  have et:=zko (f:=ziW) eq'
  have hfl:=zje (f:=ziW) zlj (x.pths.take i)
  have hfl2:((x.pths.take i).flatMap ziW).length≤320:=by
   have:(x.pths.take i).length≤160:=by rw [List.length_take];omega
   omega
  have hl:(((x.pths.take i).flatMap ziW).map chD).length < sizeLine:=by
   rw [List.length_map]
   exact zhy (by omega)
  obtain ⟨d,j,m,n,pp,rr,q,ez,hj,hr,hl',hn,hn3⟩:=zdj P (List.mem_of_getElem? eq')
  obtain ⟨L,e,a0,a1,a2,aq,hLl,hcut⟩:=zfQ (kindS d) j m q
  have epz:zbU z = .tup L:=by rw [ez,e]
  refine ⟨eb,?_⟩
  refine zgJ ?_
  dsimp only
  cases r with
  | read c s=>
   rw [Row.d]
   rw [epz]
   walk_at "dmn"
   with_reducible refine zfh ?_
   walk_at "dmn"
   with_reducible refine zeq (fun he=>?_) (fun he=>?_)
   ·walk_at "dmn"
    with_reducible refine zaL (szl (by simp)) ?_
    walk_at "dmn"
    with_reducible refine s_app ep hl ?_
    walk_at "dmn"
    with_reducible refine zaL (szl (by simp)) ?_
    walk_at "dmn"
    with_reducible refine s_app zai (by
     rw [List.length_append,List.length_map,List.length_singleton]
     exact zhy (by omega)) ?_
    walk_at "dmn"
    refine hnx _ _ ⟨_,rfl,?_,?_,(k2.wr h0).wr h0⟩
    ·rw [zai,et]
     have:z.1 = "effects" := by rw [ez];exact he
     simp [ziW,this,chD,zhE,Ch.key,zhI,epz]
    ·rw [zaP pb,zaP pb]
     exact eb
   ·walk_at "dmn"
    with_reducible refine zaL (szl (by simp)) ?_
    walk_at "dmn"
    with_reducible refine s_app ep hl ?_
    walk_at "dmn"
    refine hnx _ _ ⟨_,rfl,?_,?_,k2.wr h0⟩
    ·rw [zai,et]
     have:¬ z.1 = "effects" := by rw [ez];exact he
     simp [ziW,this,chD,zhE,Ch.key,zhI,epz]
    ·rw [zaP pb]
     exact eb
  | _=>
   rw [Row.d]
   walk_at "dmn"
   refine hnx _ _ ⟨_,rfl,?_,eb,k2⟩
   rw [ep,et]
   simp [ziW]
 ·rintro _ S2 ⟨x2,rfl,ep,eb,k2⟩
  rw [Nat.zero_add,List.length_map,List.take_length] at ep
  refine ⟨eb,?_⟩
  ext
  exact hQ _ _ h0 ep k2
theorem zlh {ns:List Int} {a l ra:Addr} {all:List Ch} {many:Nat} (h:StA ns a l S) (er:S ra=some (.lst (all.map chD))) (ra_:ra≠a) (hm:many≤20) (hl:all.length≤400)
  (hQ:∀ p S' (chs:List Ch),S p=none->p≠a->S' p=some (.lst (chs.map chD))->chs.length≤many->(∀ h∈chs,h∈all)->((all.map Ch.key).Nodup->(chs.map Ch.key).Nodup)->StA ns a l S'->Fr a S S'->Q (.ref p) S'):zdW K [.ref a,.ref ra,.int (many:Nat)] S Q E:=by
 refine zaH rfl ?_
 unfold zeA
 ext
 refine zhQ er fun q hq=>?_
 obtain ⟨h1,f1,qa,qS,kq,eq1⟩:=zc3 (o:=.lst (all.map chD)) h Fr.refl hq
 ext
 with_reducible refine zdX (szl (by simp)) fun p hp=>?_
 obtain ⟨h2,f2,pa,pS,kp2,ep2⟩:=zc3 (o:=.lst []) h1 f1 hp
 have eq2:=kp2 _ _ eq1
 have pq:q≠p:=fun z=>by subst z;rw [eq1] at hp;cases hp
 have ql:=(h.fresh hq).2
 have pl:=(h1.fresh hp).2
 ext
 with_reducible refine zho (by omega) (by omega) ?_
 ext
 refine za2 (fun i env S'=>∃ (x5:Option D) (chs rest:List Ch),env=[some (.ref a),some (.ref ra),some (.int (many:Nat)),some (.ref q),some (.ref p),x5]∧S' p=some (.lst (chs.map chD))∧S' q=some (.lst (rest.map chD))∧chs.length≤i∧(chs++rest).Perm all∧StA ns a l S'∧Fr a S S') _ 0 ⟨_,[],all,rfl,ep2,eq2,Nat.le_refl _,List.Perm.refl _,h2,f2⟩ ?_ ?_
 ·rintro i y _ S2 hy ⟨x5,chs,rest,rfl,ep,eq2,hc,hperm,h2,f2⟩ nx hnx
  obtain ⟨rfl,hi⟩:=zfP hy
  rw [Nat.zero_add] at hc hnx
  have hlen:=hperm.length_eq
  rw [List.length_append] at hlen
  refine ⟨trivial,?_⟩
  ext
  with_reducible refine zeq (fun hpos=>?_) (fun hneg=>?_)
  ·ext
   have hpos':0 < rest.length:=by simpa using hpos
   refine zaG h2 (by omega) (zbw (by omega) (by simp;omega)) fun r S3 r0 r1 h3 f3=>?_
   have ep3:=f3 _ _ pa ep
   have eq3:=f3 _ _ qa eq2
   obtain ⟨k,rfl⟩:=Int.eq_ofNat_of_zero_le r0
   have hk:k < rest.length:=by simp at r1;omega
   have hg:(rest.map chD)[k]? = some (chD rest[k]):=by rw [List.getElem?_map,List.getElem?_eq_getElem hk];rfl
   ext
   refine zpP eq3 (by simp;omega) hg ?_
   obtain ⟨h4,f4,k4,e4⟩:=zhL (o:=.lst (rest.map chD)) (o':=.lst ((rest.map chD).eraseIdx k)) h3 (f2.trans f3) qa ql qS
   have h4':StA ns a l (DL.put S3 q (.lst ((rest.map chD).eraseIdx k))):=h3.wr qa ql
   have f4':Fr a S (DL.put S3 q (.lst ((rest.map chD).eraseIdx k))):=(f2.trans f3).wr qS
   have ep4:DL.put S3 q (.lst ((rest.map chD).eraseIdx k)) p=some (.lst (chs.map chD)):=by rw [zaP (Ne.symm pq)];exact ep3
   ext
   with_reducible refine s_app ep4 (by rw [List.length_map];exact zhy (by omega)) ?_
   ext
   refine hnx _ _ ⟨_,chs++[rest[k]],rest.eraseIdx k,rfl,by rw [zai];simp,?_,by simp;omega,?_,h4'.wr pa pl,f4'.wr pS⟩
   ·rw [zaP pq,zai]
    congr 2
    exact ziR rest k
   ·refine List.Perm.trans ?_ hperm
    rw [List.append_assoc]
    refine List.Perm.append_left _ ?_
    show (rest[k] :: rest.eraseIdx k).Perm rest
    exact erase_perm hk
  ·ext
   exact hnx _ _ ⟨_,chs,rest,rfl,ep,eq2,by omega,hperm,h2,f2⟩
 ·rintro _ S2 ⟨x5,chs,rest,rfl,ep,eq2,hc,hperm,h2,f2⟩
  rw [Nat.zero_add,zer] at hc
  refine ⟨trivial,?_⟩
  ext
  refine hQ _ _ chs pS pa ep (by simpa using hc) (fun g hg=>hperm.mem_iff.mp (List.mem_append_left _ hg)) (fun nd=>?_) h2 f2
  have:=(hperm.map Ch.key).nodup_iff.mpr nd
  rw [List.map_append] at this
  exact (List.nodup_append.mp this).1
end
def zik (S:Sto) (d:D) (xs:List D):Prop:=d = .tup xs ∨ ∃ a,d = .ref a∧S a=some (.lst xs)
theorem zik.kp {S S':Sto} {d:D} {xs:List D} (h:zik S d xs) (k:Kp S S'):zik S' d xs:=by
 rcases h with h | ⟨a,h,e⟩
 ·exact .inl h
 ·exact .inr ⟨a,h,k _ _ e⟩
section
variable {S:Sto} {d:D} {xs:List D} {Q:DQ} {R:List D->(Sto->Prop)->Sto->Prop}
theorem zik.lst {a:Addr} (h:zik S (.ref a) xs):S a=some (.lst xs):=by
 rcases h with h | ⟨b,h,e⟩
 ·cases h
 ·cases h
  exact e
theorem zqE (h:zik S d xs) (hR:∀ G:Sto->Prop,(∀ S',zik S' d xs->G S')->R (zhs 0 xs) G S):kEn R [d] S:=by
 rcases h with rfl | ⟨a,rfl,e⟩
 ·exact zmK (hR _ fun _ _=>trivial)
 ·exact zmL e (hR _ fun S' k=>k.lst)
theorem zpJ {l h':Option Int} (h:zik S d xs) (q:∀ d' S',zik S' d' (cutD xs l h')->Kp S S'->Q d' S'):vSl d l h' S Q:=by
 rcases h with rfl | ⟨a,rfl,e⟩
 ·exact zpI (q _ _ (.inl rfl) Kp.refl)
 ·exact zgI e fun p hp=>q _ _ (.inr ⟨p,rfl,zai⟩) (Kp.refl.new hp)
theorem zf8 {α:Type} [DecidableEq α] {k:Nat} {f:α->D} {g:α->PyData} (E:Enc k f g) (hk:k≤39) {u:Bool->Bool} {z:α} {zs:List α} (h:zik S d (zs.map f)) (q:Q (.bl (u (decide (z∈zs)))) S):zhl u (f z) d S Q:=by
 rcases h with rfl | ⟨a,rfl,e⟩
 ·exact E.inT hk q
 ·exact E.inL hk e q
end
inductive NoP (x:Parts) (S:Sto):D->Prop
 | short (xs:List D):xs.length < 3->NoP x S (.tup xs)
 | lst (a:Addr) (xs:List D):S a=some (.lst xs)->NoP x S (.ref a)
 | nums (k:Str) (is:List Int):2≤is.length->is.length≤100->(∀ z∈x.pths.map (·.1),(k,is)≠(z.1,z.2.map fun (i:Nat)=>(i:Int)))->NoP x S (.tup (.str k :: is.map D.int))
 | flag (k:Str) (is:List Int) (b:Bool):1≤is.length->NoP x S (.tup (.str k :: (is.map D.int++[.bl b])))
inductive NoC (x:Parts) (S:Sto):D->Prop
 | non:NoC x S .non
 | short (xs:List D):xs.length≠2->NoC x S (.tup xs)
 | str (z:Str):NoC x S (.str z)
 | lst (a:Addr) (xs:List D):S a=some (.lst xs)->NoC x S (.ref a)
 | path (w:Str) (d:D):NoP x S d->NoC x S (.tup [.str w,d])
 | word (w:Str) (z:Pz) (t:Row):(z,t)∈x.pths->w ≠ "early" -> w ≠ "peek" -> NoC x S (.tup [.str w,zbU z])
theorem NoP.kp {x:Parts} {S S':Sto} {d:D} (h:NoP x S d) (k:Kp S S'):NoP x S' d:=by
 cases h with
 | short xs h=>exact .short xs h
 | lst a xs h=>exact .lst a xs (k _ _ h)
 | nums k is h1 h2 h3=>exact .nums k is h1 h2 h3
 | flag k is b h=>exact .flag k is b h
theorem NoC.kp {x:Parts} {S S':Sto} {d:D} (h:NoC x S d) (k:Kp S S'):NoC x S' d:=by
 cases h with
 | non=>exact .non
 | short xs h=>exact .short xs h
 | str z=>exact .str z
 | lst a xs h=>exact .lst a xs (k _ _ h)
 | path w d h=>exact .path w d (h.kp k)
 | word w z t h1 h2 h3=>exact .word w z t h1 h2 h3
def zlY (z:Str×List Int):D:=.tup (.str z.1 :: z.2.map D.int)
theorem zrh:Enc 1 zlY (fun z=>.tuple (.str z.1 :: z.2.map PyData.int)):=Enc.cons zeZ zld false
theorem zlX (z:Pz):zbU z=zlY (z.1,z.2.map fun (i:Nat)=>(i:Int)):=by
 unfold zbU zlY
 rw [List.map_map]
 rfl
structure FEx (K:PySem.W.Frag):Prop where
 pp:PySem.W.exmOne K (.ref (He.ga K "InvalidPath")) (.ref (He.ga K "InvalidPath"))=some true
 cc:PySem.W.exmOne K (.ref (He.ga K "InvalidChange")) (.ref (He.ga K "InvalidChange"))=some true
 kk:PySem.W.exmOne K (.ref (He.ga K "InvalidKind")) (.ref (He.ga K "InvalidKind"))=some true
 ck:PySem.W.exmOne K (.ref (He.ga K "InvalidChange")) (.ref (He.ga K "InvalidKind"))=some false
section
variable {K:PySem.W.Frag} {S:Sto} {o:Addr} {x:Parts} {slots:List Str} {pk wr:Bool} {Q:DQ} {E:XQ}
theorem zhG {i:Int} (hQ:Q (.bl true) S):zcf K [.int i] S Q E:=by
 refine zaH rfl ?_
 unfold zcM
 ext
 exact hQ
theorem zla {b:Bool} (hQ:Q (.bl false) S):zcf K [.bl b] S Q E:=by
 refine zaH rfl ?_
 unfold zcM
 ext
 exact hQ
theorem zjd (G:FPr K) (P:za5 x slots pk wr) (eo:S o=some (zd5 K x)) {d:D} (hd:NoP x S d) (hQ:∀ S',Kp S S'->Q (.bl false) S'):zbn K [.ref o,d] S Q E:=by
 refine zaH rfl ?_
 unfold zbF
 cases hd with
 | short xs h=>
  ext
  exact hQ _ Kp.refl
 | lst a xs h=>
  ext
  exact hQ _ Kp.refl
 | nums k is h1 h2 h3=>
  have a0:L2.atI (D.str k :: is.map D.int) 0=some (.str k):=atI_nat (p:=0) rfl
  have hl:(D.str k :: is.map D.int).length=is.length+1:=by simp
  have hc:=zih (D.str k) (is.map D.int)
  generalize eL:D.str k :: is.map D.int=L at a0 hl hc
  ext
  rw [hc]
  refine za2 (fun i env S'=>∃ x2:Option D,env=[some (.ref o),some (.tup L),x2]∧S'=S) _ 0 ⟨_,rfl,rfl⟩ ?_ ?_
  ·rintro i y _ _ hy ⟨x2,rfl,rfl⟩ nx hnx
   refine ⟨trivial,?_⟩
   obtain ⟨j,_,rfl⟩:=List.mem_map.mp (List.mem_of_getElem? hy)
   ext
   refine zhG ?_
   ext
   exact hnx _ _ ⟨_,rfl,rfl⟩
  ·rintro _ _ ⟨x2,rfl,rfl⟩
   refine ⟨trivial,?_⟩
   unfold zd5 at eo
   ext
   refine zgl G P eo fun b S1 hb eb k1=>?_
   ext
   have eb':S1 b=some (.lst ((x.pths.map fun q=>(q.1.1,q.1.2.map fun (i:Nat)=>(i:Int))).map zlY)):=by
    rw [eb,List.map_map]
    congr 2
    exact List.map_congr_left fun q _=>zlX q.1
   have hin:¬ ((k,is):Str×List Int)∈x.pths.map fun q=>(q.1.1,q.1.2.map fun (i:Nat)=>(i:Int)):=fun hm=>by
    obtain ⟨q,hq,e⟩:=List.mem_map.mp hm
    exact h3 q.1 (List.mem_map.mpr ⟨q,hq,rfl⟩) e.symm
   rw [← eL]
   refine zrh.inL (z:=(k,is)) (by decide) eb' ?_
   simp only [hin,decide_false]
   ext
   exact hQ _ k1
 | flag k is b h1=>
  have a0:L2.atI (D.str k :: (is.map D.int++[.bl b])) 0=some (.str k):=atI_nat (p:=0) rfl
  have hl:(D.str k :: (is.map D.int++[.bl b])).length=is.length+2:=by simp
  have hc:=zih (D.str k) (is.map D.int++[.bl b])
  generalize eL:D.str k :: (is.map D.int++[.bl b])=L at a0 hl hc
  ext
  rw [hc]
  refine za2 (fun i env S'=>∃ x2:Option D,env=[some (.ref o),some (.tup L),x2]∧S'=S∧i≤is.length) _ 0 ⟨_,rfl,rfl,Nat.zero_le _⟩ ?_ ?_
  ·rintro i y _ S1 hy ⟨x2,rfl,rfl,hi⟩ nx hnx
   rw [Nat.zero_add] at hi hnx
   refine ⟨trivial,?_⟩
   by_cases hlt:i < is.length
   ·rw [List.getElem?_append_left (by simpa using hlt),List.getElem?_map,List.getElem?_eq_getElem hlt] at hy
    cases hy
    ext
    refine zhG ?_
    ext
    exact hnx _ _ ⟨_,rfl,rfl,by omega⟩
   ·have e:i=is.length:=by omega
    subst e
    rw [List.getElem?_append_right (by simp)] at hy
    simp at hy
    subst hy
    ext
    refine zla ?_
    ext
    exact hQ _ Kp.refl
  ·rintro _ _ ⟨x2,rfl,_,hi⟩
   rw [Nat.zero_add] at hi
   simp at hi
   omega
theorem zkH (G:FPr K) (P:za5 x slots pk wr) (eo:S o=some (zd5 K x)) {d:D} (hd:NoP x S d) (hE:∀ S',Kp S S'->E (.ref (He.ga K "InvalidPath")) [("path", d)] S'):zbR K [.ref o,d] S Q E:=by
 have eo':=eo
 unfold zd5 at eo'
 refine zaH rfl ?_
 unfold zb2
 ext
 refine zjd G P eo hd fun S1 k1=>?_
 ext
 refine zns ?_
 ext
 refine ztz ?_
 exact hE _ k1
theorem ziO (X:FEx K) (G:FPr K) (P:za5 x slots pk wr) (eo:S o=some (zd5 K x)) {d:D} (hd:NoC x S d) (hQ:∀ S',Kp S S'->Q (.bl false) S'):zdH K [.ref o,d] S Q E:=by
 have eo':=eo
 unfold zd5 at eo'
 refine zaH rfl ?_
 unfold zey
 cases hd with
 | non=>
  ext
  exact hQ _ Kp.refl
 | short xs h=>
  ext
  exact hQ _ Kp.refl
 | str z=>
  ext
  exact hQ _ Kp.refl
 | lst a xs h=>
  ext
  exact hQ _ Kp.refl
 | path w d h=>
  ext
  refine zkH G P eo h fun S1 k1=>⟨true,X.pp,fun _ a ha=>?_,fun z=>by cases z⟩
  ext
  exact hQ _ k1
 | word w z t hz n1 n2=>
  ext
  refine zit G P eo hz fun S1 k1=>?_
  cases t with
  | read c s=>
   rw [Row.d]
   ext
   exact hQ _ k1
  | _=>
   rw [Row.d]
   ext
   exact hQ _ k1
end
section
variable {K:PySem.W.Frag} {S:Sto} {o:Addr} {x:Parts} {slots:List Str} {pk wr:Bool} {Q:DQ} {E:XQ}
def Bad (x:Parts) (S:Sto) (chs:List Ch) (d:D):Prop:=NoC x S d ∨ ∃ h,zpn x h∧d=chD h∧h.key∈chs.map Ch.key
end
inductive Tr:Nat->D->Prop
 | non (n:Nat):Tr n .non
 | bl (n:Nat) (b:Bool):Tr n (.bl b)
 | int (n:Nat) (i:Int):Tr n (.int i)
 | str (n:Nat) (z:Str):Tr n (.str z)
 | tp (n:Nat) (fl:Bool) (xs:List D):(∀ x∈xs,Tr n x)->Tr (n+1) (.tp fl xs)
theorem zk2 {S:Sto} {m:Nat}:∀ {xs:List D},(∀ x∈xs,∃ p,rs S m x=some p∧PyData.eqv p p=true)->∃ ps,xs.mapM (rs S m)=some ps∧PyData.eqvAll ps ps=true
 | [],_=>⟨[],rfl,rfl⟩
 | x :: xs,h=>by
  obtain ⟨p,h1,h2⟩:=h x List.mem_cons_self
  obtain ⟨ps,h3,h4⟩:=zk2 fun y hy=>h y (List.mem_cons_of_mem _ hy)
  refine ⟨p :: ps,?_,?_⟩
  ·rw [List.mapM_cons,h1,h3]
   rfl
  ·rw [PyData.eqvAll,h2,h4]
   rfl
theorem Tr.rs {S:Sto} {n:Nat} {d:D} (h:Tr n d):∀ {m:Nat},n≤m->∃ p,rs S m d=some p∧PyData.eqv p p=true:=by
 induction h with
 | non n=>intro m _;exact ⟨.none,by cases m <;> rfl,rfl⟩
 | bl n b=>intro m _;exact ⟨.bool b,by cases m <;> rfl,by cases b <;> rfl⟩
 | int n i=>intro m _;exact ⟨.int i,by cases m <;> rfl,by rw [zld.eq i i];simp⟩
 | str n z=>intro m _;exact ⟨.str z,by cases m <;> rfl,by rw [zeZ.eq z z];simp⟩
 | tp n fl xs h ih=>
  intro m hm
  cases m with
  | zero=>exact absurd hm (by omega)
  | succ m=>
   obtain ⟨ps,h1,h2⟩:=zk2 (S:=S) (m:=m) (xs:=xs) fun x hx=>ih x hx (by omega)
   refine ⟨.tuple ps,?_,?_⟩
   ·rw [DL.rs,h1]
    rfl
   ·rw [PyData.eqv]
    exact h2
theorem Tr.mono {n:Nat} {d:D} (h:Tr n d):∀ {m:Nat},n≤m->Tr m d:=by
 induction h with
 | non n=>intro m _;exact .non m
 | bl n b=>intro m _;exact .bl m b
 | int n i=>intro m _;exact .int m i
 | str n z=>intro m _;exact .str m z
 | tp n fl xs h ih=>
  intro m hm
  cases m with
  | zero=>exact absurd hm (by omega)
  | succ m=>exact .tp m fl xs fun x hx=>ih x hx (by omega)
theorem Tr.strs {n:Nat} {zs:List Str} {fl:Bool}:Tr (n+1) (.tp fl (zs.map D.str)):=.tp n fl _ fun x hx=>by
 obtain ⟨z,_,rfl⟩:=List.mem_map.mp hx
 exact .str n z
theorem tr3 {n:Nat} {a b c:Str}:Tr (n+1) (.tup [.str a,.str b,.str c]):=Tr.strs (zs:=[a,b,c])
theorem tr2 {n:Nat} {a b:Str}:Tr (n+1) (.tup [.str a,.str b]):=Tr.strs (zs:=[a,b])
mutual
theorem zrd:∀ r:Row,Tr (2 * r.dep+1) r.d
 | .ite s w y n=>by
  have h1:Tr (2 * max (zaE y) (zaE n)+2) (.tup (zaM y)):=.tp _ _ _ fun x hx=>(zi2 y x hx).mono (by omega)
  have h2:Tr (2 * max (zaE y) (zaE n)+2) (.tup (zaM n)):=.tp _ _ _ fun x hx=>(zi2 n x hx).mono (by omega)
  rw [Row.d,Row.dep,show 2 * (1+max (zaE y) (zaE n))+1=(2 * max (zaE y) (zaE n)+2)+1 by omega]
  refine .tp _ _ _ fun x hx=>?_
  simp only [List.mem_cons,List.not_mem_nil,or_false] at hx
  rcases hx with rfl | rfl | rfl | rfl | rfl
  ·exact .str _ _
  ·exact .str _ _
  ·exact .str _ _
  ·exact h1
  ·exact h2
 | .read _ _=>by rw [Row.d];exact tr3
 | .peek _ _=>by rw [Row.d];exact tr3
 | .put _ _=>by rw [Row.d];exact tr3
 | .give _=>by rw [Row.d];exact tr2
 | .say _=>by rw [Row.d];exact tr2
 | .write _ _=>by rw [Row.d];exact tr3
theorem zi2:∀ rs:List Row,∀ x∈zaM rs,Tr (2 * zaE rs+1) x
 | [],x,hx=>by rw [zaM] at hx;cases hx
 | r :: rs,x,hx=>by
  rw [zaM] at hx
  rw [zaE]
  rcases List.mem_cons.mp hx with rfl | hx
  ·exact (zrd r).mono (by omega)
  ·exact (zi2 rs x hx).mono (by omega)
end
def Flat (x:Parts):Prop:=∀ d,∀ p∈x.bodies d,zaE p.2≤3
section
variable {K:PySem.W.Frag} {S:Sto} {o o':Addr} {x:Parts} {Q:DQ} {E:XQ}
end
def Row.slot1:Row->Str
 | .ite s _ _ _=>s
 | .read _ s=>s
 | .peek _ s=>s
 | .put s _=>s
 | .give s=>s
 | .say s=>s
 | .write _ s=>s
mutual
theorem zkq:∀ (r:Row) (i:Nat),r.slot=r.slot1 :: (r.subs i).map fun q=>q.2.slot1
 | .ite s w y n,i=>by
  rw [Row.slot,Row.subs,Row.slot1,zf7 y 0,zf7 n 0,List.map_append,List.map_map,List.map_map]
  rfl
 | .read _ _,_=>by rw [Row.slot,Row.subs];rfl
 | .peek _ _,_=>by rw [Row.slot,Row.subs];rfl
 | .put _ _,_=>by rw [Row.slot,Row.subs];rfl
 | .give _,_=>by rw [Row.slot,Row.subs];rfl
 | .say _,_=>by rw [Row.slot,Row.subs];rfl
 | .write _ _,_=>by rw [Row.slot,Row.subs];rfl
theorem zf7:∀ (rs:List Row) (i:Nat),slotsOf rs=(zax i rs).map fun q=>q.2.slot1
 | [],i=>by rw [slotsOf,zax];rfl
 | r :: rs,i=>by
  rw [slotsOf,zax,zkq r i,zf7 rs (i+1),List.map_cons,List.map_append]
  rfl
end
section
variable {K:PySem.W.Frag} {S:Sto} {Q:DQ} {E:XQ}
end
def zr6 (k:Str) (i:Nat) (z:List Nat):Str×Pz:=("early", (k,i :: z))
def meet (h:Ch) (k:Str) (i:Nat) (q:List Nat×Row):Bool:=decide (h.key=zr6 k i q.1)
section
variable {K:PySem.W.Frag} {S:Sto} {x:Parts} {slots:List Str} {pk wr:Bool} {Q:DQ} {E:XQ}
end
set_option maxHeartbeats 4000000
theorem zjI {K:PySem.W.Frag} {h:Shp} {b rd:Addr} {rs:List Row} {S:Sto} {pth:List D} {Q:DQ} {E:XQ} (F:FBc K) (N:ShN h) (B:Bc K h b rd S) (ok:BodyOk h rs) (hp:pth.length≤100) (hQ:Q .non S):zbC K [.ref b,.tup (zaM rs),.tup pth] S Q E:=by
 refine zaH rfl ?_
 obtain ⟨flb,e⟩:=B.ob
 have h1:=ok.dep
 have h2:=ok.cnt
 unfold zcx
 ext
 refine zdZ F N 6 rs B ok.ok (by omega) (by omega) (by omega) ?_
 ext
 refine zii 6 rs (by omega) ?_
 ext
 exact hQ
theorem ziy {K:PySem.W.Frag} {S:Sto} {o:Addr} {x:Parts} {slots:List Str} {pk wr:Bool} {Q:DQ} {E:XQ} (F:FBc K) (G:FPr K) (P:za5 x slots pk wr) (eo:S o=some (.ins (He.ga K "Program") []))
  (hQ:∀ S',Fr o S S'->S' o=some (zd5 K x)->Q .non S'):zcu K [.ref o,.tup (x.words.map D.str),.tp x.fl (x.sources.map D.str),.tup (x.derived.map pairD),.tup (x.effects.map pairD)] S Q E:=by
 have P2:=P
 obtain ⟨ww,w2,w4,nn,s1,s4,d6,e4,sl,der,eff⟩:=P
 have nsd:Nms (x.sources++x.derived.map (·.1)):=nn.left
 have ns:Nms x.sources:=nsd.left
 refine zaH rfl ?_
 unfold zcY
 ext
 refine zgG ww (by omega) (by omega) (by omega) fun S1 k1=>?_
 ext
 refine zgG ns (by omega) (by omega) (by omega) fun S2 k2=>?_
 have k02:Kp S S2:=Kp.trans k1 k2
 clear k1 k2
 ext
 intro tk htk
 have k03:Kp S (DL.put S2 tk (.dic [])):=k02.new htk
 have tkS:S tk=none:=k02.none_ htk
 refine zr7 (fun i kvs S'=>kvs.length≤i∧(∀ z,(valD kvs (.inr z)).isSome=true->z∈x.sources.take i)∧Kp S S') _ 0 zai ⟨Nat.le_refl _,fun z h=>(by cases h),k03⟩ ?_ ?_
 ·rintro i y S3 kvs hy ep ⟨hl,hv,k3⟩ nx hnx
  rw [Nat.zero_add] at hl hv hnx
  have hi:i < x.sources.length:=by
   have:=(List.getElem?_eq_some_iff.mp hy).1
   simpa using this
  have ey:y = .str x.sources[i]:=by
   rw [List.getElem?_map,List.getElem?_eq_getElem hi] at hy
   exact (Option.some.inj hy).symm
  subst ey
  refine ⟨trivial,?_⟩
  ext
  with_reducible refine znD ?_
  ext
  with_reducible refine zqi ep rfl (zhy (by omega)) ?_
  refine hnx _ _ zai ⟨?_,fun z h=>?_,k3.wr tkS⟩
  ·have:=zcC (kvs:=kvs) (k:=(.inr x.sources[i]:Key)) (v:=.bl true)
   omega
  ·rw [zc6] at h
   rw [List.take_succ,List.getElem?_eq_getElem hi]
   by_cases q:(Sum.inr z:Key) = .inr x.sources[i]
   ·cases q
    exact List.mem_append_right _ (List.mem_cons_self ..)
   ·rw [if_neg q] at h
    exact List.mem_append_left _ (hv z h)
 rintro S3 kvs ep ⟨hl,hv,k3⟩
 rw [Nat.zero_add,List.length_map] at hl hv
 rw [List.take_length] at hv
 refine ⟨trivial,?_⟩
 ext
 refine zgF ep hv (by omega) nsd (by omega) (by omega) fun S4 k4=>?_
 have ep4:=k4 _ _ ep
 have k04:Kp S S4:=k3.trans k4
 walk_at "dmn"
 with_reducible refine zfh ?_
 walk_at "dmn"
 refine za2 (fun i env S'=>∃ (x7:Option D) (kv:List (Key×D)),env=[some (.ref o),some (.tup (x.words.map D.str)),some (.tp x.fl (x.sources.map D.str)),some (.tup (x.derived.map pairD)),some (.tup (x.effects.map pairD)),some (.ref tk),none,x7,none,none]∧S' tk=some (.dic kv)∧kv.length≤4+i∧
  (∀ z,(valD kv (.inr z)).isSome=true->z∈x.sources++(x.derived.take i).map (·.1))∧Kp S S') _ 0 ⟨_,_,rfl,ep4,by omega,fun z h=>by simpa using hv z h,k04⟩ ?_ ?_
 ·rintro i y _ S5 hy ⟨x7,kv,rfl,e5,hl5,hv5,k5⟩ nx hnx
  rw [Nat.zero_add] at hl5 hv5 hnx
  obtain ⟨p,hp,rfl⟩:=pair_at hy
  have hi:i < x.derived.length:=(List.getElem?_eq_some_iff.mp hp).1
  refine ⟨trivial,?_⟩
  ext
  refine zgk e5 rfl (zhy (by omega)) ?_
  have pl:=zcC (kvs:=kv) (k:=(.inr p.1:Key)) (v:=.bl true)
  refine hnx _ _ ⟨_,_,rfl,zai,by omega,fun z h=>?_,k5.wr tkS⟩
  rw [zc6] at h
  rw [zhx hp,← List.append_assoc]
  by_cases q:(Sum.inr z:Key) = .inr p.1
  ·cases q
   exact List.mem_append_right _ (List.mem_cons_self ..)
  ·rw [if_neg q] at h
   exact List.mem_append_left _ (hv5 z h)
 rintro _ S5 ⟨x7,kv,rfl,e5,hl5,hv5,k5⟩
 rw [Nat.zero_add,List.length_map] at hl5 hv5
 rw [List.take_length] at hv5
 refine ⟨trivial,?_⟩
 ext
 refine zgF e5 hv5 (by omega) nn (by omega) (by omega) fun S6 k6=>?_
 have k06:Kp S S6:=k5.trans k6
 clear e5 hv5 hl5 k5 k6 ep4 k04 k4 ep hv hl k3
 ext
 refine zi0 fun rd hrd=>?_
 have k07:Kp S (DL.put S6 rd (.lst (x.sources.map D.str))):=k06.new hrd
 have rdS:S rd=none:=k06.none_ hrd
 have e7:DL.put S6 rd (.lst (x.sources.map D.str)) rd=some (.lst (x.sources.map D.str)):=zai
 generalize DL.put S6 rd (.lst (x.sources.map D.str))=S7 at k07 e7 ⊢
 walk_at "dmn"
 with_reducible refine zfh ?_
 walk_at "dmn"
 refine za2 (fun i env S'=>∃ (x7 x9:Option D),env=[some (.ref o),some (.tup (x.words.map D.str)),some (.tp x.fl (x.sources.map D.str)),some (.tup (x.derived.map pairD)),some (.tup (x.effects.map pairD)),some (.ref tk),none,x7,some (.ref rd),x9]∧
  S' rd=some (.lst ((x.sources++(x.derived.take i).map (·.1)).map D.str))∧Kp S S') _ 0 ⟨_,_,rfl,by simpa using e7,k07⟩ ?_ ?_
 ·rintro i y _ S8 hy ⟨x7,x9,rfl,e8,k8⟩ nx hnx
  rw [Nat.zero_add] at e8 hnx
  obtain ⟨y',hy',rfl⟩:=zfx hy
  obtain ⟨p,hp,rfl⟩:=pair_at hy'
  have hi:i < x.derived.length:=(List.getElem?_eq_some_iff.mp hp).1
  refine ⟨trivial,?_⟩
  ext
  refine zhQ e8 fun r2 hr2=>?_
  have k9:=k8.new (o:=.lst ((x.sources++(x.derived.take i).map (·.1)).map D.str)) hr2
  have t9:DL.put S8 r2 (.lst ((x.sources++(x.derived.take i).map (·.1)).map D.str)) r2=_:=zai
  have e9:DL.put S8 r2 (.lst ((x.sources++(x.derived.take i).map (·.1)).map D.str)) rd=some (.lst ((x.sources++(x.derived.take i).map (·.1)).map D.str)):=by
   rw [zaP (fun q=>by subst q;rw [e8] at hr2;cases hr2)]
   exact e8
  generalize DL.put S8 r2 (.lst ((x.sources++(x.derived.take i).map (·.1)).map D.str))=S9 at k9 t9 e9 ⊢
  ext
  intro q hq
  have qr:rd≠q:=fun z=>by subst z;rw [e9] at hq;cases hq
  have qr2:r2≠q:=fun z=>by subst z;rw [t9] at hq;cases hq
  refine zhK F zai ⟨rfl,?_⟩
  rw [zcT]
  have k10:=k9.new (o:=.ins (He.ga K "BodyCheck") [("kind", .str "derived"),("words", .tup (x.words.map D.str)),("sources", .tp x.fl (x.sources.map D.str)),("readable", .ref r2)]) hq
  have B:Bc K ⟨true,false,false,x.words,x.sources,x.sources++(x.derived.take i).map (·.1),slots⟩ q r2 (DL.put S9 q (.ins (He.ga K "BodyCheck") [("kind", .str "derived"),("words", .tup (x.words.map D.str)),("sources", .tp x.fl (x.sources.map D.str)),("readable", .ref r2)])):=
   ⟨⟨x.fl,zai⟩,(zaP qr2).trans t9⟩
  have e10:DL.put S9 q (.ins (He.ga K "BodyCheck") [("kind", .str "derived"),("words", .tup (x.words.map D.str)),("sources", .tp x.fl (x.sources.map D.str)),("readable", .ref r2)]) rd=_:=(zaP qr).trans e9
  generalize DL.put S9 q (.ins (He.ga K "BodyCheck") [("kind", .str "derived"),("words", .tup (x.words.map D.str)),("sources", .tp x.fl (x.sources.map D.str)),("readable", .ref r2)])=S10 at k10 B e10 ⊢
  obtain ⟨flb,eb⟩:=B.ob
  ext
  with_reducible refine zaL (szl (by simp)) ?_
  ext
  refine zjI F ⟨sl,fun z hz=>?_,fun z hz=>ns.1 z hz⟩ B (der i p hp) (by simp) ?_
  ·refine nsd.1 z ?_
   rcases List.mem_append.mp hz with q | q
   ·exact List.mem_append_left _ q
   ·refine List.mem_append_right _ ?_
    rw [List.map_take] at q
    exact List.mem_of_mem_take q
  ext
  with_reducible refine s_app e10 (zhy (by simp;omega)) ?_
  ext
  refine hnx _ _ ⟨_,_,rfl,?_,k10.wr rdS⟩
  rw [zai,zhx hp]
  simp
 rintro _ S8 ⟨x7,x9,rfl,e8,k8⟩
 rw [Nat.zero_add,zbq,List.length_map,List.take_length] at e8
 refine ⟨trivial,?_⟩
 walk_at "dmn"
 with_reducible refine zfh ?_
 walk_at "dmn"
 refine za2 (fun i env S'=>∃ (x7 x9:Option D),env=[some (.ref o),some (.tup (x.words.map D.str)),some (.tp x.fl (x.sources.map D.str)),some (.tup (x.derived.map pairD)),some (.tup (x.effects.map pairD)),some (.ref tk),none,x7,some (.ref rd),x9]∧
  S' rd=some (.lst ((x.sources++x.derived.map (·.1)).map D.str))∧Kp S S') _ 0 ⟨_,_,rfl,e8,k8⟩ ?_ ?_
 ·rintro i y _ S9 hy ⟨x7,x9,rfl,e9,k9⟩ nx hnx
  obtain ⟨y',hy',rfl⟩:=zfx hy
  obtain ⟨p,hp,rfl⟩:=pair_at hy'
  refine ⟨trivial,?_⟩
  ext
  intro q hq
  have qr:rd≠q:=fun z=>by subst z;rw [e9] at hq;cases hq
  refine zhK F zai ⟨rfl,?_⟩
  rw [zcT]
  have k10:=k9.new (o:=.ins (He.ga K "BodyCheck") [("kind", .str "effects"),("words", .tup (x.words.map D.str)),("sources", .tp x.fl (x.sources.map D.str)),("readable", .ref rd)]) hq
  have e10:DL.put S9 q (.ins (He.ga K "BodyCheck") [("kind", .str "effects"),("words", .tup (x.words.map D.str)),("sources", .tp x.fl (x.sources.map D.str)),("readable", .ref rd)]) rd=_:=(zaP qr).trans e9
  have B:Bc K ⟨false,pk,wr,x.words,x.sources,x.sources++x.derived.map (·.1),slots⟩ q rd (DL.put S9 q (.ins (He.ga K "BodyCheck") [("kind", .str "effects"),("words", .tup (x.words.map D.str)),("sources", .tp x.fl (x.sources.map D.str)),("readable", .ref rd)])):=
   ⟨⟨x.fl,zai⟩,e10⟩
  generalize DL.put S9 q (.ins (He.ga K "BodyCheck") [("kind", .str "effects"),("words", .tup (x.words.map D.str)),("sources", .tp x.fl (x.sources.map D.str)),("readable", .ref rd)])=S10 at k10 B e10 ⊢
  obtain ⟨flb,eb⟩:=B.ob
  ext
  with_reducible refine zaL (szl (by simp)) ?_
  ext
  refine zjI F ⟨sl,fun z hz=>nsd.1 z hz,fun z hz=>ns.1 z hz⟩ B (eff p (List.mem_of_getElem? hp)) (by simp) ?_
  ext
  exact hnx _ _ ⟨_,_,rfl,e10,k10⟩
 rintro _ S9 ⟨x7,x9,rfl,e9,k9⟩
 obtain ⟨f1,f2,f3,f4⟩:=G
 have eo9:=k9 _ _ eo
 refine ⟨trivial,?_⟩
 ext
 with_reducible refine zeN eo9 f1 (by simp) ?_
 ext
 with_reducible refine zeN zai f2 (by refine Nat.lt_of_le_of_lt (?_:_≤20) (by decide);repeat (first | refine zhp ?_ | (simp;done))) ?_
 ext
 with_reducible refine zeN zai f3 (by refine Nat.lt_of_le_of_lt (?_:_≤20) (by decide);repeat (first | refine zhp ?_ | (simp;done))) ?_
 ext
 with_reducible refine zeN zai f4 (by refine Nat.lt_of_le_of_lt (?_:_≤20) (by decide);repeat (first | refine zhp ?_ | (simp;done))) ?_
 rw [zcT,zcT,zcT]
 exact hQ _ (k9.fr.put) zai
set_option maxHeartbeats 2000000
theorem StA.kp {ns:List Int} {a l:Addr} {S S':Sto} (h:StA ns a l S) (k:Kp S S'):StA ns a l S':=by
 obtain ⟨⟨p,b,c,s,e,r⟩,e2,ne⟩:=h
 exact ⟨⟨p,b,c,s,k _ _ e,r⟩,k _ _ e2,ne⟩
theorem zik.none_ {S:Sto} {p:Addr} {xs:List D} (h:zik S (.ref p) xs):S p=some (.lst xs):=h.lst
theorem NoP.fr {x:Parts} {S S':Sto} {a:Addr} {d:D} (h:NoP x S d) (f:Fr a S S') (ha:d≠.ref a):NoP x S' d:=by
 cases h with
 | short xs h=>exact .short xs h
 | lst b xs h=>exact .lst b xs (f _ _ (fun e=>ha (by rw [e])) h)
 | nums k is h1 h2 h3=>exact .nums k is h1 h2 h3
 | flag k is b h=>exact .flag k is b h
section
variable {K:PySem.W.Frag} {S:Sto} {x:Parts} {slots:List Str} {pk wr:Bool} {Q:DQ} {E:XQ}
theorem zj0 (F:FBc K) (G:FPr K) (P:za5 x slots pk wr) (hQ:∀ o S',S o=none->S' o=some (zd5 K x)->Kp S S'->Q (.ref o) S'):zdm K [x.d] S Q E:=by
 have ed:x.d = .tup [.tup (x.words.map D.str),.tp x.fl (x.sources.map D.str),.tup (x.derived.map pairD),.tup (x.effects.map pairD)]:=rfl
 rw [ed]
 refine zaH rfl ?_
 unfold zd0
 ext
 intro o ho
 refine ziy F G P zai fun S7 fr7 eo7=>⟨rfl,?_⟩
 refine hQ o _ ho eo7 fun b ob hb=>?_
 have hbo:b≠o:=fun q=>by subst q;rw [ho] at hb;cases hb
 exact fr7 b ob hbo ((zaP hbo).trans hb)
end
section
variable {x:Parts} {slots:List Str} {pk wr:Bool}
end
theorem zmx (xs:List D):DL.cutD xs none (some (-1))=xs.dropLast:=by
 unfold DL.cutD
 have e1:HT.sIx xs.length 0 none=0:=rfl
 have e2:HT.sIx xs.length xs.length (some (-1))=xs.length - 1:=by
  show (if (-1:Int) < 0 then ((-1:Int)+(xs.length:Int)).toNat else min (-1:Int).toNat xs.length)=_
  rw [if_pos (by omega)]
  omega
 rw [e1,e2,List.drop_zero,Nat.sub_zero,List.dropLast_eq_take]
theorem at_last (d:D) (xs:List D):L2.atI (xs++[d]) (-1)=some d:=by
 unfold L2.atI ixN
 have el:(xs++[d]).length=xs.length+1:=by simp
 rw [if_neg (by omega),if_pos (by omega)]
 have e:((-1:Int)+((xs++[d]).length:Nat)).toNat=xs.length:=by omega
 rw [e]
 simp
theorem zjQ {q:List Nat} (h:q≠[]):∃ l c,q=l++[c]:=⟨q.dropLast,q.getLast h,(List.dropLast_concat_getLast h).symm⟩
section
variable {K:PySem.W.Frag} {S:Sto} {x:Parts} {slots:List Str} {pk wr:Bool} {Q:DQ} {E:XQ}
theorem ziw (P:za5 x slots pk wr) {z:Pz} {t:Row} (h:(z,t)∈x.pths):∃ n,z.2.length=2 * n+2∧n≤3:=by
 obtain ⟨d,j,m,n,p,r,q,rfl,hj,hr,hl,hn,hn3⟩:=zdj P h
 exact ⟨n,by simp [hn],hn3⟩
theorem zl1 {is:List Int} {l:List Nat} (h:is=l.map fun (i:Nat)=>(i:Int)):∀ i∈is,0≤i:=fun i hi=>by
 rw [h] at hi
 obtain ⟨j,_,rfl⟩:=List.mem_map.mp hi
 omega
inductive Rd (S:Sto):Nat->D->Prop
 | atom (n:Nat) (d:D):(∀ S n,∃ p,rs S n d=some p)->Rd S n d
 | tp (n:Nat) (fl:Bool) (ds:List D):(∀ d∈ds,Rd S n d)->Rd S (n+1) (.tp fl ds)
 | lst (n:Nat) (a:Addr) (ds:List D):S a=some (.lst ds)->(∀ d∈ds,Rd S n d)->Rd S (n+1) (.ref a)
theorem Rd.kp {S S':Sto} {n:Nat} {d:D} (h:Rd S n d) (k:Kp S S'):Rd S' n d:=by
 induction h with
 | atom n d h=>exact .atom n d h
 | tp n fl ds h ih=>exact .tp n fl ds ih
 | lst n a ds e h ih=>exact .lst n a ds (k _ _ e) ih
theorem zi6 {S:Sto} {m:Nat}:∀ {ds:List D},(∀ d∈ds,∃ p,rs S m d=some p)->∃ ps,ds.mapM (rs S m)=some ps
 | [],_=>⟨[],rfl⟩
 | d :: ds,h=>by
  obtain ⟨p,hp⟩:=h d List.mem_cons_self
  obtain ⟨ps,hps⟩:=zi6 (ds:=ds) fun z hz=>h z (List.mem_cons_of_mem _ hz)
  exact ⟨p :: ps,by rw [List.mapM_cons,hp,hps];rfl⟩
theorem Rd.rs {S:Sto} {n:Nat} {d:D} (h:Rd S n d):∀ {m:Nat},n≤m->∃ p,DL.rs S m d=some p:=by
 induction h with
 | atom n d h=>exact fun _=>h _ _
 | tp n fl ds h ih=>
  intro m hm
  obtain ⟨k,rfl⟩:∃ k,m=k+1:=⟨m - 1,by omega⟩
  obtain ⟨ps,hp⟩:=zi6 (S:=S) (m:=k) (ds:=ds) fun d hd=>ih d hd (by omega)
  exact ⟨.tuple ps,by show (ds.mapM (DL.rs S k)).map PyData.tuple=_;rw [hp];rfl⟩
 | lst n a ds e h ih=>
  intro m hm
  obtain ⟨k,rfl⟩:∃ k,m=k+1:=⟨m - 1,by omega⟩
  obtain ⟨ps,hp⟩:=zi6 (S:=S) (m:=k) (ds:=ds) fun d hd=>ih d hd (by omega)
  refine ⟨.list ps,?_⟩
  show (match S a with
   | some (.lst ds)=>(ds.mapM (DL.rs S k)).map PyData.list
   | _=>none)=_
  rw [e]
  show (ds.mapM (DL.rs S k)).map PyData.list=_
  rw [hp];rfl
theorem zmM {S:Sto} {n:Nat}:Rd S n .non:=.atom _ _ fun S n=>⟨.none,by cases n <;> rfl⟩
theorem zdO {S:Sto} {n:Nat} {z:Str}:Rd S n (.str z):=.atom _ _ fun S n=>⟨.str z,by cases n <;> rfl⟩
theorem zgZ {S:Sto} {n:Nat} {i:Int}:Rd S n (.int i):=.atom _ _ fun S n=>⟨.int i,by cases n <;> rfl⟩
theorem zrf {S:Sto} {n:Nat} {b:Bool}:Rd S n (.bl b):=.atom _ _ fun S n=>⟨.bool b,by cases n <;> rfl⟩
theorem za4 {S:Sto} {n:Nat} {d:D} {ds:List D} (h:Rd S n d) (hs:∀ d∈ds,Rd S n d):∀ z∈d :: ds,Rd S n z:=fun z hz=>by
 rcases List.mem_cons.mp hz with rfl | hz
 ·exact h
 ·exact hs z hz
theorem zd3 {S:Sto} {n:Nat}:∀ z∈([]:List D),Rd S n z:=fun z hz=>nomatch hz
theorem zi5 {S:Sto} {n:Nat} {l:List Nat}:∀ z∈l.map zfT,Rd S n z:=fun z hz=>by
 obtain ⟨i,_,rfl⟩:=List.mem_map.mp hz
 exact zgZ
theorem zhU {S:Sto} {n:Nat} {l:List Int}:∀ z∈l.map D.int,Rd S n z:=fun z hz=>by
 obtain ⟨i,_,rfl⟩:=List.mem_map.mp hz
 exact zgZ
theorem zmN {S:Sto} {n:Nat} {as bs:List D} (h:∀ z∈as,Rd S n z) (hs:∀ z∈bs,Rd S n z):∀ z∈as++bs,Rd S n z:=fun z hz=>by
 rcases List.mem_append.mp hz with hz | hz
 ·exact h z hz
 ·exact hs z hz
theorem zoe {S:Sto} {n k:Nat} {as:List D} (h:∀ z∈as,Rd S n z):∀ z∈as.take k,Rd S n z:=fun z hz=>h z (List.mem_of_mem_take hz)
theorem zi4 {S:Sto} {n:Nat} {z:Pz}:Rd S (n+1) (zbU z):=.tp _ _ _ (za4 zdO zi5)
theorem zdr {S:Sto} {n:Nat} {w:Str} {d:D} (h:Rd S n d):Rd S (n+1) (.tup [.str w,d]):=.tp _ _ _ (za4 zdO (za4 h zd3))
theorem zeD {ns:List Int} {a l:Addr} (hS:StA ns a l S) (P:za5 x slots pk wr)
  (hQ:∀ d S',NoC x S' d->Rd S' 5 d->StA ns a l S'->Fr a S S'->(∀ b,d = .ref b->b≠a)->Q d S'):zct K [.ref a,x.d] S Q E:=by
 have hle:=zi8 P
 refine zaH rfl ?_
 unfold zcW
 ext
 refine zgH P fun p S1 hp ep k1=>?_
 have h1:=hS.kp k1
 have pa:p≠a:=(hS.fresh hp).1
 have f1:Fr a S S1:=fun b ob _ e=>k1 _ _ e
 ext
 refine zaG h1 (by decide) (by decide +kernel) fun kind S2 r0 r1 h2 f2=>?_
 have ep2:=f2 _ _ pa ep
 have f02:=f1.trans f2
 have nine:∀ S',NoP x S' (.tup [.str "derived", .int 9,.int 0]):=fun S'=>.nums "derived" [9,0] (by decide) (by decide) fun z hz e=>by
  obtain ⟨⟨z,t'⟩,hq,rfl⟩:=List.mem_map.mp hz
  obtain ⟨d,j,m,n,p,r,q,ez,hj,_⟩:=zdj P hq
  have hl:=(List.getElem?_eq_some_iff.mp hj).1
  have h6:=zll P d
  have e2:=(Prod.mk.inj e).2
  simp only [ez,List.map_cons] at e2
  have:=(List.cons.inj e2).1
  omega
 by_cases hk:kind=0
 ·subst hk
  ext
  with_reducible refine zaL (szl (Nat.zero_le _)) ?_
  ext
  with_reducible refine zdX (szl (by simp)) fun q hq=>?_
  obtain ⟨h3,f3,qa,qS,kq,eq3⟩:=zc3 (o:=.lst []) h2 f02 hq
  ext
  repeat (with_reducible refine zaL (szl (by first | exact Nat.zero_le _ | (simp;done))) ?_;ext)
  refine zaG h3 (by decide) (by decide +kernel) fun r S4 r0' r1' h4 f4=>?_
  have f04:=f3.trans f4
  have hr:r=0 ∨ r=1 ∨ r=2 ∨ r=3 ∨ r=4 ∨ r=5:=by omega
  rcases hr with rfl | rfl | rfl | rfl | rfl | rfl
  ·ext
   exact hQ _ _ .non zmM h4 f04 (fun b e=>by cases e)
  ·ext
   exact hQ _ _ (.short [] (by decide)) (.tp _ _ _ zd3) h4 f04 (fun b e=>by cases e)
  ·ext
   exact hQ _ _ (.str _) zdO h4 f04 (fun b e=>by cases e)
  ·ext
   exact hQ _ _ (.lst q [] (f4 _ _ qa eq3)) (.lst _ _ _ (f4 _ _ qa eq3) zd3) h4 f04 (fun b e=>by cases e;exact qa)
  ·ext
   exact hQ _ _ (.path "early" _ (.short [] (by decide))) (zdr (.tp _ _ _ zd3)) h4 f04 (fun b e=>by cases e)
  ·ext
   exact hQ _ _ (.path "early" _ (nine _)) (zdr (.tp _ _ _ (za4 zdO (za4 zgZ (za4 zgZ zd3))))) h4 f04 (fun b e=>by cases e)
 have hlm:(x.pths.map fun q=>D.tup [zbU q.1,q.2.d]).length=x.pths.length:=List.length_map _
 by_cases hz:x.pths.length=0
 ·have hz2:(((x.pths.map fun q=>D.tup [zbU q.1,q.2.d]).length:Nat):Int)=0:=by omega
  ext
  with_reducible refine zeq (fun _=>?_) (fun h=>absurd hz2 h)
  ext
  with_reducible refine zaL (szl (Nat.zero_le _)) ?_
  ext
  with_reducible refine zdX (szl (by simp)) fun q hq=>?_
  obtain ⟨h3,f3,qa,qS,kq,eq3⟩:=zc3 (o:=.lst []) h2 f02 hq
  ext
  repeat (with_reducible refine zaL (szl (by first | exact Nat.zero_le _ | (simp;done))) ?_;ext)
  refine zaG h3 (by decide) (by decide +kernel) fun r S4 r0' r1' h4 f4=>?_
  have f04:=f3.trans f4
  have hr:r=0 ∨ r=1 ∨ r=2 ∨ r=3 ∨ r=4 ∨ r=5:=by omega
  rcases hr with rfl | rfl | rfl | rfl | rfl | rfl
  ·ext
   exact hQ _ _ .non zmM h4 f04 (fun b e=>by cases e)
  ·ext
   exact hQ _ _ (.short [] (by decide)) (.tp _ _ _ zd3) h4 f04 (fun b e=>by cases e)
  ·ext
   exact hQ _ _ (.str _) zdO h4 f04 (fun b e=>by cases e)
  ·ext
   exact hQ _ _ (.lst q [] (f4 _ _ qa eq3)) (.lst _ _ _ (f4 _ _ qa eq3) zd3) h4 f04 (fun b e=>by cases e;exact qa)
  ·ext
   exact hQ _ _ (.path "early" _ (.short [] (by decide))) (zdr (.tp _ _ _ zd3)) h4 f04 (fun b e=>by cases e)
  ·ext
   exact hQ _ _ (.path "early" _ (nine _)) (zdr (.tp _ _ _ (za4 zdO (za4 zgZ (za4 zgZ zd3))))) h4 f04 (fun b e=>by cases e)
 have h3:=h2
 have hpos:0 < x.pths.length:=by omega
 have hz2:¬ (((x.pths.map fun q=>D.tup [zbU q.1,q.2.d]).length:Nat):Int)=0:=by omega
 ext
 with_reducible refine zeq (fun h=>absurd h hz2) (fun _=>?_)
 ext
 rw [List.length_map]
 refine zaG h2 (by omega) (zbw (by omega) (by omega)) fun r S3 r0' r1' h3 f3=>?_
 obtain ⟨k,rfl⟩:=Int.eq_ofNat_of_zero_le r0'
 have ep3:=f3 _ _ pa ep2
 have f03:=f02.trans f3
 have hk':k < x.pths.length:=by omega
 have hqz:x.pths[k]? = some x.pths[k]:=List.getElem?_eq_getElem hk'
 generalize x.pths[k]=qz at hqz
 obtain ⟨⟨zk,zs⟩,t⟩:=qz
 have hm:=List.mem_of_getElem? hqz
 obtain ⟨n,hzl,hn3⟩:=ziw P hm
 have hat:L2.atI (x.pths.map fun q=>D.tup [zbU q.1,q.2.d]) (k:Int)=some (.tup [zbU (zk,zs),t.d]):=atI_nat (by rw [List.getElem?_map,hqz];rfl)
 have hzl:zs.length=2 * n+2:=hzl
 ext
 with_reducible refine zaL (szl (by simp)) ?_
 ext
 refine zaG h3 (by decide) (by decide +kernel) fun v S4 v0 v1 h4 f4=>?_
 have f04:=f03.trans f4
 have hw:∃ w,L2.atI [D.str "peek", D.str "early"] v=some (.str w):=by
  have hv:v=0 ∨ v=1:=by omega
  rcases hv with rfl | rfl
  ·exact ⟨_,rfl⟩
  ·exact ⟨_,rfl⟩
 obtain ⟨w,hw⟩:=hw
 have hkk:kind=1 ∨ kind=2 ∨ kind=3 ∨ kind=4 ∨ kind=5 ∨ kind=6 ∨ kind=7:=by omega
 have epz:zbU (zk,zs) = .tup (.str zk :: zs.map zfT):=rfl
 rcases hkk with rfl | rfl | rfl | rfl | rfl | rfl | rfl
 ·ext
  with_reducible refine zaL (szl (by simp)) ?_
  ext
  exact hQ _ _ (.word "read" (zk,zs) t hm (by decide +kernel) (by decide +kernel)) (zdr zi4) h4 f04 (fun b e=>by cases e)
 ·ext
  rw [epz]
  refine zi0 fun q hq=>?_
  obtain ⟨h5,f5,qa,qS,kq,eq5⟩:=zc3 (o:=.lst (.str zk :: zs.map zfT)) h4 f04 hq
  ext
  with_reducible refine zaL (szl (by simp)) ?_
  ext
  exact hQ _ _ (.path w _ (.lst q _ eq5)) (zdr (.lst _ _ _ eq5 (za4 zdO zi5))) h5 f5 (fun b e=>by cases e)
 ·rw [epz]
  ext
  have ecut:DL.cutD (.str zk :: zs.map zfT) none (some 2)=(D.str zk :: zs.map zfT).take 2:=zef _ 2
  rw [ecut]
  with_reducible refine zaL (szl (by simp)) ?_
  ext
  exact hQ _ _ (.path w _ (.short _ (by rw [List.length_take];omega))) (zdr (.tp _ _ _ (zoe (za4 zdO zi5)))) h4 f04 (fun b e=>by cases e)
 ·ext
  with_reducible refine zdX (szl (by simp)) fun q hq=>?_
  obtain ⟨h5,f5,qa,qS,kq,eq5⟩:=zc3 (o:=.lst [.str w,zbU (zk,zs)]) h4 f04 hq
  ext
  exact hQ _ _ (.lst q _ eq5) (.lst _ _ _ eq5 (za4 zdO (za4 zi4 zd3))) h5 f5 (fun b e=>by cases e;exact qa)
 ·ext
  with_reducible refine zaL (szl (by simp)) ?_
  ext
  exact hQ _ _ (.short _ (by simp)) (.tp _ _ _ (za4 zdO (za4 zi4 (za4 zgZ zd3)))) h4 f04 (fun b e=>by cases e)
 ·rw [epz]
  ext
  with_reducible refine zaL (szl (by simp)) ?_
  ext
  with_reducible refine zc1 (szl (by simp;omega)) ?_
  ext
  with_reducible refine zaL (szl (by simp)) ?_
  ext
  have ee:(D.tup ((.str zk :: zs.map zfT)++[.int 0])) = .tup (.str zk :: (zs.map (fun (i:Nat)=>(i:Int))++[0]).map D.int):=by
   rw [List.map_append,List.map_map]
   rfl
  rw [ee]
  refine hQ _ _ (.path w _ (.nums zk _ (by simp;omega) (by simp;omega) fun z hz e=>?_)) (zdr (.tp _ _ _ (za4 zdO zhU))) h4 f04 (fun b e=>by cases e)
  obtain ⟨⟨z,t'⟩,hq,rfl⟩:=List.mem_map.mp hz
  obtain ⟨n',hl',_⟩:=ziw P hq
  have:=congrArg List.length (Prod.mk.inj e).2
  simp at this
  omega
 ·obtain ⟨l0,c,rfl⟩:=zjQ (q:=zs) (fun e=>by rw [e] at hzl;simp at hzl)
  have hl0:1≤l0.length:=by simp at hzl;omega
  have hl9:l0.length≤20:=by simp at hzl;omega
  have epl:zbU (zk,l0++[c]) = .tup ((.str zk :: l0.map zfT)++[.int (c:Int)]):=by
   rw [epz,List.map_append]
   rfl
  have hlast:=at_last (.int (c:Int)) (.str zk :: l0.map zfT)
  have hback:DL.cutD ((.str zk :: l0.map zfT)++[.int (c:Int)]) none (some (-1)) = .str zk :: l0.map zfT:=by
   rw [zmx,List.dropLast_concat]
  rw [epl]
  ext
  with_reducible refine zku ?_
  ext
  with_reducible refine zir ?_
  ext
  rw [hback]
  with_reducible refine zku ?_
  ext
  with_reducible refine zir ?_
  ext
  by_cases c1:c=1
  ·subst c1
   ext
   with_reducible refine zaL (szl (by simp)) ?_
   ext
   with_reducible refine zc1 (szl (by simp;omega)) ?_
   ext
   with_reducible refine zaL (szl (by simp)) ?_
   ext
   have ee:(D.tup ((.str zk :: l0.map zfT)++[.bl true])) = .tup (.str zk :: ((l0.map fun (i:Nat)=>(i:Int)).map D.int++[.bl true])):=by
    rw [List.map_map]
    rfl
   rw [ee]
   exact hQ _ _ (.path w _ (.flag zk _ true (by simpa using hl0))) (zdr (.tp _ _ _ (za4 zdO (zmN zhU (za4 zrf zd3))))) h4 f04 (fun b e=>by cases e)
  by_cases c0:c=0
  ·subst c0
   ext
   with_reducible refine zku ?_
   ext
   with_reducible refine zir ?_
   ext
   with_reducible refine zaL (szl (by simp)) ?_
   ext
   with_reducible refine zc1 (szl (by simp;omega)) ?_
   ext
   with_reducible refine zaL (szl (by simp)) ?_
   ext
   have ee:(D.tup ((.str zk :: l0.map zfT)++[.bl false])) = .tup (.str zk :: ((l0.map fun (i:Nat)=>(i:Int)).map D.int++[.bl false])):=by
    rw [List.map_map]
    rfl
   rw [ee]
   exact hQ _ _ (.path w _ (.flag zk _ false (by simpa using hl0))) (zdr (.tp _ _ _ (za4 zdO (zmN zhU (za4 zrf zd3))))) h4 f04 (fun b e=>by cases e)
  ·ext
   with_reducible refine zku ?_
   ext
   with_reducible refine zir ?_
   ext
   with_reducible refine zku ?_
   ext
   with_reducible refine zir ?_
   ext
   with_reducible refine zaL (szl (by simp)) ?_
   ext
   with_reducible refine zc1 (szl (by simp;omega)) ?_
   ext
   with_reducible refine zaL (szl (by simp)) ?_
   ext
   have ee:(D.tup ((.str zk :: l0.map zfT)++[.int (-1)])) = .tup (.str zk :: (l0.map (fun (i:Nat)=>(i:Int))++[-1]).map D.int):=by
    rw [List.map_append,List.map_map]
    rfl
   rw [ee]
   refine hQ _ _ (.path w _ (.nums zk _ (by simp;omega) (by simp;omega) fun z hz e=>?_)) (zdr (.tp _ _ _ (za4 zdO zhU))) h4 f04 (fun b e=>by cases e)
   have:=zl1 (Prod.mk.inj e).2 (-1) (by simp)
   omega
end
set_option maxHeartbeats 4000000
section
variable {K:PySem.W.Frag} {S:Sto} {o:Addr} {x:Parts} {slots:List Str} {pk wr:Bool} {Q:DQ} {E:XQ}
theorem zli (X:FEx K) (G:FPr K) (P:za5 x slots pk wr) (eo:S o=some (zd5 K x)) {ca:D} {chs:List Ch} {ds:List D} (ec:zik S ca (chs.map chD++ds)) (hh:∀ h∈chs,zpn x h) (hl:chs.length≤100) (nd:(chs.map Ch.key).Nodup) {m:Nat} (hm8:chs.length≤m)
  (hQ:ds=[]->∀ S',Kp S S'->Q .non S')
  (hE:∀ d r,ds=d :: r->(chs.length=m ∨ Bad x S chs d)∧∀ S',Kp S S'->E (.ref (He.ga K "InvalidChange")) [("index", .int (chs.length:Nat))] S') :
  zcO K [.ref o,ca,.int (m:Nat)] S Q E:=by
 refine zaH rfl ?_
 unfold zdy
 ext
 refine zqE ec fun G0 hG0=>?_
 refine za2 (fun i env S'=>∃ x3 x4:Option D,env=[some (.ref o),some ca,some (.int (m:Nat)),x3,x4]∧Kp S S'∧i≤chs.length) _ 0 ⟨_,_,rfl,Kp.refl,Nat.zero_le _⟩ ?_ ?_
 ·rintro i y _ S1 hy ⟨x3,x4,rfl,k1,hi⟩ nx hnx
  rw [Nat.zero_add] at hi hnx
  obtain ⟨d,hd,rfl⟩:=zfx hy
  have hlt:i < (chs.map chD++ds).length:=(List.getElem?_eq_some_iff.mp hd).1
  have e1:=ec.kp k1
  refine ⟨hG0 _ e1,?_⟩
  have ecut:DL.cutD (chs.map chD++ds) none (some (i:Int))=((chs.take i).map Ch.key).map zhE:=by
   have:=zef (chs.map chD++ds) i
   rw [this,List.take_append_of_le_length (by rw [List.length_map];exact hi),← List.map_take,List.map_map]
   rfl
  by_cases hlt':i < chs.length
  ·rw [List.getElem?_append_left (by rw [List.length_map];exact hlt'),List.getElem?_map] at hd
   cases eh:chs[i]? with
   | none=>rw [eh] at hd;cases hd
   | some h=>
   rw [eh] at hd
   cases hd
   have hm:=hh h (List.mem_of_getElem? eh)
   have him:i < m:=by omega
   ext
   refine zgv G P (k1 _ _ eo) hm fun S2 k2=>?_
   ext
   refine zpJ (e1.kp k2) fun d' S3 e3 k3=>?_
   ext
   rw [ecut] at e3
   refine zf8 zoN (z:=h.key) (by decide) e3 ?_
   have hn:¬ h.key∈(chs.take i).map Ch.key:=fun hc=>by
    obtain ⟨g,hg,e⟩:=List.mem_map.mp hc
    obtain ⟨k,hk,e'⟩:=List.getElem_of_mem hg
    simp at hk
    rw [List.getElem_take] at e'
    have:=(List.pairwise_iff_getElem.mp nd) k i (by simp;omega) (by simp;omega) (by omega)
    refine this ?_
    rw [List.getElem_map,List.getElem_map,e',e]
    have:=(List.getElem?_eq_some_iff.mp eh).2
    rw [this]
   simp only [hn,decide_false]
   ext
   exact hnx _ _ ⟨_,_,rfl,(k1.trans k2).trans k3,hlt'⟩
  ·have e:i=chs.length:=by omega
   subst e
   rw [List.getElem?_append_right (by simp)] at hd
   rw [List.length_map,Nat.sub_self] at hd
   cases ds with
   | nil=>cases hd
   | cons d0 r=>
    obtain rfl:d0=d:=by simpa using hd
    obtain ⟨hb,hE2⟩:=hE _ _ rfl
    by_cases hcm:chs.length=m
    ·ext
     exact hE2 _ k1
    have him:chs.length < m:=by omega
    rcases hb.resolve_left hcm with hb | ⟨h,hm,rfl,hk⟩
    ·ext
     refine ziO X G P (k1 _ _ eo) (hb.kp k1) fun S2 k2=>?_
     ext
     exact hE2 _ (k1.trans k2)
    ·ext
     refine zgv G P (k1 _ _ eo) hm fun S2 k2=>?_
     ext
     refine zpJ (e1.kp k2) fun d' S3 e3 k3=>?_
     ext
     rw [ecut] at e3
     refine zf8 zoN (z:=h.key) (by decide) e3 ?_
     rw [List.take_length]
     simp only [hk,decide_true]
     ext
     exact hE2 _ ((k1.trans k2).trans k3)
 ·rintro _ S1 ⟨x3,x4,rfl,k1,hi⟩
  rw [Nat.zero_add,zbq,List.length_append,List.length_map] at hi
  exact ⟨hG0 _ (ec.kp k1),hQ (List.eq_nil_of_length_eq_zero (by omega)) _ k1⟩
end
def kinds:List Str:=["mixed", "through", "twice", "needless", "missed", "long"]
section
variable {K:PySem.W.Frag} {S:Sto} {o:Addr} {x:Parts} {slots:List Str} {pk wr:Bool} {Q:DQ} {E:XQ}
theorem zbz {a g:Nat} (h1:1≤a) (h2:a≤g) (hQ:Q .non S):zbx K [.int (a:Int),.int (g:Int)] S Q E:=by
 refine zaH rfl ?_
 unfold zez
 ext
 refine zjR (ty := "int") (c:=false) rfl rfl ?_
 ext
 refine zjR (ty := "int") (c:=true) rfl rfl ?_
 ext
 exact hQ
theorem zka {ru:D} {kd:Str} {h:D} (hk:kd∉kinds) (hE:E (.ref (He.ga K "InvalidKind")) [("kind", .str kd)] S):zgM K [.ref o,ru,.str kd,h,.bl true,.int 200,.int 1] S Q E:=by
 refine zaH rfl ?_
 unfold zij
 ext
 refine zbz (a:=200) (g:=2000) (by decide) (by decide) ?_
 ext
 refine zbz (a:=1) (g:=10000) (by decide) (by decide) ?_
 ext
 have hk':decide (kd∈([Str.ofString "mixed", Str.ofString "through", Str.ofString "twice", Str.ofString "needless", Str.ofString "missed", Str.ofString "long"]:List Str))=false:=decide_eq_false hk
 rw [hk']
 ext
 exact hE
theorem ziQ (X:FEx K) (G:FPr K) (P:za5 x slots pk wr) (eo:S o=some (zd5 K x)) {ru ca:D} {kd:Str} (hk:kd∈kinds) {chs:List Ch} {d:D} {r:List D} (ec:zik S ca (chs.map chD++d :: r)) (hh:∀ h∈chs,zpn x h) (hl:chs.length≤8) (nd:(chs.map Ch.key).Nodup) (hb:chs.length=8 ∨ Bad x S chs d)
  (hE:∀ S',Kp S S'->E (.ref (He.ga K "InvalidChange")) [("index", .int (chs.length:Nat))] S'):zgM K [.ref o,ru,.str kd,ca,.bl true,.int 200,.int 1] S Q E:=by
 refine zaH rfl ?_
 unfold zij
 ext
 refine zbz (a:=200) (g:=2000) (by decide) (by decide) ?_
 ext
 refine zbz (a:=1) (g:=10000) (by decide) (by decide) ?_
 ext
 have hk':decide (kd∈([Str.ofString "mixed", Str.ofString "through", Str.ofString "twice", Str.ofString "needless", Str.ofString "missed", Str.ofString "long"]:List Str))=true:=decide_eq_true hk
 rw [hk']
 ext
 refine zli (m:=8) X G P eo ec hh (by omega) nd hl (fun z=>nomatch z) fun d' r' z=>?_
 cases z
 exact ⟨hb,fun S' k=>hE S' k⟩
theorem zjX {pre post:List Str} {kd:Str} {ka:Addr} (hp:∀ k∈pre,k∈kinds) (hl:pre.length≤100) (hk:kd∉kinds) (ek:S ka=some (.lst ((pre++kd :: post).map D.str))) (hE:E (.ref (He.ga K "InvalidKind")) [("kind", .str kd)] S):zej K [.ref o,.ref ka,.bl true,.int 200,.int 1] S Q E:=by
 refine zaH rfl ?_
 unfold ze3
 ext
 refine zbz (a:=200) (g:=2000) (by decide) (by decide) ?_
 ext
 refine zbz (a:=1) (g:=10000) (by decide) (by decide) ?_
 ext
 refine za2 (fun i env S'=>∃ (x5 x6 x7 x8:Option D),env=[some (.ref o),some (.ref ka),some (.bl true),some (.int 200),some (.int 1),x5,x6,x7,x8]∧S'=S∧i≤pre.length) _ 0 ⟨_,_,_,_,rfl,rfl,Nat.zero_le _⟩ ?_ ?_
 ·rintro i y _ _ hy ⟨x5,x6,x7,x8,rfl,rfl,hi⟩ nx hnx
  rw [Nat.zero_add] at hi hnx
  rw [List.getElem?_map] at hy
  refine ⟨ek,?_⟩
  by_cases hlt:i < pre.length
  ·have e1:(pre++kd :: post)[i]? = some pre[i]:=by rw [List.getElem?_append_left hlt,List.getElem?_eq_getElem hlt]
   rw [e1] at hy
   cases hy
   have hm:=hp _ (List.getElem_mem hlt)
   generalize pre[i]=z at hm
   ext
   have hk':decide (z∈([Str.ofString "mixed", Str.ofString "through", Str.ofString "twice", Str.ofString "needless", Str.ofString "missed", Str.ofString "long"]:List Str))=true:=decide_eq_true hm
   rw [hk']
   ext
   exact hnx _ _ ⟨_,_,_,_,rfl,rfl,hlt⟩
  ·have e:i=pre.length:=by omega
   subst e
   have e1:(pre++kd :: post)[pre.length]? = some kd:=by rw [List.getElem?_append_right (Nat.le_refl _),Nat.sub_self];rfl
   rw [e1] at hy
   cases hy
   ext
   have hk':decide (kd∈([Str.ofString "mixed", Str.ofString "through", Str.ofString "twice", Str.ofString "needless", Str.ofString "missed", Str.ofString "long"]:List Str))=false:=decide_eq_false hk
   rw [hk']
   ext
   exact hE
 ·rintro _ _ ⟨x5,x6,x7,x8,rfl,rfl,hi⟩
  rw [Nat.zero_add,List.length_map,List.length_append,List.length_cons] at hi
  omega
theorem ziu (X:FEx K) {ru:D} {kd:Str} {h:D} (hk:kd∉kinds) (hQ:Q (.tup [.str "kind", .str kd]) S):zbH K [.ref o,ru,.str kd,h] S Q E:=by
 refine zaH rfl ?_
 unfold zcG
 ext
 with_reducible refine zaL (szl (by simp)) ?_
 ext
 with_reducible refine znq ?_
 ext
 refine zkv rfl rfl ?_
 refine zka hk ?_
 refine zn2 X.kk fun a ha=>?_
 ext
 refine zs9 rfl rfl ?_
 ext
 with_reducible refine zaL (szl (by simp)) ?_
 ext
 exact hQ
theorem zhR (X:FEx K) {pre post:List Str} {kd:Str} {ka:Addr} (hp:∀ k∈pre,k∈kinds) (hl:pre.length≤100) (hk:kd∉kinds) (ek:S ka=some (.lst ((pre++kd :: post).map D.str))) (hQ:Q (.str kd) S):zbG K [.ref o,.ref ka] S Q E:=by
 refine zaH rfl ?_
 unfold zbX
 ext
 with_reducible refine znq ?_
 ext
 refine zkv rfl rfl ?_
 refine zjX hp hl hk ek ?_
 refine zn2 X.kk fun a ha=>?_
 ext
 refine zs9 rfl rfl ?_
 ext
 exact hQ
theorem zjY (X:FEx K) (G:FPr K) (P:za5 x slots pk wr) (eo:S o=some (zd5 K x)) {ru ca:D} {kd:Str} (hk:kd∈kinds) {chs:List Ch} {d:D} {r:List D} (ec:zik S ca (chs.map chD++d :: r)) (hh:∀ h∈chs,zpn x h) (hl:chs.length≤8) (nd:(chs.map Ch.key).Nodup) (hb:chs.length=8 ∨ Bad x S chs d)
  (hQ:∀ S',Kp S S'->Q (.tup [.str "change", .int (chs.length:Nat)]) S'):zbH K [.ref o,ru,.str kd,ca] S Q E:=by
 refine zaH rfl ?_
 unfold zcG
 ext
 with_reducible refine zaL (szl (by simp)) ?_
 ext
 with_reducible refine znq ?_
 ext
 refine zkv rfl rfl ?_
 refine ziQ X G P eo hk ec hh hl nd hb fun S' k=>?_
 refine zpU X.ck ?_
 refine zn2 X.cc fun a ha=>?_
 ext
 refine zs9 rfl rfl ?_
 ext
 with_reducible refine zaL (szl (by simp)) ?_
 ext
 exact hQ _ k
end
theorem ziS (xs:List D) (k:Nat):DL.cutD xs (some (k:Int)) none=xs.drop k:=by
 unfold DL.cutD
 have e1:HT.sIx xs.length xs.length none=xs.length:=rfl
 rw [e1,HT.sIx_nat]
 by_cases h:k≤xs.length
 ·rw [Nat.min_eq_left h,List.take_of_length_le (by simp)]
 ·rw [Nat.min_eq_right (by omega),List.drop_eq_nil_of_le (Nat.le_refl _),List.drop_eq_nil_of_le (by omega)]
  exact List.take_nil
theorem zj8 {chs:List Ch} {at_ j:Nat} (nd:(chs.map Ch.key).Nodup) (hj:j < chs.length):∃ pre post,chs.take at_++chs[j] :: chs.drop at_=pre++chs[j] :: post∧(pre.map Ch.key).Nodup∧chs[j].key∈pre.map Ch.key∧(∀ h∈pre,h∈chs)∧pre.length≤chs.length+1:=by
 by_cases h:j < at_
 ·refine ⟨chs.take at_,chs.drop at_,rfl,?_,?_,fun h hm=>List.mem_of_mem_take hm,by rw [List.length_take];omega⟩
  ·rw [List.map_take]
   exact nd.sublist (List.take_sublist _ _)
  ·exact List.mem_map.mpr ⟨chs[j],List.mem_take_iff_getElem.mpr ⟨j,by omega,rfl⟩,rfl⟩
 ·have e:chs.drop at_=(chs.drop at_).take (j - at_)++chs[j] :: chs.drop (j+1):=by
   have h1:(chs.drop at_).drop (j - at_)=chs[j] :: chs.drop (j+1):=by
    rw [List.drop_drop,show at_+(j - at_)=j by omega]
    exact List.drop_eq_getElem_cons hj
   rw [← h1,List.take_append_drop]
  have ec:chs=chs.take at_++((chs.drop at_).take (j - at_)++chs[j] :: chs.drop (j+1)):=by
   rw [← e,List.take_append_drop]
  refine ⟨chs.take at_++chs[j] :: (chs.drop at_).take (j - at_),chs.drop (j+1),?_,?_,?_,?_,?_⟩
  ·rw [List.append_assoc,List.cons_append,← e]
  ·have hp:(chs.take at_++chs[j] :: (chs.drop at_).take (j - at_)).Perm (chs.take at_++((chs.drop at_).take (j - at_)++[chs[j]])):=List.Perm.append_left _ (List.perm_append_singleton _ _).symm
   refine ((hp.map Ch.key).nodup_iff).mpr ?_
   refine List.Nodup.sublist (l₂:=chs.map Ch.key) ?_ nd
   refine List.Sublist.map _ ?_
   conv=>rhs;rw [ec]
   refine List.Sublist.append (List.Sublist.refl _) (List.Sublist.append (List.Sublist.refl _) ?_)
   exact (List.nil_sublist _).cons₂ _
  ·exact List.mem_map.mpr ⟨chs[j],List.mem_append_right _ List.mem_cons_self,rfl⟩
  ·intro h hm
   rcases List.mem_append.mp hm with hm | hm
   ·exact List.mem_of_mem_take hm
   ·rcases List.mem_cons.mp hm with rfl | hm
    ·exact List.getElem_mem hj
    ·exact List.mem_of_mem_drop (List.mem_of_mem_take hm)
  ·simp
   omega
theorem zh8 {α β:Type} {f g:α->Option β}:∀ {ds:List α} {ps:List β},(∀ d∈ds,∀ p,f d=some p->g d=some p)->ds.mapM f=some ps->ds.mapM g=some ps
 | [],ps,_,h=>by simpa using h
 | d :: ds,ps,hd,h=>by
  rw [List.mapM_cons] at h ⊢
  cases e:f d with
  | none=>rw [e] at h;cases h
  | some y=>
   rw [e] at h
   cases e2:ds.mapM f with
   | none=>rw [e2] at h;cases h
   | some ys=>
    rw [e2] at h
    rw [hd d List.mem_cons_self y e,zh8 (fun z hz=>hd z (List.mem_cons_of_mem _ hz)) e2]
    exact h
theorem zlO {S S':Sto} (k:Kp S S'):∀ (n:Nat) (d:D) (p:PyData),rs S n d=some p->rs S' n d=some p
 | 0,d,p,h=>by cases d <;> first | exact h | (cases h)
 | n+1,d,p,h=>by
  cases d with
  | tp fl ds=>
   have h:(ds.mapM (rs S n)).map PyData.tuple=some p:=h
   show (ds.mapM (rs S' n)).map PyData.tuple=some p
   cases e:ds.mapM (rs S n) with
   | none=>rw [e] at h;cases h
   | some ps=>rw [e] at h;rw [zh8 (fun d _ p=>zlO k n d p) e];exact h
  | rol ds=>
   have h:(ds.mapM (rs S n)).map PyData.list=some p:=h
   show (ds.mapM (rs S' n)).map PyData.list=some p
   cases e:ds.mapM (rs S n) with
   | none=>rw [e] at h;cases h
   | some ps=>rw [e] at h;rw [zh8 (fun d _ p=>zlO k n d p) e];exact h
  | ref a=>
   have h:(match S a with
    | some (.lst ds)=>(ds.mapM (rs S n)).map PyData.list
    | _=>none)=some p:=h
   show (match S' a with
    | some (.lst ds)=>(ds.mapM (rs S' n)).map PyData.list
    | _=>none)=some p
   cases ea:S a with
   | none=>rw [ea] at h;cases h
   | some ob=>
    rw [ea] at h
    rw [k a ob ea]
    cases ob with
    | lst ds=>
     have h:(ds.mapM (rs S n)).map PyData.list=some p:=h
     show (ds.mapM (rs S' n)).map PyData.list=some p
     cases e:ds.mapM (rs S n) with
     | none=>rw [e] at h;cases h
     | some ps=>rw [e] at h;rw [zh8 (fun d _ p=>zlO k n d p) e];exact h
    | _=>cases h
  | _=>exact h
def gK (k:Str×Pz):PyData:=.tuple [.str k.1,.tuple (.str k.2.1 :: k.2.2.map fun (i:Nat)=>PyData.int (i:Int))]
def isIn (x:Parts) (p:PyData):Bool:=((x.changes.map Ch.key).map gK).any fun z=>PyData.eqv z p
section
variable {K:PySem.W.Frag} {S:Sto} {o:Addr} {x:Parts} {slots:List Str} {pk wr:Bool} {Q:DQ} {E:XQ}
theorem zhe {chs:List Ch}:chs.map chD=(chs.map Ch.key).map zhE:=by rw [List.map_map];rfl
theorem zid {u:Bool->Bool} {d:D} {ra:Addr} {p:PyData} (er:S ra=some (.lst (x.changes.map chD))) (ed:rs S 40 d=some p) (h:Q (.bl (u (isIn x p))) S):zhl u d (.ref ra) S Q:=by
 have e2:rs S 40 (.ref ra)=some (.list ((x.changes.map Ch.key).map gK)):=by
  show (match S ra with
   | some (.lst ds)=>(ds.mapM (rs S 39)).map PyData.list
   | _=>none)=_
  rw [er,zhe]
  show (((x.changes.map Ch.key).map zhE).mapM (rs S 39)).map PyData.list=_
  rw [zoN.many S (by decide)]
  rfl
 unfold zhl
 simp only [er,ed,e2]
 exact h
def zlr (x:Parts) (S:Sto) (chs:List Ch) (d:D):Prop:=(∃ p,rs S 40 d=some p∧isIn x p=false) ∨ ∃ h,h∈x.changes∧d=chD h∧h.key∈chs.map Ch.key
theorem zlr.kp {S':Sto} {chs:List Ch} {d:D} (h:zlr x S chs d) (k:Kp S S'):zlr x S' chs d:=by
 rcases h with ⟨p,h1,h2⟩ | h
 ·exact .inl ⟨p,zlO k _ _ _ h1,h2⟩
 ·exact .inr h
theorem ziK {ca:Addr} (P:za5 x slots pk wr) {chs:List Ch} {d:D} {r:List D} (ec:S ca=some (.lst (chs.map chD++d :: r))) (hr:r.length≤100) (hh:∀ h∈chs,h∈x.changes) (hl:chs.length≤8) (nd:(chs.map Ch.key).Nodup) (hb:chs.length=8 ∨ zlr x S chs d)
  (hQ:∀ S',Kp S S'->Q (.int (chs.length:Nat)) S'):zb3 K [x.d,.ref ca] S Q E:=by
 refine zaH rfl ?_
 unfold zcp
 ext
 refine zcE P fun ra S1 hra er k1=>?_
 have ec1:=k1 _ _ ec
 ext
 with_reducible refine zho (by simp;omega) (by simp;omega) ?_
 ext
 refine za2 (fun i env S'=>∃ x3:Option D,env=[some x.d,some (.ref ca),some (.ref ra),x3]∧Kp S1 S'∧i≤chs.length) _ 0 ⟨_,rfl,Kp.refl,Nat.zero_le _⟩ ?_ ?_
 ·rintro i y _ S2 hy ⟨x3,rfl,k2,hi⟩ nx hnx
  obtain ⟨rfl,hi2⟩:=zfP hy
  rw [Nat.zero_add] at hi hnx
  have ec2:=k2 _ _ ec1
  have er2:=k2 _ _ er
  refine ⟨trivial,?_⟩
  by_cases hlt:i < chs.length
  ·have e1:(chs.map chD++d :: r)[i]? = some (chD chs[i]):=by rw [List.getElem?_append_left (by rw [List.length_map];exact hlt),List.getElem?_map,List.getElem?_eq_getElem hlt];rfl
   have hm:=hh _ (List.getElem_mem hlt)
   ext
   refine zis ec2 (atI_nat e1) ?_
   ext
   have hn:¬ (chs[i]).key∈(chs.take i).map Ch.key:=fun hc=>by
    obtain ⟨g,hg,e⟩:=List.mem_map.mp hc
    obtain ⟨k,hk,e'⟩:=List.getElem_of_mem hg
    simp at hk
    rw [List.getElem_take] at e'
    have:=(List.pairwise_iff_getElem.mp nd) k i (by simp;omega) (by simp;omega) (by omega)
    refine this ?_
    rw [List.getElem_map,List.getElem_map,e',e]
   have er3:zik S2 (.ref ra) ((x.changes.map Ch.key).map zhE):=.inr ⟨ra,rfl,by rw [er2,zhe]⟩
   have hmk:(chs[i]).key∈x.changes.map Ch.key:=List.mem_map_of_mem hm
   refine zf8 zoN (z:=(chs[i]).key) (by decide) er3 ?_
   simp only [hmk,decide_true]
   ext
   refine zis ec2 (atI_nat e1) ?_
   ext
   refine zgI ec2 fun pa hpa=>?_
   have ct:DL.cutD (chs.map chD++d :: r) none (some (i:Int))=((chs.take i).map Ch.key).map zhE:=by
    rw [zef,List.take_append_of_le_length (by rw [List.length_map];omega),← List.map_take,zhe]
   rw [ct]
   have kp:Kp S2 (DL.put S2 pa (.lst (((chs.take i).map Ch.key).map zhE))):=Kp.refl.new hpa
   have ep:zik (DL.put S2 pa (.lst (((chs.take i).map Ch.key).map zhE))) (.ref pa) (((chs.take i).map Ch.key).map zhE):=.inr ⟨pa,rfl,zai⟩
   generalize DL.put S2 pa (.lst (((chs.take i).map Ch.key).map zhE))=S3 at kp ep ⊢
   ext
   refine zf8 zoN (z:=(chs[i]).key) (by decide) ep ?_
   simp only [hn,decide_false]
   ext
   exact hnx _ _ ⟨_,rfl,k2.trans kp,hlt⟩
  ·have e:i=chs.length:=by omega
   subst e
   have e1:(chs.map chD++d :: r)[chs.length]? = some d:=by rw [List.getElem?_append_right (by rw [List.length_map];exact Nat.le_refl _),List.length_map,Nat.sub_self];rfl
   ext
   by_cases h8:chs.length=8
   ·rw [decide_eq_true (show (7:Int) < (chs.length:Int) by omega)]
    ext
    exact hQ _ (k1.trans k2)
   rw [decide_eq_false (show ¬ (7:Int) < (chs.length:Int) by omega)]
   ext
   refine zis ec2 (atI_nat e1) ?_
   ext
   rcases (hb.resolve_left h8).kp (k1.trans k2) with ⟨p,h1,h2⟩ | ⟨h,h1,rfl,h3⟩
   ·refine zid er2 h1 ?_
    rw [h2]
    ext
    exact hQ _ (k1.trans k2)
   ·have er3:zik S2 (.ref ra) ((x.changes.map Ch.key).map zhE):=.inr ⟨ra,rfl,by rw [er2,zhe]⟩
    have hmk:h.key∈x.changes.map Ch.key:=List.mem_map_of_mem h1
    refine zf8 zoN (z:=h.key) (by decide) er3 ?_
    simp only [hmk,decide_true]
    ext
    refine zis ec2 (atI_nat e1) ?_
    ext
    refine zgI ec2 fun pa hpa=>?_
    have ct:DL.cutD (chs.map chD++chD h :: r) none (some (chs.length:Int))=(chs.map Ch.key).map zhE:=by
     rw [zef,List.take_append_of_le_length (by rw [List.length_map];exact Nat.le_refl _),List.take_of_length_le (by rw [List.length_map];exact Nat.le_refl _),zhe]
    rw [ct]
    have kp:Kp S2 (DL.put S2 pa (.lst ((chs.map Ch.key).map zhE))):=Kp.refl.new hpa
    have ep:zik (DL.put S2 pa (.lst ((chs.map Ch.key).map zhE))) (.ref pa) ((chs.map Ch.key).map zhE):=.inr ⟨pa,rfl,zai⟩
    generalize DL.put S2 pa (.lst ((chs.map Ch.key).map zhE))=S3 at kp ep ⊢
    ext
    refine zf8 zoN (z:=h.key) (by decide) ep ?_
    simp only [h3,decide_true]
    ext
    exact hQ _ ((k1.trans k2).trans kp)
 ·rintro _ S2 ⟨x3,rfl,k2,hi⟩
  rw [Nat.zero_add,zer] at hi
  simp at hi
  omega
end
structure FRu (K:PySem.W.Frag):Prop where
 mode:FOk K (He.ga K "Rule") "mode"
 cut:FOk K (He.ga K "Rule") "cut"
 inner:FOk K (He.ga K "Rule") "inner"
section
variable {K:PySem.W.Frag} {S:Sto} {o:Addr} {x:Parts} {slots:List Str} {pk wr:Bool} {Q:DQ} {E:XQ}
theorem zkE (F:FRu K) {ns:List Int} {a l:Addr} (h:StA ns a l S) (hQ:∀ d S',StA ns a l S'->Fr a S S'->Q d S'):zeI K [.ref a] S Q E:=by
 obtain ⟨f1',f2',f3'⟩:=F
 refine zaH rfl ?_
 unfold zfI
 ext
 with_reducible refine zaL (szl (by simp)) ?_
 ext
 refine zaG h (by decide) (by decide +kernel) fun i S1 i0 i1 h1 f1=>?_
 obtain ⟨md,hmd,em⟩:∃ md,md∈(["push", "pull", "level"]:List Str)∧L2.atI [D.str "push", D.str "pull", D.str "level"] i=some (.str md):=by
  have hi:i=0 ∨ i=1 ∨ i=2:=by omega
  rcases hi with rfl | rfl | rfl
  ·exact ⟨"push", by decide +kernel,rfl⟩
  ·exact ⟨"pull", by decide +kernel,rfl⟩
  ·exact ⟨"level", by decide +kernel,rfl⟩
 ext
 refine zaG h1 (by decide) (by decide +kernel) fun j S2 j0 j1 h2 f2=>?_
 ext
 with_reducible refine zaL (szl (by simp)) ?_
 ext
 refine zaG h2 (by decide) (by decide +kernel) fun k S3 k0 k1 h3 f3=>?_
 obtain ⟨inn,hin,ei⟩:∃ inn,inn∈(["once", "later"]:List Str)∧L2.atI [D.str "once", D.str "later"] k=some (.str inn):=by
  have hk:k=0 ∨ k=1:=by omega
  rcases hk with rfl | rfl
  ·exact ⟨"once", by decide +kernel,rfl⟩
  ·exact ⟨"later", by decide +kernel,rfl⟩
 ext
 intro r hr
 refine zaH rfl ?_
 unfold zeB
 ext
 rw [decide_eq_true hmd]
 ext
 refine zjR (ty := "bool") (c:=true) rfl rfl ?_
 ext
 rw [decide_eq_true hin]
 ext
 with_reducible refine zeN zai f1' (by simp) ?_
 ext
 with_reducible refine zeN zai f2' (Nat.lt_of_le_of_lt (zhp (Nat.le_refl 0)) (by decide)) ?_
 ext
 with_reducible refine zeN zai f3' (Nat.lt_of_le_of_lt (zhp (zhp (Nat.le_refl 0))) (by decide)) ?_
 have f03:=(f1.trans f2).trans f3
 obtain ⟨_,lr⟩:=h3.fresh hr
 obtain ⟨h4,f4,ra,rS,_,_⟩:=zc3 (o:=.ins (He.ga K "Rule") []) h3 f03 hr
 obtain ⟨h5,f5,_,_⟩:=zhL (o:=.ins (He.ga K "Rule") (zeP "mode" (.str md) [])) (o':=.lst []) h4 f4 ra lr rS
 obtain ⟨h6,f6,_,_⟩:=zhL (o:=.ins (He.ga K "Rule") (zeP "cut" (.bl (decide (j=1))) (zeP "mode" (.str md) []))) (o':=.lst []) h5 f5 ra lr rS
 obtain ⟨h7,f7,_,_⟩:=zhL (o:=.ins (He.ga K "Rule") (zeP "inner" (.str inn) (zeP "cut" (.bl (decide (j=1))) (zeP "mode" (.str md) [])))) (o':=.lst []) h6 f6 ra lr rS
 exact ⟨rfl,hQ _ _ h7 f7⟩
theorem zmc (hQ:∀ p S',S p=none->S' p=some (.lst (kinds.map D.str))->Kp S S'->Q (.ref p) S'):zen K [] S Q E:=by
 refine zaH rfl ?_
 unfold ze9
 ext
 refine zdX (szl (by simp)) fun p hp=>?_
 exact hQ p _ hp zai (Kp.refl.new hp)
theorem law_ok (B:FBc K) (G:FPr K) (F:FRu K) (X:FEx K) {ns:List Int} (hn:ns.length≤63) (hQ:∀ S',Q (.bl true) S'):sp_law K [.rol (ns.map D.int)] S Q E:=by
 refine zaH rfl ?_
 unfold zpc
 ext
 refine zlx hn fun a l S1 h1=>?_
 ext
 refine zkE F h1 fun ru S2 h2 _=>?_
 ext
 refine zaG h2 (by decide) (by decide +kernel) fun sp S3 s0 s1 h3 _=>?_
 ext
 refine zaG h3 (by decide) (by decide +kernel) fun many S4 m0 m1 h4 _=>?_
 obtain ⟨many,rfl⟩:=Int.eq_ofNat_of_zero_le m0
 ext
 refine zmc fun ka S5 hka eka k5=>?_
 have h5:=h4.kp k5
 obtain ⟨kaa,_⟩:=h4.fresh hka
 clear h1 h2 h3 h4 k5 hka
 ext
 refine zaG h5 (by decide) (by decide +kernel) fun j S6 j0 j1 h6 f6=>?_
 have eka:=f6 _ _ kaa eka
 ext
 obtain ⟨kd,hkd,ek1⟩:∃ kd,kd∈kinds∧L2.atI (kinds.map D.str) j=some (.str kd):=by
  obtain ⟨j,rfl⟩:=Int.eq_ofNat_of_zero_le j0
  have hj:j < kinds.length:=by show j < 6;omega
  exact ⟨kinds[j],List.getElem_mem hj,atI_nat (by rw [List.getElem?_map,List.getElem?_eq_getElem hj];rfl)⟩
 refine zis eka ek1 ?_
 ext
 refine zaG h6 (by decide) (by decide +kernel) fun j2 S7 j20 j21 h7 f7=>?_
 have eka:=f7 _ _ kaa eka
 ext
 obtain ⟨kw,hkw,ek2⟩:∃ kd,kd∈kinds∧L2.atI (kinds.map D.str) j2=some (.str kd):=by
  obtain ⟨j2,rfl⟩:=Int.eq_ofNat_of_zero_le j20
  have hj:j2 < kinds.length:=by show j2 < 6;omega
  exact ⟨kinds[j2],List.getElem_mem hj,atI_nat (by rw [List.getElem?_map,List.getElem?_eq_getElem hj];rfl)⟩
 refine zis eka ek2 ?_
 ext
 have hs:kw.length≤8∧kw++("s" : Str)∉kinds:=by
  simp only [kinds,List.mem_cons,List.not_mem_nil,or_false] at hkw
  rcases hkw with rfl | rfl | rfl | rfl | rfl | rfl <;> exact ⟨by decide +kernel,by decide +kernel⟩
 have ls1:Str.length "s" = 1:=by decide +kernel
 have ls8:=hs.1
 refine zkw (szl (by omega)) ?_
 clear ls1 ls8
 obtain ⟨wk,ewk,hwk⟩:∃ wk,wk=kw++("s" : Str)∧wk∉kinds:=⟨_,rfl,hs.2⟩
 rw [← ewk]
 clear ewk hs hkw ek2 ek1 f6 f7 h5 h6
 ext
 with_reducible refine zaL (szl (by simp)) ?_
 ext
 refine zlZ h7 (by decide) (by decide) (by decide) (by decide) (by decide) (by decide) (by decide) (by decide) (by decide) (by decide) fun x slots S8 fx P sl3 hcnt h8 f8=>?_
 have eka:=f8 _ _ kaa eka
 ext
 refine zj0 B G P fun o S9 ho eo k9=>?_
 have h9:=h8.kp k9
 have eka:=k9 _ _ eka
 obtain ⟨oa,_⟩:=h8.fresh ho
 ext
 refine zcE P fun ra S10 hra era k10=>?_
 have h10:=h9.kp k10
 obtain ⟨raa,_⟩:=h9.fresh hra
 have eka:=k10 _ _ eka
 have eo:=k10 _ _ eo
 have hall:x.changes.length≤400:=by
  have h:=zje (f:=ziW) zlj x.pths
  have:=zi8 P
  unfold Parts.changes
  omega
 ext
 refine zlh h10 era raa (by omega) hall fun ca S11 chs hca caa eca hcl hin hnd h11 f11=>?_
 have nd:=hnd (zkc x)
 have eka:=f11 _ _ kaa eka
 have eo:=f11 _ _ oa eo
 have hl12:chs.length≤12:=by omega
 clear h7 h8 h9 h10 f8 f11 k9 k10 era hcnt hnd ho hra
 ext
 rw [List.length_map]
 refine zaG h11 (by omega) (zbw (by omega) (by omega)) fun at_ S12 a0 a1 h12 f12=>?_
 obtain ⟨at_,rfl⟩:=Int.eq_ofNat_of_zero_le a0
 have hat:at_≤chs.length:=by omega
 have eka:=f12 _ _ kaa eka
 have eo:=f12 _ _ oa eo
 have eca:=f12 _ _ caa eca
 have ct:DL.cutD (chs.map chD) none (some (at_:Int))=(chs.take at_).map chD:=by rw [zef,List.map_take]
 have cd:DL.cutD (chs.map chD) (some (at_:Int)) none=(chs.drop at_).map chD:=by rw [ziS,List.map_drop]
 have l1:((chs.take at_).map chD).length≤100:=by simp;omega
 have l2:((chs.drop at_).map chD).length≤100:=by simp;omega
 clear h11 f12
 walk_at "dmn"
 with_reducible refine zi1 (fun env S'=>∃ (cb:Addr) (x12:Option D) (pre:List Ch) (d:D) (r:List D),env=[some (.rol (ns.map D.int)),some (.ref a),some ru,some (.int sp),some (.int (many:Nat)),some (.ref ka),some (.str kd),some (.str wk),some x.d,some (.ref o),some (.ref cb),some (.int (at_:Nat)),x12,none]∧S' cb=some (.lst (pre.map chD++d :: r))∧StA ns a l S'∧S' ka=some (.lst (kinds.map D.str))∧S' o=some (zd5 K x)∧(∀ h∈pre,h∈x.changes)∧(pre.map Ch.key).Nodup∧pre.length≤13∧r.length≤13∧(∀ d'∈r,∃ h,h∈x.changes∧d'=chD h)∧Bad x S' pre d∧zlr x S' pre d) ?_ ?_
 ·rintro _ S13 ⟨cb,x12,pre,d,r,rfl,ecb,h13,eka,eo,hpre,ndp,hl13,hr13,hrr,hb,hb2⟩
  obtain ⟨qs,d',r',eq,hq8,hqin,ndq,hqb,hqb2,hqr⟩:∃ (qs:List Ch) (d':D) (r':List D),pre.map chD++d :: r=qs.map chD++d' :: r'∧qs.length≤8∧(∀ h∈qs,h∈x.changes)∧(qs.map Ch.key).Nodup∧(qs.length=8 ∨ Bad x S13 qs d')∧(qs.length=8 ∨ zlr x S13 qs d')∧r'.length≤100:=by
   by_cases h8:pre.length≤8
   ·exact ⟨pre,d,r,rfl,h8,hpre,ndp,.inr hb,.inr hb2,by omega⟩
   ·have h9:8 < pre.length:=by omega
    refine ⟨pre.take 8,chD pre[8],(pre.drop 9).map chD++d :: r,?_,by rw [List.length_take];omega,fun h hh=>hpre h (List.mem_of_mem_take hh),?_,.inl (by rw [List.length_take];omega),.inl (by rw [List.length_take];omega),by simp;omega⟩
    ·have e:pre=pre.take 8++pre[8] :: pre.drop 9:=by
      conv=>lhs;rw [← List.take_append_drop 8 pre]
      rw [List.drop_eq_getElem_cons h9]
     conv=>lhs;rw [e]
     rw [List.map_append,List.map_cons,List.append_assoc,List.cons_append]
    ·rw [List.map_take]
     exact (List.take_sublist _ _).nodup ndp
  rw [eq] at ecb
  ext
  refine ziu X hwk ?_
  ext
  with_reducible refine zaL (szl (by simp)) ?_
  ext
  refine (Enc.pair zeZ zeZ false).eqv (z:=(("kind" : Str),wk)) (y:=(("kind" : Str),wk)) (by decide) ?_
  rw [decide_eq_true rfl]
  ext
  refine zhQ ecb fun lc hlc=>?_
  have kl:Kp S13 (DL.put S13 lc (.lst (qs.map chD++d' :: r'))):=Kp.refl.new hlc
  have elc:DL.put S13 lc (.lst (qs.map chD++d' :: r')) lc=some (.lst (qs.map chD++d' :: r')):=zai
  generalize DL.put S13 lc (.lst (qs.map chD++d' :: r'))=S14 at kl elc ⊢
  have ecb:=kl _ _ ecb
  have eo:=kl _ _ eo
  have eka:=kl _ _ eka
  have h14:=h13.kp kl
  have hqb:qs.length=8 ∨ Bad x S14 qs d':=hqb.imp id fun h=>h.imp (fun z=>z.kp kl) id
  have hqb2:qs.length=8 ∨ zlr x S14 qs d':=hqb2.imp id fun h=>h.kp kl
  ext
  refine zjY X G P eo hkd (.inr ⟨lc,rfl,elc⟩) (fun h hh=>zhf h (hqin h hh)) hq8 ndq hqb fun S15 k15=>?_
  have ecb:=k15 _ _ ecb
  have eka:=k15 _ _ eka
  have h15:=h14.kp k15
  have hqb2:qs.length=8 ∨ zlr x S15 qs d':=hqb2.imp id fun h=>h.kp k15
  ext
  refine ziK P ecb hqr hqin hq8 ndq hqb2 fun S16 k16=>?_
  have eka:=k16 _ _ eka
  have h16:=h15.kp k16
  ext
  with_reducible refine zaL (szl (by simp)) ?_
  ext
  refine (Enc.pair zeZ zlc false).eqv (z:=(("change" : Str),qs.length)) (y:=(("change" : Str),qs.length)) (by decide) ?_
  rw [decide_eq_true rfl]
  ext
  refine zaG h16 (by decide) (by decide +kernel) fun pl S17 q0 q1 h17 f17=>?_
  obtain ⟨pl,rfl⟩:=Int.eq_ofNat_of_zero_le q0
  have eka:=f17 _ _ kaa eka
  ext
  have ct2:DL.cutD (kinds.map D.str) none (some (pl:Int))=(kinds.take pl).map D.str:=by rw [zef,List.map_take]
  have cd2:DL.cutD (kinds.map D.str) (some (pl:Int)) none=(kinds.drop pl).map D.str:=by rw [ziS,List.map_drop]
  have kl6:kinds.length=6:=rfl
  refine zgI eka fun q1 hq1=>?_
  rw [ct2]
  have g1:DL.put S17 q1 (.lst ((kinds.take pl).map D.str)) q1=some (.lst ((kinds.take pl).map D.str)):=zai
  have v1:Kp S17 (DL.put S17 q1 (.lst ((kinds.take pl).map D.str))):=Kp.refl.new hq1
  generalize DL.put S17 q1 (.lst ((kinds.take pl).map D.str))=U1 at g1 v1 ⊢
  have eka:=v1 _ _ eka
  ext
  refine zdX (szl (by simp)) fun q2 hq2=>?_
  have g2:DL.put U1 q2 (.lst [.str wk,.str "other"]) q2=some (.lst [.str wk,.str "other"]):=zai
  have v2:Kp U1 (DL.put U1 q2 (.lst [.str wk,.str "other"])):=Kp.refl.new hq2
  generalize DL.put U1 q2 (.lst [.str wk,.str "other"])=U2 at g2 v2 ⊢
  have eka:=v2 _ _ eka
  have g1:=v2 _ _ g1
  ext
  refine zdN g1 g2 (by simp;exact szl (by omega)) fun q3 hq3=>?_
  have g3:DL.put U2 q3 (.lst ((kinds.take pl).map D.str++[.str wk,.str "other"])) q3=some (.lst ((kinds.take pl).map D.str++[.str wk,.str "other"])):=zai
  have v3:Kp U2 (DL.put U2 q3 (.lst ((kinds.take pl).map D.str++[.str wk,.str "other"]))):=Kp.refl.new hq3
  generalize DL.put U2 q3 (.lst ((kinds.take pl).map D.str++[.str wk,.str "other"]))=U3 at g3 v3 ⊢
  have eka:=v3 _ _ eka
  ext
  refine zgI eka fun q4 hq4=>?_
  rw [cd2]
  have g4:DL.put U3 q4 (.lst ((kinds.drop pl).map D.str)) q4=some (.lst ((kinds.drop pl).map D.str)):=zai
  have v4:Kp U3 (DL.put U3 q4 (.lst ((kinds.drop pl).map D.str))):=Kp.refl.new hq4
  generalize DL.put U3 q4 (.lst ((kinds.drop pl).map D.str))=U4 at g4 v4 ⊢
  have g3:=v4 _ _ g3
  ext
  refine zdN g3 g4 (by simp;exact szl (by omega)) fun q5 hq5=>?_
  have g5:DL.put U4 q5 (.lst ((kinds.take pl).map D.str++[.str wk,.str "other"]++(kinds.drop pl).map D.str)) q5=some (.lst ((kinds.take pl++wk :: ("other" :: kinds.drop pl)).map D.str)):=by rw [zai];simp
  generalize DL.put U4 q5 (.lst ((kinds.take pl).map D.str++[.str wk,.str "other"]++(kinds.drop pl).map D.str))=U5 at g5 ⊢
  ext
  refine zhR X (pre:=kinds.take pl) (post := "other" :: kinds.drop pl) (fun k hk=>List.mem_of_mem_take hk) (by rw [List.length_take];omega) hwk g5 ?_
  ext
  rw [decide_eq_true rfl]
  exact hQ _
 ·intro nx hnx
  by_cases h0:sp=0
  ·subst h0
   ext
   refine zeD h12 P fun d T0 hno hrd hT f0 hda=>?_
   have eka:=f0 _ _ kaa eka
   have eo:=f0 _ _ oa eo
   have eca:=f0 _ _ caa eca
   ext
   refine zcE P fun ra0 T0' hra0 er0 k0=>?_
   have hT:=hT.kp k0
   have hno:=hno.kp k0
   have hrd:=hrd.kp k0
   have eka:=k0 _ _ eka
   have eo:=k0 _ _ eo
   have eca:=k0 _ _ eca
   obtain ⟨pd,hpd⟩:=hrd.rs (m:=40) (by decide)
   ext
   refine zid er0 hpd ?_
   cases hin2:isIn x pd with
   | true=>
    ext
    exact hQ _
   | false=>
    have hb2:zlr x T0' (chs.take at_) d:=.inl ⟨pd,hpd,hin2⟩
    ext
    refine zgI eca fun p1 hp1=>?_
    rw [ct]
    have e1:DL.put T0' p1 (.lst ((chs.take at_).map chD)) p1=some (.lst ((chs.take at_).map chD)):=zai
    have k1:Kp T0' (DL.put T0' p1 (.lst ((chs.take at_).map chD))):=Kp.refl.new hp1
    obtain ⟨p1a,_⟩:=hT.fresh hp1
    generalize DL.put T0' p1 (.lst ((chs.take at_).map chD))=T1 at e1 k1 ⊢
    have hT:=hT.kp k1
    have eca:=k1 _ _ eca
    have eka:=k1 _ _ eka
    have eo:=k1 _ _ eo
    have hno:=hno.kp k1
    have hb2:=hb2.kp k1
    ext
    with_reducible refine zdX (szl (by simp)) fun p2 hp2=>?_
    have e2:DL.put T1 p2 (.lst [d]) p2=some (.lst [d]):=zai
    have k2:Kp T1 (DL.put T1 p2 (.lst [d])):=Kp.refl.new hp2
    have e12:=k2 _ _ e1
    generalize DL.put T1 p2 (.lst [d])=T2 at e2 k2 e12 ⊢
    have hT:=hT.kp k2
    have eca:=k2 _ _ eca
    have eka:=k2 _ _ eka
    have eo:=k2 _ _ eo
    have hno:=hno.kp k2
    have hb2:=hb2.kp k2
    ext
    refine zdN e12 e2 (szl (by rw [List.length_singleton];omega)) fun p3 hp3=>?_
    have e3:DL.put T2 p3 (.lst ((chs.take at_).map chD++[d])) p3=some (.lst ((chs.take at_).map chD++[d])):=zai
    have k3:Kp T2 (DL.put T2 p3 (.lst ((chs.take at_).map chD++[d]))):=Kp.refl.new hp3
    generalize DL.put T2 p3 (.lst ((chs.take at_).map chD++[d]))=T3 at e3 k3 ⊢
    have hT:=hT.kp k3
    have eca:=k3 _ _ eca
    have eka:=k3 _ _ eka
    have eo:=k3 _ _ eo
    have hno:=hno.kp k3
    have hb2:=hb2.kp k3
    ext
    refine zgI eca fun p4 hp4=>?_
    rw [cd]
    have e4:DL.put T3 p4 (.lst ((chs.drop at_).map chD)) p4=some (.lst ((chs.drop at_).map chD)):=zai
    have k4:Kp T3 (DL.put T3 p4 (.lst ((chs.drop at_).map chD))):=Kp.refl.new hp4
    have e34:=k4 _ _ e3
    generalize DL.put T3 p4 (.lst ((chs.drop at_).map chD))=T4 at e4 k4 e34 ⊢
    have hT:=hT.kp k4
    have eka:=k4 _ _ eka
    have eo:=k4 _ _ eo
    have hno:=hno.kp k4
    have hb2:=hb2.kp k4
    ext
    refine zdN e34 e4 (szl (by rw [List.length_append,List.length_singleton];omega)) fun p5 hp5=>?_
    have e5:DL.put T4 p5 (.lst ((chs.take at_).map chD++[d]++(chs.drop at_).map chD)) p5=some (.lst ((chs.take at_).map chD++d :: (chs.drop at_).map chD)):=by rw [zai];simp
    have k5:Kp T4 (DL.put T4 p5 (.lst ((chs.take at_).map chD++[d]++(chs.drop at_).map chD))):=Kp.refl.new hp5
    obtain ⟨p5a,_⟩:=hT.fresh hp5
    generalize DL.put T4 p5 (.lst ((chs.take at_).map chD++[d]++(chs.drop at_).map chD))=T5 at e5 k5 ⊢
    have hT:=hT.kp k5
    have eka:=k5 _ _ eka
    have eo:=k5 _ _ eo
    have hno:=hno.kp k5
    have hb2:=hb2.kp k5
    ext
    exact hnx _ _ ⟨p5,_,chs.take at_,d,(chs.drop at_).map chD,rfl,e5,hT,eka,eo,fun h hh=>hin h (List.mem_of_mem_take hh),by rw [List.map_take];exact (List.take_sublist _ _).nodup nd,by rw [List.length_take];omega,by rw [List.length_map,List.length_drop];omega,fun d' hd'=>(by obtain ⟨h,hh,rfl⟩:=List.mem_map.mp hd';exact ⟨h,hin h (List.mem_of_mem_drop hh),rfl⟩),.inl hno,hb2⟩
  ·by_cases hl0:chs.length=0
   ·have hl0':((chs.map chD).length:Int)=0:=by rw [List.length_map];omega
    ext
    with_reducible refine zeq (fun _=>?_) (fun h=>absurd hl0' h)
    ext
    refine zeD h12 P fun d T0 hno hrd hT f0 hda=>?_
    have eka:=f0 _ _ kaa eka
    have eo:=f0 _ _ oa eo
    have eca:=f0 _ _ caa eca
    ext
    refine zcE P fun ra0 T0' hra0 er0 k0=>?_
    have hT:=hT.kp k0
    have hno:=hno.kp k0
    have hrd:=hrd.kp k0
    have eka:=k0 _ _ eka
    have eo:=k0 _ _ eo
    have eca:=k0 _ _ eca
    obtain ⟨pd,hpd⟩:=hrd.rs (m:=40) (by decide)
    ext
    refine zid er0 hpd ?_
    cases hin2:isIn x pd with
    | true=>
     ext
     exact hQ _
    | false=>
     have hb2:zlr x T0' (chs.take at_) d:=.inl ⟨pd,hpd,hin2⟩
     ext
     refine zgI eca fun p1 hp1=>?_
     rw [ct]
     have e1:DL.put T0' p1 (.lst ((chs.take at_).map chD)) p1=some (.lst ((chs.take at_).map chD)):=zai
     have k1:Kp T0' (DL.put T0' p1 (.lst ((chs.take at_).map chD))):=Kp.refl.new hp1
     obtain ⟨p1a,_⟩:=hT.fresh hp1
     generalize DL.put T0' p1 (.lst ((chs.take at_).map chD))=T1 at e1 k1 ⊢
     have hT:=hT.kp k1
     have eca:=k1 _ _ eca
     have eka:=k1 _ _ eka
     have eo:=k1 _ _ eo
     have hno:=hno.kp k1
     have hb2:=hb2.kp k1
     ext
     with_reducible refine zdX (szl (by simp)) fun p2 hp2=>?_
     have e2:DL.put T1 p2 (.lst [d]) p2=some (.lst [d]):=zai
     have k2:Kp T1 (DL.put T1 p2 (.lst [d])):=Kp.refl.new hp2
     have e12:=k2 _ _ e1
     generalize DL.put T1 p2 (.lst [d])=T2 at e2 k2 e12 ⊢
     have hT:=hT.kp k2
     have eca:=k2 _ _ eca
     have eka:=k2 _ _ eka
     have eo:=k2 _ _ eo
     have hno:=hno.kp k2
     have hb2:=hb2.kp k2
     ext
     refine zdN e12 e2 (szl (by rw [List.length_singleton];omega)) fun p3 hp3=>?_
     have e3:DL.put T2 p3 (.lst ((chs.take at_).map chD++[d])) p3=some (.lst ((chs.take at_).map chD++[d])):=zai
     have k3:Kp T2 (DL.put T2 p3 (.lst ((chs.take at_).map chD++[d]))):=Kp.refl.new hp3
     generalize DL.put T2 p3 (.lst ((chs.take at_).map chD++[d]))=T3 at e3 k3 ⊢
     have hT:=hT.kp k3
     have eca:=k3 _ _ eca
     have eka:=k3 _ _ eka
     have eo:=k3 _ _ eo
     have hno:=hno.kp k3
     have hb2:=hb2.kp k3
     ext
     refine zgI eca fun p4 hp4=>?_
     rw [cd]
     have e4:DL.put T3 p4 (.lst ((chs.drop at_).map chD)) p4=some (.lst ((chs.drop at_).map chD)):=zai
     have k4:Kp T3 (DL.put T3 p4 (.lst ((chs.drop at_).map chD))):=Kp.refl.new hp4
     have e34:=k4 _ _ e3
     generalize DL.put T3 p4 (.lst ((chs.drop at_).map chD))=T4 at e4 k4 e34 ⊢
     have hT:=hT.kp k4
     have eka:=k4 _ _ eka
     have eo:=k4 _ _ eo
     have hno:=hno.kp k4
     have hb2:=hb2.kp k4
     ext
     refine zdN e34 e4 (szl (by rw [List.length_append,List.length_singleton];omega)) fun p5 hp5=>?_
     have e5:DL.put T4 p5 (.lst ((chs.take at_).map chD++[d]++(chs.drop at_).map chD)) p5=some (.lst ((chs.take at_).map chD++d :: (chs.drop at_).map chD)):=by rw [zai];simp
     have k5:Kp T4 (DL.put T4 p5 (.lst ((chs.take at_).map chD++[d]++(chs.drop at_).map chD))):=Kp.refl.new hp5
     obtain ⟨p5a,_⟩:=hT.fresh hp5
     generalize DL.put T4 p5 (.lst ((chs.take at_).map chD++[d]++(chs.drop at_).map chD))=T5 at e5 k5 ⊢
     have hT:=hT.kp k5
     have eka:=k5 _ _ eka
     have eo:=k5 _ _ eo
     have hno:=hno.kp k5
     have hb2:=hb2.kp k5
     ext
     exact hnx _ _ ⟨p5,_,chs.take at_,d,(chs.drop at_).map chD,rfl,e5,hT,eka,eo,fun h hh=>hin h (List.mem_of_mem_take hh),by rw [List.map_take];exact (List.take_sublist _ _).nodup nd,by rw [List.length_take];omega,by rw [List.length_map,List.length_drop];omega,fun d' hd'=>(by obtain ⟨h,hh,rfl⟩:=List.mem_map.mp hd';exact ⟨h,hin h (List.mem_of_mem_drop hh),rfl⟩),.inl hno,hb2⟩
   ·have hl0':¬ ((chs.map chD).length:Int)=0:=by rw [List.length_map];omega
    ext
    with_reducible refine zeq (fun h=>absurd h hl0') (fun _=>?_)
    ext
    refine zgI eca fun p1 hp1=>?_
    rw [ct]
    have e1:DL.put S12 p1 (.lst ((chs.take at_).map chD)) p1=some (.lst ((chs.take at_).map chD)):=zai
    have k1:Kp S12 (DL.put S12 p1 (.lst ((chs.take at_).map chD))):=Kp.refl.new hp1
    obtain ⟨p1a,_⟩:=h12.fresh hp1
    generalize DL.put S12 p1 (.lst ((chs.take at_).map chD))=T1 at e1 k1 ⊢
    have hT:=h12.kp k1
    have eca:=k1 _ _ eca
    have eka:=k1 _ _ eka
    have eo:=k1 _ _ eo
    ext
    rw [List.length_map]
    refine zaG hT (by omega) (zbw (by omega) (by omega)) fun jj T1' jj0 jj1 hT' f1'=>?_
    obtain ⟨jj,rfl⟩:=Int.eq_ofNat_of_zero_le jj0
    have eka:=f1' _ _ kaa eka
    have eo:=f1' _ _ oa eo
    have eca:=f1' _ _ caa eca
    have e1:=f1' _ _ p1a e1
    have hT:=hT'
    have hjl:jj < chs.length:=by omega
    have ejj:(chs.map chD)[jj]? = some (chD chs[jj]):=by rw [List.getElem?_map,List.getElem?_eq_getElem hjl];rfl
    refine zis eca (atI_nat ejj) ?_
    ext
    with_reducible refine zdX (szl (by simp)) fun p2 hp2=>?_
    have e2:DL.put T1' p2 (.lst [chD chs[jj]]) p2=some (.lst [chD chs[jj]]):=zai
    have k2:Kp T1' (DL.put T1' p2 (.lst [chD chs[jj]])):=Kp.refl.new hp2
    have e12:=k2 _ _ e1
    generalize DL.put T1' p2 (.lst [chD chs[jj]])=T2 at e2 k2 e12 ⊢
    have hT:=hT.kp k2
    have eca:=k2 _ _ eca
    have eka:=k2 _ _ eka
    have eo:=k2 _ _ eo
    ext
    refine zdN e12 e2 (szl (by rw [List.length_singleton];omega)) fun p3 hp3=>?_
    have e3:DL.put T2 p3 (.lst ((chs.take at_).map chD++[chD chs[jj]])) p3=some (.lst ((chs.take at_).map chD++[chD chs[jj]])):=zai
    have k3:Kp T2 (DL.put T2 p3 (.lst ((chs.take at_).map chD++[chD chs[jj]]))):=Kp.refl.new hp3
    generalize DL.put T2 p3 (.lst ((chs.take at_).map chD++[chD chs[jj]]))=T3 at e3 k3 ⊢
    have hT:=hT.kp k3
    have eca:=k3 _ _ eca
    have eka:=k3 _ _ eka
    have eo:=k3 _ _ eo
    ext
    refine zgI eca fun p4 hp4=>?_
    rw [cd]
    have e4:DL.put T3 p4 (.lst ((chs.drop at_).map chD)) p4=some (.lst ((chs.drop at_).map chD)):=zai
    have k4:Kp T3 (DL.put T3 p4 (.lst ((chs.drop at_).map chD))):=Kp.refl.new hp4
    have e34:=k4 _ _ e3
    generalize DL.put T3 p4 (.lst ((chs.drop at_).map chD))=T4 at e4 k4 e34 ⊢
    have hT:=hT.kp k4
    have eka:=k4 _ _ eka
    have eo:=k4 _ _ eo
    ext
    refine zdN e34 e4 (szl (by rw [List.length_append,List.length_singleton];omega)) fun p5 hp5=>?_
    have e5:DL.put T4 p5 (.lst ((chs.take at_).map chD++[chD chs[jj]]++(chs.drop at_).map chD)) p5=some (.lst ((chs.take at_).map chD++chD chs[jj] :: (chs.drop at_).map chD)):=by rw [zai];simp
    have k5:Kp T4 (DL.put T4 p5 (.lst ((chs.take at_).map chD++[chD chs[jj]]++(chs.drop at_).map chD))):=Kp.refl.new hp5
    obtain ⟨p5a,_⟩:=hT.fresh hp5
    generalize DL.put T4 p5 (.lst ((chs.take at_).map chD++[chD chs[jj]]++(chs.drop at_).map chD))=T5 at e5 k5 ⊢
    have hT:=hT.kp k5
    have eka:=k5 _ _ eka
    have eo:=k5 _ _ eo
    ext
    obtain ⟨pre,post,epp,ndp,hkp,hpc,hpl⟩:=zj8 (at_:=at_) nd hjl
    have hm:=hin _ (List.getElem_mem hjl)
    have eL:(chs.take at_).map chD++chD chs[jj] :: (chs.drop at_).map chD=pre.map chD++chD chs[jj] :: post.map chD:=by
     have:=congrArg (List.map chD) epp
     rw [List.map_append,List.map_append,List.map_cons,List.map_cons] at this
     exact this
    have eLl:chs.length+1=pre.length+1+post.length:=by
     have:=congrArg List.length epp
     rw [List.length_append,List.length_append,List.length_cons,List.length_cons,List.length_take,List.length_drop] at this
     omega
    have hpost:∀ h∈post,h∈chs:=fun h hh=>by
     have:h∈pre++chs[jj] :: post:=List.mem_append_right _ (List.mem_cons_of_mem _ hh)
     rw [← epp] at this
     rcases List.mem_append.mp this with q | q
     ·exact List.mem_of_mem_take q
     ·rcases List.mem_cons.mp q with q | q
      ·rw [q];exact List.getElem_mem hjl
      ·exact List.mem_of_mem_drop q
    rw [eL] at e5
    exact hnx _ _ ⟨p5,_,pre,chD chs[jj],post.map chD,rfl,e5,hT,eka,eo,fun h hh=>hin h (hpc h hh),ndp,by omega,by rw [List.length_map];omega,fun d' hd'=>(by obtain ⟨h,hh,rfl⟩:=List.mem_map.mp hd';exact ⟨h,hin h (hpost h hh),rfl⟩),.inr ⟨chs[jj],zhf _ hm,rfl,hkp⟩,.inr ⟨chs[jj],hm,rfl,hkp⟩⟩
end
abbrev TT (w:World) (K:PySem.W.Frag) (mg:Str->Option Value):Prop:=Tu fac fns zcb PG_.main.file zcF tabs eqs gts prs sqs nos isl w K mg
theorem fbc {w:World} {K:PySem.W.Frag} {mg:Str->Option Value} (T:TT w K mg):FBc K:=⟨⟨T.cls 73,T.noat 74⟩,⟨T.cls 73,T.noat 75⟩,⟨T.cls 73,T.noat 76⟩,⟨T.cls 73,T.noat 77⟩⟩
theorem fpr {w:World} {K:PySem.W.Frag} {mg:Str->Option Value} (T:TT w K mg):FPr K:=⟨⟨T.cls 78,T.noat 79⟩,⟨T.cls 78,T.noat 80⟩,⟨T.cls 78,T.noat 81⟩,⟨T.cls 78,T.noat 82⟩⟩
theorem fru {w:World} {K:PySem.W.Frag} {mg:Str->Option Value} (T:TT w K mg):FRu K:=⟨⟨T.cls 84,T.noat 85⟩,⟨T.cls 84,T.noat 86⟩,⟨T.cls 84,T.noat 87⟩⟩
theorem xfex {w:World} {K:PySem.W.Frag} {mg:Str->Option Value} (T:TT w K mg):FEx K:=⟨T.exm 88,T.exm 91,T.exm 89,T.exm 90⟩
end K79
set_option maxHeartbeats 0
theorem PySem.Challenge.cw_toldonward_k79_healing_refusals_holds : PySem.Challenge.rw_toldonward_k79_healing_refusals.Holds := by
 refine K79.ends ?_
 refine DL.walk_of (l:=PySem.Challenge.rw_toldonward_k79_healing_refusals) (n:=63) (k:=24) (x := "_law_script") rfl (by decide) (by kernel_rfl) ⟨rfl,by decide,by decide⟩ ?F
 intro w mg fa h Y G hmg0
 obtain ⟨K,KX,c⟩:=Y
 have hmg:mg ("law" : PySem.Str)=some (.ref fa):=by
  have e:(HandSHeadRun.topDef (OpenLaw.row PySem.Challenge.rw_toldonward_k79_healing_refusals).prog 107).name=("law" : PySem.Str):=by kernel_rfl
  rw [← e]
  exact hmg0
 obtain ⟨T,fd,hb,hF⟩:=K79.facts (w:=w) KX G hmg c
 exact ⟨K,fd,K79.sp_law K,KX,hb,fun ns hn S Q E hQ=>K79.law_ok (K79.fbc (w:=w) T) (K79.fpr (w:=w) T) (K79.fru (w:=w) T) (K79.xfex (w:=w) T) hn hQ,fun base=>hF base⟩
