import PyProof.Rows.All
import Wide.All
import OpenK.AllK
import Wide.FinOn
import HandS.ForMost
import HandS.ForExc
import HandS.Walk
import HandS.TupAny
import HandS.Wide
import HandS.SetKeys
import KE.KDictKeyed
import HandS.Deep
import HandS.TupLe
import HandS.Style
import HandS.IsInst
import HandS.ReCall
import HandS.More
import HandS.Zip
import HandS.ExcInit
import HandS.ExcField
import HandS.TryMany
import HandS.Defaults
import HandS.WordsExc
import HandS.Comp
import HandS.DictComp
import KE.GoesEnumKw
import HandS.Head0
import HandS.Head1
import HandS.Head2
import HandS.HeadEnd
import HandS.HeadHook1
import HandS.HeadHook2
import KE.KSuper
import HandS.ReplaceDef
import HandS.List
import HandS.Strs
import HandS.Conv
import HandS.Iter
import HandS.TryOnly
import HandS.HeadHook3
import HandS.OwnEq
import PyProof.InstNe
import HandS.WideBits
import HandS.NoneIn
import PyProof.SeqRoads2
import HandS.SetFor
import HandS.MakeKwOnly
import HandS.CallSlots
import HandS.NamedTupGet
import HandS.Property
import HandS.HeadNt
import KE.KOpsOwn
import HandS.Small
import HandS.ExcIs
import PyProof.ExcBaseAll.ValueError
import KE.KListMore
import PyProof.Rows.SeqRoads
import HandS.Replace
import HandS.Nested
import HandS.EndTab
import HandS.HeadHook4
import PyProof.ListCopy
import PyProof.Rows.SortStr
import PySem.Challenge.RW_toldonward_k06_whole_runs_reach_reasons
import KE.KStateDown
import Lean
set_option Elab.async false
set_option linter.all false
set_option maxRecDepth 100000
set_option maxHeartbeats 4000000
namespace DL
open PySem L2
inductive D where
 | non | bl (b:Bool) | int (i:Int) | str (x:Str) | tp (f:Bool) (xs:List D) | rol (xs:List D) | ref (a:Addr) | ty (n:String) | rod (ks:List (List Key)) (xs:List D)
section
variable {κ:Type} [DecidableEq κ]
def valD (kvs:List (κ×D)) (k:κ):Option D:=(kvs.find? fun kv=>decide (kv.1=k)).map (·.2)
variable {K:PySem.W.Frag} {H:Hp} {ds:List (κ×D)} {vs:List (κ×V)}
end
open PySem PySem.Spec PyProof.Rows L2
structure Tx (fa:List He.Fa) (fn:List He.DefD) (K:PySem.W.Frag) (mg:Str->Option Value):Prop where
 ex:∃ h:Heap,K.In h∧h.Ns mainGlobals mg∧He.SaysD fa fn K
section
variable {fa:List He.Fa} {fn:List He.DefD} {K:PySem.W.Frag} {mg:Str->Option Value}
theorem Tx.glo (T:Tx fa fn K mg) (i:Nat) {x:Str} (h:fa[i]? = some (.glo x):=by rfl):mg x=some (.ref (He.ga K x)):=by
 obtain ⟨_,X,G,c⟩:=T.ex
 exact He.glo_ok X G (c.fact i h)
theorem Tx.free (T:Tx fa fn K mg) (i:Nat) {x:Str} (h:fa[i]? = some (.free x):=by rfl):mg x=none:=by
 obtain ⟨_,X,G,c⟩:=T.ex
 exact He.free_ok X G (c.fact i h)
theorem Tx.int (T:Tx fa fn K mg) (i:Nat) {x:Str} {n:Int} (h:fa[i]? = some (.int x n):=by rfl):∃ t,mg x=some (.int n t):=by
 obtain ⟨_,X,G,c⟩:=T.ex
 exact He.int_ok X G (c.fact i h)
theorem Tx.cls (T:Tx fa fn K mg) (i:Nat) {x:Str} (h:fa[i]? = some (.cls x):=by rfl):Cls K (He.ga K x):=by
 obtain ⟨_,X,G,c⟩:=T.ex
 exact He.cls_ok (c.fact i h)
theorem Tx.noat (T:Tx fa fn K mg) (i:Nat) {x f:Str} (h:fa[i]? = some (.noat x f):=by rfl):NoAttr K (He.ga K x) f:=by
 obtain ⟨_,X,G,c⟩:=T.ex
 exact He.noat_ok (c.fact i h)
theorem Tx.meth (T:Tx fa fn K mg) (i:Nat) {x m:Str} (h:fa[i]? = some (.meth x m):=by rfl):Meth K (He.ga K x) m (He.ma K (He.ga K x) m):=by
 obtain ⟨_,X,G,c⟩:=T.ex
 exact He.meth_ok (c.fact i h)
theorem Tx.mkr (T:Tx fa fn K mg) (i:Nat) {x:Str} (h:fa[i]? = some (.mkr x):=by rfl):Mk K (He.ga K x) (He.ma K (He.ga K x) "__init__"):=by
 obtain ⟨_,X,G,c⟩:=T.ex
 exact He.mkr_ok (c.fact i h)
end
abbrev SuW:Type:=Option (Str×Str×Arguments×FuncBody×Scope×Addr×Addr)
def suW (K:PySem.W.Frag) (f:Addr):SuW:=match K.lookup f with
 | some ⟨_,_,.func fd,_⟩=>some (fd.name,fd.qualname,fd.params,fd.body,fd.scope,fd.globals,fd.builtins)
 | _=>none
structure SuD where
 C:Str
 B:Str
 qual:Str
 params:Arguments
 body:List Stmt
 scope:Scope
def SuD.f (d:SuD) (K:PySem.W.Frag):Addr:=He.ma K (He.ga K d.C) "__init__"
def SuD.g (d:SuD) (K:PySem.W.Frag):Addr:=He.ma K (He.ga K d.B) "__init__"
def SuD.val (d:SuD):SuW:=some ("__init__", d.qual,d.params,.stmts d.body,d.scope,mainGlobals,builtinsNs)
def ztu (K:PySem.W.Frag) (cc C:Addr):Bool:=match K.lookup cc with
 | some ⟨_,_,.cell (some (.ref a)),_⟩=>decide (a=C)
 | _=>false
def ztg (file:Str) (K:PySem.W.Frag) (cda:Addr):Bool:=match K.lookup cda with
 | some ⟨_,_,.fields vs,_⟩=>(match (vs[2]?:Option Value) with
  | some (.str z _)=>decide (z=file)
  | _=>false)
 | _=>false
def zwX (file:Str) (K:PySem.W.Frag) (C:Addr) (q:Str) (f:Addr):Bool:=match K.lookup f with
 | some ⟨_,_,.func fd,_⟩=>(match fd.closure,fd.code,fd.defaults with
  | [(x,cc)],.ref cda,.none=>decide (x = "__class__") && (ztu K cc C && (PySem.W.codeIn K (.ref cda) q && ztg file K cda))
  | _,_,_=>false)
 | _=>false
def SuD.ok (file:Str) (K:PySem.W.Frag) (d:SuD):Bool:=PySem.W.keepIn K (.ref (d.f K)) && (zwX file K (He.ga K d.C) d.qual (d.f K) && ((PySem.W.clsIn K (He.ga K d.C)).isSome && (decide (PySem.W.mroIn K (He.ga K d.C) (.ref (He.ga K d.C))=some true) &&
 (He.eqO (PySem.W.nsIn K cStatics "thirdparty.any") (some none) && (He.eqO (PySem.W.ks_superIn K (He.ga K d.C) (He.ga K d.C) "__init__") (some (some (.ref (d.g K)))) && (PySem.W.isFn K (.ref (d.g K)) && PySem.W.fnIn K (d.g K)))))))
structure zBQ (file:Str) (K:PySem.W.Frag) (d:SuD):Prop where
 ex:∃ (oc:Value) (od:Option Addr) (kV doc pm:Value) (an:Option Addr) (ct:Value) (osl:Array (Option Value)) (cda cc:Addr) (c1:Value) (c2:Option Addr) (c3:Array (Option Value)) (x1:Value) (x2:Option Addr) (x3:Array (Option Value)) (fvs:Array Value) (tf:Tok) (cd:ClassData),
  K.lookup (d.f K)=some ⟨oc,od,.func (PySem.W.ksFn "__init__" d.qual d.params d.body d.scope .none kV doc pm an (.ref cda) ct cc),osl⟩∧PySem.W.codeIn K (.ref cda) d.qual=true∧K.lookup cda=some ⟨c1,c2,.fields fvs,c3⟩∧fvs[2]? = some (.str file tf)∧
  K.lookup cc=some ⟨x1,x2,.cell (some (.ref (He.ga K d.C))),x3⟩∧PySem.W.clsIn K (He.ga K d.C)=some cd
 kp:PySem.W.keepIn K (.ref (d.f K))=true
 sub:PySem.W.mroIn K (He.ga K d.C) (.ref (He.ga K d.C))=some true
 st:PySem.W.nsIn K cStatics "thirdparty.any" = some none
 hm:PySem.W.ks_superIn K (He.ga K d.C) (He.ga K d.C) "__init__" = some (some (.ref (d.g K)))
 ht:PySem.W.typeIn K (.ref (d.g K))=some (.type "function")
 hf:PySem.W.fnIn K (d.g K)=true
theorem zqF {K:PySem.W.Frag} {cc C:Addr} (h:ztu K cc C=true):∃ x1 x2 x3,K.lookup cc=some ⟨x1,x2,.cell (some (.ref C)),x3⟩:=by
 unfold ztu at h
 split at h
 ·rename_i x1 x2 a x3 e
  have:=of_decide_eq_true h
  subst this
  exact ⟨_,_,_,e⟩
 ·cases h
theorem zqz {file:Str} {K:PySem.W.Frag} {cda:Addr} (h:ztg file K cda=true):∃ c1 c2 c3 vs tf,K.lookup cda=some ⟨c1,c2,.fields vs,c3⟩∧vs[2]? = some (.str file tf):=by
 unfold ztg at h
 split at h
 ·rename_i c1 c2 vs c3 e
  split at h
  ·rename_i z tf e2
   have:=of_decide_eq_true h
   subst this
   exact ⟨_,_,_,_,_,e,e2⟩
  ·cases h
 ·cases h
theorem SuD.get {file:Str} {K:PySem.W.Frag} {d:SuD} (e:suW K (d.f K)=d.val) (c:d.ok file K=true):zBQ file K d:=by
 obtain ⟨k1,c⟩:=He.ba c
 obtain ⟨k2,c⟩:=He.ba c
 obtain ⟨k3,c⟩:=He.ba c
 obtain ⟨k4,c⟩:=He.ba c
 obtain ⟨k5,c⟩:=He.ba c
 obtain ⟨k6,c⟩:=He.ba c
 obtain ⟨k7,k8⟩:=He.ba c
 refine ⟨?_,k1,of_decide_eq_true k4,He.eqO_ok k5,He.eqO_ok k6,beq_iff_eq.mp k7,k8⟩
 obtain ⟨cd,hcd⟩:=Option.isSome_iff_exists.mp k3
 unfold zwX at k2
 unfold suW SuD.val at e
 split at k2
 ·rename_i oc od fd osl q
  rw [q] at e
  obtain ⟨n1,n2,n3,n4,n5,n6,n7,n8,n9,n10,n11,n12,n13,n14,n15⟩:=fd
  simp only [Option.some.injEq,Prod.mk.injEq] at e
  obtain ⟨h1,h2,h3,h4,h5,h6,h8⟩:=e
  subst h1 h2 h3 h4 h5 h6 h8
  dsimp only at k2
  split at k2
  ·rename_i x cc cda
   obtain ⟨j1,k2⟩:=He.ba k2
   obtain ⟨j2,k2⟩:=He.ba k2
   obtain ⟨j3,j4⟩:=He.ba k2
   have jx:=of_decide_eq_true j1
   subst jx
   obtain ⟨x1,x2,x3,ex⟩:=zqF j2
   obtain ⟨c1,c2,c3,vs,tf,ef,ev⟩:=zqz j4
   exact ⟨_,_,_,_,_,_,_,_,_,_,_,_,_,_,_,_,_,_,_,q,j3,ef,ev,ex,hcd⟩
  ·cases k2
 ·cases k2
abbrev AlS:Type:=He.AlD×Bool×List SuW
def zvX (fa:List He.Fa) (fn:List He.DefD) (su:List SuD) (file:Str) (K:PySem.W.Frag):AlS:=(He.obsD fa fn K,su.all fun d=>d.ok file K,su.map fun d=>suW K (d.f K))
def ztZ (fn:List He.DefD) (su:List SuD):AlS:=(He.valD fn,true,su.map SuD.val)
structure Ty (fa:List He.Fa) (fn:List He.DefD) (su:List SuD) (file:Str) (K:PySem.W.Frag) (mg:Str->Option Value):Prop extends Tx fa fn K mg where
 say:zvX fa fn su file K=ztZ fn su
theorem Ty.su {fa:List He.Fa} {fn:List He.DefD} {su:List SuD} {file:Str} {K:PySem.W.Frag} {mg:Str->Option Value} (T:Ty fa fn su file K mg) (i:Nat) {d:SuD} (h:su[i]? = some d:=by rfl):zBQ file K d:=by
 have c1:(su.all fun d=>d.ok file K)=true:=congrArg (fun z:AlS=>z.2.1) T.say
 have c2:(su.map fun d=>suW K (d.f K))=su.map SuD.val:=congrArg (fun z:AlS=>z.2.2) T.say
 have e2:(su.map fun d=>suW K (d.f K))[i]? = (su.map SuD.val)[i]?:=by rw [c2]
 rw [List.getElem?_map,List.getElem?_map,h] at e2
 exact SuD.get (Option.some.inj e2) (List.all_eq_true.mp c1 d (List.mem_of_getElem? h))
def zy9 (K:PySem.W.Frag) (C:Addr):Bool:=(match K.lookup C with
 | some ⟨.type t,_,.cls cd,sl⟩=>(match cd.mro,sl.toList with
  | .ref C' :: bm,[_,_,_,_,some (.builtin n),_]=>decide (t = "type") && (decide (C'=C) && (decide (n = "ValueError.__new__") && (!cd.hasDel && (cd.hasDict && PySem.HandSPX.refsVE bm))))
  | _,_=>false)
 | _=>false) && (He.eqO (PySem.W.findIn K (.ref C) "__setattr__") (some (some (.builtin "object.__setattr__"))) && (decide (PySem.W.subIn K (.ref C) (.type "BaseException")=some true) && (decide (PySem.W.typeIn K (.ref C)=some (.type "type")) && PySem.W.keepIn K (.ref C))))
def zBM (K:PySem.W.Frag) (x:Str):Bool:=zy9 K (He.ga K x) && xfB K (He.ga K x)
abbrev AlX:Type:=AlS×Bool
def obsX (fa:List He.Fa) (fn:List He.DefD) (su:List SuD) (file:Str) (ex:List Str) (K:PySem.W.Frag):AlX:=(zvX fa fn su file K,ex.all fun x=>zBM K x)
def valX (fn:List He.DefD) (su:List SuD):AlX:=(ztZ fn su,true)
structure Tz (fa:List He.Fa) (fn:List He.DefD) (su:List SuD) (file:Str) (ec:List Str) (K:PySem.W.Frag) (mg:Str->Option Value):Prop extends Ty fa fn su file K mg where
 exs:∀ x∈ec,zBM K x=true
def frD (g:Addr->Option Obj):Nat->List Addr->List Addr
 | 0,l=>l
 | n+1,l=>l++frD g n (l.flatMap fun a=>match g a with
  | some o=>He.refsD o
  | none=>[])
theorem Tx.str {fa:List He.Fa} {fn:List He.DefD} {K:PySem.W.Frag} {mg:Str->Option Value} (T:Tx fa fn K mg) (i:Nat) {x z:Str} (h:fa[i]? = some (.str x z):=by rfl):∃ t,mg x=some (.str z t):=by
 obtain ⟨_,X,G,c⟩:=T.ex
 exact He.str_ok X G (c.fact i h)
open PySem PySem.Spec PyProof.Rows L2 LamX NdefX
structure zw3 (tf:List He.Defn) (h:Heap) (K:PySem.W.Frag):Prop where
 hd:∀ p∈tf,PySem.W.codeHdIn K (He.cT K p).1 (He.cT K p).2=true
 out:∀ p∈tf,K.lookup (He.cT K p).2=none
 empty:∀ p∈tf,h.get? (He.cT K p).2=some { cls:=.none,data:=.fields #[] }
def znW (n:Nat) (g:Addr->Option Obj):PySem.W.Frag:=He.frT g (frD g n [mainGlobals]++[cStatics])
def zpy (g:Addr->Option Obj) (tf:List He.Defn) (K:PySem.W.Frag):Bool:=tf.all fun p=>PySem.W.codeHdIn K (He.cT K p).1 (He.cT K p).2 && (match g (He.cT K p).2 with
 | some o=>He.emptyTab o
 | none=>false)
theorem zpK {n:Nat} {tf:List He.Defn} {h:Heap} (e:zpy h.get? tf (znW n h.get?)=true):zw3 tf h (znW n h.get?):=by
 have key:∀ p∈tf,PySem.W.codeHdIn (znW n h.get?) (He.cT (znW n h.get?) p).1 (He.cT (znW n h.get?) p).2=true∧∃ o,h.get? (He.cT (znW n h.get?) p).2=some o∧He.emptyTab o=true:=fun p hp=>by
  obtain ⟨h1,h3⟩:=He.ba (List.all_eq_true.mp e p hp)
  refine ⟨h1,?_⟩
  split at h3
  ·rename_i o q
   exact ⟨o,q,h3⟩
  ·cases h3
 refine ⟨fun p hp=>(key p hp).1,fun p hp=>?_,fun p hp=>?_⟩
 ·obtain ⟨_,o,q,z⟩:=key p hp
  exact He.frT_none q z
 ·obtain ⟨_,o,q,z⟩:=key p hp
  rw [q,He.emptyTab_eq z]
def zrp {α:Type} (n:Nat) (ob:PySem.W.Frag->α) (vl:World->α) (tf:List He.Defn):PySem.W.Hook where
 α:=α×Bool
 obs:=fun s=>(ob (znW n s.heap.get?),zpy s.heap.get? tf (znW n s.heap.get?))
 val:=fun w=>(vl w,true)
 says:=fun w h=>∃ K:PySem.W.Frag,K.In h∧ob K=vl w∧zw3 tf h K
 of:=fun _ _ e=>⟨_,He.frT_in,congrArg Prod.fst e,zpK (congrArg Prod.snd e)⟩
 keeps:=fun _ _ _ ⟨K,hK,c,z⟩ k=>⟨K,hK.keeps k,c,z.hd,z.out,fun p hp=>k _ _ (z.empty p hp)⟩
theorem zo4 {α:Type} {n:Nat} {ob:PySem.W.Frag->α} {vl:World->α} {tf:List He.Defn} {g:Addr->Option Obj} {s:Shared} (h:∀ a,g a=s.heap.get? a):(ob (znW n g),zpy g tf (znW n g))=(zrp n ob vl tf).obs s:=by
 have e:g=s.heap.get?:=funext h
 rw [e]
 rfl
end DL
namespace K06
open PySem PySem.Spec PyProof.Rows L2 DL
local macro_rules | `(tactic| walk_at "dp") => `(tactic| (first | with_reducible assumption | with_reducible exact zah | (with_reducible refine (zaj (by first | with_reducible assumption | exact Ne.symm (by with_reducible assumption))).trans ?_; first | with_reducible assumption | with_reducible exact zah | (with_reducible refine (zaj (by first | with_reducible assumption | exact Ne.symm (by with_reducible assumption))).trans ?_; first | with_reducible assumption | with_reducible exact zah | (with_reducible refine (zaj (by first | with_reducible assumption | exact Ne.symm (by with_reducible assumption))).trans ?_; first | with_reducible assumption | with_reducible exact zah | (with_reducible refine (zaj (by first | with_reducible assumption | exact Ne.symm (by with_reducible assumption))).trans ?_; first | with_reducible assumption | with_reducible exact zah))))))
local macro_rules | `(tactic| walk_at "q") => `(tactic| (first | exact .inl rfl | exact .inr rfl))
local macro_rules | `(tactic| nofun) => `(tactic| walk_at "q")
abbrev PG_:Program:=PySem.Challenge.pw_toldonward_k06_whole_runs_reach_reasons
def top (i:Nat):Stmt:=PG_.main.body.getD i (.Pass ⟨0,0,0,0⟩)
abbrev zen:Stmt:=inClass (top 7) 0
def zie:He.DefD:=⟨("Run", some "__init__"), "__init__", "Run.__init__", defArgs zen,defBody zen,defScope zen,[],[]⟩
abbrev zaW:Stmt:=inClass (top 9) 0
def znT:He.DefD:=⟨("TrueRun", some "__init__"), "__init__", "TrueRun.__init__", defArgs zaW,defBody zaW,defScope zaW,[],[]⟩
abbrev zg4:Stmt:=inClass (top 7) 6
def zkN:He.DefD:=⟨("TrueRun", some "did"), "did", "Run.did", defArgs zg4,defBody zg4,defScope zg4,[],[]⟩
abbrev zcD:Stmt:=inClass (top 7) 7
def zge:He.DefD:=⟨("TrueRun", some "slot_word"), "slot_word", "Run.slot_word", defArgs zcD,defBody zcD,defScope zcD,[],[]⟩
abbrev zcE:Stmt:=inClass (top 7) 8
def zgf:He.DefD:=⟨("TrueRun", some "held_word"), "held_word", "Run.held_word", defArgs zcE,defBody zcE,defScope zcE,[],[]⟩
abbrev zfF:Stmt:=top 8
def zj8:He.DefD:=⟨("has_cell", none), "has_cell", "has_cell", defArgs zfF,defBody zfF,defScope zfF,[],[]⟩
abbrev zc0:Stmt:=inClass (top 9) 1
def zgJ:He.DefD:=⟨("TrueRun", some "hear"), "hear", "TrueRun.hear", defArgs zc0,defBody zc0,defScope zc0,[],[]⟩
abbrev zcC:Stmt:=inClass (top 9) 2
def zgd:He.DefD:=⟨("TrueRun", some "noted"), "noted", "TrueRun.noted", defArgs zcC,defBody zcC,defScope zcC,[],[]⟩
abbrev zcc:Stmt:=inClass (top 9) 3
def zfx:He.DefD:=⟨("TrueRun", some "peeked"), "peeked", "TrueRun.peeked", defArgs zcc,defBody zcc,defScope zcc,[],[]⟩
abbrev zcB:Stmt:=inClass (top 9) 4
def zgc:He.DefD:=⟨("TrueRun", some "spoke"), "spoke", "TrueRun.spoke", defArgs zcB,defBody zcB,defScope zcB,[],[]⟩
abbrev zcA:Stmt:=inClass (top 9) 5
def zgb:He.DefD:=⟨("TrueRun", some "wrote"), "wrote", "TrueRun.wrote", defArgs zcA,defBody zcA,defScope zcA,[],[]⟩
abbrev zem:Stmt:=inClass (top 7) 10
def zid:He.DefD:=⟨("TrueRun", some "do_row"), "do_row", "Run.do_row", defArgs zem,defBody zem,defScope zem,[],[]⟩
abbrev zdB:Stmt:=inClass (top 7) 9
def zhp:He.DefD:=⟨("TrueRun", some "do_rows"), "do_rows", "Run.do_rows", defArgs zdB,defBody zdB,defScope zdB,[],[]⟩
abbrev zbY:Stmt:=top 11
def ze7:He.DefD:=⟨("are_start_words", none), "are_start_words", "are_start_words", defArgs zbY,defBody zbY,defScope zbY,[],[]⟩
abbrev zea:Stmt:=top 12
def zh0:He.DefD:=⟨("true_table", none), "true_table", "true_table", defArgs zea,defBody zea,defScope zea,[],[]⟩
abbrev zg3:Stmt:=top 26
def zkM:He.DefD:=⟨("is_name", none), "is_name", "is_name", defArgs zg3,defBody zg3,defScope zg3,[],[]⟩
abbrev zeN:Stmt:=top 27
def zi4:He.DefD:=⟨("are_names", none), "are_names", "are_names", defArgs zeN,defBody zeN,defScope zeN,[],[]⟩
abbrev zeM:Stmt:=top 28
def zi3:He.DefD:=⟨("are_pairs", none), "are_pairs", "are_pairs", defArgs zeM,defBody zeM,defScope zeM,[],[]⟩
abbrev zeb:Stmt:=top 29
def zh2:He.DefD:=⟨("count_rows", none), "count_rows", "count_rows", defArgs zeb,defBody zeb,defScope zeb,[],[]⟩
abbrev zbK:Stmt:=inClass (top 30) 0
def zeD:He.DefD:=⟨("BodyCheck", some "__init__"), "__init__", "BodyCheck.__init__", defArgs zbK,defBody zbK,defScope zbK,[],[]⟩
abbrev zbz:Stmt:=inClass (top 30) 1
def zd9:He.DefD:=⟨("BodyCheck", some "is_word"), "is_word", "BodyCheck.is_word", defArgs zbz,defBody zbz,defScope zbz,[],[]⟩
abbrev zbo:Stmt:=inClass (top 30) 3
def zdl:He.DefD:=⟨("BodyCheck", some "is_choice"), "is_choice", "BodyCheck.is_choice", defArgs zbo,defBody zbo,defScope zbo,[],[]⟩
abbrev zbJ:Stmt:=inClass (top 30) 2
def zeC:He.DefD:=⟨("BodyCheck", some "is_row"), "is_row", "BodyCheck.is_row", defArgs zbJ,defBody zbJ,defScope zbJ,[],[]⟩
abbrev za4:Stmt:=inClass (top 30) 4
def zcX:He.DefD:=⟨("BodyCheck", some "first_wrong"), "first_wrong", "BodyCheck.first_wrong", defArgs za4,defBody za4,defScope za4,[],[]⟩
abbrev zb0:Stmt:=inClass (top 30) 5
def ze9:He.DefD:=⟨("BodyCheck", some "check"), "check", "BodyCheck.check", defArgs zb0,defBody zb0,defScope zb0,[],[]⟩
abbrev zce:Stmt:=inClass (top 31) 0
def zfz:He.DefD:=⟨("Program", some "__init__"), "__init__", "Program.__init__", defArgs zce,defBody zce,defScope zce,[],[]⟩
abbrev zc1:Stmt:=inClass (top 31) 5
def zgK:He.DefD:=⟨("Program", some "body"), "body", "Program.body", defArgs zc1,defBody zc1,defScope zc1,[],[]⟩
abbrev zby:Stmt:=inClass (top 31) 6
def zd8:He.DefD:=⟨("Program", some "body_path"), "body_path", "Program.body_path", defArgs zby,defBody zby,defScope zby,[],[]⟩
abbrev zfC:Stmt:=top 13
def zj5:He.DefD:=⟨("true_run", none), "true_run", "true_run", defArgs zfC,defBody zfC,defScope zfC,[],[]⟩
abbrev zg1:Stmt:=top 15
def zkJ:He.DefD:=⟨("telling", none), "telling", "telling", defArgs zg1,defBody zg1,defScope zg1,[],[]⟩
abbrev zeL:Stmt:=top 16
def zi2:He.DefD:=⟨("word_rows", none), "word_rows", "word_rows", defArgs zeL,defBody zeL,defScope zeL,[],[]⟩
abbrev zjt:Stmt:=top 18
def zni:He.DefD:=⟨("agree", none), "agree", "agree", defArgs zjt,defBody zjt,defScope zjt,[],[]⟩
abbrev zg2:Stmt:=top 19
def zkL:He.DefD:=⟨("lies_in", none), "lies_in", "lies_in", defArgs zg2,defBody zg2,defScope zg2,[],[]⟩
abbrev zfD:Stmt:=top 20
def zj6:He.DefD:=⟨("least_of", none), "least_of", "least_of", defArgs zfD,defBody zfD,defScope zfD,[],[]⟩
abbrev zec:Stmt:=top 17
def zh3:He.DefD:=⟨("all_places", none), "all_places", "all_places", defArgs zec,defBody zec,defScope zec,[],[]⟩
abbrev zbZ:Stmt:=inClass (top 21) 0
def ze8:He.DefD:=⟨("Tellings", some "__init__"), "__init__", "Tellings.__init__", defArgs zbZ,defBody zbZ,defScope zbZ,[],[]⟩
abbrev zbm:Stmt:=inClass (top 21) 1
def zdj:He.DefD:=⟨("Tellings", some "told_where"), "told_where", "Tellings.told_where", defArgs zbm,defBody zbm,defScope zbm,[],[]⟩
abbrev zbx:Stmt:=inClass (top 21) 2
def zd7:He.DefD:=⟨("Tellings", some "is_fixed"), "is_fixed", "Tellings.is_fixed", defArgs zbx,defBody zbx,defScope zbx,[],[]⟩
abbrev zcd:Stmt:=inClass (top 21) 5
def zfy:He.DefD:=⟨("Tellings", some "named"), "named", "Tellings.named", defArgs zcd,defBody zcd,defScope zcd,[],[]⟩
abbrev zbd:Stmt:=inClass (top 21) 6
def zdf:He.DefD:=⟨("Tellings", some "least_fixed"), "least_fixed", "Tellings.least_fixed", defArgs zbd,defBody zbd,defScope zbd,[],[]⟩
abbrev zcy:Stmt:=top 22
def zf9:He.DefD:=⟨("least_reasons", none), "least_reasons", "least_reasons", defArgs zcy,defBody zcy,defScope zcy,[],[]⟩
abbrev zdz:Stmt:=top 35
def zhn:He.DefD:=⟨("cells_heard", none), "cells_heard", "cells_heard", defArgs zdz,defBody zdz,defScope zdz,[],[]⟩
abbrev zfE:Stmt:=top 33
def zj7:He.DefD:=⟨("in_order", none), "in_order", "in_order", defArgs zfE,defBody zfE,defScope zfE,[],[]⟩
abbrev zbH:Stmt:=top 34
def zh1:He.DefD:=⟨("reached_by", none), "reached_by", "reached_by", defArgs zbH,defBody zbH,defScope zbH,[],[]⟩
abbrev zev:Stmt:=top 36
def zkK:He.DefD:=⟨("reached", none), "reached", "reached", defArgs zev,defBody zev,defScope zev,[],[]⟩
abbrev zca:Stmt:=top 37
def zfv:He.DefD:=⟨("reasons_within", none), "reasons_within", "reasons_within", defArgs zca,defBody zca,defScope zca,[],[]⟩
abbrev zeR:Stmt:=top 42
def zi8:He.DefD:=⟨("_law_draw", none), "_law_draw", "_law_draw", defArgs zeR,defBody zeR,defScope zeR,[],[]⟩
abbrev zee:Stmt:=top 41
def zh5:He.DefD:=⟨("_law_state", none), "_law_state", "_law_state", defArgs zee,defBody zee,defScope zee,[],[]⟩
abbrev zei:Stmt:=top 43
def zh9:He.DefD:=⟨("_law_names", none), "_law_names", "_law_names", defArgs zei,defBody zei,defScope zei,[],[]⟩
abbrev zeQ:Stmt:=top 44
def zi7:He.DefD:=⟨("_law_many", none), "_law_many", "_law_many", defArgs zeQ,defBody zeQ,defScope zeQ,[],[]⟩
abbrev zfG:Stmt:=top 45
def zj9:He.DefD:=⟨("_law_row", none), "_law_row", "_law_row", defArgs zfG,defBody zfG,defScope zfG,[],[]⟩
abbrev zeP:Stmt:=top 46
def zi6:He.DefD:=⟨("_law_rows", none), "_law_rows", "_law_rows", defArgs zeP,defBody zeP,defScope zeP,[],[]⟩
abbrev zeh:Stmt:=top 47
def zh8:He.DefD:=⟨("_law_parts", none), "_law_parts", "_law_parts", defArgs zeh,defBody zeh,defScope zeh,[],[]⟩
abbrev zef:Stmt:=top 48
def zh6:He.DefD:=⟨("_law_sizes", none), "_law_sizes", "_law_sizes", defArgs zef,defBody zef,defScope zef,[],[]⟩
abbrev zdA:Stmt:=top 49
def zho:He.DefD:=⟨("_law_bodied", none), "_law_bodied", "_law_bodied", defArgs zdA,defBody zdA,defScope zdA,[],[]⟩
abbrev zeS:Stmt:=top 50
def zi9:He.DefD:=⟨("_law_body", none), "_law_body", "_law_body", defArgs zeS,defBody zeS,defScope zeS,[],[]⟩
abbrev zed:Stmt:=top 51
def zh4:He.DefD:=⟨("_law_words", none), "_law_words", "_law_words", defArgs zed,defBody zed,defScope zed,[],[]⟩
abbrev zcZ:Stmt:=top 52
def zgI:He.DefD:=⟨("_law_program", none), "_law_program", "_law_program", defArgs zcZ,defBody zcZ,defScope zcZ,[],[]⟩
abbrev zbs:Stmt:=top 53
def zdK:He.DefD:=⟨("_law_rows_of_words", none), "_law_rows_of_words", "_law_rows_of_words", defArgs zbs,defBody zbs,defScope zbs,[],[]⟩
abbrev zcb:Stmt:=top 39
def zfw:He.DefD:=⟨("_law_true_rows", none), "_law_true_rows", "_law_true_rows", defArgs zcb,defBody zcb,defScope zcb,[],[]⟩
abbrev zeO:Stmt:=top 40
def zi5:He.DefD:=⟨("_law_true", none), "_law_true", "_law_true", defArgs zeO,defBody zeO,defScope zeO,[],[]⟩
abbrev zbI:Stmt:=top 54
def zeB:He.DefD:=⟨("_law_own_telling", none), "_law_own_telling", "_law_own_telling", defArgs zbI,defBody zbI,defScope zbI,[],[]⟩
abbrev zcz:Stmt:=top 55
def zga:He.DefD:=⟨("_law_table_of", none), "_law_table_of", "_law_table_of", defArgs zcz,defBody zcz,defScope zcz,[],[]⟩
abbrev zek:Stmt:=top 58
def zib:He.DefD:=⟨("_law_heard", none), "_law_heard", "_law_heard", defArgs zek,defBody zek,defScope zek,[],[]⟩
abbrev zeg:Stmt:=top 59
def zh7:He.DefD:=⟨("_law_reach", none), "_law_reach", "_law_reach", defArgs zeg,defBody zeg,defScope zeg,[],[]⟩
abbrev zej:Stmt:=top 56
def zia:He.DefD:=⟨("_law_keeps", none), "_law_keeps", "_law_keeps", defArgs zej,defBody zej,defScope zej,[],[]⟩
abbrev zel:Stmt:=top 57
def zic:He.DefD:=⟨("_law_fixed", none), "_law_fixed", "_law_fixed", defArgs zel,defBody zel,defScope zel,[],[]⟩
abbrev zmP:Stmt:=top 60
def zhm:He.DefD:=⟨("law", none), "law", "law", defArgs zmP,defBody zmP,defScope zmP,[],[]⟩
def zfl:SuD:=⟨"TrueRun", "Run", "TrueRun.__init__", defArgs zaW,defBody zaW,defScope zaW⟩
def zpz:List SuD:=[zfl]
def zti:List Str:=["InvalidStart", "UnknownCell"]
abbrev zbn:Stmt:=inClass (top 4) 0
def zdk:He.DefD:=⟨("InvalidStart", some "__init__"), "__init__", "InvalidStart.__init__", defArgs zbn,defBody zbn,defScope zbn,[],[]⟩
abbrev zbt:Stmt:=inClass (top 5) 0
def zdL:He.DefD:=⟨("UnknownCell", some "__init__"), "__init__", "UnknownCell.__init__", defArgs zbt,defBody zbt,defScope zbt,[],[]⟩
def fns:List He.DefD:=[zie,zkN,zge,zgf,zj8,zgJ,zgd,zfx,zgc,zgb,zid,zhp,ze7,zh0,zkM,zi4,zi3,zh2,zeD,zd9,zdl,zeC,zcX,ze9,zfz,zgK,zd8,zj5,zkJ,zi2,zni,zkL,zj6,zh3,ze8,zdj,zd7,zfy,zdf,zf9,zhn,zj7,zh1,zkK,zfv,zi8,zh5,zh9,zi7,zj9,zi6,zh8,zh6,zho,zi9,zh4,zgI,zdK,zfw,zi5,zeB,zga,zib,zh7,zia,zic,zhm,zdk,zdL]
def fac:List He.Fa:=[.free "super", .glo "has_cell", .cls "TrueRun", .meth "TrueRun" "hear", .meth "TrueRun" "noted", .meth "TrueRun" "peeked", .meth "TrueRun" "slot_word", .meth "TrueRun" "spoke", .meth "TrueRun" "wrote", .free "enumerate", .meth "TrueRun" "did", .meth "TrueRun" "do_rows", .meth "TrueRun" "do_row", .free "len", .free "tuple", .free "isinstance", .free "str", .glo "are_start_words", .free "zip", .mkr "TrueRun", .glo "TrueRun", .meth "TrueRun" "held_word", .free "set", .glo "is_name", .free "dict", .glo "count_rows", .int "MOST_DEPTH" 4,.cls "BodyCheck", .meth "BodyCheck" "is_word", .meth "BodyCheck" "is_choice", .meth "BodyCheck" "is_row", .meth "BodyCheck" "first_wrong", .int "MOST_ROWS" 16,.glo "are_names", .glo "are_pairs", .free "list", .mkr "BodyCheck", .glo "BodyCheck", .meth "BodyCheck" "check", .glo "true_table", .cls "Program", .meth "Program" "body", .meth "Program" "body_path", .glo "true_run", .free "range", .free "all", .glo "lies_in", .free "any", .glo "telling", .glo "word_rows", .glo "agree", .cls "Tellings", .meth "Tellings" "told_where", .glo "all_places", .meth "Tellings" "is_fixed", .glo "least_of", .mkr "Tellings", .glo "Tellings", .meth "Tellings" "least_fixed", .meth "Tellings" "named", .glo "in_order", .glo "cells_heard", .glo "reached_by", .glo "reached", .free "abs", .free "int", .glo "_law_draw", .glo "_law_many", .glo "_law_rows", .glo "_law_row", .free "max", .glo "_law_names", .glo "_law_sizes", .glo "_law_parts", .mkr "Program", .glo "Program", .glo "_law_true_rows", .glo "_law_true", .glo "_law_rows_of_words", .glo "_law_own_telling", .glo "_law_heard", .glo "_law_reach", .glo "_law_keeps", .glo "_law_state", .glo "_law_bodied", .glo "_law_body", .glo "_law_words", .glo "_law_program", .glo "_law_table_of", .glo "_law_fixed", .glo "reasons_within", .glo "least_reasons", .glo "InvalidStart", .meth "InvalidStart" "__init__", .noat "InvalidStart" "words", .glo "UnknownCell", .meth "UnknownCell" "__init__", .noat "UnknownCell" "name", .cls "BodyCheck", .noat "BodyCheck" "kind", .noat "BodyCheck" "words", .noat "BodyCheck" "sources", .noat "BodyCheck" "readable", .cls "Program", .noat "Program" "words", .noat "Program" "sources", .noat "Program" "derived", .noat "Program" "effects", .cls "TrueRun", .noat "TrueRun" "name", .noat "TrueRun" "default", .noat "TrueRun" "slots", .noat "TrueRun" "given", .noat "TrueRun" "over", .noat "TrueRun" "told_words", .noat "TrueRun" "notes", .noat "TrueRun" "peeks", .noat "TrueRun" "says", .noat "TrueRun" "written", .cls "Tellings", .noat "Tellings" "own", .noat "Tellings" "words", .noat "Tellings" "sources", .noat "Tellings" "table", .glo "law"]
abbrev tfs:List He.Defn:=[("reached", none)]
abbrev Tbs (K:PySem.W.Frag):Addr->Option Str:=fun b=>if b=(He.cT K ("reached", none)).2 then some "reached.<locals>.<lambda>" else none
structure TLm (w:World) (K:PySem.W.Frag) (mg:Str->Option Value) (base:Heap):Prop extends Tz fac fns zpz PG_.main.file zti K mg where
 tb:∀ p∈tfs,LamX.TabB base mg (He.cT K p).1 (He.cT K p).2
open LamX NdefX
set_option maxHeartbeats 0
abbrev R:PySem.W.OpenRow:=PySem.W.OpenLaw.row PySem.Challenge.rw_toldonward_k06_whole_runs_reach_reasons
abbrev hk:PySem.W.Hook:=zrp 4 (obsX fac fns zpz PG_.main.file zti) (fun _=>valX fns zpz) tfs
def ob (s:PySem.W.SharedT):=(obsX fac fns zpz PG_.main.file zti (znW 4 (HandSHeadRun.getT s)),zpy (HandSHeadRun.getT s) tfs (znW 4 (HandSHeadRun.getT s)))
theorem ob_eq (s:PySem.W.SharedT):ob s=hk.obs s.abs:=zo4 (HandSHeadRun.getT_eq s)
def loose:List Str:=("_wall" : Str) :: ("ToldError" : Str) :: ("InvalidProgram" : Str) :: ("InvalidStart" : Str) :: ("UnknownCell" : Str) :: ("Run" : Str) :: ("has_cell" : Str) :: ("TrueRun" : Str) :: ("are_start_words" : Str) :: ("true_table" : Str) :: ("true_run" : Str) :: ("telling" : Str) :: ("word_rows" : Str) :: ("all_places" : Str) :: ("agree" : Str) :: ("lies_in" : Str) :: ("least_of" : Str) :: ("Tellings" : Str) :: ("least_reasons" : Str) :: ("MOST_ROWS" : Str) :: ("MOST_DEPTH" : Str) :: ("is_name" : Str) :: ("are_names" : Str) :: ("are_pairs" : Str) :: ("count_rows" : Str) :: ("BodyCheck" : Str) :: ("Program" : Str) :: ("in_order" : Str) :: ("reached_by" : Str) :: ("cells_heard" : Str) :: ("reached" : Str) :: ("reasons_within" : Str) :: ("_law_true_rows" : Str) :: ("_law_true" : Str) :: ("_law_state" : Str) :: ("_law_draw" : Str) :: ("_law_names" : Str) :: ("_law_many" : Str) :: ("_law_row" : Str) :: ("_law_rows" : Str) :: ("_law_parts" : Str) :: ("_law_sizes" : Str) :: ("_law_bodied" : Str) :: ("_law_body" : Str) :: ("_law_words" : Str) :: ("_law_program" : Str) :: ("_law_rows_of_words" : Str) :: ("_law_own_telling" : Str) :: ("_law_table_of" : Str) :: ("_law_keeps" : Str) :: ("_law_fixed" : Str) :: ("_law_heard" : Str) :: ("_law_reach" : Str) :: []
theorem run (w:World):HandSHeadRun.RunEq R (PySem.W.view R.prog [60]) hk ob 12000 loose w:=by
 intro os
 kernel_rfl
end K06
set_option maxHeartbeats 0
open PySem PySem.W PySem.Calls PyProof.Rows
theorem K06.ends (call:WalkO (view (OpenLaw.row PySem.Challenge.rw_toldonward_k06_whole_runs_reach_reasons).prog [60]) K06.loose (XL (view (OpenLaw.row PySem.Challenge.rw_toldonward_k06_whole_runs_reach_reasons).prog [60]) []) K06.hk.says (OpenLaw.row PySem.Challenge.rw_toldonward_k06_whole_runs_reach_reasons).toRowW (HandSHeadRun.topDef (OpenLaw.row PySem.Challenge.rw_toldonward_k06_whole_runs_reach_reasons).prog 60) [] fun f vs=>PySem.call f vs):PySem.Challenge.rw_toldonward_k06_whole_runs_reach_reasons.Holds:=by
 w_on;o_law
 refine HandSHeadRun.head_any (r:=OpenLaw.row PySem.Challenge.rw_toldonward_k06_whole_runs_reach_reasons) (q:=view (OpenLaw.row PySem.Challenge.rw_toldonward_k06_whole_runs_reach_reasons).prog [60]) (H:=K06.hk) (ob:=K06.ob) (M:=12000) (loose:=K06.loose) (d:=HandSHeadRun.topDef (OpenLaw.row PySem.Challenge.rw_toldonward_k06_whole_runs_reach_reasons).prog 60) (kwd:=[]) K06.ob_eq
  (by kernel_rfl) (fun s=>by kernel_rfl) K06.run (by kernel_rfl) (by kernel_rfl) (by kernel_rfl) (by rfl) (by first | assumption | decide +kernel) (by decide +kernel) ⟨rfl,rfl,rfl,rfl,rfl,by decide +kernel⟩ ?hw call
 case hw=>w_witness2
set_option maxHeartbeats 4000000
namespace DL
open PySem L2
abbrev D.tup (xs:List D):D:=.tp false xs
inductive O where
 | lst (xs:List D) | dic (kvs:List (Key×D)) | dit (kvs:List (List Key×D)) | set (S:Key->Bool) (n:Nat) | ins (C:Addr) (fs:List (Str×D)) | din (ks:List D) (kvs:List (NestedKey×D)) | tbl (q:Str)
abbrev Sto:=Addr->Option O
def put (S:Sto) (a:Addr) (o:O):Sto:=fun b=>if b=a then some o else S b
theorem zah {S:Sto} {a:Addr} {o:O}:put S a o a=some o:=by unfold put;rw [if_pos rfl]
theorem zaj {S:Sto} {a b:Addr} {o:O} (h:b≠a):put S a o b=S b:=by unfold put;rw [if_neg h]
structure Le (H H':Hp):Prop where
 tup:∀ a xs,H a=some (.tup xs)->H' a=some (.tup xs)
 frz:∀ a o u,H a=some (.frz o u)->H' a=some (.frz o u)
 xd:∀ a fs,H a=some (.xd fs)->H' a=some (.xd fs)
theorem Le.refl (H:Hp):Le H H:=⟨fun _ _ h=>h,fun _ _ _ h=>h,fun _ _ h=>h⟩
theorem Le.trans {H H1 H2:Hp} (a:Le H H1) (b:Le H1 H2):Le H H2:=⟨fun x xs h=>b.tup x xs (a.tup x xs h),fun x o u h=>b.frz x o u (a.frz x o u h),fun x fs h=>b.xd x fs (a.xd x fs h)⟩
theorem Le.new {H:Hp} {p:Addr} {o:HO} (h:H p=none):Le H (upd H p o):=⟨fun a xs e=>by rw [upd_ne (ne_of_none e h)];exact e,fun a ob u e=>by rw [upd_ne (ne_of_none e h)];exact e,fun a fs e=>by rw [upd_ne (ne_of_none e h)];exact e⟩
theorem Le.mut {H:Hp} {p:Addr} {o:HO} (h:Mut (H p)):Le H (upd H p o):=⟨fun a xs e=>by
  rw [upd_ne (fun q=>by subst q;rw [e] at h;exact h)];exact e,fun a ob u e=>by
  rw [upd_ne (fun q=>by subst q;rw [e] at h;exact h)];exact e,fun a fs e=>by
  rw [upd_ne (fun q=>by subst q;rw [e] at h;exact h)];exact e⟩
theorem zfA {K:PySem.W.Frag} {H H':Hp} {a:Addr} {xs:List V} (l:Le H H') (h:SqT K H a xs):SqT K H' a xs:=by
 rcases h with (h | ⟨o,h⟩) | h
 ·exact .inl (.inl (l.tup a xs h))
 ·exact .inl (.inr ⟨o,l.frz a o _ h⟩)
 ·exact .inr h
def RoL (K:PySem.W.Frag) (H:Hp) (a:Addr) (xs:List V):Prop:=(∃ o,H a=some (.frz o (.lst xs))) ∨
 ∃ (o:Obj) (its:Array Value) (n:Nat),K.lookup a=some o∧o.cls = .type "list" ∧ o.dict=none∧o.data = .seq its n∧its.size≤sizeLine∧Vals xs its.toList
theorem RoL.sq {K:PySem.W.Frag} {H:Hp} {a:Addr} {xs:List V} (h:RoL K H a xs):SqL K H a xs:=by
 rcases h with ⟨o,h⟩ | h
 ·exact .inl (.inr ⟨o,h⟩)
 ·exact .inr h
theorem RoL.le {K:PySem.W.Frag} {H H':Hp} {a:Addr} {xs:List V} (l:Le H H') (h:RoL K H a xs):RoL K H' a xs:=by
 rcases h with ⟨o,h⟩ | h
 ·exact .inl ⟨o,l.frz a o _ h⟩
 ·exact .inr h
theorem RoL.of {K:PySem.W.Frag} {H:Hp} {a:Addr} {xs:List V} (hO:Only H) (h:SqL K H a xs):RoL K H a xs:=by
 rcases h with (h | ⟨o,h⟩) | h
 ·rcases hO a with e | ⟨o,ys,e⟩ <;> rw [e] at h <;> cases h
 ·exact .inl ⟨o,h⟩
 ·exact .inr h
def OkS (x:Str):Prop:=PyData.strOk x=true∧x.length≤sizeLine
def kD:Key->D
 | .inl i=>.int i
 | .inr x=>.str x
def okK:Key->Prop
 | .inl _=>True
 | .inr x=>OkS x
def TF (H:Hp) (a:Addr) (vs:List V):Bool->Prop
 | false=>H a=some (.tup vs)
 | true=>∃ o,H a=some (.frz o (.tup vs))∧o.dict=none
theorem TF.le {H H':Hp} {a:Addr} {vs:List V} {f:Bool} (l:Le H H') (h:TF H a vs f):TF H' a vs f:=by
 cases f with
 | false=>exact l.tup _ _ h
 | true=>
  obtain ⟨o,e,z⟩:=h
  exact ⟨o,l.frz _ _ _ e,z⟩
mutual
inductive DV (K:PySem.W.Frag) (H:Hp):D->V->Prop
 | non:DV K H .non .non
 | bl (b:Bool):DV K H (.bl b) (.bl b)
 | int (i:Int):DV K H (.int i) (.int i)
 | str (x:Str):OkS x->DV K H (.str x) (.str x)
 | ty (n:String):DV K H (.ty n) (.ty n)
 | tup {a:Addr} {vs:List V} {ds:List D} {f:Bool}:SqT K H a vs->DVs K H ds vs->TF H a vs f->DV K H (.tp f ds) (.ref a)
 | rol {a:Addr} {vs:List V} {ds:List D}:RoL K H a vs->DVs K H ds vs->DV K H (.rol ds) (.ref a)
 | ref (a:Addr):DV K H (.ref a) (.ref a)
 | rod {a:Addr} {vs:List V} {ks:List (List Key)} {ds:List D}:(∃ o,H a=some (.frz o (.dT (ks.zip vs))))->ks.length=vs.length->(∀ k∈ks,∀ x∈k,okK x)->DVs K H ds vs->DV K H (.rod ks ds) (.ref a)
inductive DVs (K:PySem.W.Frag) (H:Hp):List D->List V->Prop
 | nil:DVs K H [] []
 | cons {d:D} {ds:List D} {v:V} {vs:List V}:DV K H d v->DVs K H ds vs->DVs K H (d :: ds) (v :: vs)
end
section
variable {K:PySem.W.Frag} {H H':Hp}
mutual
theorem DV.le (l:Le H H'):∀ (d:D) (v:V),DV K H d v->DV K H' d v
 | .non,_,h=>by cases h;exact .non
 | .bl b,_,h=>by cases h;exact .bl b
 | .int b,_,h=>by cases h;exact .int b
 | .str b,_,h=>by
  cases h with
  | str _ ok=>exact .str b ok
 | .ty b,_,h=>by cases h;exact .ty b
 | .ref b,_,h=>by cases h;exact .ref b
 | .tp f ds,_,h=>by
  cases h with
  | tup hs hd ht=>exact .tup (zfA l hs) (DVs.le l ds _ hd) (ht.le l)
 | .rol ds,_,h=>by
  cases h with
  | rol hs hd=>exact .rol (RoL.le l hs) (DVs.le l ds _ hd)
 | .rod ks ds,_,h=>by
  cases h with
  | rod hs hl hk hd=>
   obtain ⟨o,hs⟩:=hs
   exact .rod ⟨o,l.frz _ _ _ hs⟩ hl hk (DVs.le l ds _ hd)
theorem DVs.le (l:Le H H'):∀ (ds:List D) (vs:List V),DVs K H ds vs->DVs K H' ds vs
 | [],_,h=>by cases h;exact .nil
 | d :: ds,_,h=>by
  cases h with
  | cons h1 h2=>exact .cons (DV.le l d _ h1) (DVs.le l ds _ h2)
end
theorem DVs.length {ds:List D} {vs:List V} (h:DVs K H ds vs):ds.length=vs.length:=by
 induction ds generalizing vs with
 | nil=>cases h;rfl
 | cons d ds ih=>cases h with
  | cons h1 h2=>simp [ih h2]
theorem DVs.get {ds:List D} {vs:List V} (h:DVs K H ds vs) {i:Nat} {d:D} (e:ds[i]? = some d):∃ v,vs[i]? = some v∧DV K H d v:=by
 induction ds generalizing vs i with
 | nil=>simp at e
 | cons x ds ih=>cases h with
  | cons h1 h2=>
   cases i with
   | zero=>simp at e;subst e;exact ⟨_,rfl,h1⟩
   | succ i=>
    obtain ⟨v,e1,e2⟩:=ih h2 (i:=i) (by simpa using e)
    exact ⟨v,by simpa using e1,e2⟩
theorem DVs.append {ds es:List D} {vs us:List V} (h:DVs K H ds vs) (h':DVs K H es us):DVs K H (ds++es) (vs++us):=by
 induction ds generalizing vs with
 | nil=>cases h;exact h'
 | cons d ds ih=>cases h with
  | cons h1 h2=>exact .cons h1 (ih h2)
theorem DVs.take {ds:List D} {vs:List V} (h:DVs K H ds vs) (n:Nat):DVs K H (ds.take n) (vs.take n):=by
 induction ds generalizing vs n with
 | nil=>cases h;simp;exact .nil
 | cons d ds ih=>cases h with
  | cons h1 h2=>cases n with
   | zero=>exact .nil
   | succ n=>exact .cons h1 (ih h2 n)
theorem DVs.drop {ds:List D} {vs:List V} (h:DVs K H ds vs) (n:Nat):DVs K H (ds.drop n) (vs.drop n):=by
 induction ds generalizing vs n with
 | nil=>cases h;simp;exact .nil
 | cons d ds ih=>cases h with
  | cons h1 h2=>cases n with
   | zero=>exact .cons h1 h2
   | succ n=>exact ih h2 n
theorem DVs.set {ds:List D} {vs:List V} {d:D} {v:V} (h:DVs K H ds vs) (h1:DV K H d v) (n:Nat):DVs K H (ds.set n d) (vs.set n v):=by
 induction ds generalizing vs n with
 | nil=>cases h;exact .nil
 | cons x ds ih=>cases h with
  | cons h2 h3=>cases n with
   | zero=>exact .cons h1 h3
   | succ n=>exact .cons h2 (ih h3 n)
theorem DVs.reverse {ds:List D} {vs:List V} (h:DVs K H ds vs):DVs K H ds.reverse vs.reverse:=by
 induction ds generalizing vs with
 | nil=>cases h;exact .nil
 | cons d ds ih=>cases h with
  | cons h1 h2=>
   rw [List.reverse_cons,List.reverse_cons]
   exact (ih h2).append (.cons h1 .nil)
theorem DVs.eraseIdx {ds:List D} {vs:List V} (h:DVs K H ds vs) (n:Nat):DVs K H (ds.eraseIdx n) (vs.eraseIdx n):=by
 induction ds generalizing vs n with
 | nil=>cases h;exact .nil
 | cons x ds ih=>cases h with
  | cons h2 h3=>cases n with
   | zero=>exact h3
   | succ n=>exact .cons h2 (ih h3 n)
end
inductive KVs (K:PySem.W.Frag) (H:Hp) {κ:Type}:List (κ×D)->List (κ×V)->Prop
 | nil:KVs K H [] []
 | cons {k:κ} {d:D} {v:V} {ds:List (κ×D)} {vs:List (κ×V)}:DV K H d v->KVs K H ds vs->KVs K H ((k,d) :: ds) ((k,v) :: vs)
theorem KVs.le {K:PySem.W.Frag} {H H':Hp} {κ:Type} {ds:List (κ×D)} {vs:List (κ×V)} (l:Le H H') (h:KVs K H ds vs):KVs K H' ds vs:=by
 induction h with
 | nil=>exact .nil
 | cons h1 _ ih=>exact .cons (h1.le l) ih
theorem KVs.length {K:PySem.W.Frag} {H:Hp} {κ:Type} {ds:List (κ×D)} {vs:List (κ×V)} (h:KVs K H ds vs):ds.length=vs.length:=by
 induction h with
 | nil=>rfl
 | cons _ _ ih=>simp [ih]
mutual
def nkD:D->Option NestedKey
 | .non=>some .none
 | .bl b=>some (.num (if b=true then 1 else 0))
 | .int i=>some (.num i)
 | .str x=>some (.text x)
 | .tp _ xs=>(zvZ xs).map .tup
 | .rol _=>none
 | .ref _=>none
 | .ty _=>none
 | .rod _ _=>none
def zvZ:List D->Option (List NestedKey)
 | []=>some []
 | d :: ds=>(nkD d).bind fun k=>(zvZ ds).map fun ks=>k :: ks
end
inductive KN (K:PySem.W.Frag) (H:Hp):List D->List (NestedKey×D)->List (NestedKey×Addr×V)->Prop
 | nil:KN K H [] [] []
 | cons {d e:D} {k:NestedKey} {b:Addr} {v:V} {ds:List D} {kvs:List (NestedKey×D)} {zs:List (NestedKey×Addr×V)}:nkD d=some k->k.depth≤8->DV K H d (.ref b)->DV K H e v->KN K H ds kvs zs->KN K H (d :: ds) ((k,e) :: kvs) ((k,b,v) :: zs)
theorem KN.le {K:PySem.W.Frag} {H H':Hp} {ds:List D} {kvs:List (NestedKey×D)} {zs:List (NestedKey×Addr×V)} (l:Le H H') (h:KN K H ds kvs zs):KN K H' ds kvs zs:=by
 induction h with
 | nil=>exact .nil
 | cons h1 h2 h3 h4 _ ih=>exact .cons h1 h2 (h3.le l) (h4.le l) ih
abbrev KZ:List (NestedKey×Addr×V)->List (NestedKey×Addr×Value)->Prop:=Paired fun p q=>p.1=q.1∧p.2.1=q.2.1∧RelV p.2.2 q.2.2
def dN (P:Program) (w:World) (a:Addr) (zs:List (NestedKey×Addr×V)):HO:=.ext fun h=>zs.length≤sizeLine∧(a == sysModules)=false∧∃ xs,KZ zs xs∧
 ∃ o es ep,h.get? a=some o∧o.ExactDict∧o.data = .dict es ep∧es.toList=xs.map (entryOfKey (nestedKind P w))∧(xs.map (·.1)).Nodup
def zBP (H:Hp) (a:Addr) (q:Str):Prop:=∃ ps:Array Value,H a=some (.tbl ps)∧TriplesOk ps.toList∧∀ (pos:Pos) (cv:Value),codeAmong pos ps.toList=some cv->∃ c oc,cv = .ref c∧H c=some (.frz oc (.own c))∧∃ (vs:Array Value) (t:Tok),oc.data = .fields vs∧vs[1]? = some (.str q t)
def OOk (K:PySem.W.Frag) (P:Program) (w:World) (H:Hp) (a:Addr):O->Prop
 | .lst ds=>∃ vs,H a=some (.lst vs)∧DVs K H ds vs
 | .dic kvs=>∃ vs,H a=some (.dK vs)∧KVs K H kvs vs
 | .dit kvs=>∃ vs,H a=some (.dT vs)∧KVs K H kvs vs
 | .set f n=>H a=some (SetK P w a f n)
 | .ins C fs=>∃ dx vs,H a=some (.ins C dx vs)∧KVs K H fs vs
 | .din ks kvs=>∃ zs,H a=some (dN P w a zs)∧KN K H ks kvs zs
 | .tbl q=>zBP H a q
def Rp (K:PySem.W.Frag) (P:Program) (w:World) (S:Sto) (H:Hp):Prop:=∀ a o,S a=some o->OOk K P w H a o
abbrev Slo:=List (Option D)
structure zdy (K:PySem.W.Frag) (H:Hp) (env:Slo) (σ:L2.St):Prop where
 len:env.length=σ.length
 at_:∀ (i:Nat) (d:D),env[i]? = some (some d)->∃ v:V,σ[i]? = some (some v)∧DV K H d v
section
variable {K:PySem.W.Frag} {P:Program} {w:World} {S:Sto} {H H':Hp} {env:Slo} {σ:L2.St} {a:Addr} {o:O}
theorem OOk.some (h:OOk K P w H a o):∃ u,H a=some u∧∀ ob z,u≠.frz ob z:=by
 cases o with
 | lst=>obtain ⟨vs,e,_⟩:=h;exact ⟨_,e,fun _ _ z=>nomatch z⟩
 | dic=>obtain ⟨vs,e,_⟩:=h;exact ⟨_,e,fun _ _ z=>nomatch z⟩
 | dit=>obtain ⟨vs,e,_⟩:=h;exact ⟨_,e,fun _ _ z=>nomatch z⟩
 | set=>exact ⟨_,h,fun _ _ z=>nomatch z⟩
 | ins=>obtain ⟨dx,vs,e,_⟩:=h;exact ⟨_,e,fun _ _ z=>nomatch z⟩
 | din=>obtain ⟨zs,e,_⟩:=h;exact ⟨_,e,fun _ _ z=>nomatch z⟩
 | tbl=>obtain ⟨ps,e,_⟩:=h;exact ⟨_,e,fun _ _ z=>nomatch z⟩
theorem OOk.at (h:OOk K P w H a o) (l:Le H H') (e:H' a=H a):OOk K P w H' a o:=by
 cases o with
 | lst=>obtain ⟨vs,q,z⟩:=h;exact ⟨vs,e.trans q,z.le l⟩
 | dic=>obtain ⟨vs,q,z⟩:=h;exact ⟨vs,e.trans q,z.le l⟩
 | dit=>obtain ⟨vs,q,z⟩:=h;exact ⟨vs,e.trans q,z.le l⟩
 | set=>exact e.trans h
 | ins=>obtain ⟨dx,vs,q,z⟩:=h;exact ⟨dx,vs,e.trans q,z.le l⟩
 | din=>obtain ⟨zs,q,z⟩:=h;exact ⟨zs,e.trans q,z.le l⟩
 | tbl=>
  obtain ⟨ps,q,z,y⟩:=h
  refine ⟨ps,e.trans q,z,fun pos cv hc=>?_⟩
  obtain ⟨c,oc,e1,e2,e3⟩:=y pos cv hc
  exact ⟨c,oc,e1,l.frz _ _ _ e2,e3⟩
theorem Rp.free (r:Rp K P w S H) (h:H a=none):S a=none:=by
 cases e:S a with
 | none=>rfl
 | some o=>
  obtain ⟨u,q,_⟩:=(r a o e).some
  rw [h] at q;cases q
theorem Rp.new {u:HO} (r:Rp K P w S H) (h:H a=none) (n:OOk K P w (upd H a u) a o):Rp K P w (put S a o) (upd H a u):=fun b ob e=>by
 by_cases hb:b=a
 ·subst hb;rw [zah] at e;cases e;exact n
 ·rw [zaj hb] at e
  exact (r b ob e).at (Le.new h) (upd_ne hb)
theorem Rp.more {u:HO} (r:Rp K P w S H) (h:H a=none):Rp K P w S (upd H a u):=fun b ob e=>by
 obtain ⟨z,q,_⟩:=(r b ob e).some
 exact (r b ob e).at (Le.new h) (upd_ne (ne_of_none q h))
theorem Rp.wr {u:HO} (r:Rp K P w S H) (h:Mut (H a)) (n:OOk K P w (upd H a u) a o):Rp K P w (put S a o) (upd H a u):=fun b ob e=>by
 by_cases hb:b=a
 ·subst hb;rw [zah] at e;cases e;exact n
 ·rw [zaj hb] at e
  exact (r b ob e).at (Le.mut h) (upd_ne hb)
theorem zdy.le (r:zdy K H env σ) (l:Le H H'):zdy K H' env σ:=⟨r.len,fun i d e=>by
 obtain ⟨v,q,z⟩:=r.at_ i d e
 exact ⟨v,q,z.le l⟩⟩
theorem zdy.set {d:D} {v:V} (r:zdy K H env σ) (h:DV K H d v) (i:Nat):zdy K H (env.set i (some d)) (σ.set i (some v)):=⟨by simp [r.len],fun j e q=>by
 by_cases hj:j=i
 ·subst hj
  have hl:j < env.length:=by
   have:=(List.getElem?_eq_some_iff.mp q).1
   simpa using this
  rw [List.getElem?_set_self hl] at q
  cases q
  exact ⟨v,List.getElem?_set_self (by rw [← r.len];exact hl),h⟩
 ·rw [List.getElem?_set_ne (Ne.symm hj)] at q ⊢
  exact r.at_ j e q⟩
theorem zdy.unset (r:zdy K H env σ) (i:Nat):zdy K H (env.set i none) (σ.set i none):=⟨by simp [r.len],fun j e q=>by
 by_cases hj:j=i
 ·subst hj
  have hl:j < env.length:=by
   have:=(List.getElem?_eq_some_iff.mp q).1
   simpa using this
  rw [List.getElem?_set_self hl] at q
  cases q
 ·rw [List.getElem?_set_ne (Ne.symm hj)] at q ⊢
  exact r.at_ j e q⟩
end
abbrev DQ:=D->Sto->Prop
abbrev EM:=Slo->Sto->DQ->Prop
abbrev TM:=Slo->Sto->(Bool->Sto->Prop)->Prop
abbrev AM:=Slo->Sto->(List D->Sto->Prop)->Prop
abbrev XW:=Value->List (Str×D)->Slo->Sto->Prop
structure Fin where
 nx:Slo->Sto->Prop
 rt:DQ
 bk:Slo->Sto->Prop:=fun _ _=>False
 ct:Slo->Sto->Prop:=fun _ _=>False
abbrev SM:=Fin->Slo->Sto->Prop
section
variable (K:PySem.W.Frag) (P:Program) (w:World) (B:Hp)
def dnE (H:Hp) (Q:VK):DQ:=fun d S'=>∀ v H',Le H H'->Rp K P w S' H'->DV K H' d v->Q v H'
def up (m:EM):TE:=fun σ H Q=>Le B H∧∃ env S,zdy K H env σ∧Rp K P w S H∧m env S (dnE K P w H Q)
def upT (m:TM):TT:=fun σ H Q=>Le B H∧∃ env S,zdy K H env σ∧Rp K P w S H∧m env S fun b S'=>∀ H',Le H H'->Rp K P w S' H'->Q b H'
def upA (m:AM):TA:=fun σ H Q=>Le B H∧∃ env S,zdy K H env σ∧Rp K P w S H∧m env S fun ds S'=>∀ vs H',Le H H'->Rp K P w S' H'->DVs K H' ds vs->Q vs H'
def dnF (H:Hp) (D:Ends):Fin where
 nx:=fun env S'=>∀ σ H',Le H H'->zdy K H' env σ->Rp K P w S' H'->D.nx σ H'
 rt:=dnE K P w H D.rt
 bk:=fun env S'=>∀ σ H',Le H H'->zdy K H' env σ->Rp K P w S' H'->D.bk σ H'
 ct:=fun env S'=>∀ σ H',Le H H'->zdy K H' env σ->Rp K P w S' H'->D.ct σ H'
def upS (m:SM):TS:=fun D σ H=>Le B H∧∃ env S,zdy K H env σ∧Rp K P w S H∧m (dnF K P w H D) env S
def XdR (H:Hp) (d:Option Addr) (fs:List (Str×D)):Prop:=match d with
 | some a=>∃ vs,H a=some (.xd vs)∧KVs K H fs vs
 | none=>fs=[]
def upW (W:XW):WX:=fun cls d σ H=>Le B H∧∃ env S fs,zdy K H env σ∧Rp K P w S H∧XdR K H d fs∧W cls fs env S
end
def zdx (m:EM):Prop:=∀ env S (Q Q':DQ),(∀ d S,Q d S->Q' d S)->m env S Q->m env S Q'
def zkh (m:TM):Prop:=∀ env S (Q Q':Bool->Sto->Prop),(∀ d S,Q d S->Q' d S)->m env S Q->m env S Q'
def znY (m:AM):Prop:=∀ env S (Q Q':List D->Sto->Prop),(∀ d S,Q d S->Q' d S)->m env S Q->m env S Q'
structure zhd (A B:Fin):Prop where
 nx:∀ e S,A.nx e S->B.nx e S
 rt:∀ d S,A.rt d S->B.rt d S
 bk:∀ e S,A.bk e S->B.bk e S
 ct:∀ e S,A.ct e S->B.ct e S
def zqL (m:SM):Prop:=∀ A B env S,zhd A B->m A env S->m B env S
structure ME (X:Cx) (B:Hp) (e:Expr) (m:EM):Prop where
 pe:PE X e (up X.K X.prog X.w B m)
 mono:zdx m
structure MT (X:Cx) (B:Hp) (e:Expr) (m:TM):Prop where
 pt:PT X e (upT X.K X.prog X.w B m)
 mono:zkh m
structure MA (X:Cx) (B:Hp) (es:List Expr) (m:AM):Prop where
 pa:PA X es (upA X.K X.prog X.w B m)
 mono:znY m
structure MS (X:Cx) (B:Hp) (st:Stmt) (m:SM):Prop where
 ps:PS X st (upS X.K X.prog X.w B m)
 mono:zqL m
structure MSs (X:Cx) (B:Hp) (st:List Stmt) (m:SM):Prop where
 ps:PSs X st (upS X.K X.prog X.w B m)
 mono:zqL m
theorem zbF {X:Cx} {e:Expr} {t t':TE} (h:PE X e t) (i:∀ σ H Q,t' σ H Q->t σ H Q):PE X e t':=⟨fun pins s σ H Q I q=>h.run pins s σ H Q I (i σ H Q q)⟩
theorem zmY {X:Cx} {e:Expr} {t t':TT} (h:PT X e t) (i:∀ σ H Q,t' σ H Q->t σ H Q):PT X e t':=⟨fun pins s σ H Q I q=>h.run pins s σ H Q I (i σ H Q q)⟩
theorem zqZ {X:Cx} {e:Expr} {t t':TT} (h:PW X e t) (i:∀ σ H Q,t' σ H Q->t σ H Q):PW X e t':=⟨fun wh pins s σ H Q I q=>h.run wh pins s σ H Q I (i σ H Q q)⟩
theorem zq1 {X:Cx} {e:List Expr} {t t':TA} (h:PA X e t) (i:∀ σ H Q,t' σ H Q->t σ H Q):PA X e t':=⟨fun pos pins s σ H Q I q=>h.run pos pins s σ H Q I (i σ H Q q)⟩
theorem zd4 {X:Cx} {e:Stmt} {t t':TS} (h:PS X e t) (i:∀ D σ H,t' D σ H->t D σ H):PS X e t':=⟨fun pins s σ H D I q=>h.run pins s σ H D I (i D σ H q)⟩
theorem zop {X:Cx} {e:List Stmt} {t t':TS} (h:PSs X e t) (i:∀ D σ H,t' D σ H->t D σ H):PSs X e t':=⟨fun pins s σ H D I q=>h.run pins s σ H D I (i D σ H q)⟩
section
variable {K:PySem.W.Frag} {P:Program} {w:World} {H H':Hp}
theorem ze6 {Q:VK} (l:Le H H'):∀ d S,dnE K P w H Q d S->dnE K P w H' Q d S:=fun _ _ h v H2 l2 r z=>h v H2 (l.trans l2) r z
theorem zpb {D:Ends} (l:Le H H'):zhd (dnF K P w H D) (dnF K P w H' D):=
 ⟨fun _ _ h σ H2 l2 e r=>h σ H2 (l.trans l2) e r,ze6 l,fun _ _ h σ H2 l2 e r=>h σ H2 (l.trans l2) e r,fun _ _ h σ H2 l2 e r=>h σ H2 (l.trans l2) e r⟩
theorem zhd.refl (A:Fin):zhd A A:=⟨fun _ _ h=>h,fun _ _ h=>h,fun _ _ h=>h,fun _ _ h=>h⟩
end
section
variable {X:Cx} {B:Hp}
def zag (i:Nat):EM:=fun env S Q=>match env[i]? with
 | some (some d)=>Q d S
 | _=>False
theorem zaa (i:Nat) {x:Str} {pos:Pos} (h:PE X (.Name x pos) (tVar i)):ME X B (.Name x pos) (zag i):=by
 refine ⟨zbF h fun σ H Q q=>?_,fun env S Q Q' i h=>?_⟩
 ·obtain ⟨_,env,S,r,z,q⟩:=q
  unfold zag at q
  split at q
  ·rename_i d e
   obtain ⟨v,e1,e2⟩:=r.at_ i d e
   exact ⟨v,e1,q v H (Le.refl H) z e2⟩
  ·exact q.elim
 ·unfold zag at h ⊢
  split at h
  ·exact i _ _ h
  ·exact h.elim
def mC (d:D):EM:=fun _ S Q=>Q d S
theorem zzf (d:D):zdx (mC d):=fun _ S Q Q' i h=>i _ _ h
theorem ztI {e:Expr} {d:D} {v:V} (h:PE X e (tC v)) (hd:∀ H,DV X.K H d v):ME X B e (mC d):=by
 refine ⟨zbF h fun σ H Q q=>?_,zzf d⟩
 obtain ⟨_,env,S,r,z,q⟩:=q
 exact q v H (Le.refl H) z (hd H)
theorem zaf {i j pos}:ME X B (.Constant (.int i) j pos) (mC (.int i)):=ztI pe_int fun _=>.int i
theorem zcn {b j pos}:ME X B (.Constant (.bool b) j pos) (mC (.bl b)):=ztI pe_bl fun _=>.bl b
theorem zgE {j pos}:ME X B (.Constant .none j pos) (mC .non):=ztI pe_non fun _=>.non
theorem zap {x j pos} (ok:OkS x:=by exact ⟨by decide +kernel,by decide +kernel⟩):ME X B (.Constant (.str x) j pos) (mC (.str x)):=ztI pe_str fun _=>.str x ok
abbrev BM:=D->D->Sto->DQ->Prop
structure OpD (X:Cx) (f:Value->Value->Sem Value) (r:BM):Prop where
 op:OpR X f fun x y H Q=>∃ d e S,DV X.K H d x∧DV X.K H e y∧Rp X.K X.prog X.w S H∧r d e S (dnE X.K X.prog X.w H Q)
 mono:∀ d e S (Q Q':DQ),(∀ d S,Q d S->Q' d S)->r d e S Q->r d e S Q'
def mOp (r:BM) (ma mb:EM):EM:=fun env S Q=>ma env S fun x S1=>mb env S1 fun y S2=>r x y S2 Q
theorem zkE {r:BM} {ma mb:EM} (hr:∀ d e S (Q Q':DQ),(∀ d S,Q d S->Q' d S)->r d e S Q->r d e S Q') (ha:zdx ma) (hb:zdx mb):zdx (mOp r ma mb):=fun env S Q Q' i h=>
 ha env S _ _ (fun x S1 h1=>hb env S1 _ _ (fun y S2 h2=>hr x y S2 _ _ i h2) h1) h
variable {a b:Expr} {ma mb:EM} {pos:Pos}
theorem zlK {K:PySem.W.Frag} {P:Program} {w:World} {r:BM} {R:R2} (ha:zdx ma) (hb:zdx mb) (hR:∀ x y H Q d e S,DV K H d x->DV K H e y->Rp K P w S H->r d e S (dnE K P w H Q)->R x y H Q)
  (hr:∀ d e S (Q Q':DQ),(∀ d S,Q d S->Q' d S)->r d e S Q->r d e S Q') {σ:L2.St} {H:Hp} {Q:VK} (h:up K P w B (mOp r ma mb) σ H Q):tOp R (up K P w B ma) (up K P w B mb) σ H Q:=by
 obtain ⟨lB,env,S,r0,z0,h⟩:=h
 refine ⟨lB,env,S,r0,z0,ha env S _ _ (fun x S1 h1 v H1 l1 z1 d1=>?_) h⟩
 refine ⟨lB.trans l1,env,S1,r0.le l1,z1,hb env S1 _ _ (fun y S2 h2 u H2 l2 z2 d2=>?_) h1⟩
 exact hR v u H2 Q x y S2 (d1.le l2) d2 z2 (hr _ _ _ _ _ (ze6 (l1.trans l2)) h2)
theorem zaF {op:Operator} {r:BM} (ho:OpD X (binaryOp op) r) (ha:ME X B a ma) (hb:ME X B b mb):ME X B (.BinOp a op b pos) (mOp r ma mb):=
 ⟨zbF (pe_op ho.op ha.pe hb.pe) fun _ _ _ h=>zlK ha.mono hb.mono (fun _ _ _ _ d e S h1 h2 h3 h4=>⟨d,e,S,h1,h2,h3,h4⟩) ho.mono h,zkE ho.mono ha.mono hb.mono⟩
theorem ze4 {op:CmpOp} {r:BM} (ho:OpD X (compareOp op) r) (ha:ME X B a ma) (hb:ME X B b mb) (hm:behindInMarks op b=false:=by first | exact nomark _ | rfl):ME X B (.Compare a [op] [b] pos) (mOp r ma mb):=
 ⟨zbF (pe_cmpR ho.op ha.pe hb.pe hm) fun _ _ _ h=>zlK ha.mono hb.mono (fun _ _ _ _ d e S h1 h2 h3 h4=>⟨d,e,S,h1,h2,h3,h4⟩) ho.mono h,zkE ho.mono ha.mono hb.mono⟩
def mB (m:EM):TM:=fun env S Q=>m env S fun d S1=>match d with
 | .bl b=>Q b S1
 | _=>False
theorem zv4 {m:EM} (h:zdx m):zkh (mB m):=fun env S Q Q' i q=>h env S _ _ (fun d S1 z=>by
 cases d <;> first | exact i _ _ z | exact z.elim) q
theorem zat {op:CmpOp} {r:BM} (ho:OpD X (compareOp op) r) (ha:ME X B a ma) (hb:ME X B b mb) (hm:behindInMarks op b=false:=by first | exact nomark _ | rfl):MT X B (.Compare a [op] [b] pos) (mB (mOp r ma mb)):=by
 refine ⟨zmY (pt_cmpR ho.op ha.pe hb.pe hm) fun σ H Q h=>?_,zv4 (zkE ho.mono ha.mono hb.mono)⟩
 obtain ⟨lB,env,S,r0,z0,h⟩:=h
 refine zlK (r:=r) ha.mono hb.mono (fun _ _ _ _ d e S h1 h2 h3 h4=>⟨d,e,S,h1,h2,h3,h4⟩) ho.mono ⟨lB,env,S,r0,z0,?_⟩
 refine zkE ho.mono ha.mono hb.mono env S _ _ (fun d S1 q v H' l r d1=>?_) h
 cases d1 <;> first | exact ⟨_,rfl,q H' l r⟩ | exact q.elim
end
section
variable {X:Cx}
theorem opd {f:Value->Value->Sem Value} {r:BM} (R:R2) (h:OpR X f R) (hR:∀ x y H Q d e S,DV X.K H d x->DV X.K H e y->Rp X.K X.prog X.w S H->r d e S (dnE X.K X.prog X.w H Q)->R x y H Q)
  (mono:∀ d e S (Q Q':DQ),(∀ d S,Q d S->Q' d S)->r d e S Q->r d e S Q'):OpD X f r:=⟨fun pins s σ H x y v u Q I rx ry q=>by
 obtain ⟨d,e,S,h1,h2,h3,h4⟩:=q
 exact h pins s σ H x y v u Q I rx ry (hR x y H Q d e S h1 h2 h3 h4),mono⟩
theorem zaC {K:PySem.W.Frag} {P:Program} {w:World} {H:Hp} {Q:VK} {S:Sto} {d:D} {v:V} (h:dnE K P w H Q d S) (r:Rp K P w S H) (z:DV K H d v):Q v H:=h v H (Le.refl H) r z
theorem ziE {K:PySem.W.Frag} {P:Program} {w:World} {H:Hp} {Q:VK} {S:Sto} {ds:List D} {vs:List V} (h:∀ p,S p=none->dnE K P w H Q (.ref p) (put S p (.lst ds))) (r:Rp K P w S H) (z:DVs K H ds vs):∀ p,H p=none->Q (.ref p) (upd H p (.lst vs)):=fun p hp=>
 h p (r.free hp) _ _ (Le.new hp) (r.new hp ⟨vs,upd_same,z.le (Le.new hp)⟩) (.ref p)
theorem zlB {K:PySem.W.Frag} {P:Program} {w:World} {H:Hp} {Q:VK} {S:Sto} {ds:List D} {vs:List V} (h:dnE K P w H Q (.tup ds) S) (r:Rp K P w S H) (z:DVs K H ds vs):∀ p,H p=none->Q (.ref p) (upd H p (.tup vs)):=fun p hp=>
 h _ _ (Le.new hp) (r.more hp) (.tup (.inl (.inl upd_same)) (z.le (Le.new hp)) upd_same)
theorem OkS.append {a b:Str} (h:OkS a) (h':OkS b) (hl:a.length+b.length≤sizeLine):OkS (a++b):=by
 refine ⟨?_,?_⟩
 ·have h1:=h.1
  have h2:=h'.1
  unfold PyData.strOk at *
  show ((a.cps++b.cps).all _)=true
  rw [Array.all_append]
  rw [h1,h2]
  rfl
 ·show (a.cps++b.cps).size≤sizeLine
  rw [Array.size_append]
  exact hl
def zcp:BM:=fun d e S Q=>match d,e with
 | .int i,.int j=>Q (.int (i+j)) S
 | .str i,.str j=>i.length+j.length≤sizeLine∧Q (.str (i++j)) S
 | .tp f xs,.tp f' ys=>(f || f')=false∧xs.length+ys.length≤sizeLine∧Q (.tup (xs++ys)) S
 | .ref a,.ref b=>match S a,S b with
  | some (.lst xs),some (.lst ys)=>xs.length+ys.length≤sizeLine∧∀ p,S p=none->Q (.ref p) (put S p (.lst (xs++ys)))
  | _,_=>False
 | _,_=>False
theorem zsW:∀ d e S (Q Q':DQ),(∀ d S,Q d S->Q' d S)->zcp d e S Q->zcp d e S Q':=by
 intro d e S Q Q' i h
 cases d <;> cases e <;> first | exact h.elim | exact i _ _ h | exact ⟨h.1,i _ _ h.2⟩ | exact ⟨h.1,h.2.1,i _ _ h.2.2⟩ | skip
 rename_i a b
 unfold zcp at h ⊢
 dsimp only at h ⊢
 split at h
 ·exact ⟨h.1,fun p hp=>i _ _ (h.2 p hp)⟩
 ·exact h.elim
theorem zaK:OpD X (binaryOp .Add) zcp:=by
 refine opd _ ((op_add.or op_add_str).or (op_catA.or op_cat)) (fun x y H Q d e S h1 h2 r h=>?_) zsW
 cases h1 <;> cases h2 <;> first | exact h.elim | skip
 ·exact .inl (.inl ⟨_,_,rfl,rfl,zaC h r (.int _)⟩)
 ·rename_i i o1 j o2
  exact .inl (.inr ⟨_,_,rfl,rfl,h.1,zaC h.2 r (.str _ (o1.append o2 h.1))⟩)
 ·rename_i a vs ds f1 s1 z1 t1 b us es f2 s2 z2 t2
  obtain ⟨hf,h⟩:=h
  obtain ⟨rfl,rfl⟩:=Bool.or_eq_false_iff.mp hf
  have hl:vs.length+us.length≤sizeLine:=by rw [← z1.length,← z2.length];exact h.1
  refine .inr (.inl ⟨_,_,vs,us,rfl,rfl,s1,s2,hl,fun e=>?_,fun _ e=>?_,fun _ _=>zlB h.2 r (z1.append z2)⟩)
  ·subst e
   cases z1
   exact zaC h.2 r (.tup s2 z2 t2)
  ·subst e
   cases z2
   exact zaC h.2 r (by rw [List.append_nil];exact .tup s1 z1 t1)
 ·rename_i a b
  unfold zcp at h
  dsimp only at h
  split at h
  ·rename_i xs ys e1 e2
   obtain ⟨vs,q1,z1⟩:=r _ _ e1
   obtain ⟨us,q2,z2⟩:=r _ _ e2
   refine .inr (.inr ⟨_,_,vs,us,rfl,rfl,q1,q2,by rw [← z1.length,← z2.length];exact h.1,ziE h.2 r (z1.append z2)⟩)
  ·exact h.elim
def vI (C:Int->Int->Prop) (g:Int->Int->D):BM:=fun d e S Q=>match d,e with
 | .int i,.int j=>C i j∧Q (g i j) S
 | _,_=>False
theorem zze {C:Int->Int->Prop} {g:Int->Int->D}:∀ d e S (Q Q':DQ),(∀ d S,Q d S->Q' d S)->vI C g d e S Q->vI C g d e S Q':=by
 intro d e S Q Q' i h
 cases d <;> cases e <;> first | exact h.elim | exact ⟨h.1,i _ _ h.2⟩
def vI0 (g:Int->Int->D):BM:=fun d e S Q=>match d,e with
 | .int i,.int j=>Q (g i j) S
 | _,_=>False
theorem zv3 {g:Int->Int->D}:∀ d e S (Q Q':DQ),(∀ d S,Q d S->Q' d S)->vI0 g d e S Q->vI0 g d e S Q':=by
 intro d e S Q Q' i h
 cases d <;> cases e <;> first | exact h.elim | exact i _ _ h
theorem zza {f:Value->Value->Sem Value} {C:Int->Int->Prop} {g:Int->Int->Int} (h:OpR X f (rI C fun i j=>.int (g i j))):OpD X f (vI C fun i j=>.int (g i j)):=by
 refine opd _ h (fun x y H Q d e S h1 h2 r h=>?_) zze
 cases h1 <;> cases h2 <;> first | exact h.elim | exact ⟨_,_,rfl,rfl,h.1,zaC h.2 r (.int _)⟩
theorem zjR:OpD X (binaryOp .Sub) (vI0 fun i j=>.int (i - j)):=by
 refine opd _ op_sub (fun x y H Q d e S h1 h2 r h=>?_) zv3
 cases h1 <;> cases h2 <;> first | exact h.elim | exact ⟨_,_,rfl,rfl,zaC h r (.int _)⟩
theorem ziU:OpD X (binaryOp .Mod) (vI (fun _ j=>0 < j) fun i j=>.int (i % j)):=zza op_mod
theorem zhy:OpD X (binaryOp .FloorDiv) (vI CDivW fun i j=>.int (i / j)):=zza op_fdivW
theorem zox:OpD X (binaryOp .Pow) (vI CPow fun i j=>.int (i ^ j.toNat)):=zza op_pow
def zns:BM:=fun d e S Q=>match d,e with
 | .int i,.int j=>CMul i j∧Q (.int (i * j)) S
 | .ref a,.int k=>match S a with
  | some (.lst xs)=>-(2 ^ 63)≤k∧k < 2 ^ 63∧xs.length * k.toNat≤sizeLine∧∀ p,S p=none->Q (.ref p) (put S p (.lst (List.replicate k.toNat xs).flatten))
  | _=>False
 | _,_=>False
theorem zsQ:∀ d e S (Q Q':DQ),(∀ d S,Q d S->Q' d S)->zns d e S Q->zns d e S Q':=by
 intro d e S Q Q' i h
 cases d <;> cases e <;> first | exact h.elim | exact ⟨h.1,i _ _ h.2⟩ | skip
 unfold zns at h ⊢
 dsimp only at h ⊢
 split at h
 ·exact ⟨h.1,h.2.1,h.2.2.1,fun p hp=>i _ _ (h.2.2.2 p hp)⟩
 ·exact h.elim
theorem DVs.rep {K:PySem.W.Frag} {H:Hp} {ds:List D} {vs:List V} (h:DVs K H ds vs):∀ n:Nat,DVs K H (List.replicate n ds).flatten (List.replicate n vs).flatten
 | 0=>.nil
 | n+1=>by
  rw [List.replicate_succ,List.replicate_succ,List.flatten_cons,List.flatten_cons]
  exact h.append (DVs.rep h n)
theorem zkB:OpD X (binaryOp .Mult) zns:=by
 refine opd _ (op_mul.or op_rep) (fun x y H Q d e S h1 h2 r h=>?_) zsQ
 cases h1 <;> cases h2 <;> first | exact h.elim | skip
 ·exact .inl ⟨_,_,rfl,rfl,h.1,zaC h.2 r (.int _)⟩
 ·unfold zns at h
  dsimp only at h
  split at h
  ·rename_i xs e1
   obtain ⟨vs,q1,z1⟩:=r _ _ e1
   exact .inr ⟨_,_,vs,rfl,rfl,q1,h.1,h.2.1,by rw [← z1.length];exact h.2.2.1,ziE h.2.2.2 r (z1.rep _)⟩
  ·exact h.elim
def zrC (pi:Int->Int->Bool) (ps:List Nat->List Nat->Bool):BM:=fun d e S Q=>match d,e with
 | .int i,.int j=>Q (.bl (pi i j)) S
 | .str i,.str j=>Q (.bl (ps i.cps.toList j.cps.toList)) S
 | _,_=>False
theorem zsP {pi:Int->Int->Bool} {ps:List Nat->List Nat->Bool}:∀ d e S (Q Q':DQ),(∀ d S,Q d S->Q' d S)->zrC pi ps d e S Q->zrC pi ps d e S Q':=by
 intro d e S Q Q' i h
 cases d <;> cases e <;> first | exact h.elim | exact i _ _ h
theorem zm1 {f:Value->Value->Sem Value} {pi:Int->Int->Bool} {ps:List Nat->List Nat->Bool} (h1:OpR X f (rI0 fun i j=>.bl (pi i j))) (h2:OpR X f (fun x y H Q=>∃ i j,x = .str i∧y = .str j∧Q (.bl (ps i.cps.toList j.cps.toList)) H)):OpD X f (zrC pi ps):=by
 refine opd _ (h1.or h2) (fun x y H Q d e S h1 h2 r h=>?_) zsP
 cases h1 <;> cases h2 <;> first | exact h.elim | exact .inl ⟨_,_,rfl,rfl,zaC h r (.bl _)⟩ | exact .inr ⟨_,_,rfl,rfl,zaC h r (.bl _)⟩
abbrev vLt:BM:=zrC (fun i j=>decide (i < j)) fun a b=>decide (a < b)
abbrev vLe:BM:=zrC (fun i j=>decide (i≤j)) fun a b=>!decide (b < a)
abbrev vGt:BM:=zrC (fun i j=>decide (j < i)) fun a b=>decide (b < a)
abbrev vGe:BM:=zrC (fun i j=>decide (j≤i)) fun a b=>!decide (a < b)
theorem zoy:OpD X (compareOp .Lt) vLt:=zm1 op_lt op_lt_str
theorem znE:OpD X (compareOp .LtE) vLe:=zm1 op_le op_le_str
theorem zlW:OpD X (compareOp .Gt) vGt:=zm1 op_gt op_gt_str
theorem zp3:OpD X (compareOp .GtE) vGe:=zm1 op_ge op_ge_str
def rs (S:Sto):Nat->D->Option PyData
 | _,.non=>some .none
 | _,.bl b=>some (.bool b)
 | _,.int i=>some (.int i)
 | _,.str x=>some (.str x)
 | n+1,.tp _ ds=>(ds.mapM (rs S n)).map .tuple
 | n+1,.rol ds=>(ds.mapM (rs S n)).map .list
 | n+1,.ref a=>match S a with
  | some (.lst ds)=>(ds.mapM (rs S n)).map .list
  | _=>none
 | _,_=>none
theorem zkp {α β:Type} {f:α->Option β} {x:α} {xs:List α} {ys:List β} (h:(x :: xs).mapM f=some ys):∃ y r,f x=some y∧xs.mapM f=some r∧ys=y :: r:=by
 rw [List.mapM_cons] at h
 cases e:f x with
 | none=>rw [e] at h;cases h
 | some y=>
  rw [e] at h
  cases e2:xs.mapM f with
  | none=>rw [e2] at h;cases h
  | some r=>
   rw [e2] at h
   exact ⟨y,r,rfl,rfl,(Option.some.inj h).symm⟩
section
variable {K:PySem.W.Frag} {P:Program} {w:World} {S:Sto} {H:Hp}
def zBR (K:PySem.W.Frag) (H:Hp) (S:Sto) (n:Nat):Prop:=∀ d v p,DV K H d v->rs S n d=some p->Dp K H v p∧p.canLay0=true∧p.depth≤n
theorem zmU {n:Nat} (ih:zBR K H S n):∀ (ds:List D) (vs:List V) (ps:List PyData),DVs K H ds vs->ds.mapM (rs S n)=some ps->DpAll K H vs ps∧PyData.canLayAll0 ps=true∧PyData.depthAll ps≤n
 | [],vs,ps,h,e=>by
  cases h
  rw [List.mapM_nil] at e
  cases e
  exact ⟨.nil,rfl,Nat.zero_le _⟩
 | d :: ds,_,ps,h,e=>by
  cases h with
  | cons h1 h2=>
   obtain ⟨y,r,e1,e2,rfl⟩:=zkp e
   obtain ⟨a1,a2,a3⟩:=ih d _ y h1 e1
   obtain ⟨b1,b2,b3⟩:=zmU ih ds _ r h2 e2
   refine ⟨.cons a1 b1,?_,?_⟩
   ·show (y.canLay0 && PyData.canLayAll0 r)=true
    rw [a2,b2]
    rfl
   ·show max y.depth (PyData.depthAll r)≤n
    exact Nat.max_le.mpr ⟨a3,b3⟩
theorem zjX {α β:Type} {f:α->β} {o:Option α} {y:β} (h:o.map f=some y):∃ x,o=some x∧y=f x:=by
 cases o with
 | none=>cases h
 | some x=>exact ⟨x,rfl,(Option.some.inj h).symm⟩
theorem zy3 (r:Rp K P w S H):∀ n,zBR K H S n:=by
 intro n
 induction n with
 | zero=>
  intro d v p h e
  cases h <;> first | (cases e;done) | skip
  ·cases e;exact ⟨.non,rfl,Nat.zero_le _⟩
  ·cases e;exact ⟨.bl _,rfl,Nat.zero_le _⟩
  ·cases e;exact ⟨.int _,rfl,Nat.zero_le _⟩
  ·rename_i x ok
   cases e;exact ⟨.str _,ok.1,Nat.zero_le _⟩
 | succ n ih=>
  intro d v p h e
  cases h with
  | non=>cases e;exact ⟨.non,rfl,Nat.zero_le _⟩
  | bl b=>cases e;exact ⟨.bl _,rfl,Nat.zero_le _⟩
  | int i=>cases e;exact ⟨.int _,rfl,Nat.zero_le _⟩
  | str x ok=>cases e;exact ⟨.str _,ok.1,Nat.zero_le _⟩
  | ty=>cases e
  | rod=>cases e
  | tup s z=>
   obtain ⟨ps,e1,rfl⟩:=zjX (show (List.mapM (rs S n) _).map PyData.tuple=some p from e)
   obtain ⟨a1,a2,a3⟩:=zmU ih _ _ ps z e1
   exact ⟨.tup s a1,a2,Nat.succ_le_succ a3⟩
  | rol s z=>
   obtain ⟨ps,e1,rfl⟩:=zjX (show (List.mapM (rs S n) _).map PyData.list=some p from e)
   obtain ⟨a1,a2,a3⟩:=zmU ih _ _ ps z e1
   exact ⟨.lst s.sq a1,a2,Nat.succ_le_succ a3⟩
  | ref a=>
   unfold rs at e
   split at e
   ·rename_i ds e0
    obtain ⟨vs,q,z⟩:=r _ _ e0
    obtain ⟨ps,e1,rfl⟩:=zjX e
    obtain ⟨a1,a2,a3⟩:=zmU ih _ _ ps z e1
    exact ⟨.lst (SqL.of q) a1,a2,Nat.succ_le_succ a3⟩
   ·cases e
theorem zdJ (r:Rp K P w S H) {d:D} {v:V} {p:PyData} (h:DV K H d v) (e:rs S 40 d=some p):Dp K H v p∧SeqAt.shaped p=true:=by
 obtain ⟨a,b,c⟩:=zy3 r 40 d v p h e
 refine ⟨a,?_⟩
 show (p.canLay0 && decide (p.depth≤64))=true
 rw [b,decide_eq_true (Nat.le_trans c (by decide))]
 rfl
end
def zkr (g:Bool->Bool):BM:=fun d e S Q=>match d,e with
 | .str x,.str y=>Q (.bl (g (decide (x=y)))) S
 | .int x,.int y=>Q (.bl (g (decide (x=y)))) S
 | .bl x,.bl y=>Q (.bl (g (decide (x=y)))) S
 | d,e=>match rs S 40 d,rs S 40 e with
  | some p,some q=>Q (.bl (g (PyData.eqv p q))) S
  | _,_=>False
theorem zsV {g:Bool->Bool}:∀ d e S (Q Q':DQ),(∀ d S,Q d S->Q' d S)->zkr g d e S Q->zkr g d e S Q':=by
 intro d e S Q Q' i h
 unfold zkr at h ⊢
 split at h
 ·exact i _ _ h
 ·exact i _ _ h
 ·exact i _ _ h
 ·split at h
  ·exact i _ _ h
  ·exact h.elim
abbrev vEq:BM:=zkr fun b=>b
abbrev vNe:BM:=zkr fun b=>!b
theorem zf3 (x y:Str):decide (x=y)=PyData.eqv (.str x) (.str y):=by
 show decide (x=y)=(x == y)
 rfl
theorem zq4 {f:Value->Value->Sem Value} {g:Bool->Bool} (h1:OpR X f (fun x y H Q=>scal x y=true∧Q (.bl (g (decide (x=y)))) H))
  (h2:OpR X f (fun x y H Q=>∃ d e,Dp X.K H x d∧Dp X.K H y e∧SeqAt.shaped d=true∧SeqAt.shaped e=true∧Q (.bl (g (PyData.eqv d e))) H)):OpD X f (zkr g):=by
 refine opd _ (h1.or h2) (fun x y H Q d e S h1 h2 r h=>?_) zsV
 unfold zkr at h
 split at h
 ·rename_i a b
  cases h1;cases h2
  refine .inl ⟨rfl,?_⟩
  have:decide (V.str a=V.str b)=decide (a=b):=by
   by_cases q:a=b
   ·subst q;simp
   ·rw [decide_eq_false q,decide_eq_false (fun z=>q (V.str.inj z))]
  rw [this]
  exact zaC h r (.bl _)
 ·rename_i a b
  cases h1;cases h2
  refine .inl ⟨rfl,?_⟩
  have:decide (V.int a=V.int b)=decide (a=b):=by
   by_cases q:a=b
   ·subst q;simp
   ·rw [decide_eq_false q,decide_eq_false (fun z=>q (V.int.inj z))]
  rw [this]
  exact zaC h r (.bl _)
 ·rename_i a b
  cases h1;cases h2
  refine .inl ⟨rfl,?_⟩
  have:decide (V.bl a=V.bl b)=decide (a=b):=by
   by_cases q:a=b
   ·subst q;simp
   ·rw [decide_eq_false q,decide_eq_false (fun z=>q (V.bl.inj z))]
  rw [this]
  exact zaC h r (.bl _)
 ·split at h
  ·rename_i p q e1 e2
   obtain ⟨a1,a2⟩:=zdJ r h1 e1
   obtain ⟨b1,b2⟩:=zdJ r h2 e2
   exact .inr ⟨p,q,a1,b1,a2,b2,zaC h r (.bl _)⟩
  ·exact h.elim
theorem za3 (hu:X.A.units+64 < cLine):OpD X (compareOp .Eq) vEq:=zq4 op_eq (op_eqD hu)
theorem zko (hu:X.A.units+64 < cLine):OpD X (compareOp .NotEq) vNe:=zq4 op_ne (op_neD hu)
def zqP (g:Bool->Bool):BM:=fun d e S Q=>match d,e with
 | .non,.non=>Q (.bl (g true)) S
 | .bl x,.bl y=>Q (.bl (g (decide (x=y)))) S
 | _,.non=>Q (.bl (g false)) S
 | _,_=>False
theorem zsT {g:Bool->Bool}:∀ d e S (Q Q':DQ),(∀ d S,Q d S->Q' d S)->zqP g d e S Q->zqP g d e S Q':=by
 intro d e S Q Q' i h
 cases d <;> cases e <;> first | exact h.elim | exact i _ _ h
abbrev vIs:BM:=zqP fun b=>b
abbrev zmL:BM:=zqP fun b=>!b
theorem zq2 {f:Value->Value->Sem Value} {g:Bool->Bool} (h1:OpR X f (fun x y H Q=>y = .non∧Q (.bl (g (decide (x = .non)))) H))
  (h2:OpR X f (fun x y H Q=>∃ a b:Bool,x = .bl a∧y = .bl b∧Q (.bl (g (decide (a=b)))) H)):OpD X f (zqP g):=by
 refine opd _ (h1.or h2) (fun x y H Q d e S h1 h2 r h=>?_) zsT
 cases h2 <;> cases h1 <;> first | exact h.elim | exact .inl ⟨rfl,zaC h r (.bl _)⟩ | exact .inr ⟨_,_,rfl,rfl,zaC h r (.bl _)⟩
theorem zsH:OpD X (compareOp .Is) vIs:=zq2 op_isN op_isBl
theorem zli:OpD X (compareOp .IsNot) zmL:=zq2 op_notN op_notBl
end
section
variable {X:Cx} {B:Hp}
def zt6 (S:Sto):D->Option Bool
 | .non=>some false
 | .bl b=>some b
 | .int i=>some (i != 0)
 | .str x=>some ((x.length:Int) != 0)
 | .tp _ xs=>some (!xs.isEmpty)
 | .rol xs=>some (!xs.isEmpty)
 | .ref a=>match S a with
  | some (.lst xs)=>some (!xs.isEmpty)
  | some (.dic xs)=>some (!xs.isEmpty)
  | _=>none
 | .ty _=>none
 | .rod _ _=>none
theorem zt5 {K:PySem.W.Frag} {P:Program} {w:World} {H:Hp} {S:Sto} {d:D} {v:V} {b:Bool} (h:DV K H d v) (r:Rp K P w S H) (e:zt6 S d=some b):TruV K v H b:=by
 cases h with
 | non=>cases e;rfl
 | bl=>cases e;rfl
 | int=>cases e;rfl
 | str x ok=>cases e;exact ⟨ok.2,rfl⟩
 | ty=>cases e
 | rod=>cases e
 | tup s z=>
  cases e
  refine .inr (.inl ⟨_,s,?_⟩)
  cases z <;> rfl
 | rol s z=>
  cases e
  refine .inl ⟨_,s.sq,?_⟩
  cases z <;> rfl
 | ref a=>
  simp only [zt6] at e
  split at e
  ·rename_i xs e0
   obtain ⟨vs,q,z⟩:=r _ _ e0
   cases e
   refine .inl ⟨_,SqL.of q,?_⟩
   cases z <;> rfl
  ·rename_i xs e0
   obtain ⟨vs,q,z⟩:=r _ _ e0
   cases e
   refine .inr (.inr ⟨_,q,?_⟩)
   cases z <;> rfl
  ·cases e
def zfr (m:EM):TM:=fun env S Q=>m env S fun d S1=>match zt6 S1 d with
 | some b=>Q b S1
 | none=>False
theorem zsN {m:EM} (h:zdx m):zkh (zfr m):=fun env S Q Q' i q=>h env S _ _ (fun d S1 z=>by
 split at z
 ·exact i _ _ z
 ·exact z.elim) q
theorem za7 {a:Expr} {m:EM} (h:ME X B a m) (he:∀ whole,isTrue a X.env whole=(do let v ← whole;standAt a.pos;holding [v] (truthy v)):=by intro _;rfl):MT X B a (zfr m):=by
 refine ⟨zmY (pt_truth h.pe he) fun σ H Q q=>?_,zsN h.mono⟩
 obtain ⟨lB,env,S,r0,z0,q⟩:=q
 refine ⟨lB,env,S,r0,z0,h.mono env S _ _ (fun d S1 q v H1 l1 z1 d1=>?_) q⟩
 dsimp only at q
 split at q
 ·rename_i b e
  exact ⟨b,zt5 d1 z1 e,q H1 l1 z1⟩
 ·exact q.elim
def zmd (t u:TM):TM:=fun env S Q=>t env S fun c S1=>match c with
 | true=>u env S1 Q
 | false=>Q false S1
def mOr (t u:TM):TM:=fun env S Q=>t env S fun c S1=>match c with
 | true=>Q true S1
 | false=>u env S1 Q
def zhC (t:TM):TM:=fun env S Q=>t env S fun c S1=>Q (!c) S1
structure MW (X:Cx) (B:Hp) (e:Expr) (m:TM):Prop where
 pw:PW X e (upT X.K X.prog X.w B m)
 mono:zkh m
theorem MW.mt {e:Expr} {m:TM} (h:MW X B e m):MT X B e m:=⟨h.pw.pt,h.mono⟩
variable {a b:Expr} {rest:List Expr} {t u:TM} {pos:Pos}
theorem zf1 (h:MT X B a t):MW X B (.BoolOp .And [a] pos) t:=⟨pw_and1 h.pt,h.mono⟩
theorem ze3 (h:MT X B a t):MW X B (.BoolOp .Or [a] pos) t:=⟨pw_or1 h.pt,h.mono⟩
theorem zhh (h:MT X B a t) (h2:MW X B (.BoolOp .And (b :: rest) pos) u):MW X B (.BoolOp .And (a :: b :: rest) pos) (zmd t u):=by
 refine ⟨zqZ (pw_and h.pt h2.pw) fun σ H Q q=>?_,fun env S Q Q' i q=>h.mono env S _ _ (fun c S1 z=>?_) q⟩
 ·obtain ⟨lB,env,S,r0,z0,q⟩:=q
  refine ⟨lB,env,S,r0,z0,h.mono env S _ _ (fun c S1 q H1 l1 z1=>?_) q⟩
  cases c with
  | true=>
   show upT X.K X.prog X.w B u σ H1 Q
   exact ⟨lB.trans l1,env,S1,r0.le l1,z1,h2.mono env S1 _ _ (fun b S2 q H2 l2 z2=>q H2 (l1.trans l2) z2) q⟩
  | false=>exact q H1 l1 z1
 ·cases c with
  | true=>exact h2.mono env S1 _ _ i z
  | false=>exact i _ _ z
theorem zhz (h:MT X B a t) (h2:MW X B (.BoolOp .Or (b :: rest) pos) u):MW X B (.BoolOp .Or (a :: b :: rest) pos) (mOr t u):=by
 refine ⟨zqZ (pw_or h.pt h2.pw) fun σ H Q q=>?_,fun env S Q Q' i q=>h.mono env S _ _ (fun c S1 z=>?_) q⟩
 ·obtain ⟨lB,env,S,r0,z0,q⟩:=q
  refine ⟨lB,env,S,r0,z0,h.mono env S _ _ (fun c S1 q H1 l1 z1=>?_) q⟩
  cases c with
  | false=>
   show upT X.K X.prog X.w B u σ H1 Q
   exact ⟨lB.trans l1,env,S1,r0.le l1,z1,h2.mono env S1 _ _ (fun b S2 q H2 l2 z2=>q H2 (l1.trans l2) z2) q⟩
  | true=>exact q H1 l1 z1
 ·cases c with
  | false=>exact h2.mono env S1 _ _ i z
  | true=>exact i _ _ z
theorem zbw (h:MT X B a t):MT X B (.UnaryOp .Not a pos) (zhC t):=by
 refine ⟨zmY (pt_not h.pt) fun σ H Q q=>?_,fun env S Q Q' i q=>h.mono env S _ _ (fun c S1 z=>i _ _ z) q⟩
 exact q
variable {ma mb:EM}
def kB (k:Bool->Sto->Prop):D->Sto->Prop:=fun d S=>match d with
 | .bl b=>k b S
 | _=>False
def zkq (ma mb:EM):EM:=fun env S Q=>ma env S (kB fun c S1=>match c with
 | true=>mb env S1 Q
 | false=>Q (.bl false) S1)
def zAn (ma mb:EM):EM:=fun env S Q=>ma env S (kB fun c S1=>match c with
 | true=>Q (.bl true) S1
 | false=>mb env S1 Q)
def zwc (ma:EM):EM:=fun env S Q=>ma env S (kB fun c S1=>Q (.bl (!c)) S1)
theorem zoW {k k':Bool->Sto->Prop} (h:∀ b S,k b S->k' b S):∀ d S,kB k d S->kB k' d S:=fun d S q=>by
 cases d <;> first | exact h _ _ q | exact (show False from q).elim
theorem zwG {k:Bool->Sto->Prop} {K:PySem.W.Frag} {H:Hp} {d:D} {v:V} {S:Sto} (q:kB k d S) (z:DV K H d v):∃ c,v = .bl c∧k c S:=by
 cases z <;> first | exact ⟨_,rfl,q⟩ | exact (show False from q).elim
theorem zkF {op} {m:EM} (h:ME X B a m):ME X B (.BoolOp op [a] pos) m:=⟨pe_one h.pe,h.mono⟩
theorem zjW (h:ME X B a ma) (h2:ME X B (.BoolOp .And (b :: rest) pos) mb):ME X B (.BoolOp .And (a :: b :: rest) pos) (zkq ma mb):=by
 refine ⟨zbF (pe_and h.pe h2.pe) fun σ H Q q=>?_,fun env S Q Q' i q=>h.mono env S _ _ (zoW fun c S1 z=>?_) q⟩
 ·obtain ⟨lB,env,S,r0,z0,q⟩:=q
  refine ⟨lB,env,S,r0,z0,h.mono env S _ _ (fun d S1 q v H1 l1 z1 d1=>?_) q⟩
  obtain ⟨c,rfl,q⟩:=zwG q d1
  refine ⟨c,rfl,?_⟩
  cases c with
  | true=>
   show up X.K X.prog X.w B mb σ H1 Q
   exact ⟨lB.trans l1,env,S1,r0.le l1,z1,h2.mono env S1 _ _ (ze6 l1) q⟩
  | false=>exact q _ H1 l1 z1 (.bl _)
 ·cases c with
  | true=>exact h2.mono env S1 _ _ i z
  | false=>exact i _ _ z
def zqf (t:TM) (ma mb:EM):EM:=fun env S Q=>t env S fun c S1=>match c with
 | true=>ma env S1 Q
 | false=>mb env S1 Q
theorem znI {c:Expr} (hc:MT X B c t) (ha:ME X B a ma) (hb:ME X B b mb):ME X B (.IfExp c a b pos) (zqf t ma mb):=by
 refine ⟨zbF (pe_ifExp hc.pt ha.pe hb.pe) fun σ H Q q=>?_,fun env S Q Q' i q=>hc.mono env S _ _ (fun c S1 z=>?_) q⟩
 ·obtain ⟨lB,env,S,r0,z0,q⟩:=q
  refine ⟨lB,env,S,r0,z0,hc.mono env S _ _ (fun c S1 q H1 l1 z1=>?_) q⟩
  cases c with
  | true=>
   show up X.K X.prog X.w B ma σ H1 Q
   exact ⟨lB.trans l1,env,S1,r0.le l1,z1,ha.mono env S1 _ _ (ze6 l1) q⟩
  | false=>
   show up X.K X.prog X.w B mb σ H1 Q
   exact ⟨lB.trans l1,env,S1,r0.le l1,z1,hb.mono env S1 _ _ (ze6 l1) q⟩
 ·cases c with
  | true=>exact ha.mono env S1 _ _ i z
  | false=>exact hb.mono env S1 _ _ i z
def ziW (r r':BM) (ma mb mc:EM):EM:=fun env S Q=>ma env S fun x S1=>mb env S1 fun y S2=>r x y S2 (kB fun k S3=>match k with
 | true=>mc env S3 fun z S4=>r' y z S4 Q
 | false=>Q (.bl false) S3)
theorem zoE {r r':BM} {ma mb mc:EM} (hr:∀ d e S (Q Q':DQ),(∀ d S,Q d S->Q' d S)->r d e S Q->r d e S Q') (hr':∀ d e S (Q Q':DQ),(∀ d S,Q d S->Q' d S)->r' d e S Q->r' d e S Q')
  (ha:zdx ma) (hb:zdx mb) (hc:zdx mc):zdx (ziW r r' ma mb mc):=fun env S Q Q' i q=>
 ha env S _ _ (fun x S1 q=>hb env S1 _ _ (fun y S2 q=>hr x y S2 _ _ (zoW fun k S3 q=>by
  cases k with
  | true=>exact hc env S3 _ _ (fun z S4 q=>hr' y z S4 _ _ i q) q
  | false=>exact i _ _ q) q) q) q
theorem zpv {r r':BM} {mc:EM} {op op':CmpOp} (ho:OpD X (compareOp op) r) (ho':OpD X (compareOp op') r') (ha:zdx ma) (hb:zdx mb) (hc:zdx mc) {σ:L2.St} {H:Hp} {Q:VK} (q:up X.K X.prog X.w B (ziW r r' ma mb mc) σ H Q) :
  tChain (fun x y H Q=>∃ d e S,DV X.K H d x∧DV X.K H e y∧Rp X.K X.prog X.w S H∧r d e S (dnE X.K X.prog X.w H Q)) (fun x y H Q=>∃ d e S,DV X.K H d x∧DV X.K H e y∧Rp X.K X.prog X.w S H∧r' d e S (dnE X.K X.prog X.w H Q))
   (up X.K X.prog X.w B ma) (up X.K X.prog X.w B mb) (up X.K X.prog X.w B mc) σ H Q:=by
 obtain ⟨lB,env,S,r0,z0,h⟩:=q
 refine ⟨lB,env,S,r0,z0,ha env S _ _ (fun x S1 h1 v H1 l1 z1 d1=>?_) h⟩
 refine ⟨lB.trans l1,env,S1,r0.le l1,z1,hb env S1 _ _ (fun y S2 h2 u H2 l2 z2 d2=>?_) h1⟩
 refine ⟨x,y,S2,d1.le l2,d2,z2,ho.mono _ _ _ _ _ (fun c S3 q v3 H3 l3 z3 d3=>?_) h2⟩
 obtain ⟨k,rfl,q⟩:=zwG q d3
 refine ⟨k,rfl,?_⟩
 have l03:Le H H3:=(l1.trans l2).trans l3
 cases k with
 | true=>
  show up X.K X.prog X.w B mc σ H3 _
  refine ⟨lB.trans l03,env,S3,r0.le l03,z3,hc env S3 _ _ (fun z S4 q v4 H4 l4 z4 d4=>?_) q⟩
  exact ⟨y,z,S4,d2.le (l3.trans l4),d4,z4,ho'.mono _ _ _ _ _ (ze6 (l03.trans l4)) q⟩
 | false=>exact q _ H3 l03 z3 (.bl _)
theorem zll {c:Expr} {r r':BM} {mc:EM} {op op':CmpOp} (ho:OpD X (compareOp op) r) (ho':OpD X (compareOp op') r') (ha:ME X B a ma) (hb:ME X B b mb) (hc:ME X B c mc)
  (h:∀ {R R':R2} {ta tb tc:TE},OpR X (compareOp op) R->OpR X (compareOp op') R'->PE X a ta->PE X b tb->PE X c tc->PT X (.Compare a [op,op'] [b,c] pos) (tTest (tChain R R' ta tb tc)):=by intro R R' ta tb tc h1 h2 h3 h4 h5;exact pt_chain h1 h2 h3 h4 h5) :
  MT X B (.Compare a [op,op'] [b,c] pos) (mB (ziW r r' ma mb mc)):=by
 have mm:=zoE ho.mono ho'.mono ha.mono hb.mono hc.mono
 refine ⟨zmY (h ho.op ho'.op ha.pe hb.pe hc.pe) fun σ H Q q=>?_,zv4 mm⟩
 obtain ⟨lB,env,S,r0,z0,q⟩:=q
 refine zpv ho ho' ha.mono hb.mono hc.mono ⟨lB,env,S,r0,z0,mm env S _ _ (fun d S1 q v H' l r d1=>?_) q⟩
 cases d1 <;> first | exact ⟨_,rfl,q H' l r⟩ | exact q.elim
def zal:AM:=fun _ S Q=>Q [] S
def zac (m:EM) (r:AM):AM:=fun env S Q=>m env S fun d S1=>r env S1 fun ds S2=>Q (d :: ds) S2
theorem zae:MA X B [] zal:=⟨zq1 pa_nil fun σ H Q q=>by
 obtain ⟨lB,env,S,r0,z0,q⟩:=q
 exact q [] H (Le.refl H) z0 .nil,fun env S Q Q' i q=>i _ _ q⟩
theorem zp9 {m:EM} {r:AM} (h:zdx m) (h2:znY r):znY (zac m r):=fun env S Q Q' i q=>h env S _ _ (fun d S1 z=>h2 env S1 _ _ (fun ds S2 z=>i _ _ z) z) q
theorem zab {e:Expr} {es:List Expr} {m:EM} {r:AM} (h:ME X B e m) (h2:MA X B es r) (hs:starEach (e :: es) X.env=(false,eval e X.env) :: starEach es X.env:=by rfl):MA X B (e :: es) (zac m r):=by
 refine ⟨zq1 (pa_cons h.pe h2.pa hs) fun σ H Q q=>?_,zp9 h.mono h2.mono⟩
 obtain ⟨lB,env,S,r0,z0,q⟩:=q
 refine ⟨lB,env,S,r0,z0,h.mono env S _ _ (fun d S1 q v H1 l1 z1 d1=>?_) q⟩
 refine ⟨lB.trans l1,env,S1,r0.le l1,z1,h2.mono env S1 _ _ (fun ds S2 q vs H2 l2 z2 d2=>?_) q⟩
 exact q (v :: vs) H2 (l1.trans l2) z2 (.cons (d1.le l2) d2)
def zcV (m:AM):EM:=fun env S Q=>m env S fun ds S1=>ds.length≤sizeLine∧Q (.tup ds) S1
def zf2 (m:AM):EM:=fun env S Q=>m env S fun ds S1=>ds.length≤sizeLine∧∀ p,S1 p=none->Q (.ref p) (put S1 p (.lst ds))
theorem zaL {es:List Expr} {m:AM} {x1} (h:MA X B es m):ME X B (.Tuple es x1 pos) (zcV m):=by
 refine ⟨zbF (pe_tup h.pa) fun σ H Q q=>?_,fun env S Q Q' i q=>h.mono env S _ _ (fun ds S1 z=>⟨z.1,i _ _ z.2⟩) q⟩
 obtain ⟨lB,env,S,r0,z0,q⟩:=q
 refine ⟨lB,env,S,r0,z0,h.mono env S _ _ (fun ds S1 q vs H1 l1 z1 d1=>?_) q⟩
 exact ⟨by rw [← d1.length];exact q.1,zlB (ze6 l1 _ _ q.2) z1 d1⟩
theorem zbi {es:List Expr} {m:AM} (h:MA X B es m):ME X B (.List es pos) (zf2 m):=by
 refine ⟨zbF (pe_lst h.pa) fun σ H Q q=>?_,fun env S Q Q' i q=>h.mono env S _ _ (fun ds S1 z=>⟨z.1,fun p hp=>i _ _ (z.2 p hp)⟩) q⟩
 obtain ⟨lB,env,S,r0,z0,q⟩:=q
 refine ⟨lB,env,S,r0,z0,h.mono env S _ _ (fun ds S1 q vs H1 l1 z1 d1=>?_) q⟩
 exact ⟨by rw [← d1.length];exact q.1,ziE (fun p hp=>ze6 l1 _ _ (q.2 p hp)) z1 d1⟩
abbrev CM:=List D->Sto->DQ->Prop
structure zhe (X:Cx) (f:Value) (r:CM):Prop where
 cr:CallR X f fun xs H Q=>∃ ds S,DVs X.K H ds xs∧Rp X.K X.prog X.w S H∧r ds S (dnE X.K X.prog X.w H Q)
 mono:∀ ds S (Q Q':DQ),(∀ d S,Q d S->Q' d S)->r ds S Q->r ds S Q'
theorem zjr {f:Value} {r:CM} (R:List V->Hp->VK->Prop) (h:CallR X f R) (hR:∀ xs H Q ds S,DVs X.K H ds xs->Rp X.K X.prog X.w S H->r ds S (dnE X.K X.prog X.w H Q)->R xs H Q)
  (mono:∀ ds S (Q Q':DQ),(∀ d S,Q d S->Q' d S)->r ds S Q->r ds S Q'):zhe X f r:=⟨fun pins s σ H xs us Q I rx q=>by
 obtain ⟨ds,S,h1,h3,h4⟩:=q
 exact h pins s σ H xs us Q I rx (hR xs H Q ds S h1 h3 h4),mono⟩
def mCB (r:CM) (m:AM):EM:=fun env S Q=>m env S fun ds S1=>r ds S1 Q
theorem zoF {r:CM} {m:AM} (hr:∀ ds S (Q Q':DQ),(∀ d S,Q d S->Q' d S)->r ds S Q->r ds S Q') (hm:znY m):zdx (mCB r m):=fun env S Q Q' i q=>hm env S _ _ (fun ds S1 z=>hr _ _ _ _ i z) q
theorem zt4 {r:CM} {m:AM} {K:PySem.W.Frag} {P:Program} {w:World} (hr:∀ ds S (Q Q':DQ),(∀ d S,Q d S->Q' d S)->r ds S Q->r ds S Q') (hm:znY m) {σ:L2.St} {H:Hp} {Q:VK} (q:up K P w B (mCB r m) σ H Q) :
  tCB (fun xs H Q=>∃ ds S,DVs K H ds xs∧Rp K P w S H∧r ds S (dnE K P w H Q)) (upA K P w B m) σ H Q:=by
 obtain ⟨lB,env,S,r0,z0,q⟩:=q
 refine ⟨lB,env,S,r0,z0,hm env S _ _ (fun ds S1 q vs H1 l1 z1 d1=>?_) q⟩
 exact ⟨ds,S1,d1,z1,hr _ _ _ _ (ze6 l1) q⟩
variable {e:Expr} {es:List Expr} {m:AM} {r:CM} {x:Str} {p:Pos}
theorem zas {id:String} (hc:zhe X (.builtin id) r) (ha:MA X B (e :: es) m)
  (h:∀ {R:List V->Hp->VK->Prop} {t:TA},CallR X (.builtin id) R->PA X (e :: es) t->PE X (.Call (.Name x p) (e :: es) [] pos) (tCB R t)):ME X B (.Call (.Name x p) (e :: es) [] pos) (mCB r m):=
 ⟨zbF (h hc.cr ha.pa) fun _ _ _ q=>zt4 hc.mono ha.mono q,zoF hc.mono ha.mono⟩
theorem zaN {T:String} (hc:zhe X (.type T) r) (ha:MA X B (e :: es) m)
  (h:∀ {R:List V->Hp->VK->Prop} {t:TA},CallR X (.type T) R->PA X (e :: es) t->PE X (.Call (.Name x p) (e :: es) [] pos) (tCB R t)):ME X B (.Call (.Name x p) (e :: es) [] pos) (mCB r m):=
 ⟨zbF (h hc.cr ha.pa) fun _ _ _ q=>zt4 hc.mono ha.mono q,zoF hc.mono ha.mono⟩
theorem zoK {T:String} (hc:zhe X (.type T) r)
  (h:∀ {R:List V->Hp->VK->Prop},CallR X (.type T) R->PE X (.Call (.Name x p) [] [] pos) (tCB R tNil)):ME X B (.Call (.Name x p) [] [] pos) (mCB r zal):=
 ⟨zbF (h hc.cr) fun σ H Q q=>by
  obtain ⟨lB,env,S,r0,z0,q⟩:=q
  exact ⟨[],S,.nil,z0,q⟩,zoF hc.mono fun env S Q Q' i q=>i _ _ q⟩
theorem zl9 {K:PySem.W.Frag} {H:Hp} {d:D} {vs:List V} (h:DVs K H [d] vs):∃ v,vs=[v]∧DV K H d v:=by
 cases h with
 | cons h1 h2=>cases h2;exact ⟨_,rfl,h1⟩
theorem zxO {K:PySem.W.Frag} {H:Hp} {d e:D} {vs:List V} (h:DVs K H [d,e] vs):∃ v u,vs=[v,u]∧DV K H d v∧DV K H e u:=by
 cases h with
 | cons h1 h2=>cases h2 with
  | cons h2 h3=>cases h3;exact ⟨_,_,rfl,h1,h2⟩
def zpJ (S:Sto):D->Option (List D)
 | .tp _ xs=>some xs
 | .rol xs=>some xs
 | .ref a=>match S a with
  | some (.lst xs)=>some xs
  | _=>none
 | _=>none
def zqy:D->Bool
 | .tp f _=>f
 | _=>false
theorem zoc {K:PySem.W.Frag} {P:Program} {w:World} {H:Hp} {S:Sto} {d:D} {v:V} {ds:List D} (h:DV K H d v) (r:Rp K P w S H) (e:zpJ S d=some ds):∃ p vs,v = .ref p∧(SqL K H p vs∧zqy d=false ∨ SqT K H p vs∧TF H p vs (zqy d))∧DVs K H ds vs:=by
 cases h <;> first | (cases e;done) | skip
 ·rename_i s z t
  cases e
  exact ⟨_,_,rfl,.inr ⟨s,t⟩,z⟩
 ·rename_i s z
  cases e
  exact ⟨_,_,rfl,.inl ⟨s.sq,rfl⟩,z⟩
 ·simp only [zpJ] at e
  split at e
  ·rename_i xs e0
   cases e
   obtain ⟨vs,q,z⟩:=r _ _ e0
   exact ⟨_,vs,rfl,.inl ⟨SqL.of q,rfl⟩,z⟩
  ·cases e
theorem zud {K:PySem.W.Frag} {P:Program} {w:World} {H:Hp} {S:Sto} {d:D} {v:V} {ds:List D} (h:DV K H d v) (r:Rp K P w S H) (e:zpJ S d=some ds):∃ p vs,v = .ref p∧(SqL K H p vs ∨ SqT K H p vs)∧DVs K H ds vs:=by
 obtain ⟨p,vs,e,s,z⟩:=zoc h r e
 exact ⟨p,vs,e,s.imp (fun s=>s.1) fun s=>s.1,z⟩
def zwm (S:Sto):D->Option Nat
 | .str x=>some x.length
 | .tp _ xs=>some xs.length
 | .rol xs=>some xs.length
 | .ref a=>match S a with
  | some (.lst xs)=>some xs.length
  | some (.dic xs)=>some xs.length
  | _=>none
 | _=>none
def zdN:CM:=fun ds S Q=>match ds with
 | [d]=>match zwm S d with
  | some n=>Q (.int n) S
  | none=>False
 | _=>False
theorem za2:zhe X (.builtin "len") zdN:=by
 refine zjr _ (call_len.or call_lenD) (fun xs H Q ds S h r q=>?_) (fun ds S Q Q' i q=>?_)
 ·unfold zdN at q
  split at q
  ·rename_i d
   obtain ⟨v,rfl,z⟩:=zl9 h
   split at q
   ·rename_i n e
    cases z with
    | non=>cases e
    | bl=>cases e
    | int=>cases e
    | ty=>cases e
    | rod=>cases e
    | str x ok=>cases e;exact .inl ⟨_,_,rfl,⟨ok.2,rfl⟩,zaC q r (.int _)⟩
    | tup s z=>cases e;exact .inl ⟨_,_,rfl,.inr ⟨_,s,z.length⟩,zaC q r (.int _)⟩
    | rol s z=>cases e;exact .inl ⟨_,_,rfl,.inl ⟨_,s.sq,z.length⟩,zaC q r (.int _)⟩
    | ref a=>
     simp only [zwm] at e
     split at e
     ·rename_i xs e0
      cases e
      obtain ⟨vs,e1,z⟩:=r _ _ e0
      exact .inl ⟨_,_,rfl,.inl ⟨_,SqL.of e1,z.length⟩,zaC q r (.int _)⟩
     ·rename_i xs e0
      cases e
      obtain ⟨vs,e1,z⟩:=r _ _ e0
      exact .inr ⟨_,vs,rfl,e1,by rw [← z.length];exact zaC q r (.int _)⟩
     ·cases e
   ·exact q.elim
  ·exact q.elim
 ·unfold zdN at q ⊢
  split at q
  ·split at q
   ·exact i _ _ q
   ·exact q.elim
  ·exact q.elim
def vI1 (g:Int->D):CM:=fun ds S Q=>match ds with
 | [.int i]=>Q (g i) S
 | _=>False
theorem zq8 {g:Int->D}:∀ ds S (Q Q':DQ),(∀ d S,Q d S->Q' d S)->vI1 g ds S Q->vI1 g ds S Q':=fun ds S Q Q' i q=>by
 unfold vI1 at q ⊢
 split at q
 ·exact i _ _ q
 ·exact q.elim
theorem zrx:zhe X (.builtin "abs") (vI1 fun i=>.int (if i < 0 then -i else i)):=by
 refine zjr _ call_abs (fun xs H Q ds S h r q=>?_) zq8
 unfold vI1 at q
 split at q
 ·obtain ⟨v,rfl,z⟩:=zl9 h
  cases z
  exact ⟨_,rfl,zaC q r (.int _)⟩
 ·exact q.elim
theorem zja:zhe X (.type "int") (vI1 fun i=>.int i):=by
 refine zjr _ call_int1 (fun xs H Q ds S h r q=>?_) zq8
 unfold vI1 at q
 split at q
 ·obtain ⟨v,rfl,z⟩:=zl9 h
  cases z
  exact .inl ⟨_,rfl,zaC q r (.int _)⟩
 ·exact q.elim
def vI2 (g:Int->Int->D):CM:=fun ds S Q=>match ds with
 | [.int i,.int j]=>Q (g i j) S
 | _=>False
theorem zv2 {g:Int->Int->D}:∀ ds S (Q Q':DQ),(∀ d S,Q d S->Q' d S)->vI2 g ds S Q->vI2 g ds S Q':=fun ds S Q Q' i q=>by
 unfold vI2 at q ⊢
 split at q
 ·exact i _ _ q
 ·exact q.elim
theorem zrw (hc:X.calm=true):zhe X (.builtin "max") (vI2 fun i j=>.int (if j > i then j else i)):=by
 refine zjr _ (call_max2 hc) (fun xs H Q ds S h r q=>?_) zv2
 unfold vI2 at q
 split at q
 ·obtain ⟨v,u,rfl,z,z'⟩:=zxO h
  cases z;cases z'
  exact ⟨_,_,rfl,zaC q r (.int _)⟩
 ·exact q.elim
def zjd:CM:=fun ds S Q=>match ds with
 | [d]=>match zpJ S d with
  | some xs=>∀ p,S p=none->Q (.ref p) (put S p (.lst xs))
  | none=>False
 | _=>False
theorem zkc:zhe X (.type "list") zjd:=by
 refine zjr _ call_list_of (fun xs H Q ds S h r q=>?_) (fun ds S Q Q' i q=>?_)
 ·unfold zjd at q
  split at q
  ·obtain ⟨v,rfl,z⟩:=zl9 h
   split at q
   ·rename_i xs e
    obtain ⟨p,vs,rfl,s,z⟩:=zud z r e
    exact ⟨p,vs,rfl,s,ziE q r z⟩
   ·exact q.elim
  ·exact q.elim
 ·unfold zjd at q ⊢
  split at q
  ·split at q
   ·exact fun p hp=>i _ _ (q p hp)
   ·exact q.elim
  ·exact q.elim
def zbX:CM:=fun ds S Q=>match ds with
 | [d]=>match zpJ S d with
  | some xs=>Q (.tp (zqy d) xs) S
  | none=>False
 | _=>False
theorem zb6:zhe X (.type "tuple") zbX:=by
 refine zjr _ call_tuple_of (fun xs H Q ds S h r q=>?_) (fun ds S Q Q' i q=>?_)
 ·unfold zbX at q
  split at q
  ·obtain ⟨v,rfl,z⟩:=zl9 h
   split at q
   ·rename_i xs e
    obtain ⟨p,vs,rfl,s,z⟩:=zoc z r e
    rcases s with ⟨s,ef⟩ | ⟨s,t⟩
    ·rw [ef] at q
     exact ⟨p,vs,rfl,.inl ⟨s,zlB q r z⟩⟩
    ·exact ⟨p,vs,rfl,.inr ⟨s,zaC q r (.tup s z t)⟩⟩
   ·exact q.elim
  ·exact q.elim
 ·unfold zbX at q ⊢
  split at q
  ·split at q
   ·exact i _ _ q
   ·exact q.elim
  ·exact q.elim
end
def keyD:D->Option Key
 | .int i=>some (.inl i)
 | .str x=>some (.inr x)
 | _=>none
theorem zhj {K:PySem.W.Frag} {H:Hp} {d:D} {v:V} {k:Key} (h:DV K H d v) (e:keyD d=some k):v=kV k:=by
 cases h <;> first | (cases e;rfl) | cases e
section
variable {κ:Type} [DecidableEq κ]
def putD (kvs:List (κ×D)) (k:κ) (v:D):List (κ×D):=
 if (kvs.any fun kv=>decide (kv.1=k))=true then kvs.map (fun kv=>if kv.1=k then (kv.1,v) else kv) else kvs++[(k,v)]
def zDC (kvs:List (κ×D)) (k:κ):List (κ×D):=kvs.filter fun kv=>decide (kv.1≠k)
variable {K:PySem.W.Frag} {H:Hp} {ds:List (κ×D)} {vs:List (κ×V)}
theorem KVs.val (h:KVs K H ds vs) (k:κ):(∀ d,valD ds k=some d->∃ v,valV vs k=some v∧DV K H d v)∧(valD ds k=none->valV vs k=none):=by
 induction h with
 | nil=>exact ⟨(fun d e=>nomatch e),fun _=>rfl⟩
 | @cons k' d v ds vs h1 h2 ih=>
  by_cases hk:k'=k
  ·subst hk
   have e1:valD ((k',d) :: ds) k'=some d:=by simp [valD]
   rw [e1,valV_pos rfl]
   exact ⟨fun d' e=>by cases e;exact ⟨v,rfl,h1⟩,(fun e=>nomatch e)⟩
  ·have e1:valD ((k',d) :: ds) k=valD ds k:=by simp [valD,hk]
   rw [e1,valV_neg hk]
   exact ih
theorem KVs.any (h:KVs K H ds vs) (k:κ):(ds.any fun kv=>decide (kv.1=k))=(vs.any fun kv=>decide (kv.1=k)):=by
 induction h with
 | nil=>rfl
 | cons h1 h2 ih=>simp only [List.any_cons,ih]
theorem KVs.map (h:KVs K H ds vs) (k:κ) {d:D} {v:V} (z:DV K H d v):KVs K H (ds.map fun kv=>if kv.1=k then (kv.1,d) else kv) (vs.map fun kv=>if kv.1=k then (kv.1,v) else kv):=by
 induction h with
 | nil=>exact .nil
 | @cons k' d' v' ds vs h1 h2 ih=>
  rw [List.map_cons,List.map_cons]
  by_cases hk:k'=k
  ·rw [if_pos (show (k',d').1=k from hk),if_pos (show (k',v').1=k from hk)]
   exact .cons z ih
  ·rw [if_neg (show ¬ (k',d').1=k from hk),if_neg (show ¬ (k',v').1=k from hk)]
   exact .cons h1 ih
theorem KVs.append {ds':List (κ×D)} {vs':List (κ×V)} (h:KVs K H ds vs) (h':KVs K H ds' vs'):KVs K H (ds++ds') (vs++vs'):=by
 induction h with
 | nil=>exact h'
 | cons h1 h2 ih=>exact .cons h1 ih
theorem KVs.put (h:KVs K H ds vs) (k:κ) {d:D} {v:V} (z:DV K H d v):KVs K H (putD ds k d) (putK vs k v):=by
 unfold putD putK
 rw [h.any k]
 split
 ·exact h.map k z
 ·exact h.append (.cons z .nil)
end
theorem DVs.atI {K:PySem.W.Frag} {H:Hp} {ds:List D} {vs:List V} {i:Int} {d:D} (h:DVs K H ds vs) (e:L2.atI ds i=some d):∃ v,L2.atI vs i=some v∧DV K H d v:=by
 unfold L2.atI at e ⊢
 rw [← h.length]
 cases q:ixN ds.length i with
 | none=>rw [q] at e;cases e
 | some j=>
  rw [q] at e
  exact h.get (show ds[j]? = some d from e)
theorem OkS.one {x:Str} {i:Int} {c:Nat} (h:OkS x) (e:L2.atI x.cps.toList i=some c):OkS ⟨#[c]⟩:=by
 refine ⟨?_,(show 1≤sizeLine by decide)⟩
 have hm:c∈x.cps:=by
  unfold L2.atI at e
  cases q:ixN x.cps.toList.length i with
  | none=>rw [q] at e;cases e
  | some j=>
   rw [q] at e
   have e':x.cps.toList[j]? = some c:=e
   simpa using List.mem_of_getElem? e'
 have h1:x.cps.all (· < 0x110000)=true:=h.1
 rw [Array.all_eq_true_iff_forall_mem] at h1
 have h2:=h1 c hm
 show (#[c]:Array Nat).all (· < 0x110000)=true
 simpa using h2
section
variable {X:Cx} {B:Hp}
def vIx:BM:=fun d e S Q=>match d,e with
 | .tp _ xs,.int i=>match atI xs i with
  | some x=>Q x S
  | none=>False
 | .rol xs,.int i=>match atI xs i with
  | some x=>Q x S
  | none=>False
 | .str x,.int i=>match atI x.cps.toList i with
  | some c=>Q (.str ⟨#[c]⟩) S
  | none=>False
 | .ref a,e=>match S a,e with
  | some (.lst xs),.int i=>match atI xs i with
   | some x=>Q x S
   | none=>False
  | some (.dic kvs),e=>match keyD e with
   | some k=>match valD kvs k with
    | some x=>Q x S
    | none=>False
   | none=>False
  | _,_=>False
 | _,_=>False
theorem zm7:∀ d e S (Q Q':DQ),(∀ d S,Q d S->Q' d S)->vIx d e S Q->vIx d e S Q':=by
 intro d e S Q Q' i h
 unfold vIx at h ⊢
 split at h
 ·split at h
  ·exact i _ _ h
  ·exact h.elim
 ·split at h
  ·exact i _ _ h
  ·exact h.elim
 ·split at h
  ·exact i _ _ h
  ·exact h.elim
 ·split at h
  ·split at h
   ·exact i _ _ h
   ·exact h.elim
  ·split at h
   ·split at h
    ·exact i _ _ h
    ·exact h.elim
   ·exact h.elim
  ·exact h.elim
 ·exact h.elim
theorem zoY (hu:X.A.units+1 < cLine):IxR X (fun x y H Q=>∃ a v,x = .ref a∧DGet H a y (some v)∧Q v H):=by
 intro value slice pins s σ H x y v u Q I rx ry h hs
 obtain ⟨a,z,rfl,g,q⟩:=h
 obtain rfl:v=Value.ref a:=rx
 refine PyProof.Rows.tail_any (ops:=[.ref a,u]) (dict_typeIs I g) PySem.F.slot_dict_getitem.lookup (d_getItem hu I g ry fun w' s3 I3 rw'=>?_) hs
 exact ⟨z,H,I3,rw',q⟩
theorem zak {a b:Expr} {ma mb:EM} {pos:Pos} (hu:X.A.units+1 < cLine) (ha:ME X B a ma) (hb:ME X B b mb) (hs:PlainIx b:=by exact fun _ _=>rfl):ME X B (.Subscript a b pos) (mOp vIx ma mb):=by
 refine ⟨zbF (pe_ix (ix_seq.or (zoY hu)) ha.pe hb.pe hs) fun σ H Q h=>zlK ha.mono hb.mono (fun x y H Q d e S h1 h2 r h=>?_) zm7 h,zkE zm7 ha.mono hb.mono⟩
 unfold vIx at h
 split at h
 ·split at h
  ·rename_i e0
   cases h2
   cases h1 with
   | tup s z=>
    obtain ⟨v,e1,z1⟩:=z.atI e0
    exact .inl (.inr (.inl ⟨_,_,_,v,rfl,rfl,s,e1,zaC h r z1⟩))
  ·exact h.elim
 ·split at h
  ·rename_i e0
   cases h2
   cases h1 with
   | rol s z=>
    obtain ⟨v,e1,z1⟩:=z.atI e0
    exact .inl (.inl ⟨_,_,_,v,rfl,rfl,s.sq,e1,zaC h r z1⟩)
  ·exact h.elim
 ·split at h
  ·rename_i e0
   cases h2
   cases h1 with
   | str x ok=>
    exact .inl (.inr (.inr ⟨_,_,_,rfl,rfl,ok.2,e0,zaC h r (.str _ (ok.one e0))⟩))
  ·exact h.elim
 ·split at h
  ·rename_i xs i e1
   split at h
   ·rename_i e0
    cases h1
    cases h2
    obtain ⟨vs,q1,z1⟩:=r _ _ e1
    obtain ⟨v,e2,z2⟩:=z1.atI e0
    exact .inl (.inl ⟨_,vs,_,v,rfl,rfl,SqL.of q1,e2,zaC h r z2⟩)
   ·exact h.elim
  ·rename_i kvs e e1
   split at h
   ·rename_i k ek
    split at h
    ·rename_i x0 e0
     cases h1
     obtain ⟨vs,q1,z1⟩:=r _ _ e1
     obtain ⟨v,e2,z2⟩:=(z1.val k).1 _ e0
     rw [zhj h2 ek]
     exact .inr ⟨_,v,rfl,by rw [← e2];exact DGet.k q1,zaC h r z2⟩
    ·exact h.elim
   ·exact h.elim
  ·exact h.elim
 ·exact h.elim
def zpI (S:Sto) (o i v:D):Option Sto:=match o with
 | .ref a=>match S a with
  | some (.lst xs)=>match i with
   | .int k=>match ixN xs.length k with
    | some j=>some (put S a (.lst (xs.set j v)))
    | none=>none
   | _=>none
  | some (.dic kvs)=>match keyD i with
   | some k=>if kvs.length < sizeLine then some (put S a (.dic (putD kvs k v))) else none
   | none=>none
  | _=>none
 | _=>none
def zCi (H0:V->V->V->Hp->(Hp->Prop)->Prop):TSet:=H0
theorem set_dict (hu:X.A.units+1 < cLine):PSet X (fun o i v H Q=>∃ a H',o = .ref a∧DPut H a i v H'∧Q H'):=by
 intro pins s σ H o i v ov iv u Q I ro ri rv h
 obtain ⟨a,H',rfl,g,q⟩:=h
 obtain rfl:ov=Value.ref a:=ro
 exact d_setItem hu I g ri rv fun s4 I4=>⟨H',I4,q⟩
def zy4 (X:Cx):TSet:=fun o i v H Q=>∃ do_ di dv S S',DV X.K H do_ o∧DV X.K H di i∧DV X.K H dv v∧Rp X.K X.prog X.w S H∧zpI S do_ di dv=some S'∧∀ H',Le H H'->Rp X.K X.prog X.w S' H'->Q H'
theorem zob (hu:X.A.units+1 < cLine):PSet X (zy4 X):=by
 intro pins s σ H o i v ov iv u Q I ro ri rv h
 obtain ⟨do_,di,dv,S,S',h1,h2,h3,r,e,q⟩:=h
 unfold zpI at e
 split at e
 ·rename_i a
  cases h1
  split at e
  ·rename_i xs e0
   split at e
   ·rename_i k
    cases h2
    split at e
    ·rename_i j ej
     cases e
     obtain ⟨vs,q1,z1⟩:=r _ _ e0
     have mu:Mut (H a):=by rw [q1];trivial
     refine set_list pins s σ H _ _ v ov iv u Q I ro ri rv ⟨a,vs,k,j,rfl,rfl,q1,by rw [← z1.length];exact ej,q _ (Le.mut mu) (r.wr mu ⟨_,upd_same,(z1.set h3 j).le (Le.mut mu)⟩)⟩
    ·cases e
   ·cases e
  ·rename_i kvs e0
   split at e
   ·rename_i k ek
    split at e
    ·rename_i hl
     cases e
     obtain ⟨vs,q1,z1⟩:=r _ _ e0
     have mu:Mut (H a):=by rw [q1];trivial
     have ev:=zhj h2 ek
     subst ev
     exact set_dict hu pins s σ H _ _ v ov iv u Q I ro ri rv ⟨a,_,rfl,DPut.k q1 (by rw [← z1.length];exact hl),q _ (Le.mut mu) (r.wr mu ⟨_,upd_same,(z1.put k h3).le (Le.mut mu)⟩)⟩
    ·cases e
   ·cases e
  ·cases e
 ·cases e
abbrev OM:=Slo->Sto->(Option Int->Sto->Prop)->Prop
structure MO (X:Cx) (B:Hp) (e:Option Expr) (m:OM):Prop where
 po:PO X e (fun σ H Q=>Le B H∧∃ env S,zdy X.K H env σ∧Rp X.K X.prog X.w S H∧m env S fun o S'=>∀ H',Le H H'->Rp X.K X.prog X.w S' H'->Q o H')
 mono:∀ env S (Q Q':Option Int->Sto->Prop),(∀ d S,Q d S->Q' d S)->m env S Q->m env S Q'
def zs2:OM:=fun _ S Q=>Q none S
def mP (m:EM):OM:=fun env S Q=>m env S fun d S1=>match d with
 | .int i=>Q (some i) S1
 | _=>False
theorem zq0 {e:Option Expr} {t t':TO} (h:PO X e t) (i:∀ σ H Q,t' σ H Q->t σ H Q):PO X e t':=⟨fun pins s σ H Q I q=>h.run pins s σ H Q I (i σ H Q q)⟩
theorem zlp:MO X B none zs2:=⟨zq0 po_none fun σ H Q q=>by
 obtain ⟨lB,env,S,r0,z0,q⟩:=q
 exact q H (Le.refl H) z0,fun env S Q Q' i q=>i _ _ q⟩
theorem zlo {e:Expr} {m:EM} (h:ME X B e m):MO X B (some e) (mP m):=by
 refine ⟨zq0 (po_some h.pe) fun σ H Q q=>?_,fun env S Q Q' i q=>h.mono env S _ _ (fun d S1 z=>?_) q⟩
 ·obtain ⟨lB,env,S,r0,z0,q⟩:=q
  refine ⟨lB,env,S,r0,z0,h.mono env S _ _ (fun d S1 q v H1 l1 z1 d1=>?_) q⟩
  cases d1 <;> first | exact ⟨_,rfl,q H1 l1 z1⟩ | exact q.elim
 ·cases d <;> first | exact i _ _ z | exact z.elim
def cutD (xs:List D) (lo hi:Option Int):List D:=(xs.drop (HT.sIx xs.length 0 lo)).take (HT.sIx xs.length xs.length hi - HT.sIx xs.length 0 lo)
theorem DVs.cut {K:PySem.W.Frag} {H:Hp} {ds:List D} {vs:List V} (h:DVs K H ds vs) (lo hi:Option Int):DVs K H (cutD ds lo hi) (cutV vs lo hi):=by
 unfold cutD cutV
 rw [← h.length]
 exact (h.drop _).take _
theorem OkS.cut {x:Str} (h:OkS x) (lo hi:Option Int):OkS (cutS x lo hi):=by
 refine ⟨?_,?_⟩
 ·have h1:x.cps.all (· < 0x110000)=true:=h.1
  rw [Array.all_eq_true_iff_forall_mem] at h1
  show ((List.take _ (List.drop _ x.cps.toList)).toArray).all (· < 0x110000)=true
  rw [Array.all_eq_true_iff_forall_mem]
  intro c hc
  refine h1 c ?_
  have hc':=List.mem_of_mem_drop (List.mem_of_mem_take (by simpa using hc))
  simpa using hc'
 ·refine Nat.le_trans ?_ h.2
  show ((List.take _ (List.drop _ x.cps.toList)).toArray).size≤x.cps.size
  rw [List.size_toArray,List.length_take,List.length_drop,Array.length_toList]
  omega
def vSl (d:D) (lo hi:Option Int) (S:Sto) (Q:DQ):Prop:=match d with
 | .tp f xs=>f=false∧Q (.tup (cutD xs lo hi)) S
 | .rol xs=>∀ p,S p=none->Q (.ref p) (put S p (.lst (cutD xs lo hi)))
 | .str x=>Q (.str (cutS x lo hi)) S
 | .ref a=>match S a with
  | some (.lst xs)=>∀ p,S p=none->Q (.ref p) (put S p (.lst (cutD xs lo hi)))
  | _=>False
 | _=>False
theorem zq5 (d:D) (lo hi:Option Int) (S:Sto) (Q Q':DQ) (i:∀ d S,Q d S->Q' d S) (h:vSl d lo hi S Q):vSl d lo hi S Q':=by
 unfold vSl at h ⊢
 split at h
 ·exact ⟨h.1,i _ _ h.2⟩
 ·exact fun p hp=>i _ _ (h p hp)
 ·exact i _ _ h
 ·split at h
  ·exact fun p hp=>i _ _ (h p hp)
  ·exact h.elim
 ·exact h.elim
theorem zn2 (xs:List D) (lo hi:Option Int) (h:HT.sIx xs.length 0 lo=0∧HT.sIx xs.length xs.length hi=xs.length):cutD xs lo hi=xs:=by
 unfold cutD
 rw [h.1,h.2]
 simp
def mSl (m:EM) (lo hi:OM):EM:=fun env S Q=>m env S fun d S1=>lo env S1 fun l S2=>hi env S2 fun h S3=>vSl d l h S3 Q
theorem zqb {e:Expr} {lo hi:Option Expr} {m:EM} {ml mh:OM} {p2 pos:Pos} (h:ME X B e m) (hl:MO X B lo ml) (hh:MO X B hi mh):ME X B (.Subscript e (.Slice lo hi none p2) pos) (mSl m ml mh):=by
 refine ⟨zbF (pe_slice (sl_list.or (sl_tupA.or sl_str)) h.pe hl.po hh.po) fun σ H Q q=>?_,
  fun env S Q Q' i q=>h.mono env S _ _ (fun d S1 q=>hl.mono env S1 _ _ (fun l S2 q=>hh.mono env S2 _ _ (fun u S3 q=>zq5 _ _ _ _ _ _ i q) q) q) q⟩
 obtain ⟨lB,env,S,r0,z0,q⟩:=q
 refine ⟨lB,env,S,r0,z0,h.mono env S _ _ (fun d S1 q v H1 l1 z1 d1=>?_) q⟩
 refine ⟨lB.trans l1,env,S1,r0.le l1,z1,hl.mono env S1 _ _ (fun l S2 q H2 l2 z2=>?_) q⟩
 refine ⟨lB.trans (l1.trans l2),env,S2,r0.le (l1.trans l2),z2,hh.mono env S2 _ _ (fun u S3 q H3 l3 z3=>?_) q⟩
 have l03:=(l1.trans l2).trans l3
 have dv:=d1.le (l2.trans l3)
 have q:=zq5 _ _ _ _ _ _ (ze6 l03) q
 unfold vSl at q
 split at q
 ·cases dv with
  | @tup a vs ds f s z t=>
   obtain ⟨ef,qq⟩:=q
   subst ef
   refine .inr (.inl ⟨_,vs,rfl,s,fun hw=>?_,fun _=>zlB qq z3 (z.cut l u)⟩)
   refine zaC qq z3 ?_
   rw [← z.length] at hw
   rw [zn2 _ _ _ hw]
   exact .tup s z t
 ·cases dv with
  | rol s z=>exact .inl ⟨_,_,rfl,s.sq,ziE q z3 (z.cut l u)⟩
 ·cases dv with
  | str x ok=>exact .inr (.inr ⟨_,rfl,ok.2,zaC q z3 (.str _ (ok.cut l u))⟩)
 ·cases dv
  split at q
  ·rename_i xs e0
   obtain ⟨vs,q1,z⟩:=z3 _ _ e0
   exact .inl ⟨_,vs,rfl,SqL.of q1,ziE q z3 (z.cut l u)⟩
  ·exact q.elim
 ·exact q.elim
def zlJ (g:Bool->Bool):BM:=fun d e S Q=>match e with
 | .tp f xs=>match rs S 40 d,rs S 40 (.tp f xs) with
  | some p,some (.tuple ps)=>Q (.bl (g (ps.any fun z=>PyData.eqv z p))) S
  | _,_=>False
 | .rol xs=>match rs S 40 d,rs S 40 (.rol xs) with
  | some p,some (.list ps)=>Q (.bl (g (ps.any fun z=>PyData.eqv z p))) S
  | _,_=>False
 | .str z=>match d with
  | .str y=>match y.cps.toList with
   | [c]=>Q (.bl (g (decide (c∈z.cps.toList)))) S
   | _=>False
  | _=>False
 | .ref a=>match S a with
  | some (.lst _)=>match rs S 40 d,rs S 40 (.ref a) with
   | some p,some (.list ps)=>Q (.bl (g (ps.any fun z=>PyData.eqv z p))) S
   | _,_=>False
  | some (.dic kvs)=>match keyD d with
   | some k=>Q (.bl (g (valD kvs k).isSome)) S
   | none=>False
  | some (.set f _)=>match keyD d with
   | some k=>Q (.bl (g (f k))) S
   | none=>False
  | _=>False
 | _=>False
theorem zsU {g:Bool->Bool}:∀ d e S (Q Q':DQ),(∀ d S,Q d S->Q' d S)->zlJ g d e S Q->zlJ g d e S Q':=by
 intro d e S Q Q' i h
 unfold zlJ at h ⊢
 split at h
 ·split at h
  ·exact i _ _ h
  ·exact h.elim
 ·split at h
  ·exact i _ _ h
  ·exact h.elim
 ·split at h
  ·split at h
   ·exact i _ _ h
   ·exact h.elim
  ·exact h.elim
 ·split at h
  ·split at h
   ·exact i _ _ h
   ·exact h.elim
  ·split at h
   ·exact i _ _ h
   ·exact h.elim
  ·split at h
   ·exact i _ _ h
   ·exact h.elim
  ·exact h.elim
 ·exact h.elim
theorem zvU (hu:X.A.units+65 < cLine):OpR X (compareOp .In) (fun x y H Q=>∃ d ds,Dp X.K H x d∧Dp X.K H y (.tuple ds)∧SeqAt.shaped d=true∧SeqAt.shaped (.tuple ds)=true∧Q (.bl (ds.any fun z=>PyData.eqv z d)) H):=by
 intro pins s σ H x y v u Q I rx ry h
 obtain ⟨d,ds,hd,he,sd,se,q⟩:=h
 obtain ⟨as,r1⟩:=Dp.reads I d x v hd rx
 obtain ⟨bs,r2⟩:=Dp.reads I (.tuple ds) y u he ry
 exact SeqAt.in_tuple_reads r2 r1 (SeqAt.canLay_of_shaped se) (SeqAt.canLay_of_shaped sd) (PyProof.Rows.room_in_shaped sd hu) ⟨.bl _,H,I,rfl,q⟩
theorem zow (hu:X.A.units+65 < cLine):OpR X (compareOp .NotIn) (fun x y H Q=>∃ d ds,Dp X.K H x d∧Dp X.K H y (.tuple ds)∧SeqAt.shaped d=true∧SeqAt.shaped (.tuple ds)=true∧Q (.bl (!ds.any fun z=>PyData.eqv z d)) H):=by
 intro pins s σ H x y v u Q I rx ry h
 obtain ⟨d,ds,hd,he,sd,se,q⟩:=h
 obtain ⟨as,r1⟩:=Dp.reads I d x v hd rx
 obtain ⟨bs,r2⟩:=Dp.reads I (.tuple ds) y u he ry
 exact SeqAt.notIn_tuple_reads r2 r1 (SeqAt.canLay_of_shaped se) (SeqAt.canLay_of_shaped sd) (PyProof.Rows.room_in_shaped sd hu) ⟨.bl _,H,I,rfl,q⟩
theorem zsD (hu:X.A.units+1 < cLine):OpR X (compareOp .In) (fun x y H Q=>∃ a o,y = .ref a∧DGet H a x o∧Q (.bl o.isSome) H):=by
 intro pins s σ H x y v u Q I rx ry h
 obtain ⟨a,o,rfl,g,q⟩:=h
 obtain rfl:u=Value.ref a:=ry
 exact d_in hu I g rx fun s3 I3=>⟨.bl o.isSome,H,I3,rfl,q⟩
theorem znC (hu:X.A.units+1 < cLine):OpR X (compareOp .NotIn) (fun x y H Q=>∃ a o,y = .ref a∧DGet H a x o∧Q (.bl (!o.isSome)) H):=by
 intro pins s σ H x y v u Q I rx ry h
 obtain ⟨a,o,rfl,g,q⟩:=h
 obtain rfl:u=Value.ref a:=ry
 exact d_notIn hu I g rx fun s3 I3=>⟨.bl (!o.isSome),H,I3,rfl,q⟩
theorem zkH {κ:Type} [DecidableEq κ] {K:PySem.W.Frag} {H:Hp} {ds:List (κ×D)} {vs:List (κ×V)} (h:KVs K H ds vs) (k:κ):(valV vs k).isSome=(valD ds k).isSome:=by
 obtain ⟨h1,h2⟩:=h.val k
 cases e:valD ds k with
 | none=>rw [h2 e];rfl
 | some d=>
  obtain ⟨v,e1,_⟩:=h1 d e
  rw [e1]
  rfl
theorem zq3 {f:Value->Value->Sem Value} {g:Bool->Bool}
  (hT:OpR X f (fun x y H Q=>∃ d ds,Dp X.K H x d∧Dp X.K H y (.tuple ds)∧SeqAt.shaped d=true∧SeqAt.shaped (.tuple ds)=true∧Q (.bl (g (ds.any fun z=>PyData.eqv z d))) H))
  (hL:OpR X f (fun x y H Q=>∃ d ds,Dp X.K H x d∧Dp X.K H y (.list ds)∧SeqAt.shaped d=true∧SeqAt.shaped (.list ds)=true∧Q (.bl (g (ds.any fun z=>PyData.eqv z d))) H))
  (hS:OpR X f (fun x y H Q=>∃ (c:Nat) (z:Str),x = .str ⟨#[c]⟩∧y = .str z∧Q (.bl (g (decide (c∈z.cps.toList)))) H))
  (hD:OpR X f (fun x y H Q=>∃ a o,y = .ref a∧DGet H a x o∧Q (.bl (g o.isSome)) H))
  (hK:OpR X f (fun x y H Q=>∃ (k:Key) (a:Addr) (S:Key->Bool) (n:Nat),x=kV k∧y=V.ref a∧H a=some (SetK X.prog X.w a S n)∧Q (.bl (g (S k))) H)):OpD X f (zlJ g):=by
 refine opd _ ((hT.or hL).or (hS.or (hD.or hK))) (fun x y H Q d e S h1 h2 r h=>?_) zsU
 unfold zlJ at h
 split at h
 ·split at h
  ·rename_i p ps e1 e2
   obtain ⟨a1,a2⟩:=zdJ r h1 e1
   obtain ⟨b1,b2⟩:=zdJ r h2 e2
   exact .inl (.inl ⟨p,ps,a1,b1,a2,b2,zaC h r (.bl _)⟩)
  ·exact h.elim
 ·split at h
  ·rename_i p ps e1 e2
   obtain ⟨a1,a2⟩:=zdJ r h1 e1
   obtain ⟨b1,b2⟩:=zdJ r h2 e2
   exact .inl (.inr ⟨p,ps,a1,b1,a2,b2,zaC h r (.bl _)⟩)
  ·exact h.elim
 ·split at h
  ·rename_i y0
   cases h1
   cases h2
   split at h
   ·rename_i c ec
    have ey:y0=⟨#[c]⟩:=by
     obtain ⟨⟨l⟩⟩:=y0
     have:l=[c]:=ec
     subst this
     rfl
    subst ey
    exact .inr (.inl ⟨c,_,rfl,rfl,zaC h r (.bl _)⟩)
   ·exact h.elim
  ·exact h.elim
 ·split at h
  ·split at h
   ·rename_i p ps e1 e2
    obtain ⟨a1,a2⟩:=zdJ r h1 e1
    obtain ⟨b1,b2⟩:=zdJ r h2 e2
    exact .inl (.inr ⟨p,ps,a1,b1,a2,b2,zaC h r (.bl _)⟩)
   ·exact h.elim
  ·rename_i kvs e0
   split at h
   ·rename_i k ek
    cases h2
    obtain ⟨vs,q1,z1⟩:=r _ _ e0
    rw [zhj h1 ek]
    exact .inr (.inr (.inl ⟨_,_,rfl,DGet.k q1,by rw [zkH z1];exact zaC h r (.bl _)⟩))
   ·exact h.elim
  ·rename_i f0 n0 e0
   split at h
   ·rename_i k ek
    cases h2
    have q1:=r _ _ e0
    rw [zhj h1 ek]
    exact .inr (.inr (.inr ⟨k,_,f0,n0,rfl,rfl,q1,zaC h r (.bl _)⟩))
   ·exact h.elim
  ·exact h.elim
 ·exact h.elim
abbrev vIn:BM:=zlJ fun b=>b
abbrev ziM:BM:=zlJ fun b=>!b
theorem ziz (hu:X.A.units+65 < cLine):OpD X (compareOp .In) vIn:=zq3 (zvU hu) (op_inD hu) op_in_sign (zsD (by omega)) or_sinK
theorem zf0 (hu:X.A.units+65 < cLine):OpD X (compareOp .NotIn) ziM:=zq3 (zow hu) (op_notInD hu) op_notIn_sign (znC (by omega)) or_snotinK
def tyD (S:Sto):D->Option String
 | .non=>some "NoneType"
 | .bl _=>some "bool"
 | .int _=>some "int"
 | .str _=>some "str"
 | .tp _ _=>some "tuple"
 | .rol _=>some "list"
 | .ref a=>match S a with
  | some (.lst _)=>some "list"
  | some (.dic _)=>some "dict"
  | some (.dit _)=>some "dict"
  | _=>none
 | .ty _=>none
 | .rod _ _=>none
def zro (a b:String):Option Bool:=match b with
 | "str" => some (a == "str")
 | "tuple" => some (a == "tuple")
 | "list" => some (a == "list")
 | "dict" => some (a == "dict")
 | "bool" => some (a == "bool")
 | "int" => some (a == "int" || a == "bool")
 | _=>none
def zkk:CM:=fun ds S Q=>match ds with
 | [d,.ty b]=>match tyD S d with
  | some a=>match zro a b with
   | some c=>Q (.bl c) S
   | none=>False
  | none=>False
 | _=>False
def zmQ:List String:=["NoneType", "bool", "int", "str", "tuple", "list", "dict"]
theorem zs9:∀ a∈zmQ,∀ b∈["str", "tuple", "list", "dict", "bool", "int"],kitB a b=zro a b:=by decide +kernel
theorem zxV {K:PySem.W.Frag} {P:Program} {w:World} {H:Hp} {S:Sto} {d:D} {v:V} {a:String} (h:DV K H d v) (r:Rp K P w S H) (e:tyD S d=some a):TyX K H v (.type a)∧a∈zmQ:=by
 cases h with
 | non=>cases e;exact ⟨.base .non,by decide⟩
 | bl=>cases e;exact ⟨.base (.bl _),by decide⟩
 | int=>cases e;exact ⟨.base (.int _),by decide⟩
 | str=>cases e;exact ⟨.base (.str _),by decide⟩
 | ty=>cases e
 | rod=>cases e
 | tup s z=>
  cases e
  refine ⟨?_,by decide⟩
  rcases s with (s | ⟨o,s⟩) | ⟨o,its,n,h1,h2,_⟩
  ·exact .base (.tup s)
  ·exact .fTuple s
  ·exact .kTuple h1 h2
 | rol s z=>
  cases e
  refine ⟨?_,by decide⟩
  rcases s with ⟨o,s⟩ | ⟨o,its,n,h1,h2,_⟩
  ·exact .base (.frz s)
  ·exact .kList h1 h2
 | ref a=>
  simp only [tyD] at e
  split at e
  ·rename_i xs e0
   obtain ⟨vs,q,z⟩:=r _ _ e0
   cases e
   exact ⟨.base (.lst q),by decide⟩
  ·rename_i xs e0
   obtain ⟨vs,q,z⟩:=r _ _ e0
   cases e
   exact ⟨.base (.dK q),by decide⟩
  ·rename_i xs e0
   obtain ⟨vs,q,z⟩:=r _ _ e0
   cases e
   exact ⟨.base (.dT q),by decide⟩
  ·cases e
theorem zqq {a b:String} {c:Bool} (e:zro a b=some c):b∈["str", "tuple", "list", "dict", "bool", "int"]:=by
 unfold zro at e
 split at e <;> first | decide | cases e
theorem zgg:zhe X (.builtin "isinstance") zkk:=by
 refine zjr _ call_isi (fun xs H Q ds S h r q=>?_) (fun ds S Q Q' i q=>?_)
 ·unfold zkk at q
  split at q
  ·obtain ⟨v,u,rfl,z,z'⟩:=zxO h
   cases z'
   split at q
   ·rename_i a e1
    split at q
    ·rename_i c e2
     obtain ⟨t1,t2⟩:=zxV z r e1
     exact ⟨_,_,_,_,c,rfl,.ty _,t1,kit_ty ((zs9 _ t2 _ (zqq e2)).trans e2),zaC q r (.bl _)⟩
    ·exact q.elim
   ·exact q.elim
  ·exact q.elim
 ·unfold zkk at q ⊢
  split at q
  ·split at q
   ·split at q
    ·exact i _ _ q
    ·exact q.elim
   ·exact q.elim
  ·exact q.elim
end
section
variable {X:Cx} {B:Hp} {st:Stmt} {rest:List Stmt} {m n:SM} {e:Expr} {me:EM} {pos:Pos}
def mNx:SM:=fun A env S=>A.nx env S
def zav (m n:SM):SM:=fun A env S=>m { A with nx:=n A } env S
theorem zq6:zqL mNx:=fun A B env S l h=>l.nx _ _ h
theorem zqL.go (h:zqL m) {A A':Fin} {env:Slo} {S:Sto} (q:m A env S) (l:zhd A A'):m A' env S:=h A A' env S l q
theorem zsO (h1:zqL m) (h2:zqL n):zqL (zav m n):=fun A B env S l h=>
 h1.go (A:={ A with nx:=n A }) (A':={ B with nx:=n B }) h ⟨fun e s q=>h2 A B e s l q,l.rt,l.bk,l.ct⟩
theorem zau:MSs X B [] mNx:=⟨zop pss_nil fun D σ H q=>by
 obtain ⟨lB,env,S,r0,z0,q⟩:=q
 exact q σ H (Le.refl H) r0 z0,zq6⟩
theorem zad (h1:MS X B st m) (h2:MSs X B rest n):MSs X B (st :: rest) (zav m n):=by
 refine ⟨zop (pss_cons h1.ps h2.ps) fun D σ H q=>?_,zsO h1.mono h2.mono⟩
 obtain ⟨lB,env,S,r0,z0,q⟩:=q
 refine ⟨lB,env,S,r0,z0,h1.mono.go (A:={ dnF X.K X.prog X.w H D with nx:=n (dnF X.K X.prog X.w H D) }) q ⟨fun e s q σ' H' l r z=>?_,fun _ _ q=>q,fun _ _ q=>q,fun _ _ q=>q⟩⟩
 exact ⟨lB.trans l,e,s,r,z,h2.mono.go q (zpb l)⟩
theorem zai (h1:MS X B st m):MSs X B [st] m:=⟨pss_one h1.ps,h1.mono⟩
def zAr:SM:=fun A env S=>A.bk env S
def zAp:SM:=fun A env S=>A.ct env S
theorem zsM:MS X B (.Pass pos) mNx:=⟨zd4 ps_pass fun D σ H q=>by
 obtain ⟨lB,env,S,r0,z0,q⟩:=q
 exact q σ H (Le.refl H) r0 z0,zq6⟩
def zbQ (m:EM):SM:=fun A env S=>m env S fun _ S1=>A.nx env S1
theorem zaS (h:ME X B e me) (hs:swapsWith e none pos.line X.env=pure false:=by rfl):MS X B (.Expr e pos) (zbQ me):=by
 refine ⟨zd4 (ps_expr h.pe hs) fun D σ H q=>?_,fun A B env S l q=>h.mono env S _ _ (fun d S1 q=>l.nx _ _ q) q⟩
 obtain ⟨lB,env,S,r0,z0,q⟩:=q
 exact ⟨lB,env,S,r0,z0,h.mono env S _ _ (fun d S1 q v H1 l z dv=>q σ H1 l (r0.le l) z) q⟩
def za9 (m:EM):SM:=fun A env S=>m env S A.rt
theorem zar (h:ME X B e me):MS X B (.Return (some e) pos) (za9 me):=by
 refine ⟨zd4 (ps_ret h.pe) fun D σ H q=>?_,fun A B env S l q=>h.mono env S _ _ (fun d S1 q=>l.rt _ _ q) q⟩
 obtain ⟨lB,env,S,r0,z0,q⟩:=q
 exact ⟨lB,env,S,r0,z0,q⟩
def zqe:SM:=fun A _ S=>A.rt .non S
theorem zsL:MS X B (.Return none pos) zqe:=⟨zd4 ps_retN fun D σ H q=>by
 obtain ⟨lB,env,S,r0,z0,q⟩:=q
 exact q _ H (Le.refl H) z0 .non,fun A B env S l h=>l.rt _ _ h⟩
def mIf (t:TM) (m n:SM):SM:=fun A env S=>t env S fun b S1=>match b with
 | true=>m A env S1
 | false=>n A env S1
theorem zaH {c:Expr} {a b:List Stmt} {t:TM} (hc:MT X B c t) (ha:MSs X B a m) (hb:MSs X B b n):MS X B (.If c a b pos) (mIf t m n):=by
 refine ⟨zd4 (ps_if hc.pt ha.ps hb.ps) fun D σ H q=>?_,fun A B env S l q=>hc.mono env S _ _ (fun c S1 z=>?_) q⟩
 ·obtain ⟨lB,env,S,r0,z0,q⟩:=q
  refine ⟨lB,env,S,r0,z0,hc.mono env S _ _ (fun c S1 q H1 l z=>?_) q⟩
  cases c with
  | true=>
   show upS X.K X.prog X.w B m D σ H1
   exact ⟨lB.trans l,env,S1,r0.le l,z,ha.mono _ _ env S1 (zpb l) q⟩
  | false=>
   show upS X.K X.prog X.w B n D σ H1
   exact ⟨lB.trans l,env,S1,r0.le l,z,hb.mono _ _ env S1 (zpb l) q⟩
 ·cases c with
  | true=>exact ha.mono _ _ env S1 l z
  | false=>exact hb.mono _ _ env S1 l z
abbrev GM:=D->Slo->Sto->(Slo->Sto->Prop)->Prop
abbrev GsM:=List D->Slo->Sto->(Slo->Sto->Prop)->Prop
def dnN (K:PySem.W.Frag) (P:Program) (w:World) (H:Hp) (Q:L2.St->Hp->Prop):Slo->Sto->Prop:=fun env' S'=>∀ σ' H',Le H H'->zdy K H' env' σ'->Rp K P w S' H'->Q σ' H'
structure MG (X:Cx) (B:Hp) (tg:Expr) (g:GM):Prop where
 pg:PG X tg fun v σ H Q=>Le B H∧∃ d env S,DV X.K H d v∧zdy X.K H env σ∧Rp X.K X.prog X.w S H∧g d env S (dnN X.K X.prog X.w H Q)
 mono:∀ d env S (Q Q':Slo->Sto->Prop),(∀ e S,Q e S->Q' e S)->g d env S Q->g d env S Q'
structure MGs (X:Cx) (B:Hp) (tg:List Expr) (g:GsM):Prop where
 pg:PGs X tg fun v σ H Q=>Le B H∧∃ d env S,DVs X.K H d v∧zdy X.K H env σ∧Rp X.K X.prog X.w S H∧g d env S (dnN X.K X.prog X.w H Q)
 mono:∀ d env S (Q Q':Slo->Sto->Prop),(∀ e S,Q e S->Q' e S)->g d env S Q->g d env S Q'
theorem zmZ {tg:Expr} {t t':TG} (h:PG X tg t) (i:∀ v σ H Q,t' v σ H Q->t v σ H Q):PG X tg t':=⟨fun pins s σ H v u Q I r q=>h.run pins s σ H v u Q I r (i v σ H Q q)⟩
theorem zor {tg:List Expr} {t t':TGs} (h:PGs X tg t) (i:∀ v σ H Q,t' v σ H Q->t v σ H Q):PGs X tg t':=⟨fun pins s σ H v u Q I r q=>h.run pins s σ H v u Q I r (i v σ H Q q)⟩
def gNm (i:Nat):GM:=fun d env S Q=>Q (env.set i (some d)) S
theorem zaE {i:Nat} {x:Str} (h:PG X (.Name x pos) (gName i)):MG X B (.Name x pos) (gNm i):=by
 refine ⟨zmZ h fun v σ H Q q=>?_,fun d env S Q Q' i q=>i _ _ q⟩
 obtain ⟨lB,d,env,S,dv,r0,z0,q⟩:=q
 exact q _ H (Le.refl H) (r0.set dv i) z0
def gN:GsM:=fun ds env S Q=>match ds with
 | []=>Q env S
 | _=>False
def gC (g:GM) (gs:GsM):GsM:=fun ds env S Q=>match ds with
 | d :: r=>g d env S fun env' S'=>gs r env' S' Q
 | _=>False
theorem zgD:MGs X B [] gN:=by
 refine ⟨zor pgs_nil fun v σ H Q q=>?_,fun d env S Q Q' i q=>?_⟩
 ·obtain ⟨lB,d,env,S,dv,r0,z0,q⟩:=q
  cases dv with
  | nil=>exact ⟨rfl,q _ H (Le.refl H) r0 z0⟩
  | cons=>exact q.elim
 ·cases d with
  | nil=>exact i _ _ q
  | cons=>exact q.elim
theorem zbC {e:Expr} {es:List Expr} {g:GM} {gs:GsM} (h1:MG X B e g) (h2:MGs X B es gs) (hs:(assignEach (e :: es) X.env).map (·.2)=assign e X.env :: (assignEach es X.env).map (·.2):=by rfl):MGs X B (e :: es) (gC g gs):=by
 refine ⟨zor (pgs_cons h1.pg h2.pg hs) fun v σ H Q q=>?_,fun d env S Q Q' i q=>?_⟩
 ·obtain ⟨lB,d,env,S,dv,r0,z0,q⟩:=q
  cases dv with
  | nil=>exact q.elim
  | @cons d ds v vs dv dvs=>
   refine ⟨v,vs,rfl,lB,d,env,S,dv,r0,z0,h1.mono _ _ _ _ _ (fun env' S' q σ' H' l r z=>?_) q⟩
   exact ⟨lB.trans l,ds,env',S',dvs.le l,r,z,h2.mono _ _ _ _ _ (fun e s q σ2 H2 l2 r2 z2=>q σ2 H2 (l.trans l2) r2 z2) q⟩
 ·cases d with
  | nil=>exact q.elim
  | cons d ds=>exact h1.mono _ _ _ _ _ (fun e s q=>h2.mono _ _ _ _ _ i q) q
def gT (n:Nat) (gs:GsM):GM:=fun d env S Q=>match d with
 | .tp _ ds=>ds.length=n∧gs ds env S Q
 | _=>False
theorem ziV {es:List Expr} {k n:Nat} {gs:GsM} (hc:X.calm=true) (h:MGs X B es gs) (hn:(assignEach es X.env).length=n:=by rfl) (hst:(assignEach es X.env).findIdx? (·.1)=none:=by rfl):MG X B (.Tuple es k pos) (gT n gs):=by
 refine ⟨zmZ (pg_tup hc h.pg hn hst) fun v σ H Q q=>?_,fun d env S Q Q' i q=>?_⟩
 ·obtain ⟨lB,d,env,S,dv,r0,z0,q⟩:=q
  cases dv with
  | tup s z=>exact ⟨_,_,rfl,s,by rw [← z.length];exact q.1,lB,_,env,S,z,r0,z0,q.2⟩
  | _=>exact (show False from q).elim
 ·cases d with
  | tp _ ds=>exact ⟨q.1,h.mono _ _ _ _ _ i q.2⟩
  | _=>exact (show False from q).elim
def gIx (mo mi:EM):GM:=fun d env S Q=>mo env S fun o S1=>mi env S1 fun i S2=>match zpI S2 o i d with
 | some S3=>Q env S3
 | none=>False
theorem zcU {o i:Expr} {mo mi:EM} (hu:X.A.units+1 < cLine) (ho:ME X B o mo) (hi:ME X B i mi)
  (ha:∀ v,assign (.Subscript o i pos) X.env v=(do
   let ov ← holding [v] (eval o X.env)
   let iv ← holding [v,ov] (eval i X.env)
   standAt pos
   holding [v,ov,iv] (setItem ov iv v)
   release [v,ov,iv] []):=by intro _;rfl):MG X B (.Subscript o i pos) (gIx mo mi):=by
 refine ⟨zmZ (pg_sub ho.pe hi.pe (zob hu) ha) fun v σ H Q q=>?_,fun d env S Q Q' i q=>ho.mono env S _ _ (fun o S1 q=>hi.mono env S1 _ _ (fun j S2 q=>?_) q) q⟩
 ·obtain ⟨lB,d,env,S,dv,r0,z0,q⟩:=q
  refine ⟨lB,env,S,r0,z0,ho.mono env S _ _ (fun o S1 q v1 H1 l1 z1 d1=>?_) q⟩
  refine ⟨lB.trans l1,env,S1,r0.le l1,z1,hi.mono env S1 _ _ (fun j S2 q v2 H2 l2 z2 d2=>?_) q⟩
  split at q
  ·rename_i S3 e
   exact ⟨o,j,d,S2,S3,d1.le l2,d2,dv.le (l1.trans l2),z2,e,fun H3 l3 z3=>q _ H3 ((l1.trans l2).trans l3) (r0.le ((l1.trans l2).trans l3)) z3⟩
  ·exact q.elim
 ·split at q
  ·exact i _ _ q
  ·exact q.elim
def zaM (m:EM) (g:GM):SM:=fun A env S=>m env S fun d S1=>g d env S1 A.nx
theorem zcu {tg:Expr} {g:GM} (he:ME X B e me) (hg:MG X B tg g) (hs:swapsWithSole [tg] e pos.line X.env=pure false:=by rfl) (hw:swappedStores [tg] e X.env=pure none:=by rfl)
  (h1:(assignEach [tg] X.env).map (·.2)=[assign tg X.env]:=by rfl):MS X B (.Assign [tg] e pos) (zaM me g):=by
 refine ⟨zd4 (ps_asg he.pe hg.pg hs hw h1) fun D σ H q=>?_,fun A B env S l q=>he.mono env S _ _ (fun d S1 q=>hg.mono _ _ _ _ _ l.nx q) q⟩
 obtain ⟨lB,env,S,r0,z0,q⟩:=q
 refine ⟨lB,env,S,r0,z0,he.mono env S _ _ (fun d S1 q v H1 l z dv=>?_) q⟩
 exact ⟨lB.trans l,d,env,S1,dv,r0.le l,z,hg.mono _ _ _ _ _ (fun e s q σ2 H2 l2 r2 z2=>q σ2 H2 (l.trans l2) r2 z2) q⟩
theorem zan {i:Nat} {x:Str} {pos':Pos} (he:ME X B e me) (h:∀ {te:TE},PE X e te->PS X (.Assign [.Name x pos'] e pos) (tAsg te (gName i))):MS X B (.Assign [.Name x pos'] e pos) (zaM me (gNm i)):=by
 refine ⟨zd4 (h he.pe) fun D σ H q=>?_,fun A B env S l q=>he.mono env S _ _ (fun d S1 q=>l.nx _ _ q) q⟩
 obtain ⟨lB,env,S,r0,z0,q⟩:=q
 refine ⟨lB,env,S,r0,z0,he.mono env S _ _ (fun d S1 q v H1 l z dv=>?_) q⟩
 exact q _ H1 l ((r0.le l).set dv i) z
theorem zsI:OpD X (inplaceOp .Add) (fun d e S Q=>match d,e with
  | .int i,.int j=>Q (.int (i+j)) S
  | .str i,.str j=>i.length+j.length≤sizeLine∧Q (.str (i++j)) S
  | _,_=>False):=by
 refine opd _ (iop_add.or iop_add_str) (fun x y H Q d e S h1 h2 r h=>?_) (fun d e S Q Q' i h=>?_)
 ·cases h1 <;> cases h2 <;> first | exact h.elim | skip
  ·exact .inl ⟨_,_,rfl,rfl,zaC h r (.int _)⟩
  ·rename_i i o1 j o2
   exact .inr ⟨_,_,rfl,rfl,h.1,zaC h.2 r (.str _ (o1.append o2 h.1))⟩
 ·cases d <;> cases e <;> first | exact h.elim | exact i _ _ h | exact ⟨h.1,i _ _ h.2⟩
def zkQ:BM:=fun d e S Q=>match d,e with
  | .int i,.int j=>Q (.int (i+j)) S
  | .str i,.str j=>i.length+j.length≤sizeLine∧Q (.str (i++j)) S
  | _,_=>False
theorem zkC:OpD X (inplaceOp .Add) zkQ:=zsI
def zpo (i:Nat) (m:EM) (r:BM):SM:=fun A env S=>match env[i]? with
 | some (some d)=>m env S fun y S1=>r d y S1 fun z S2=>A.nx (env.set i (some z)) S2
 | _=>False
theorem zm4 {i:Nat} {x:Str} {op:Operator} {r:BM} {pos':Pos} (he:ME X B e me) (ho:OpD X (inplaceOp op) r) (h:∀ {te:TE} {ti:TIp},PE X e te->PIp X op ti->PS X (.AugAssign (.Name x pos') op e pos) (tAug i te ti)) :
  MS X B (.AugAssign (.Name x pos') op e pos) (zpo i me r):=by
 refine ⟨zd4 (h he.pe ho.op) fun D σ H q=>?_,fun A B env S l q=>?_⟩
 ·obtain ⟨lB,env,S,r0,z0,q⟩:=q
  unfold zpo at q
  split at q
  ·rename_i d ed
   obtain ⟨v,ev,dv⟩:=r0.at_ _ _ ed
   refine ⟨v,ev,lB,env,S,r0,z0,he.mono env S _ _ (fun y S1 q u H1 l1 z1 d1=>?_) q⟩
   refine ⟨d,y,S1,dv.le l1,d1,z1,ho.mono _ _ _ _ _ (fun z S2 q v2 H2 l2 z2 d2=>?_) q⟩
   exact q _ H2 (l1.trans l2) ((r0.le (l1.trans l2)).set d2 i) z2
  ·exact q.elim
 ·unfold zpo at q ⊢
  split at q
  ·exact he.mono env S _ _ (fun y S1 q=>ho.mono _ _ _ _ _ (fun z S2 q=>l.nx _ _ q) q) q
  ·exact q.elim
theorem zte (hu:X.A.units+1 < cLine):PGet X (fun o i H Q=>∃ d e S,DV X.K H d o∧DV X.K H e i∧Rp X.K X.prog X.w S H∧(∃ a,d = .ref a)∧(∀ k,e = .int k->0≤k)∧vIx d e S (dnE X.K X.prog X.w H Q)):=by
 intro pins s σ H o i ov iv Q I ro ri h
 obtain ⟨d,e,S,h1,h2,r,⟨a,rfl⟩,h0,q⟩:=h
 cases h1
 obtain rfl:ov=Value.ref a:=ro
 unfold vIx at q
 dsimp only at q
 split at q
 ·rename_i xs k e1
  split at q
  ·rename_i x0 e0
   cases h2
   obtain ⟨t,rfl⟩:=ri
   obtain ⟨vs,q1,z1⟩:=r _ _ e1
   obtain ⟨v,e2,z2⟩:=z1.atI e0
   obtain ⟨its,rv,pl,hz⟩:=I.list (SqL.of q1)
   obtain ⟨j,g1,g2,g3,g4,g5⟩:=atI_get e2
   obtain ⟨u,ew,rw'⟩:=rv.get g2
   have hk:=h0 _ rfl
   have hj:k.toNat=j:=by
    rw [seqIndex_of hk g5] at g1
    exact Option.some.inj g1
   have hl:=rv.length
   have hn:=line63
   refine wpAny_getItem_list pl.isList hk (by omega) (by rw [hj];simpa using ew) ?_
   exact ⟨v,H,I,rw',zaC q r z2⟩
  ·exact q.elim
 ·rename_i kvs e e1
  split at q
  ·rename_i k ek
   split at q
   ·rename_i x0 e0
    obtain ⟨vs,q1,z1⟩:=r _ _ e1
    obtain ⟨v,e2,z2⟩:=(z1.val k).1 _ e0
    have ev:=zhj h2 ek
    subst ev
    refine d_getItem hu I (by rw [← e2];exact DGet.k q1) ri fun w' s3 I3 rw'=>⟨v,H,I3,rw',zaC q r z2⟩
   ·exact q.elim
  ·exact q.elim
 ·exact q.elim
def znL (mo mi m:EM) (r:BM):SM:=fun A env S=>mo env S fun o S1=>mi env S1 fun i S2=>(match o with
 | .ref _=>True
 | _=>False)∧(match i with
 | .int k=>0≤k
 | _=>True)∧vIx o i S2 fun x S3=>m env S3 fun y S4=>r x y S4 fun z S5=>match zpI S5 o i z with
  | some S6=>A.nx env S6
  | none=>False
theorem zoB {o i:Expr} {mo mi:EM} {op:Operator} {r:BM} {tpos:Pos} (hu:X.A.units+1 < cLine) (ho:ME X B o mo) (hi:ME X B i mi) (he:ME X B e me) (hop:OpD X (inplaceOp op) r)
  (ha:∀ ov iv new,augStore i ov iv new=(do holding [new,ov,iv] (setItem ov iv new);release [new,ov,iv] [];pure .next):=by intros;rfl):MS X B (.AugAssign (.Subscript o i tpos) op e pos) (znL mo mi me r):=by
 refine ⟨zd4 (ps_augS ho.pe hi.pe (zte hu) he.pe hop.op (zob hu) ha) fun D σ H q=>?_,fun A B env S l q=>ho.mono env S _ _ (fun o S1 q=>hi.mono env S1 _ _ (fun j S2 q=>⟨q.1,q.2.1,zm7 _ _ _ _ _ (fun x S3 q=>he.mono env S3 _ _ (fun y S4 q=>hop.mono _ _ _ _ _ (fun z S5 q=>?_) q) q) q.2.2⟩) q) q⟩
 ·obtain ⟨lB,env,S,r0,z0,q⟩:=q
  refine ⟨lB,env,S,r0,z0,ho.mono env S _ _ (fun o S1 q v1 H1 l1 z1 d1=>?_) q⟩
  refine ⟨lB.trans l1,env,S1,r0.le l1,z1,hi.mono env S1 _ _ (fun j S2 q v2 H2 l2 z2 d2=>?_) q⟩
  obtain ⟨q1,q2,q⟩:=q
  have eo:∃ a,o = .ref a:=by
   cases o <;> first | exact ⟨_,rfl⟩ | exact q1.elim
  refine ⟨o,j,S2,d1.le l2,d2,z2,eo,fun k ek=>by subst ek;exact q2,zm7 _ _ _ _ _ (fun x S3 q v3 H3 l3 z3 d3=>?_) q⟩
  have l03:=(l1.trans l2).trans l3
  refine ⟨lB.trans l03,env,S3,r0.le l03,z3,he.mono env S3 _ _ (fun y S4 q v4 H4 l4 z4 d4=>?_) q⟩
  refine ⟨x,y,S4,d3.le l4,d4,z4,hop.mono _ _ _ _ _ (fun z S5 q v5 H5 l5 z5 d5=>?_) q⟩
  split at q
  ·rename_i S6 e6
   have l25:=l3.trans (l4.trans l5)
   exact ⟨o,j,z,S5,S6,d1.le (l2.trans l25),d2.le l25,d5,z5,e6,fun H6 l6 z6=>q _ H6 ((l1.trans l2).trans (l25.trans l6)) (r0.le ((l1.trans l2).trans (l25.trans l6))) z6⟩
  ·exact q.elim
 ·split at q
  ·exact l.nx _ _ q
  ·exact q.elim
def zna (t:TM) (m:SM):SM:=fun A env S=>∃ W:Nat->Slo->Sto->Prop,(∃ k,W k env S)∧∀ k env S,W k env S->t env S fun b S1=>match b with
 | true=>m { A with nx:=fun e s=>∃ k',k' < k∧W k' e s,ct:=fun e s=>∃ k',k' < k∧W k' e s,bk:=A.nx } env S1
 | false=>A.nx env S1
theorem zm3 {c:Expr} {body:List Stmt} {t:TM} (hp:PassesOwn (model X.prog X.w) X.A X.env X.xe) (hc:MT X B c t) (hb:MSs X B body m):MS X B (.While c body [] pos) (zna t m):=by
 refine ⟨zd4 (ps_while hp hc.pt hb.ps) fun D σ H q=>?_,fun A B env S l q=>?_⟩
 ·obtain ⟨lB,env,S,r0,z0,W,⟨k0,w0⟩,q⟩:=q
  refine ⟨fun k σ' H'=>Le H H'∧∃ env S,zdy X.K H' env σ'∧Rp X.K X.prog X.w S H'∧W k env S,⟨k0,Le.refl H,env,S,r0,z0,w0⟩,fun k σ' H' h=>?_⟩
  obtain ⟨l,env,S,r1,z1,w1⟩:=h
  refine ⟨lB.trans l,env,S,r1,z1,hc.mono env S _ _ (fun b S1 q H1 l1 z2=>?_) (q k env S w1)⟩
  cases b with
  | true=>
   refine ⟨fun σ2 H2=>∃ k',k' < k∧(Le H H2∧∃ env S,zdy X.K H2 env σ2∧Rp X.K X.prog X.w S H2∧W k' env S),fun σ2 H2 h=>h,?_⟩
   refine ⟨lB.trans (l.trans l1),env,S1,r1.le l1,z2,hb.mono.go (A:={ dnF X.K X.prog X.w H D with nx:=fun e s=>∃ k',k' < k∧W k' e s,ct:=fun e s=>∃ k',k' < k∧W k' e s,bk:=(dnF X.K X.prog X.w H D).nx }) q ⟨fun e s q σ3 H3 l3 r3 z3=>?_,ze6 (l.trans l1),fun e s q σ3 H3 l3 r3 z3=>q σ3 H3 ((l.trans l1).trans l3) r3 z3,fun e s q σ3 H3 l3 r3 z3=>?_⟩⟩
   ·obtain ⟨k',hk,w⟩:=q
    exact ⟨k',hk,(l.trans l1).trans l3,e,s,r3,z3,w⟩
   ·obtain ⟨k',hk,w⟩:=q
    exact ⟨k',hk,(l.trans l1).trans l3,e,s,r3,z3,w⟩
  | false=>exact q σ' H1 (l.trans l1) (r1.le l1) z2
 ·obtain ⟨W,w0,q⟩:=q
  refine ⟨W,w0,fun k env S w=>hc.mono env S _ _ (fun b S1 q=>?_) (q k env S w)⟩
  cases b with
  | true=>exact hb.mono.go (A:={ A with nx:=fun e s=>∃ k',k' < k∧W k' e s,ct:=fun e s=>∃ k',k' < k∧W k' e s,bk:=A.nx }) (A':={ B with nx:=fun e s=>∃ k',k' < k∧W k' e s,ct:=fun e s=>∃ k',k' < k∧W k' e s,bk:=B.nx }) q ⟨fun _ _ q=>q,l.rt,l.nx,fun _ _ q=>q⟩
  | false=>exact l.nx _ _ q
abbrev IM:=Slo->Sto->(List D->(Sto->Prop)->Sto->Prop)->Prop
structure WkD (K:PySem.W.Frag) (P:Program) (w:World) (H1:Hp) (J:It) (xs:List D) (G:Sto->Prop):Prop where
 go:∀ i S H,i < xs.length->Le H1 H->Rp K P w S H->G S->J.go i H
 stop:∀ S H,Le H1 H->Rp K P w S H->G S->J.stop xs.length H
 yld:∀ i S H x H',i < xs.length->Le H1 H->Rp K P w S H->G S->J.yld i H x H'->Le H H'∧Rp K P w S H'∧∃ d,xs[i]? = some d∧DV K H' d x
structure MI (X:Cx) (B:Hp) (tg iter:Expr) (m:IM):Prop where
 pi:PI X tg iter fun σ H R=>Le B H∧∃ env S,zdy X.K H env σ∧Rp X.K X.prog X.w S H∧m env S fun xs G S1=>∀ J H1,Le H H1->Rp X.K X.prog X.w S1 H1->WkD X.K X.prog X.w H1 J xs G->R J H1
 mono:∀ env S (Q Q':List D->(Sto->Prop)->Sto->Prop),(∀ xs G S,Q xs G S->Q' xs G S)->m env S Q->m env S Q'
theorem zkz {tg iter:Expr} {t t':TI} (h:PI X tg iter t) (i:∀ σ H R,t' σ H R->t σ H R):PI X tg iter t':=⟨fun pins s σ H R I q=>h.run pins s σ H R I (i σ H R q)⟩
def forL (g:GM) (m:SM) (G:Sto->Prop) (A:Fin):List D->Slo->Sto->Prop
 | [],env,S=>G S∧A.nx env S
 | x :: xs,env,S=>G S∧g x env S fun env2 S2=>m { A with nx:=forL g m G A xs,ct:=forL g m G A xs,bk:=A.nx } env2 S2
theorem zj3 {g:GM} {m:SM} {G:Sto->Prop} (hg:∀ d env S (Q Q':Slo->Sto->Prop),(∀ e S,Q e S->Q' e S)->g d env S Q->g d env S Q') (hm:zqL m) {A A':Fin} (l:zhd A A'):∀ xs env S,forL g m G A xs env S->forL g m G A' xs env S
 | [],env,S,h=>⟨h.1,l.nx _ _ h.2⟩
 | x :: xs,env,S,h=>⟨h.1,hg _ _ _ _ _ (fun e s q=>hm.go (A:={ A with nx:=forL g m G A xs,ct:=forL g m G A xs,bk:=A.nx }) (A':={ A' with nx:=forL g m G A' xs,ct:=forL g m G A' xs,bk:=A'.nx }) q ⟨zj3 hg hm l xs,l.rt,l.nx,zj3 hg hm l xs⟩) h.2⟩
def zgn (mi:IM) (g:GM) (m:SM):SM:=fun A env S=>mi env S fun xs G S1=>forL g m G A xs env S1
theorem za8 {tg iter:Expr} {body:List Stmt} {mi:IM} {g:GM} (hp:PassesOwn (model X.prog X.w) X.A X.env X.xe) (hc:X.calm=true) (hi:MI X B tg iter mi) (hg:MG X B tg g) (hb:MSs X B body m)
  (h:∀ {wi:TI} {g:TG} {tb:TS},PI X tg iter wi->PG X tg g->PSs X body tb->PS X (.For tg iter body [] pos) (tFor wi g tb):=by intro wi g tb h1 h2 h3;exact ps_for (by assumption) (by assumption) h1 h2 h3):MS X B (.For tg iter body [] pos) (zgn mi g m):=by
 refine ⟨zd4 (h hi.pi hg.pg hb.ps) fun D σ H q=>?_,fun A B env S l q=>hi.mono env S _ _ (fun xs G S1 q=>zj3 hg.mono hb.mono l _ _ _ q) q⟩
 obtain ⟨lB,env,S,r0,z0,q⟩:=q
 refine ⟨lB,env,S,r0,z0,hi.mono env S _ _ (fun xs G S1 q J H1 l1 z1 wk=>?_) q⟩
 refine ⟨fun i k σ' H'=>i≤xs.length∧k=xs.length - i∧Le H1 H'∧∃ env S,zdy X.K H' env σ'∧Rp X.K X.prog X.w S H'∧forL g m G (dnF X.K X.prog X.w H D) (xs.drop i) env S,
  ⟨xs.length,Nat.zero_le _,rfl,Le.refl H1,env,S1,r0.le l1,z1,q⟩,fun i k σ' H' h=>?_⟩
 obtain ⟨hi,rfl,l2,env,S,r2,z2,q⟩:=h
 by_cases hlt:i < xs.length
 ·have ed:xs.drop i=xs[i] :: xs.drop (i+1):=(List.drop_eq_getElem_cons hlt)
  rw [ed] at q
  refine .inr ⟨wk.go i S H' hlt l2 z2 q.1,fun σ3 H3=>Le H1 H3∧∃ env S,zdy X.K H3 env σ3∧Rp X.K X.prog X.w S H3∧forL g m G (dnF X.K X.prog X.w H D) (xs.drop (i+1)) env S,
   fun σ3 H3 h=>⟨xs.length - (i+1),by omega,hlt,rfl,h⟩,fun x H3 hy=>?_⟩
  obtain ⟨l3,z3,d,ex,dv⟩:=wk.yld i S H' x H3 hlt l2 z2 q.1 hy
  have e':d=xs[i]:=by
   rw [List.getElem?_eq_getElem hlt] at ex
   exact (Option.some.inj ex).symm
  subst e'
  have l13:=l2.trans l3
  refine ⟨lB.trans (l1.trans l13),_,env,S,dv,r2.le l3,z3,hg.mono _ _ _ _ _ (fun e s q σ4 H4 l4 r4 z4=>?_) q.2⟩
  have l14:=l13.trans l4
  refine ⟨lB.trans (l1.trans l14),e,s,r4,z4,hb.mono.go (A:={ dnF X.K X.prog X.w H D with nx:=forL g m G (dnF X.K X.prog X.w H D) (xs.drop (i+1)),ct:=forL g m G (dnF X.K X.prog X.w H D) (xs.drop (i+1)),bk:=(dnF X.K X.prog X.w H D).nx }) q ⟨fun e s q σ5 H5 l5 r5 z5=>⟨l14.trans l5,e,s,r5,z5,q⟩,ze6 (l1.trans l14),fun e s q σ5 H5 l5 r5 z5=>q σ5 H5 ((l1.trans l14).trans l5) r5 z5,fun e s q σ5 H5 l5 r5 z5=>⟨l14.trans l5,e,s,r5,z5,q⟩⟩⟩
 ·have ei:i=xs.length:=by omega
  subst ei
  rw [List.drop_length] at q
  exact .inl ⟨wk.stop S H' l2 z2 q.1,q.2 σ' H' (l1.trans l2) r2 z2⟩
variable {tg:Expr}
def znV (x:Str):List D:=x.cps.toList.map fun c=>.str ⟨#[c]⟩
def zdY (m:EM):IM:=fun env S R=>m env S fun d S1=>match d with
 | .tp _ xs=>R xs (fun _=>True) S1
 | .rol xs=>R xs (fun _=>True) S1
 | .str x=>R (znV x) (fun _=>True) S1
 | .ref a=>match S1 a with
  | some (.lst xs)=>R xs (fun S=>S a=some (.lst xs)) S1
  | _=>False
 | _=>False
theorem zp8 {m:EM} (h:zdx m):∀ env S (Q Q':List D->(Sto->Prop)->Sto->Prop),(∀ xs G S,Q xs G S->Q' xs G S)->zdY m env S Q->zdY m env S Q':=fun env S Q Q' i q=>
 h env S _ _ (fun d S1 q=>by
  split at q
  ·exact i _ _ _ q
  ·exact i _ _ _ q
  ·exact i _ _ _ q
  ·split at q
   ·exact i _ _ _ q
   ·exact q.elim
  ·exact q.elim) q
theorem ztQ {K:PySem.W.Frag} {P:Program} {w:World} {H1:Hp} {a:Addr} {vs:List V} {ds:List D} (s:SqT K H1 a vs) (z:DVs K H1 ds vs):WkD K P w H1 (Itt K a) ds fun _=>True where
 go:=fun i S H hi l _ _=>by
  rw [z.length] at hi
  exact (walk_tup (xs:=vs)).goes i H hi (zfA l s)
 stop:=fun S H l _ _=>by
  rw [z.length]
  exact (walk_tup (xs:=vs)).stops H (zfA l s)
 yld:=fun i S H x H' hi l r _ y=>by
  rw [z.length] at hi
  obtain ⟨e1,e2⟩:=(walk_tup (xs:=vs)).yields i H x H' hi (zfA l s) y
  subst e1
  refine ⟨Le.refl _,r,?_⟩
  rw [← z.length] at hi
  obtain ⟨v,e3,dv⟩:=(z.le l).get (List.getElem?_eq_getElem hi)
  rw [e2] at e3
  cases e3
  exact ⟨_,List.getElem?_eq_getElem hi,dv⟩
theorem ztS {K:PySem.W.Frag} {P:Program} {w:World} {H1:Hp} {a:Addr} {vs:List V} {ds:List D} (s:RoL K H1 a vs) (z:DVs K H1 ds vs):WkD K P w H1 (Itl K a) ds fun _=>True where
 go:=fun i S H hi l _ _=>by
  rw [z.length] at hi
  exact (walk_list (xs:=vs)).goes i H hi (s.le l).sq
 stop:=fun S H l _ _=>by
  rw [z.length]
  exact (walk_list (xs:=vs)).stops H (s.le l).sq
 yld:=fun i S H x H' hi l r _ y=>by
  rw [z.length] at hi
  obtain ⟨e1,e2⟩:=(walk_list (xs:=vs)).yields i H x H' hi (s.le l).sq y
  subst e1
  refine ⟨Le.refl _,r,?_⟩
  rw [← z.length] at hi
  obtain ⟨v,e3,dv⟩:=(z.le l).get (List.getElem?_eq_getElem hi)
  rw [e2] at e3
  cases e3
  exact ⟨_,List.getElem?_eq_getElem hi,dv⟩
theorem ztU {K:PySem.W.Frag} {P:Program} {w:World} {H1:Hp} {a:Addr} {ds:List D}:WkD K P w H1 (Itl K a) ds fun S=>S a=some (.lst ds) where
 go:=fun i S H hi l r g=>by
  obtain ⟨vs,q,z⟩:=r _ _ g
  rw [z.length] at hi
  exact (walk_list (xs:=vs)).goes i H hi (SqL.of q)
 stop:=fun S H l r g=>by
  obtain ⟨vs,q,z⟩:=r _ _ g
  rw [z.length]
  exact (walk_list (xs:=vs)).stops H (SqL.of q)
 yld:=fun i S H x H' hi l r g y=>by
  obtain ⟨vs,q,z⟩:=r _ _ g
  rw [z.length] at hi
  obtain ⟨e1,e2⟩:=(walk_list (xs:=vs)).yields i H x H' hi (SqL.of q) y
  subst e1
  refine ⟨Le.refl _,r,?_⟩
  rw [← z.length] at hi
  obtain ⟨v,e3,dv⟩:=z.get (List.getElem?_eq_getElem hi)
  rw [e2] at e3
  cases e3
  exact ⟨_,List.getElem?_eq_getElem hi,dv⟩
theorem OkS.sign {x:Str} {c:Nat} (h:OkS x) (hm:c∈x.cps):OkS ⟨#[c]⟩:=by
 refine ⟨?_,(show 1≤sizeLine by decide)⟩
 have h1:x.cps.all (· < 0x110000)=true:=h.1
 rw [Array.all_eq_true_iff_forall_mem] at h1
 have h2:=h1 c hm
 show (#[c]:Array Nat).all (· < 0x110000)=true
 simpa using h2
theorem ztR {K:PySem.W.Frag} {P:Program} {w:World} {H1:Hp} {x:Str} (ok:OkS x):WkD K P w H1 (Its x) (znV x) fun _=>True where
 go:=fun i S H hi _ _ _=>by
  refine (walk_str (z:=x)).goes i H ?_ trivial
  simpa [znV] using hi
 stop:=fun S H _ _ _=>by
  have e:(znV x).length=x.cps.size:=by simp [znV]
  rw [e]
  exact (walk_str (z:=x)).stops H trivial
 yld:=fun i S H v H' hi l r _ y=>by
  have hi':i < x.cps.size:=by simpa [znV] using hi
  obtain ⟨e1,c,e2,e3⟩:=(walk_str (z:=x)).yields i H v H' hi' trivial y
  subst e1 e3
  refine ⟨Le.refl _,r,.str ⟨#[c]⟩,?_,.str _ (ok.sign (Array.mem_of_getElem? e2))⟩
  simp [znV,e2]
def ztc (K:PySem.W.Frag) (tl:TE):TI:=fun σ H R=>tl σ H fun x H1=>(∃ a,x = .ref a∧(((∃ xs,SqL K H1 a xs)∧R (Itl K a) H1) ∨ ((∃ xs,SqT K H1 a xs)∧R (Itt K a) H1))) ∨ ∃ z,x = .str z∧R (Its z) H1
theorem zoq {l:Expr} {tl:TE} (hl:PE X l tl):PI X tg l (ztc X.K tl):=by
 refine ⟨fun pins s σ H R I h=>?_⟩
 have h1:=hl.run pins s σ H _ I h
 refine thn h1 fun v s1 ⟨x,H1,I1,r1,q0⟩=>?_
 rcases q0 with ⟨a,ex,q⟩ | ⟨z,ex,q⟩
 rotate_left
 ·subst ex
  obtain ⟨t,rfl⟩:=r1
  cases ha:z.cps.all (· < 128)
  ·exact wpAny_pyIter_wide ha (pi_one (tk:=s1.toks) I1 _ (turn_str _ z t "str_iterator" (.inr rfl)) ⟨_,Heap.get?_push_size _ rfl,rfl,rfl⟩ q)
  ·exact wpAny_pyIter_ascii ha (pi_one (tk:=s1.toks) I1 _ (turn_str _ z t "str_ascii_iterator" (.inl rfl)) ⟨_,Heap.get?_push_size _ rfl,rfl,rfl⟩ q)
 subst ex
 rcases q with ⟨⟨xs,hq⟩,q⟩ | ⟨⟨xs,hq⟩,q⟩
 ·cases r1
  obtain ⟨its,rv,p,hz⟩:=I1.list hq
  refine wpAny_pyIter_list p.isList ?_
  refine ⟨s1.heap.objs.size,[s1.heap.objs.size],_,_,H1,rfl,I1.kept (t':=s1.toks) fun b o e=>Heap.get?_push_of_some _ e,turn_list a _,⟨_,Heap.get?_push_size _ rfl,rfl,rfl⟩,fun b hb=>?_,q⟩
  have e:b=s1.heap.objs.size:=by simpa using hb
  subst e
  exact I1.fpOk (Nat.le_refl _) (I1.hok.fresh (Nat.le_refl _))
 ·cases r1
  obtain ⟨its,rv,p,hz⟩:=I1.tuple hq
  refine wpAny_pyIter_tuple (show s1.heap.IsTuple a its.toArray from p) ?_
  refine ⟨s1.heap.objs.size,[s1.heap.objs.size],_,_,H1,rfl,I1.kept (t':=s1.toks) fun b o e=>Heap.get?_push_of_some _ e,turn_tuple a _,⟨_,Heap.get?_push_size _ rfl,rfl,rfl⟩,fun b hb=>?_,q⟩
  have e:b=s1.heap.objs.size:=by simpa using hb
  subst e
  exact I1.fpOk (Nat.le_refl _) (I1.hok.fresh (Nat.le_refl _))
theorem zaR {l:Expr} {m:EM} (h:ME X B l m):MI X B tg l (zdY m):=by
 refine ⟨zkz (zoq h.pe) fun σ H R q=>?_,zp8 h.mono⟩
 obtain ⟨lB,env,S,r0,z0,q⟩:=q
 refine ⟨lB,env,S,r0,z0,h.mono env S _ _ (fun d S1 q v H1 l1 z1 d1=>?_) q⟩
 dsimp only at q
 split at q
 ·cases d1 with
  | tup s z=>exact .inl ⟨_,rfl,.inr ⟨⟨_,s⟩,q _ H1 l1 z1 (ztQ s z)⟩⟩
 ·cases d1 with
  | rol s z=>exact .inl ⟨_,rfl,.inl ⟨⟨_,s.sq⟩,q _ H1 l1 z1 (ztS s z)⟩⟩
 ·cases d1 with
  | str x ok=>exact .inr ⟨_,rfl,q _ H1 l1 z1 (ztR ok)⟩
 ·cases d1
  split at q
  ·rename_i xs e0
   obtain ⟨vs,q1,z⟩:=z1 _ _ e0
   exact .inl ⟨_,rfl,.inl ⟨⟨_,SqL.of q1⟩,q _ H1 l1 z1 ztU⟩⟩
  ·exact q.elim
 ·exact q.elim
def zky (lo:Int) (n:Nat):List D:=(List.range n).map fun (i:Nat)=>.int (lo+(i:Int))
theorem zqN {K:PySem.W.Frag} {P:Program} {w:World} {H1:Hp} {lo:Int} {n:Nat}:WkD K P w H1 (Itr lo n) (zky lo n) fun _=>True where
 go:=fun i S H hi _ _ _=>by
  show i < n
  simpa [zky] using hi
 stop:=fun S H _ _ _=>by
  simp [zky,Itr]
 yld:=fun i S H x H' hi l r _ y=>by
  obtain ⟨e1,e2⟩:=y
  subst e1 e2
  have hi':i < n:=by simpa [zky] using hi
  exact ⟨Le.refl _,r,.int (lo+i),by simp [zky,hi'],.int _⟩
def zds (m:AM):IM:=fun env S R=>m env S fun ds S1=>match ds with
 | [.int j]=>-(2 ^ 62)≤j∧j < 2 ^ 62∧R (zky 0 j.toNat) (fun _=>True) S1
 | _=>False
def zlw (m:AM):IM:=fun env S R=>m env S fun ds S1=>match ds with
 | [.int i,.int j]=>(-(2 ^ 62)≤i∧i < 2 ^ 62∧-(2 ^ 62)≤j∧j < 2 ^ 62)∧R (zky i (j - i).toNat) (fun _=>True) S1
 | _=>False
theorem zcv {a:Expr} {m:AM} {p:Pos} (ha:MA X B [a] m) (h:∀ {ta:TA},PA X [a] ta->PI X tg (.Call (.Name "range" p) [a] [] pos) (iRng1 ta)):MI X B tg (.Call (.Name "range" p) [a] [] pos) (zds m):=by
 refine ⟨zkz (h ha.pa) fun σ H R q=>?_,fun env S Q Q' i q=>ha.mono env S _ _ (fun d S1 q=>?_) q⟩
 ·obtain ⟨lB,env,S,r0,z0,q⟩:=q
  refine ⟨lB,env,S,r0,z0,ha.mono env S _ _ (fun ds S1 q vs H1 l1 z1 d1=>?_) q⟩
  split at q
  ·obtain ⟨v,rfl,dv⟩:=zl9 d1
   cases dv
   exact ⟨_,rfl,q.1,q.2.1,q.2.2 _ H1 l1 z1 zqN⟩
  ·exact q.elim
 ·split at q
  ·exact ⟨q.1,q.2.1,i _ _ _ q.2.2⟩
  ·exact q.elim
theorem zoG {a b:Expr} {m:AM} {p:Pos} (ha:MA X B [a,b] m) (h:∀ {ta:TA},PA X [a,b] ta->PI X tg (.Call (.Name "range" p) [a,b] [] pos) (iRng2 ta)):MI X B tg (.Call (.Name "range" p) [a,b] [] pos) (zlw m):=by
 refine ⟨zkz (h ha.pa) fun σ H R q=>?_,fun env S Q Q' i q=>ha.mono env S _ _ (fun d S1 q=>?_) q⟩
 ·obtain ⟨lB,env,S,r0,z0,q⟩:=q
  refine ⟨lB,env,S,r0,z0,ha.mono env S _ _ (fun ds S1 q vs H1 l1 z1 d1=>?_) q⟩
  split at q
  ·obtain ⟨v,u,rfl,dv,dv'⟩:=zxO d1
   cases dv;cases dv'
   exact ⟨_,_,rfl,q.1,q.2 _ H1 l1 z1 zqN⟩
  ·exact q.elim
 ·split at q
  ·exact ⟨q.1,i _ _ _ q.2⟩
  ·exact q.elim
end
abbrev XQ:=Value->List (Str×D)->Sto->Prop
abbrev SpD:=List D->Sto->DQ->XQ->Prop
def zgo (sp:SpD):Prop:=∀ ds S (Q Q':DQ) (E E':XQ),(∀ d S,Q d S->Q' d S)->(∀ c f S,E c f S->E' c f S)->sp ds S Q E->sp ds S Q' E'
def zlF (K:PySem.W.Frag) (P:Program) (w:World) (sp:SpD):Sp:=fun vs H Q E=>∃ ds S,DVs K H ds vs∧Rp K P w S H∧sp ds S (dnE K P w H Q) fun c fs S'=>∀ dd H',Le H H'->Rp K P w S' H'->XdR K H' dd fs->E c dd H'
section
variable {X:Cx} {B:Hp} {W:XW}
abbrev Tk (X:Cx) (B:Hp) (W:XW):Prop:=Takes X (upW X.K X.prog X.w B W)
def WN:XW:=fun _ _ _ _=>False
theorem zfB:Tk X B WN:=fun u s' x=>by
 obtain ⟨_,_,_,_,_,_,_,_,_,_,_,_,_,_,_,_,z⟩:=x
 obtain ⟨_,_,_,_,_,_,_,z⟩:=z
 exact z.elim
def zaw (sp:SpD) (W:XW) (m:AM):EM:=fun env S Q=>m env S fun ds S1=>sp ds S1 Q fun c fs S'=>W c fs env S'
theorem zqa {sp:SpD} {m:AM} (hs:zgo sp) (hm:znY m):zdx (zaw sp W m):=fun env S Q Q' i q=>hm env S _ _ (fun ds S1 q=>hs _ _ _ _ _ _ i (fun _ _ _ h=>h) q) q
theorem zrK {K:PySem.W.Frag} {P:Program} {w:World} {sp:SpD} (hs:zgo sp) {env:Slo} {σ:L2.St} {H H1:Hp} {S1:Sto} {ds:List D} {vs:List V} {Q:VK} (lB:Le B H) (r0:zdy K H env σ) (l1:Le H H1) (z1:Rp K P w S1 H1) (d1:DVs K H1 ds vs)
  (q:sp ds S1 (dnE K P w H Q) fun c fs S'=>W c fs env S'):zlF K P w sp vs H1 Q (WE (upW K P w B W) σ):=
 ⟨ds,S1,d1,z1,hs _ _ _ _ _ _ (ze6 l1) (fun c fs S' hW dd H' l2 z2 x=>⟨lB.trans (l1.trans l2),env,S',fs,r0.le (l1.trans l2),z2,x,hW⟩) q⟩
variable {k:Nat} {f C:Addr} {fd:FuncData} {ps:List Str} {sp:SpD} {x m:Str} {p pos apos:Pos} {e o:Expr} {es:List Expr} {ma:AM} {mo:EM}
theorem zrF {m:AM} (hs:zgo sp) (hm:znY m) {σ:L2.St} {H:Hp} {Q:VK} {K:PySem.W.Frag} {P:Program} {w:World} (q:up K P w B (zaw sp W m) σ H Q):tCallS (zlF K P w sp) (WE (upW K P w B W)) (upA K P w B m) σ H Q:=by
 obtain ⟨lB,env,S,r0,z0,q⟩:=q
 refine ⟨lB,env,S,r0,z0,hm env S _ _ (fun ds S1 q vs H1 l1 z1 d1=>?_) q⟩
 exact zrK hs lB r0 l1 z1 d1 q
theorem zs0 (F:FnOk X.prog X.w X.K X.mg X.base (L2.CX X.prog X.w) k f fd ps (zlF X.K X.prog X.w sp)) (hs:zgo sp) (hr:Room k X.A) (tk:Tk X B W) (hg:Gl X x) (hm:X.mg x=some (.ref f)) (hk:PySem.W.keepIn X.K (.ref f)=true) (hb:Binds X.K fd ps [])
  (ha:MA X B (e :: es) ma) (hdb:(x == ("__debug__" : Str))=false:=by decide) (he:starEach (e :: es) X.env=(false,eval e X.env) :: starEach es X.env:=by rfl) (hpl:(backTo pos (starEach es X.env)).any (·.1)=false:=by rfl) :
  ME X B (.Call (.Name x p) (e :: es) [] pos) (zaw sp W ma):=
 ⟨zbF (pe_callS F hr hg hm hk hb (fun σ=>passAt tk σ) ha.pa hdb he hpl) fun _ _ _ q=>zrF hs ha.mono q,zqa hs ha.mono⟩
def tMethS (C:Addr) (m:Str) (sp:Sp) (E:L2.St->XK) (ta:TE) (t:TA):TE:=fun σ H Q=>ta σ H fun x H1=>∃ a dx fs,x = .ref a∧H1 a=some (.ins C dx fs)∧fs.lookup m=none∧t σ H1 fun vs H2=>sp (x :: vs) H2 Q (E σ)
theorem pe_methS {CX:CXT} {sp:Sp} {E:L2.St->XK} {ta:TE} {t:TA} {pl:Sem Bool} (he:PE X o ta) (c:Cls X.K C) (hm:Meth X.K C m f) (F:FnOk X.prog X.w X.K X.mg X.base CX k f fd ps sp) (hr:Room k X.A) (hb:Binds X.K fd ps []) (hx:∀ σ,PassesAt CX X σ (E σ)) (ha:PA X (e :: es) t)
  (hst:starEach (e :: es) X.env=(false,eval e X.env) :: starEach es X.env:=by rfl) (hpl:(backTo pos (starEach es X.env)).any (·.1)=false:=by rfl)
  (ht:eval (.Call (.Attribute o m apos) (e :: es) [] pos) X.env=(do
   let ov ← eval o X.env
   standAt apos.atName
   let (f,first) ← holding [ov] (getMethod ov m pl)
   callWith pos f first (backTo pos (starEach (e :: es) X.env)) (backToKw pos (keywordEach [] X.env))):=by rfl) :
  PE X (.Call (.Attribute o m apos) (e :: es) [] pos) (tMethS C m sp E ta t):=by
 refine ⟨fun pins s σ H Q I h=>?_⟩
 refine PySem.W.methodCall_KW (pl:=pl) (thn (he.run pins s σ H _ I h) fun u s1 ⟨x,H1,I1,rx,a,dx,fs,ex,ea,l,q⟩=>?_) ht
 subst ex
 obtain rfl:u=Value.ref a:=rx
 refine getmeth_ok I1 ea c hm l ?_
 refine PySem.W.callWith_K (first:=[.ref a]) (h₀:=X.base) I.ok.mod.kin hm.kp (thn (ha.run pos pins s1 σ H1 _ I1 q) fun us s2 ⟨vs,H2,I2,r,q2⟩=>⟨I2.kIn,?_⟩) hst hpl
 exact run_fnS (us:=.ref a :: us) (vs:=.ref a :: vs) F hr hb (hx σ) I2 (.cons rfl r) q2
theorem zot {CX:CXT} {sp:Sp} {E:L2.St->XK} {ta:TE} {pl:Sem Bool} (he:PE X o ta) (c:Cls X.K C) (hm:Meth X.K C m f) (F:FnOk X.prog X.w X.K X.mg X.base CX k f fd ps sp) (hr:Room k X.A) (hb:Binds X.K fd ps []) (hx:∀ σ,PassesAt CX X σ (E σ))
  (ht:eval (.Call (.Attribute o m apos) [] [] pos) X.env=(do
   let ov ← eval o X.env
   standAt apos.atName
   let (f,first) ← holding [ov] (getMethod ov m pl)
   callWith pos f first (backTo pos (starEach [] X.env)) (backToKw pos (keywordEach [] X.env))):=by rfl) :
  PE X (.Call (.Attribute o m apos) [] [] pos) (tMethS C m sp E ta tNil):=by
 refine ⟨fun pins s σ H Q I h=>?_⟩
 refine PySem.W.methodCall_KW (pl:=pl) (thn (he.run pins s σ H _ I h) fun u s1 ⟨x,H1,I1,rx,a,dx,fs,ex,ea,l,q⟩=>?_) ht
 subst ex
 obtain rfl:u=Value.ref a:=rx
 refine getmeth_ok I1 ea c hm l ?_
 refine PySem.W.callWith_K0 (first:=[.ref a]) I1.kIn hm.kp ?_
 exact run_fnS (us:=[.ref a]) (vs:=[.ref a]) F hr hb (hx σ) I1 (.cons rfl .nil) q
def zbG (C:Addr) (m:Str) (sp:SpD) (W:XW) (mo:EM) (ma:AM):EM:=fun env S Q=>mo env S fun d S1=>match d with
 | .ref a=>match S1 a with
  | some (.ins C' fs)=>C'=C∧fs.lookup m=none∧ma env S1 fun ds S2=>sp (.ref a :: ds) S2 Q fun c fs S'=>W c fs env S'
  | _=>False
 | _=>False
theorem zm6 (hs:zgo sp) (ho:zdx mo) (hm:znY ma):zdx (zbG C m sp W mo ma):=fun env S Q Q' i q=>ho env S _ _ (fun d S1 q=>by
 split at q
 ·split at q
  ·exact ⟨q.1,q.2.1,hm env S1 _ _ (fun ds S2 q=>hs _ _ _ _ _ _ i (fun _ _ _ h=>h) q) q.2.2⟩
  ·exact q.elim
 ·exact q.elim) q
theorem KVs.lookup {K:PySem.W.Frag} {H:Hp} {ds:List (Str×D)} {vs:List (Str×V)} (h:KVs K H ds vs) (f:Str):(∀ d,ds.lookup f=some d->∃ v,vs.lookup f=some v∧DV K H d v)∧(ds.lookup f=none->vs.lookup f=none):=by
 induction h with
 | nil=>exact ⟨(fun d e=>nomatch e),fun _=>rfl⟩
 | @cons k' d v ds vs h1 h2 ih=>
  rw [List.lookup_cons,List.lookup_cons]
  cases hk:f == k' with
  | true=>exact ⟨fun d' e=>by cases e;exact ⟨v,rfl,h1⟩,(fun e=>nomatch e)⟩
  | false=>exact ih
theorem zrD (hs:zgo sp) (ho:zdx mo) (hm:znY ma) {σ:L2.St} {H:Hp} {Q:VK} {K:PySem.W.Frag} {P:Program} {w:World} (q:up K P w B (zbG C m sp W mo ma) σ H Q):tMethS C m (zlF K P w sp) (WE (upW K P w B W)) (up K P w B mo) (upA K P w B ma) σ H Q:=by
 obtain ⟨lB,env,S,r0,z0,q⟩:=q
 refine ⟨lB,env,S,r0,z0,ho env S _ _ (fun d S1 q v H1 l1 z1 d1=>?_) q⟩
 split at q
 ·cases d1
  split at q
  ·rename_i _ C' fs e0
   obtain ⟨rfl,q1,q⟩:=q
   obtain ⟨dx,vs,e1,kv⟩:=z1 _ _ e0
   refine ⟨_,dx,vs,rfl,e1,(kv.lookup m).2 q1,lB.trans l1,env,S1,r0.le l1,z1,hm env S1 _ _ (fun ds S2 q us H2 l2 z2 d2=>?_) q⟩
   exact zrK hs lB r0 (l1.trans l2) z2 (.cons (.ref _) d2) q
  ·exact q.elim
 ·exact q.elim
theorem zsZ {pl:Sem Bool} (ho:ME X B o mo) (c:Cls X.K C) (hm:Meth X.K C m f) (F:FnOk X.prog X.w X.K X.mg X.base (L2.CX X.prog X.w) k f fd ps (zlF X.K X.prog X.w sp)) (hs:zgo sp) (hr:Room k X.A) (tk:Tk X B W) (hb:Binds X.K fd ps []) (ha:MA X B (e :: es) ma)
  (hst:starEach (e :: es) X.env=(false,eval e X.env) :: starEach es X.env:=by rfl) (hpl:(backTo pos (starEach es X.env)).any (·.1)=false:=by rfl)
  (ht:eval (.Call (.Attribute o m apos) (e :: es) [] pos) X.env=(do
   let ov ← eval o X.env
   standAt apos.atName
   let (f,first) ← holding [ov] (getMethod ov m pl)
   callWith pos f first (backTo pos (starEach (e :: es) X.env)) (backToKw pos (keywordEach [] X.env))):=by rfl):ME X B (.Call (.Attribute o m apos) (e :: es) [] pos) (zbG C m sp W mo ma):=
 ⟨zbF (pe_methS ho.pe c hm F hr hb (fun σ=>passAt tk σ) ha.pa hst hpl ht) fun _ _ _ q=>zrD hs ho.mono ha.mono q,zm6 hs ho.mono ha.mono⟩
theorem zqc {pl:Sem Bool} (ho:ME X B o mo) (c:Cls X.K C) (hm:Meth X.K C m f) (F:FnOk X.prog X.w X.K X.mg X.base (L2.CX X.prog X.w) k f fd ps (zlF X.K X.prog X.w sp)) (hs:zgo sp) (hr:Room k X.A) (tk:Tk X B W) (hb:Binds X.K fd ps [])
  (ht:eval (.Call (.Attribute o m apos) [] [] pos) X.env=(do
   let ov ← eval o X.env
   standAt apos.atName
   let (f,first) ← holding [ov] (getMethod ov m pl)
   callWith pos f first (backTo pos (starEach [] X.env)) (backToKw pos (keywordEach [] X.env))):=by rfl):ME X B (.Call (.Attribute o m apos) [] [] pos) (zbG C m sp W mo zal):=by
 refine ⟨zbF (zot ho.pe c hm F hr hb (fun σ=>passAt tk σ) ht) fun σ H Q q=>?_,zm6 hs ho.mono fun env S Q Q' i q=>i _ _ q⟩
 obtain ⟨lB,env,S,r0,z0,q⟩:=q
 refine ⟨lB,env,S,r0,z0,ho.mono env S _ _ (fun d S1 q v H1 l1 z1 d1=>?_) q⟩
 split at q
 ·cases d1
  split at q
  ·rename_i _ C' fs e0
   obtain ⟨rfl,q1,q⟩:=q
   obtain ⟨dx,vs,e1,kv⟩:=z1 _ _ e0
   exact ⟨_,dx,vs,rfl,e1,(kv.lookup m).2 q1,zrK hs lB r0 l1 z1 (.cons (.ref _) .nil) q⟩
  ·exact q.elim
 ·exact q.elim
def FOk (K:PySem.W.Frag) (C:Addr) (f:Str):Prop:=Cls K C∧NoAttr K C f
def zd6 (K:PySem.W.Frag) (m:EM) (f:Str):EM:=fun env S Q=>m env S fun d S1=>match d with
 | .ref a=>match S1 a with
  | some (.ins C fs)=>match fs.lookup f with
   | some v=>FOk K C f∧Q v S1
   | none=>False
  | _=>False
 | _=>False
theorem zaP {f:Str} (h:ME X B e mo) (hb:attributeBase e f X.env (eval e X.env)=eval e X.env:=by rfl):ME X B (.Attribute e f pos) (zd6 X.K mo f):=by
 refine ⟨zbF (pe_fld h.pe hb) fun σ H Q q=>?_,fun env S Q Q' i q=>h.mono env S _ _ (fun d S1 q=>?_) q⟩
 ·obtain ⟨lB,env,S,r0,z0,q⟩:=q
  refine ⟨lB,env,S,r0,z0,h.mono env S _ _ (fun d S1 q v H1 l1 z1 d1=>?_) q⟩
  split at q
  ·cases d1
   split at q
   ·rename_i _ C fs e0
    split at q
    ·rename_i x0 ex
     obtain ⟨dx,vs,e1,kv⟩:=z1 _ _ e0
     obtain ⟨u,eu,du⟩:=(kv.lookup f).1 _ ex
     exact ⟨_,C,dx,vs,u,rfl,e1,q.1.1,q.1.2,eu,q.2 u H1 l1 z1 du⟩
    ·exact q.elim
   ·exact q.elim
  ·exact q.elim
 ·split at q
  ·split at q
   ·split at q
    ·exact ⟨q.1,i _ _ q.2⟩
    ·exact q.elim
   ·exact q.elim
  ·exact q.elim
def zbE (f:Str) (v:D):List (Str×D)->List (Str×D)
 | []=>[(f,v)]
 | (g,u) :: r=>if g=f then (g,v) :: r else (g,u) :: zbE f v r
end
open PySem PySem.Spec PyProof.Rows L2
def spB (n m:Nat) (b:XW->SM):SpD:=fun ds S Q E=>∃ (Q0:DQ) (E0:XQ),(∀ d S,Q0 d S->Q d S)∧(∀ c f S,E0 c f S->E c f S)∧ds.length=n∧
 b (fun c fs _ S'=>E0 c fs S') { nx:=fun _ S'=>Q0 .non S',rt:=Q0 } (ds.map some++List.replicate m none) S
theorem zln {n m:Nat} {b:XW->SM}:zgo (spB n m b):=fun ds S Q Q' E E' i j h=>by
 obtain ⟨Q0,E0,h1,h2,h3,h4⟩:=h
 exact ⟨Q0,E0,fun d S q=>i _ _ (h1 d S q),fun c f S q=>j _ _ _ (h2 c f S q),h3,h4⟩
theorem zax {n m:Nat} {b:XW->SM} {ds:List D} {S:Sto} {Q:DQ} {E:XQ} (hl:ds.length=n) (h:b (fun c fs _ S'=>E c fs S') { nx:=fun _ S'=>Q .non S',rt:=Q } (ds.map some++List.replicate m none) S):spB n m b ds S Q E:=
 ⟨Q,E,fun _ _ q=>q,fun _ _ _ q=>q,hl,h⟩
structure Fd (P:Program) (w:World) (K:PySem.W.Frag) (mg:Str->Option Value) (base:Heap) (k:Nat) (f:Addr) (sp:SpD):Prop where
 ex:∃ fd ps,FnOk P w K mg base (L2.CX P w) k f fd ps (zlF K P w sp)∧Binds K fd ps []
 kp:PySem.W.keepIn K (.ref f)=true
 mono:zgo sp
section
variable {P:Program} {w:World} {K:PySem.W.Frag} {mg:Str->Option Value} {base:Heap}
theorem Fd.more {j k:Nat} {f:Addr} {sp:SpD} (F:Fd P w K mg base j f sp) (h:j≤k):Fd P w K mg base k f sp:=by
 obtain ⟨fd,ps,F1,b⟩:=F.ex
 exact ⟨⟨fd,ps,F1.mono h,b⟩,F.kp,F.mono⟩
theorem zgG {H:Hp} {ds:List D} {vs:List V} {N:List Str} {m:Nat} (h:DVs K H ds vs) (hN:N.length=ds.length+m):zdy K H (ds.map some++List.replicate m none) (L2.start N vs):=by
 have hl:=h.length
 refine ⟨by simp [L2.start,hl];omega,fun i d e=>?_⟩
 have hi:i < ds.length:=by
  by_cases hi:i < ds.length
  ·exact hi
  ·rw [List.getElem?_append_right (by simpa using hi),List.getElem?_replicate] at e
   split at e <;> cases e
 rw [List.getElem?_append_left (by simpa using hi),List.getElem?_map] at e
 cases q:ds[i]? with
 | none=>rw [q] at e;cases e
 | some x=>
  rw [q] at e
  cases e
  obtain ⟨v,e1,e2⟩:=h.get q
  refine ⟨v,?_,e2⟩
  unfold L2.start
  rw [List.getElem?_append_left (by rw [hl] at hi;simpa using hi),List.getElem?_map,e1]
  rfl
theorem zaB {x qual:Str} {params:Arguments} {body:List Stmt} {scope:Scope} {dvs:List V} {kws:List (Str×V)} {f:Addr} {fd:FuncData} {N ps:List Str} {k n m:Nat} {b:XW->SM} (F:FunD K x qual params body scope dvs kws f fd) (S:FnScope N ps scope) (bi:Binds K fd ps [])
  (hn:ps.length=n) (hN:N.length=n+m)
  (hb:∀ (cdv:Value) (A:Around) (outer:List Env) (s:Shared) (H:Hp) (E:XK),Room k (A.deeper (envOfC qual scope s.heap.objs.size f cdv))->∀ (X:Cx) (eX:X=cxOf (L2.CX P w) P w K mg base N qual scope f cdv A outer s H E) (W:XW),Tk X H W->PassesOwn (model X.prog X.w) X.A X.env X.xe->MSs X H body (b W)):Fd P w K mg base (k+1) f (spB n m b):=by
 refine ⟨⟨fd,ps,F.ok S (fun vs H Q E h=>?_) (fun cdv A outer s H vs Q E hr h=>?_),bi⟩,F.kp,zln⟩
 ·obtain ⟨ds,S0,h1,h2,Q0,E0,_,_,h3,_⟩:=h
  rw [← h1.length,h3,hn]
 ·obtain ⟨ds,S0,h1,h2,Q0,E0,i1,i2,h3,h4⟩:=h
  have tk0:Takes (cxOf (L2.CX P w) P w K mg base N qual scope f cdv A outer s H E) (fun cls d _ H=>E cls d H):=takes_of rfl rfl rfl rfl
  have tk:Tk (cxOf (L2.CX P w) P w K mg base N qual scope f cdv A outer s H E) H (fun c fs _ S'=>E0 c fs S'):=tk0.imp fun c d σ H' z=>by
   obtain ⟨l,env,S',fs,_,z1,z2,z3⟩:=z
   exact i2 _ _ _ z3 d H' l z1 z2
  have Z:=hb cdv A outer s H E hr _ rfl _ tk (passes_of rfl)
  refine ⟨_,Z.ps,Le.refl H,_,S0,zgG h1 (by rw [h3];exact hN),h2,Z.mono.go h4 ⟨fun e S' q σ H' l r z=>?_,fun d S' q v H' l z dv=>i1 _ _ q v H' l z dv,fun _ _ q=>q.elim,fun _ _ q=>q.elim⟩⟩
  exact i1 _ _ q _ H' l z .non
end
section
variable {X:Cx} {B:Hp} {W:XW} {k:Nat} {f C:Addr} {sp:SpD} {x m:Str} {p pos apos:Pos} {e o:Expr} {es:List Expr} {ma:AM} {mo me:EM}
theorem zaA (F:Fd X.prog X.w X.K X.mg X.base k f sp) (hr:Room k X.A) (tk:Tk X B W) (hm:X.mg x=some (.ref f)) (ha:MA X B (e :: es) ma) (hg:Gl X x:=by rfl)
  (hdb:(x == ("__debug__" : Str))=false:=by decide) (he:starEach (e :: es) X.env=(false,eval e X.env) :: starEach es X.env:=by rfl) (hpl:(backTo pos (starEach es X.env)).any (·.1)=false:=by rfl) :
  ME X B (.Call (.Name x p) (e :: es) [] pos) (zaw sp W ma):=by
 obtain ⟨fd,ps,F1,b⟩:=F.ex
 exact zs0 F1 F.mono hr tk hg hm F.kp b ha hdb he hpl
theorem zde {pl:Sem Bool} (ho:ME X B o mo) (c:Cls X.K C) (hm:Meth X.K C m f) (F:Fd X.prog X.w X.K X.mg X.base k f sp) (hr:Room k X.A) (tk:Tk X B W) (ha:MA X B (e :: es) ma)
  (hst:starEach (e :: es) X.env=(false,eval e X.env) :: starEach es X.env:=by rfl) (hpl:(backTo pos (starEach es X.env)).any (·.1)=false:=by rfl)
  (ht:eval (.Call (.Attribute o m apos) (e :: es) [] pos) X.env=(do
   let ov ← eval o X.env
   standAt apos.atName
   let (f,first) ← holding [ov] (getMethod ov m pl)
   callWith pos f first (backTo pos (starEach (e :: es) X.env)) (backToKw pos (keywordEach [] X.env))):=by rfl):ME X B (.Call (.Attribute o m apos) (e :: es) [] pos) (zbG C m sp W mo ma):=by
 obtain ⟨fd,ps,F1,b⟩:=F.ex
 exact zsZ ho c hm F1 F.mono hr tk b ha hst hpl ht
theorem zm9 {pl:Sem Bool} (ho:ME X B o mo) (c:Cls X.K C) (hm:Meth X.K C m f) (F:Fd X.prog X.w X.K X.mg X.base k f sp) (hr:Room k X.A) (tk:Tk X B W)
  (ht:eval (.Call (.Attribute o m apos) [] [] pos) X.env=(do
   let ov ← eval o X.env
   standAt apos.atName
   let (f,first) ← holding [ov] (getMethod ov m pl)
   callWith pos f first (backTo pos (starEach [] X.env)) (backToKw pos (keywordEach [] X.env))):=by rfl):ME X B (.Call (.Attribute o m apos) [] [] pos) (zbG C m sp W mo zal):=by
 obtain ⟨fd,ps,F1,b⟩:=F.ex
 exact zqc ho c hm F1 F.mono hr tk b ht
def mNo:SM:=fun _ _ _=>False
theorem zmv {st:Stmt}:MS X B st mNo:=⟨⟨fun pins s σ H D I h=>by
 obtain ⟨_,_,_,_,_,q⟩:=h
 exact q.elim⟩,fun _ _ _ _ _ h=>h⟩
def eNo:EM:=fun _ _ _=>False
theorem KVs.putF {K:PySem.W.Frag} {H:Hp} {ds:List (Str×D)} {vs:List (Str×V)} {f:Str} {d:D} {v:V} (h:KVs K H ds vs) (hd:DV K H d v):KVs K H (zbE f d ds) (L2.putF f v vs):=by
 induction h with
 | nil=>exact .cons hd .nil
 | @cons k' d' v' ds vs h1 h2 ih=>
  unfold zbE L2.putF
  by_cases q:k'=f
  ·simp only [q,if_true]
   exact .cons hd h2
  ·simp only [q,if_false]
   exact .cons h1 ih
def zcw (K:PySem.W.Frag) (mo me:EM) (f:Str):SM:=fun A env S=>me env S fun y S1=>mo env S1 fun d S2=>match d with
 | .ref a=>match S2 a with
  | some (.ins C fs)=>FOk K C f∧fs.length < 1000∧A.nx env (put S2 a (.ins C (zbE f y fs)))
  | _=>False
 | _=>False
theorem zb5 {f:Str} {pos':Pos} (ho:ME X B o mo) (he:ME X B e me) (hs:swapsWith e (some (.Attribute o f pos')) pos.line X.env=pure false:=by rfl):MS X B (.Assign [.Attribute o f pos'] e pos) (zcw X.K mo me f):=by
 refine ⟨zd4 (ps_fld ho.pe he.pe hs) fun D σ H q=>?_,fun A B env S l q=>he.mono env S _ _ (fun y S1 q=>ho.mono env S1 _ _ (fun d S2 q=>?_) q) q⟩
 ·obtain ⟨lB,env,S,r0,z0,q⟩:=q
  refine ⟨lB,env,S,r0,z0,he.mono env S _ _ (fun y S1 q v H1 l1 z1 d1=>?_) q⟩
  refine ⟨lB.trans l1,env,S1,r0.le l1,z1,ho.mono env S1 _ _ (fun d S2 q u H2 l2 z2 d2=>?_) q⟩
  split at q
  ·cases d2
   split at q
   ·rename_i a _ C fs e0
    obtain ⟨dx,vs,e1,kv⟩:=z2 _ _ e0
    have hmut:Mut (H2 a):=by rw [e1];exact trivial
    refine ⟨_,C,dx,vs,rfl,e1,q.1.1,q.1.2,by rw [← kv.length];exact q.2.1,?_⟩
    have l3:=Le.mut (o:=.ins C dx (L2.putF f v vs)) hmut
    have l123:=(l1.trans l2).trans l3
    exact q.2.2 σ _ l123 (r0.le l123) (z2.wr hmut ⟨dx,_,upd_same,(kv.putF (d1.le l2)).le l3⟩)
   ·exact q.elim
  ·exact q.elim
 ·split at q
  ·split at q
   ·exact ⟨q.1,q.2.1,l.nx _ _ q.2.2⟩
   ·exact q.elim
  ·exact q.elim
end
def zcJ (env:Slo):List Nat->Slo
 | []=>env
 | v :: vs=>(zcJ env vs).set v none
theorem zdy.wipe {K:PySem.W.Frag} {H:Hp} {env:Slo} {σ:L2.St} (r:zdy K H env σ):∀ vs:List Nat,zdy K H (zcJ env vs) (L2.wipe σ vs)
 | []=>r
 | v :: vs=>(zdy.wipe r vs).unset v
theorem zjD {σ:L2.St} {i:Nat} {a:Option V}:∀ vs:List Nat,(L2.wipe (σ.set i a) vs).set i none=(L2.wipe σ vs).set i none
 | []=>by simp [L2.wipe]
 | v :: r=>by
  unfold L2.wipe
  by_cases h:v=i
  ·subst h
   rw [List.set_set,List.set_set]
   exact zjD r
  ·rw [List.set_comm _ _ h,List.set_comm _ _ h,zjD r]
theorem zkP {σ:L2.St} {i:Nat} {a:Option V}:∀ {vs:List Nat},i∈vs->L2.wipe (σ.set i a) vs=L2.wipe σ vs
 | v :: r,h=>by
  rcases List.mem_cons.mp h with e | h
  ·subst e
   exact zjD r
  ·show (L2.wipe (σ.set i a) r).set v none=_
   rw [zkP h]
   rfl
theorem zmf {σ:L2.St} {j:Nat} (hj:j < σ.length):∀ {vs:List Nat},j∈vs->(L2.wipe σ vs)[j]? = some none
 | v :: r,h=>by
  unfold L2.wipe
  by_cases e:v=j
  ·subst e
   exact List.getElem?_set_self (by rw [L2.wipe_length];exact hj)
  ·rw [List.getElem?_set_ne e]
   rcases List.mem_cons.mp h with q | h
   ·exact absurd q.symm e
   ·exact zmf hj h
theorem zhN {σ:L2.St} {vs:List Nat}:L2.wipe (L2.wipe σ vs) vs=L2.wipe σ vs:=by
 apply List.ext_getElem?
 intro j
 by_cases hj:j < σ.length
 ·by_cases h:j∈vs
  ·rw [zmf (by rw [L2.wipe_length];exact hj) h,zmf hj h]
  ·rw [L2.wipe_out h]
 ·rw [List.getElem?_eq_none (by rw [L2.wipe_length,L2.wipe_length];omega),List.getElem?_eq_none (by rw [L2.wipe_length];omega)]
def TgD (K:PySem.W.Frag) (vs:List Nat) (t:TG) (g:GM):Prop:=∀ d x env σ S H (Q:Slo->Sto->Prop),DV K H d x->zdy K H env σ->g d env S Q->t x σ H fun σ2 H2=>L2.wipe σ2 vs=L2.wipe σ vs∧H2=H∧∃ env2,zdy K H env2 σ2∧Q env2 S
def zw2 (K:PySem.W.Frag) (vs:List Nat) (t:TGs) (g:GsM):Prop:=∀ ds xs env σ S H (Q:Slo->Sto->Prop),DVs K H ds xs->zdy K H env σ->g ds env S Q->t xs σ H fun σ2 H2=>L2.wipe σ2 vs=L2.wipe σ vs∧H2=H∧∃ env2,zdy K H env2 σ2∧Q env2 S
section
variable {K:PySem.W.Frag} {vs:List Nat}
theorem zxX {i:Nat} (hi:i∈vs:=by decide):TgD K vs (gName i) (gNm i):=fun d x env σ S H Q hd r q=>⟨zkP hi,rfl,_,r.set hd i,q⟩
theorem zrG:zw2 K vs gNil gN:=fun ds xs env σ S H Q hd r q=>by
 cases hd with
 | nil=>exact ⟨rfl,rfl,rfl,_,r,q⟩
 | cons=>exact q.elim
theorem zpw {i:Nat} {ts:TGs} {gs:GsM} (h2:zw2 K vs ts gs) (hps:∀ xs σ H (Q Q':L2.St->Hp->Prop),(∀ s h,Q s h->Q' s h)->ts xs σ H Q->ts xs σ H Q') (hi:i∈vs:=by decide):zw2 K vs (gCons (gName i) ts) (gC (gNm i) gs):=fun ds xs env σ S H Q hd r q=>by
 cases hd with
 | nil=>exact q.elim
 | @cons d ds x xs hd hds=>
  refine ⟨x,xs,rfl,?_⟩
  refine hps _ _ _ _ _ (fun σ2 H2 z=>?_) (h2 ds xs _ _ S H Q hds (r.set hd i) q)
  obtain ⟨e2,rfl,env2,r2,q2⟩:=z
  exact ⟨e2.trans (zkP hi),rfl,env2,r2,q2⟩
theorem zo7:∀ xs σ H (Q Q':L2.St->Hp->Prop),(∀ s h,Q s h->Q' s h)->gNil xs σ H Q->gNil xs σ H Q':=fun _ _ _ _ _ i q=>⟨q.1,i _ _ q.2⟩
theorem znQ {i:Nat} {ts:TGs} (hps:∀ xs σ H (Q Q':L2.St->Hp->Prop),(∀ s h,Q s h->Q' s h)->ts xs σ H Q->ts xs σ H Q'):∀ xs σ H (Q Q':L2.St->Hp->Prop),(∀ s h,Q s h->Q' s h)->gCons (gName i) ts xs σ H Q->gCons (gName i) ts xs σ H Q':=fun xs σ H Q Q' i q=>by
 obtain ⟨v,r,e,q⟩:=q
 exact ⟨v,r,e,hps _ _ _ _ _ i q⟩
theorem zt8 {n:Nat} {ts:TGs} {gs:GsM} (h:zw2 K vs ts gs):TgD K vs (gTup K n ts) (gT n gs):=fun d x env σ S H Q hd r q=>by
 cases hd with
 | tup s z=>exact ⟨_,_,rfl,s,by rw [← z.length];exact q.1,h _ _ _ _ _ _ _ z r q.2⟩
 | _=>exact (show False from q).elim
end
structure MTs (X:Cx) (B:Hp) (ifs:List Expr) (t:TM):Prop where
 pts:PTs X ifs (upT X.K X.prog X.w B t)
 mono:zkh t
def zij:TM:=fun _ S Q=>Q true S
theorem zbV {X:Cx} {B:Hp}:MTs X B [] zij:=by
 refine ⟨⟨fun pins s σ H Q I h=>pts_nil.run pins s σ H Q I ?_⟩,fun _ _ _ _ i h=>i _ _ h⟩
 obtain ⟨_,env,S,_,z,q⟩:=h
 exact q H (Le.refl H) z
theorem zdd {X:Cx} {B:Hp} {c:Expr} {t:TM} (h:MT X B c t):MTs X B [c] t:=⟨pts_one h.pt,h.mono⟩
def lcL (g:GM) (t:TM) (m:EM) (G:Sto->Prop) (p:Addr) (Q:DQ) (env:Slo):List D->Sto->Prop
 | [],S=>G S∧Q (.ref p) S
 | x :: xs,S=>G S∧g x env S fun env2 S2=>t env2 S2 fun b S3=>match b with
  | true=>m env2 S3 fun d S4=>match S4 p with
   | some (.lst ys)=>ys.length < sizeLine∧lcL g t m G p Q env xs (put S4 p (.lst (ys++[d])))
   | _=>False
  | false=>lcL g t m G p Q env xs S3
def mLc (mi:IM) (g:GM) (t:TM) (m:EM) (vs:List Nat):EM:=fun env S Q=>mi env S fun xs G S1=>∀ p,S1 p=none->lcL g t m G p Q (zcJ env vs) xs (put S1 p (.lst []))
section
variable {X:Cx} {B:Hp} {elt tg iter:Expr} {ifs:List Expr} {scope:Scope} {own:List (Str×Nat)} {pos:Pos} {mi:IM} {g:GM} {t:TM} {m:EM}
theorem zlu {G:Sto->Prop} {p:Addr} {env:Slo} {Q Q':DQ} (hg:∀ d env S (Q Q':Slo->Sto->Prop),(∀ e S,Q e S->Q' e S)->g d env S Q->g d env S Q') (ht:zkh t) (hm:zdx m) (i:∀ d S,Q d S->Q' d S):∀ xs S,lcL g t m G p Q env xs S->lcL g t m G p Q' env xs S
 | [],S,h=>⟨h.1,i _ _ h.2⟩
 | x :: xs,S,h=>⟨h.1,hg _ _ _ _ _ (fun e s q=>ht _ _ _ _ (fun b S3 q=>by
   cases b with
   | true=>
    refine hm _ _ _ _ (fun d S4 q=>?_) q
    split at q
    ·exact ⟨q.1,zlu hg ht hm i xs _ q.2⟩
    ·exact q.elim
   | false=>exact zlu hg ht hm i xs _ q) q) h.2⟩
theorem zt3 {K:PySem.W.Frag} {P:Program} {w:World} {wi:TI} {tt:TG} {vs:List Nat} (hwi:∀ σ H R,(Le B H∧∃ env S,zdy K H env σ∧Rp K P w S H∧mi env S fun xs G S1=>∀ J H1,Le H H1->Rp K P w S1 H1->WkD K P w H1 J xs G->R J H1)->wi σ H R)
  (hmi:∀ env S (Q Q':List D->(Sto->Prop)->Sto->Prop),(∀ xs G S,Q xs G S->Q' xs G S)->mi env S Q->mi env S Q') (htm:∀ x σ H (Q Q':L2.St->Hp->Prop),(∀ s h,Q s h->Q' s h)->tt x σ H Q->tt x σ H Q') (hg:TgD K vs tt g) (hgm:∀ d env S (Q Q':Slo->Sto->Prop),(∀ e S,Q e S->Q' e S)->g d env S Q->g d env S Q') (ht:zkh t) (hm:zdx m) {σ:L2.St} {H:Hp} {Q:VK}
  (q:up K P w B (mLc mi g t m vs) σ H Q):tLc wi tt (upT K P w B t) (up K P w B m) vs σ H Q:=by
 obtain ⟨lB,env,S,r0,z0,q⟩:=q
 refine hwi _ _ _ ⟨lB,env,S,r0,z0,hmi _ _ _ _ (fun xs G S1 q J H1 l1 z1 wk=>?_) q⟩
 intro p hp
 have l2:Le H1 (upd H1 p (.lst [])):=Le.new hp
 have z2:Rp K P w (put S1 p (.lst [])) (upd H1 p (.lst [])):=z1.new hp ⟨[],upd_same,.nil⟩
 have q:=q p (z1.free hp)
 refine ⟨fun i k H'=>i≤xs.length∧k=xs.length - i∧Le (upd H1 p (.lst [])) H'∧∃ S,Rp K P w S H'∧lcL g t m G p (dnE K P w H Q) (zcJ env vs) (xs.drop i) S,⟨xs.length,Nat.zero_le _,rfl,Le.refl _,_,z2,q⟩,fun i k H' h=>?_⟩
 obtain ⟨hi,rfl,l3,S,z3,q⟩:=h
 have l23:=l2.trans l3
 by_cases hlt:i < xs.length
 ·have ed:xs.drop i=xs[i] :: xs.drop (i+1):=List.drop_eq_getElem_cons hlt
  rw [ed] at q
  refine .inr ⟨wk.go i S H' hlt l23 z3 q.1,fun H'=>Le (upd H1 p (.lst [])) H'∧∃ S,Rp K P w S H'∧lcL g t m G p (dnE K P w H Q) (zcJ env vs) (xs.drop (i+1)) S,fun H3 h=>⟨xs.length - (i+1),by omega,hlt,rfl,h⟩,fun x H3 hy=>?_⟩
  obtain ⟨l4,z4,d,ex,dv⟩:=wk.yld i S H' x H3 hlt l23 z3 q.1 hy
  have e':d=xs[i]:=by
   rw [List.getElem?_eq_getElem hlt] at ex
   exact (Option.some.inj ex).symm
  subst e'
  have l04:=l1.trans (l23.trans l4)
  refine htm _ _ _ _ _ (fun σ2 H2 z=>?_) (hg _ x _ _ S H3 _ dv ((r0.le l04).wipe vs) q.2)
  obtain ⟨e2,rfl,env2,r2,q2⟩:=z
  refine ⟨e2.trans zhN,lB.trans l04,env2,S,r2,z4,ht _ _ _ _ (fun b S3 q H5 l5 z5=>?_) q2⟩
  cases b with
  | false=>exact ⟨l3.trans (l4.trans l5),S3,z5,q⟩
  | true=>
   refine ⟨lB.trans (l04.trans l5),env2,S3,r2.le l5,z5,hm _ _ _ _ (fun d S4 q v H6 l6 z6 d6=>?_) q⟩
   split at q
   ·rename_i ys ey
    obtain ⟨us,e1,e2⟩:=z6 _ _ ey
    have hmut:Mut (H6 p):=by rw [e1];exact trivial
    have l7:=Le.mut (o:=.lst (us++[v])) hmut
    exact ⟨us,e1,by rw [← e2.length];exact q.1,l3.trans (l4.trans (l5.trans (l6.trans l7))),_,z6.wr (o:=.lst (ys++[d])) hmut ⟨_,upd_same,(e2.append (.cons d6 .nil)).le l7⟩,q.2⟩
   ·exact q.elim
 ·have ei:i=xs.length:=by omega
  subst ei
  rw [List.drop_length] at q
  exact .inl ⟨wk.stop S H' l23 z3 q.1,q.2 _ H' (l1.trans l23) z3 (.ref p)⟩
abbrev ztD (tt:TG):Prop:=∀ x σ H (Q Q':L2.St->Hp->Prop),(∀ s h,Q s h->Q' s h)->tt x σ H Q->tt x σ H Q'
theorem zqx {i:Nat}:ztD (gName i):=fun x σ H Q Q' i q=>i _ _ q
theorem zo6 {K:PySem.W.Frag} {n:Nat} {ts:TGs} (hps:∀ xs σ H (Q Q':L2.St->Hp->Prop),(∀ s h,Q s h->Q' s h)->ts xs σ H Q->ts xs σ H Q'):ztD (gTup K n ts):=fun x σ H Q Q' i q=>by
 obtain ⟨a,xs,e,s,l,q⟩:=q
 exact ⟨a,xs,e,s,l,hps _ _ _ _ _ i q⟩
theorem zz4 {i:Nat}:∀ d env S (Q Q':Slo->Sto->Prop),(∀ e S,Q e S->Q' e S)->gNm i d env S Q->gNm i d env S Q':=fun _ _ _ _ _ i q=>i _ _ q
theorem ztd:∀ d env S (Q Q':Slo->Sto->Prop),(∀ e S,Q e S->Q' e S)->gN d env S Q->gN d env S Q':=fun d env S Q Q' i q=>by
 cases d with
 | nil=>exact i _ _ q
 | cons=>exact q.elim
theorem zqw {i:Nat} {gs:GsM} (h:∀ d env S (Q Q':Slo->Sto->Prop),(∀ e S,Q e S->Q' e S)->gs d env S Q->gs d env S Q'):∀ d env S (Q Q':Slo->Sto->Prop),(∀ e S,Q e S->Q' e S)->gC (gNm i) gs d env S Q->gC (gNm i) gs d env S Q':=fun d env S Q Q' i q=>by
 cases d with
 | nil=>exact q.elim
 | cons d ds=>exact h _ _ _ _ _ i q
theorem zwO {n:Nat} {gs:GsM} (h:∀ d env S (Q Q':Slo->Sto->Prop),(∀ e S,Q e S->Q' e S)->gs d env S Q->gs d env S Q'):∀ d env S (Q Q':Slo->Sto->Prop),(∀ e S,Q e S->Q' e S)->gT n gs d env S Q->gT n gs d env S Q':=fun d env S Q Q' i q=>by
 cases d with
 | tp _ ds=>exact ⟨q.1,h _ _ _ _ _ i q.2⟩
 | _=>exact (show False from q).elim
structure BT (K:PySem.W.Frag) (vs:List Nat) (tt:TG) (g:GM):Prop where
 td:TgD K vs tt g
 mt:ztD tt
 mg:∀ d env S (Q Q':Slo->Sto->Prop),(∀ e S,Q e S->Q' e S)->g d env S Q->g d env S Q'
theorem zcN {K:PySem.W.Frag} {vs:List Nat} {i:Nat} (hi:i∈vs:=by decide):BT K vs (gName i) (gNm i):=⟨zxX hi,zqx,zz4⟩
structure BTs (K:PySem.W.Frag) (vs:List Nat) (ts:TGs) (gs:GsM):Prop where
 td:zw2 K vs ts gs
 mt:∀ xs σ H (Q Q':L2.St->Hp->Prop),(∀ s h,Q s h->Q' s h)->ts xs σ H Q->ts xs σ H Q'
 mg:∀ d env S (Q Q':Slo->Sto->Prop),(∀ e S,Q e S->Q' e S)->gs d env S Q->gs d env S Q'
theorem ztz {K:PySem.W.Frag} {vs:List Nat}:BTs K vs gNil gN:=⟨zrG,zo7,ztd⟩
theorem znn {K:PySem.W.Frag} {vs:List Nat} {i:Nat} {ts:TGs} {gs:GsM} (h:BTs K vs ts gs) (hi:i∈vs:=by decide):BTs K vs (gCons (gName i) ts) (gC (gNm i) gs):=⟨zpw h.td h.mt hi,znQ h.mt,zqw h.mg⟩
theorem zwZ {K:PySem.W.Frag} {vs:List Nat} {n:Nat} {ts:TGs} {gs:GsM} (h:BTs K vs ts gs):BT K vs (gTup K n ts) (gT n gs):=⟨zt8 h.td,zo6 h.mt,zwO h.mg⟩
abbrev Blk (X:Cx) (scope:Scope) (R:Cx->Prop):Prop:=∀ (s:Shared) (H:Hp) (C:Addr) (cl:List (Str×Addr)) (fp:List Addr),R (X.blk s H scope (compEnvC scope cl C X.env) fp)
theorem zq7 {vs:List Nat} (hmi:∀ env S (Q Q':List D->(Sto->Prop)->Sto->Prop),(∀ xs G S,Q xs G S->Q' xs G S)->mi env S Q->mi env S Q') (hg:∀ d env S (Q Q':Slo->Sto->Prop),(∀ e S,Q e S->Q' e S)->g d env S Q->g d env S Q') (ht:zkh t) (hm:zdx m):zdx (mLc mi g t m vs):=fun env S Q Q' i q=>
 hmi _ _ _ _ (fun xs G S1 q p hp=>zlu hg ht hm i _ _ (q p hp)) q
theorem zdX {tt:TG} (hc:X.calm=true) (hN:X.N.Nodup) (hi:MI X B tg iter mi) (ok:BlkOk X.N X.env.scope scope own) (bt:BT X.K (own.map (·.2)) tt g)
  (hg:Blk X scope fun Y=>PG Y tg tt) (hm:Blk X scope fun Y=>MTs Y B ifs t) (he:Blk X scope fun Y=>ME Y B elt m) (hs:∀ x,foldedSetIterable iter X.env x=pure x:=by intro _;rfl) :
  ME X B (.ListComp elt [⟨tg,iter,ifs,0⟩] scope pos) (mLc mi g t m (own.map (·.2))):=by
 have m1:zkh t:=(hm X.s_0 (fun _=>none) 0 [] []).mono
 have m2:zdx m:=(he X.s_0 (fun _=>none) 0 [] []).mono
 exact ⟨zbF (pe_lc (wi:=fun σ H R=>Le B H∧∃ env S,zdy X.K H env σ∧Rp X.K X.prog X.w S H∧mi env S fun xs G S1=>∀ J H1,Le H H1->Rp X.K X.prog X.w S1 H1->WkD X.K X.prog X.w H1 J xs G->R J H1) hc hN hi.pi ok hg (fun s H C cl fp=>(hm s H C cl fp).pts) (fun s H C cl fp=>(he s H C cl fp).pe) hs)
  fun σ H Q q=>zt3 (fun _ _ _ z=>z) hi.mono bt.mt bt.td bt.mg m1 m2 q,zq7 hi.mono bt.mg m1 m2⟩
theorem zjx {tt:TG} {i:Nat} {y:Str} {py spos:Pos} (hc:X.calm=true) (hN:X.N.Nodup) (hi:MI X B tg iter mi) (ok:BlkOk X.N X.env.scope scope own) (bt:BT X.K (own.map (·.2)) tt g)
  (hg:Blk X scope fun Y=>PG Y tg tt) (hm:Blk X scope fun Y=>MTs Y B ifs t) (he:Blk X scope fun Y=>ME Y B elt m) (hy:X.N[i]? = some y:=by rfl) (hyl:X.env.scope.names.lookup y=some .local:=by rfl)
  (hsw:swapsWith (.ListComp elt [⟨tg,iter,ifs,0⟩] scope pos) (some (.Name y py)) spos.line X.env=pure true:=by rfl) (hs:∀ x,foldedSetIterable iter X.env x=pure x:=by intro _;rfl) :
  MS X B (.Assign [.Name y py] (.ListComp elt [⟨tg,iter,ifs,0⟩] scope pos) spos) (zaM (mLc mi g t m (own.map (·.2))) (gNm i)):=by
 have m1:zkh t:=(hm X.s_0 (fun _=>none) 0 [] []).mono
 have m2:zdx m:=(he X.s_0 (fun _=>none) 0 [] []).mono
 have m3:=zq7 (vs:=own.map (·.2)) hi.mono bt.mg m1 m2
 refine ⟨zd4 (ps_setLc (tt:=upT X.K X.prog X.w B t) (te:=up X.K X.prog X.w B m) (wi:=fun σ H R=>Le B H∧∃ env S,zdy X.K H env σ∧Rp X.K X.prog X.w S H∧mi env S fun xs G S1=>∀ J H1,Le H H1->Rp X.K X.prog X.w S1 H1->WkD X.K X.prog X.w H1 J xs G->R J H1) hc hN hy hyl hsw hi.pi ok hg (fun s H C cl fp=>(hm s H C cl fp).pts) (fun s H C cl fp=>(he s H C cl fp).pe) hs)
  fun D σ H q=>?_,fun A B env S l q=>m3 _ _ _ _ (fun d S1 q=>l.nx _ _ q) q⟩
 obtain ⟨lB,env,S,r0,z0,q⟩:=q
 refine zt3 (B:=B) (mi:=mi) (g:=g) (t:=t) (m:=m) (fun _ _ _ z=>z) hi.mono bt.mt bt.td bt.mg m1 m2 ⟨lB,env,S,r0,z0,m3 _ _ _ _ (fun d S1 q v H1 l z dv=>?_) q⟩
 exact q _ H1 l ((r0.le l).set dv i) z
end
def zz8 (K:PySem.W.Frag) (k0:Int) (a:Addr):It:=
 ⟨fun i H=>∃ (xs:List V) (x:V),SqT K H a xs∧xs[i]? = some x,fun i H v H'=>∃ T x,v = .ref T∧H T=none∧H'=upd H T (.tup [.int (k0+(i:Nat)),x])∧∀ xs,SqT K H a xs->xs[i]? = some x,fun i H=>∃ xs:List V,SqT K H a xs∧xs.length≤i⟩
theorem znu {P:Program} {w:World} {K:PySem.W.Frag} {elts:List Expr} {kk:Nat} {tpos:Pos} (k0:Int) (a e it:Addr) :
  Turn P w K (.Tuple elts kk tpos) (zz8 K k0 a) [e,it] e (fun i h=>(∃ old,IsEnum h e it (k0+(i:Nat)) old)∧h.IsTupleIter it a i∧e≠it) where
 mem:=by simp
 obj:=fun i h st b hb=>by
  obtain ⟨⟨old,he⟩,⟨o,ho,hc,hd⟩,_⟩:=st
  have e':b=e ∨ b=it:=by simpa using hb
  rcases e' with z | z
  ·rw [z];exact ⟨_,he,fun v q=>nomatch q⟩
  ·rw [z];exact ⟨o,ho,fun v q=>by rw [hd] at q;cases q⟩
 keep:=fun i h h' st k=>let ⟨⟨old,he⟩,hi,hne⟩:=st;⟨⟨old,k e (by simp) _ he⟩,hi.at fun o q=>k it (by simp) o q,hne⟩
 item:=by
  intro X hP hw hK hc i pins s σ H E I hf st hg
  subst hP hw hK
  obtain ⟨⟨old,he⟩,hit,hne⟩:=st
  obtain ⟨xs,x,hq,hx⟩:=hg
  obtain ⟨its,rv,p,hz⟩:=I.tuple hq
  obtain ⟨u,hu,ru⟩:=rv.get hx
  have hp:s.heap.IsTuple a its.toArray:=p
  have hel:e < s.heap.objs.size:=Heap.lt_size he
  have hil:it < s.heap.objs.size:=by obtain ⟨_,q,_⟩:=hit;exact Heap.lt_size q
  have ai:a≠it:=fun q=>by
   obtain ⟨o,ho,hcl,_⟩:=hit
   obtain ⟨o2,ho2,hc2,_⟩:=hp
   rw [q,ho] at ho2
   cases ho2
   rw [hcl] at hc2
   exact absurd hc2 (by decide)
  have ae:e≠a:=fun q=>by
   obtain ⟨o2,ho2,hc2,_⟩:=hp
   have he':=he
   rw [q] at he'
   have z:=Option.some.inj (he'.symm.trans ho2)
   rw [← z] at hc2
   exact absurd (show Value.type "enumerate" = Value.type "tuple" from hc2) (by decide)
  have hh:X.A.in1.handled=none:=I.ok.hd hc
  have hlt:i < its.toArray.size:=by
   have:=(List.getElem?_eq_some_iff.mp hu).1
   simpa using this
  have D:=Draws.tuple (prog:=X.prog) (w:=X.w) (A:=X.A.in1) hh it a ai its.toArray
  refine wpAny_pyNext_enum_itemC (c:=k0+(i:Nat)) D he ⟨hit,hp⟩ hlt hne (by simp [hne,ae]) fun x' h' tk hPx ho hst' hT hsz hk=>?_
  have ex:x'=u:=by
   have h1:its.toArray[i]? = some u:=by simpa using hu
   exact Option.some.inj (hPx.symm.trans h1)
  subst ex
  refine ⟨_,rfl,wpAny_letOwnedTupleGo_enum (s:={ s with heap:=h',toks:=tk+1 }) ho fun h'' he' sb=>?_⟩
  have hT2:h''.get? s.heap.objs.size=some { cls:=.type "tuple", data:=.seq #[.int (k0+(i:Nat)) tk,x'] }:=(sb.2 _ (Nat.ne_of_gt hel)).trans hT
  have new:ObjOk X.prog X.w (upd H s.heap.objs.size (.tup [.int (k0+(i:Nat)),x])) h'' s.heap.objs.size (.tup [.int (k0+(i:Nat)),x]):=
   ⟨by show 2≤sizeLine;decide,[.int (k0+(i:Nat)) tk,x'],.cons ⟨_,rfl⟩ (.cons ru .nil),⟨_,hT2,rfl,_,rfl⟩⟩
  have I1:Inv X pins σ (upd H s.heap.objs.size (.tup [.int (k0+(i:Nat)),x])) { s with heap:=h'',toks:=tk+1 }:=
   I.turnedNew (ch:=[e,it]) (fun b ob hb q=>(sb.2 b (fun z=>hb (by simp [z]))).trans (hk b ob (fun z=>hb (by simp [z])) (fun z=>hb (by simp [z])) q)) hf (Nat.le_refl _) new
  refine ⟨.ref s.heap.objs.size,_,I1,rfl,⟨_,x,rfl,I.hok.fresh (Nat.le_refl _),rfl,fun ys hy=>by rw [I.tuple_inj hy hq];exact hx⟩,⟨⟨x',?_⟩,hst'.1.at fun o q=>(sb.2 it (Ne.symm hne)).trans q,hne⟩,fun b hb=>?_⟩
  ·have e1:k0+((i+1:Nat):Int)=k0+(i:Nat)+1:=by omega
   rw [e1];exact he'
  ·have hb':b < s.heap.objs.size:=by
    have e':b=e ∨ b=it:=by simpa using hb
    rcases e' with z | z
    ·rw [z];exact hel
    ·rw [z];exact hil
   rw [upd_ne (Nat.ne_of_lt hb')]
   exact (hf b hb).1
 done:=by
  intro X hP hw hK hc i pins s σ H E I hf st hg
  subst hP hw hK
  obtain ⟨⟨old,he⟩,hit,hne⟩:=st
  obtain ⟨xs,hq,hx⟩:=hg
  obtain ⟨its,rv,p,hz⟩:=I.tuple hq
  obtain ⟨f0,f1,f2,f3,f4,f5⟩:=hf it (by simp)
  have hp:s.heap.IsTuple a its.toArray:=p
  have hl:=rv.length
  have hh:X.A.in1.handled=none:=I.ok.hd hc
  have hT:s.TypeIs (.ref e) "enumerate" := ⟨_,he,rfl⟩
  unfold pyNext
  refine wpAny_bind (wpAny_attempt (wpAny_callSpecial?_slot (name:=Str.ofString "__next__") hT F.slot_enumerate_next
   (wpAny_call_entry F.slot_enumerate_next hT F.entry_enumerate_next ?_ (F.args_enumerate_next_1 _))))
  show wpAny _ _ (field (.ref e) 2 >>= _) _ _ _
  refine wpAny_bind (wpAny_field he rfl (x:=.ref it) rfl ?_)
  refine wpAny_bind (wpAny_nextOf_tuple_end (A:=X.A.in1) hh hit hp (by simp;omega) fun h' x eb hx'=>?_)
  obtain ⟨o,ho,hc⟩:=hx'
  refine wpAny_bind (wpAny_isInstance (T := "StopIteration") (b:=true) ⟨o,ho,hc⟩ isSubtype_stop ?_)
  exact wpAny_pure ⟨rfl,I.turned (t':=s.toks) (fun b o hb q=>eb b o hb q) f0 f1 f3 f4 f5⟩
 self:=fun A i s Q E st h=>let ⟨⟨_,he⟩,_⟩:=st;wpAny_pyIter_enum he h
def zxQ (K:PySem.W.Frag) (k0:Int) (a:Addr):It:=
 ⟨fun i H=>∃ (xs:List V) (x:V),SqL K H a xs∧xs[i]? = some x,fun i H v H'=>∃ T x,v = .ref T∧H T=none∧H'=upd H T (.tup [.int (k0+(i:Nat)),x])∧∀ xs,SqL K H a xs->xs[i]? = some x,fun i H=>∃ xs:List V,SqL K H a xs∧xs.length≤i⟩
theorem znv {P:Program} {w:World} {K:PySem.W.Frag} {elts:List Expr} {kk:Nat} {tpos:Pos} (k0:Int) (a e it:Addr) :
  Turn P w K (.Tuple elts kk tpos) (zxQ K k0 a) [e,it] e (fun i h=>(∃ old,IsEnum h e it (k0+(i:Nat)) old)∧h.IsListIter it a i∧e≠it) where
 mem:=by simp
 obj:=fun i h st b hb=>by
  obtain ⟨⟨old,he⟩,⟨o,ho,hc,hd⟩,_⟩:=st
  have e':b=e ∨ b=it:=by simpa using hb
  rcases e' with z | z
  ·rw [z];exact ⟨_,he,fun v q=>nomatch q⟩
  ·rw [z];exact ⟨o,ho,fun v q=>by rw [hd] at q;cases q⟩
 keep:=fun i h h' st k=>let ⟨⟨old,he⟩,hi,hne⟩:=st;⟨⟨old,k e (by simp) _ he⟩,hi.at fun o q=>k it (by simp) o q,hne⟩
 item:=by
  intro X hP hw hK hc i pins s σ H E I hf st hg
  subst hP hw hK
  obtain ⟨⟨old,he⟩,hit,hne⟩:=st
  obtain ⟨xs,x,hq,hx⟩:=hg
  obtain ⟨its,rv,p,hz⟩:=I.list hq
  obtain ⟨u,hu,ru⟩:=rv.get hx
  have hp:s.heap.IsList a its.toArray:=p.isList
  have hel:e < s.heap.objs.size:=Heap.lt_size he
  have hil:it < s.heap.objs.size:=by obtain ⟨_,q,_⟩:=hit;exact Heap.lt_size q
  have ai:a≠it:=fun q=>by
   obtain ⟨o,ho,hcl,_⟩:=hit
   obtain ⟨o2,ho2,hc2,_⟩:=hp
   rw [q,ho] at ho2
   cases ho2
   rw [hcl] at hc2
   exact absurd hc2 (by decide)
  have ae:e≠a:=fun q=>by
   obtain ⟨o2,ho2,hc2,_⟩:=hp
   have he':=he
   rw [q] at he'
   have z:=Option.some.inj (he'.symm.trans ho2)
   rw [← z] at hc2
   exact absurd (show Value.type "enumerate" = Value.type "list" from hc2) (by decide)
  have hh:X.A.in1.handled=none:=I.ok.hd hc
  have hlt:i < its.toArray.size:=by
   have:=(List.getElem?_eq_some_iff.mp hu).1
   simpa using this
  have D:=Draws.list (prog:=X.prog) (w:=X.w) (A:=X.A.in1) hh it a ai its.toArray
  refine wpAny_pyNext_enum_itemC (c:=k0+(i:Nat)) D he ⟨hit,hp⟩ hlt hne (by simp [hne,ae]) fun x' h' tk hPx ho hst' hT hsz hk=>?_
  have ex:x'=u:=by
   have h1:its.toArray[i]? = some u:=by simpa using hu
   exact Option.some.inj (hPx.symm.trans h1)
  subst ex
  refine ⟨_,rfl,wpAny_letOwnedTupleGo_enum (s:={ s with heap:=h',toks:=tk+1 }) ho fun h'' he' sb=>?_⟩
  have hT2:h''.get? s.heap.objs.size=some { cls:=.type "tuple", data:=.seq #[.int (k0+(i:Nat)) tk,x'] }:=(sb.2 _ (Nat.ne_of_gt hel)).trans hT
  have new:ObjOk X.prog X.w (upd H s.heap.objs.size (.tup [.int (k0+(i:Nat)),x])) h'' s.heap.objs.size (.tup [.int (k0+(i:Nat)),x]):=
   ⟨by show 2≤sizeLine;decide,[.int (k0+(i:Nat)) tk,x'],.cons ⟨_,rfl⟩ (.cons ru .nil),⟨_,hT2,rfl,_,rfl⟩⟩
  have I1:Inv X pins σ (upd H s.heap.objs.size (.tup [.int (k0+(i:Nat)),x])) { s with heap:=h'',toks:=tk+1 }:=
   I.turnedNew (ch:=[e,it]) (fun b ob hb q=>(sb.2 b (fun z=>hb (by simp [z]))).trans (hk b ob (fun z=>hb (by simp [z])) (fun z=>hb (by simp [z])) q)) hf (Nat.le_refl _) new
  refine ⟨.ref s.heap.objs.size,_,I1,rfl,⟨_,x,rfl,I.hok.fresh (Nat.le_refl _),rfl,fun ys hy=>by rw [I.list_inj hy hq];exact hx⟩,⟨⟨x',?_⟩,hst'.1.at fun o q=>(sb.2 it (Ne.symm hne)).trans q,hne⟩,fun b hb=>?_⟩
  ·have e1:k0+((i+1:Nat):Int)=k0+(i:Nat)+1:=by omega
   rw [e1];exact he'
  ·have hb':b < s.heap.objs.size:=by
    have e':b=e ∨ b=it:=by simpa using hb
    rcases e' with z | z
    ·rw [z];exact hel
    ·rw [z];exact hil
   rw [upd_ne (Nat.ne_of_lt hb')]
   exact (hf b hb).1
 done:=by
  intro X hP hw hK hc i pins s σ H E I hf st hg
  subst hP hw hK
  obtain ⟨⟨old,he⟩,hit,hne⟩:=st
  obtain ⟨xs,hq,hx⟩:=hg
  obtain ⟨its,rv,p,hz⟩:=I.list hq
  obtain ⟨f0,f1,f2,f3,f4,f5⟩:=hf it (by simp)
  have hp:s.heap.IsList a its.toArray:=p.isList
  have hl:=rv.length
  have hh:X.A.in1.handled=none:=I.ok.hd hc
  have hT:s.TypeIs (.ref e) "enumerate" := ⟨_,he,rfl⟩
  unfold pyNext
  refine wpAny_bind (wpAny_attempt (wpAny_callSpecial?_slot (name:=Str.ofString "__next__") hT F.slot_enumerate_next
   (wpAny_call_entry F.slot_enumerate_next hT F.entry_enumerate_next ?_ (F.args_enumerate_next_1 _))))
  show wpAny _ _ (field (.ref e) 2 >>= _) _ _ _
  refine wpAny_bind (wpAny_field he rfl (x:=.ref it) rfl ?_)
  refine wpAny_bind (wpAny_nextOf_list_end (A:=X.A.in1) hh hit hp (by simp;omega) fun h' x eb hx'=>?_)
  obtain ⟨o,ho,hc⟩:=hx'
  refine wpAny_bind (wpAny_isInstance (T := "StopIteration") (b:=true) ⟨o,ho,hc⟩ isSubtype_stop ?_)
  exact wpAny_pure ⟨rfl,I.turned (t':=s.toks) (fun b o hb q=>eb b o hb q) f0 f1 f3 f4 f5⟩
 self:=fun A i s Q E st h=>let ⟨⟨_,he⟩,_⟩:=st;wpAny_pyIter_enum he h
theorem zmw {v:Value} {o:Obj} {H:Heap->Prop} (B:Begins v o H) :
  Meets (Builtin.«enumerate.__new__» ⟨[.type "enumerate", v],[]⟩) (fun _ R s=>H s.heap∧
   R (.ok (.ret (.ref (s.heap.push o).objs.size))) { s with heap:=(s.heap.push o).push { cls:=.type "enumerate", data:=.fields #[.none,.bool false,.ref s.heap.objs.size,rawInt 0,.none,.none] } }):=
 .of_wp fun prog w A R s h=>by
  obtain ⟨hp,g,d,tk,os⟩:=s;obtain ⟨h1,h⟩:=h
  have hsub:=sub_enumerate
  have q1:∀ {A':Around} {E:Value->Shared->Prop} {Q:Value->Shared->Prop},Q (.ref hp.objs.size) ⟨hp.push o,g,d,tk,os⟩->wpAny (model prog w) A' (pyIter v) Q E ⟨hp,g,d,tk,os⟩:=
   fun q=>B.iter prog w _ _ ⟨hp,g,d,tk,os⟩ _ h1 q
  wp_walk using q1
  refine wpAny_stack_any fun st=>wpAny_pure ?_
  split
  ·rename_i c _ _ _ _ _
   cases (c == Value.type "enumerate")
   ·wp_walk using q1
    exact ⟨_,rfl,h⟩
   ·wp_walk using q1
    exact ⟨_,rfl,h⟩
  ·wp_walk using q1
   exact ⟨_,rfl,h⟩
theorem zi1 {prog:Program} {w:World} {A:Around} {E:Value->Shared->Prop} {s:Shared} {v:Value} {o:Obj} {H:Heap->Prop} {Q:Value->Shared->Prop} (B:Begins v o H) (h1:H s.heap)
  (h:∀ h',IsEnum h' (s.heap.objs.size+1) s.heap.objs.size 0 .none->h'.get? s.heap.objs.size=some o->h'.objs.size=s.heap.objs.size+2 ->
   (∀ b o,s.heap.get? b=some o->h'.get? b=some o)->Q (.ref (s.heap.objs.size+1)) { s with heap:=h' }) :
  wpAny (model prog w) A (call (.type "enumerate") [v]) Q E s:=by
 refine callType_new F.called_enumerate (by decide) (F.typeCall_enumerate_1 _) (F.newCall_enumerate_1 _) (fun obj=>F.args_object_init_2 obj _) F.entry_enumerate_new
  (zmw B) ⟨h1,?_⟩
 have hz:(s.heap.push o).objs.size=s.heap.objs.size+1:=Heap.size_push ..
 show _∧_
 rw [hz]
 have he:IsEnum ((s.heap.push o).push { cls:=.type "enumerate", data:=.fields #[.none,.bool false,.ref s.heap.objs.size,rawInt 0,.none,.none] }) (s.heap.objs.size+1) s.heap.objs.size 0 .none:=by
  have:=Heap.get?_push_size (s.heap.push o) (o:={ cls:=.type "enumerate", data:=.fields #[.none,.bool false,.ref s.heap.objs.size,rawInt 0,.none,.none] }) rfl
  rw [hz] at this;exact this
 refine ⟨⟨_,he,rfl⟩,h _ he (Heap.get?_push_of_some _ (Heap.get?_push_size _ B.free)) (by rw [Heap.size_push,hz]) fun b o x=>Heap.get?_push_of_some _ (Heap.get?_push_of_some _ x)⟩
def zwK (K:PySem.W.Frag) (ta:TA):TI:=fun σ H R=>ta σ H fun vs H1=>∃ a,vs=[.ref a]∧((∃ xs,SqL K H1 a xs∧R (zxQ K 0 a) H1) ∨ ∃ xs,SqT K H1 a xs∧R (zz8 K 0 a) H1)
theorem zp0 {X:Cx} {e:Expr} {ta:TA} {p pos tpos:Pos} {elts:List Expr} {kk:Nat} (hg:Gl X "enumerate") (hm:X.mg "enumerate" = none) (ha:PA X [e] ta) (hs:starEach [e] X.env=[(false,eval e X.env)]:=by rfl) :
  PI X (.Tuple elts kk tpos) (.Call (.Name "enumerate" p) [e] [] pos) (zwK X.K ta):=by
 refine ⟨fun pins s σ H R I h=>?_⟩
 refine Call_ (ld_blt I hg hm boot_enumerate (PyProof.Rows.callWith_type1 (thn (ha.run pos pins s σ H _ I h) fun us s1 ⟨vs,H1,I1,r1,q1⟩=>?_) hs rfl))
 obtain ⟨a,ex,q⟩:=q1
 subst ex
 cases r1 with
 | cons r rr=>
  cases rr
  cases r
  have fpo:∀ b∈[s1.heap.objs.size+1,s1.heap.objs.size],FpOk X pins H1 b:=fun b hb=>by
   have e':b=s1.heap.objs.size+1 ∨ b=s1.heap.objs.size:=by simpa using hb
   have hle:s1.heap.objs.size≤b:=by
    rcases e' with z | z
    ·rw [z];exact Nat.le_add_right _ _
    ·rw [z];exact Nat.le_refl _
   exact I1.fpOk hle (I1.hok.fresh hle)
  rcases q with ⟨xs,hq,q⟩ | ⟨xs,hq,q⟩
  ·obtain ⟨its,rv,p',hz⟩:=I1.list hq
   refine zi1 (begins_list a its.toArray) p'.isList fun h' he hit hsz hk=>wpAny_pyIter_enum he ?_
   have I2:Inv X pins σ H1 { s1 with heap:=h' }:=I1.kept (t':=s1.toks) hk
   exact ⟨s1.heap.objs.size+1,[s1.heap.objs.size+1,s1.heap.objs.size],_,_,H1,rfl,I2,znv 0 a (s1.heap.objs.size+1) s1.heap.objs.size,⟨⟨.none,he⟩,⟨_,hit,rfl,rfl⟩,Nat.succ_ne_self _⟩,fpo,q⟩
  ·obtain ⟨its,rv,p',hz⟩:=I1.tuple hq
   refine zi1 (begins_tuple a its.toArray) (show s1.heap.IsTuple a its.toArray from p') fun h' he hit hsz hk=>wpAny_pyIter_enum he ?_
   have I2:Inv X pins σ H1 { s1 with heap:=h' }:=I1.kept (t':=s1.toks) hk
   exact ⟨s1.heap.objs.size+1,[s1.heap.objs.size+1,s1.heap.objs.size],_,_,H1,rfl,I2,znu 0 a (s1.heap.objs.size+1) s1.heap.objs.size,⟨⟨.none,he⟩,⟨_,hit,rfl,rfl⟩,Nat.succ_ne_self _⟩,fpo,q⟩
def zkD (k0:Int):List D->List D
 | []=>[]
 | x :: xs=>.tup [.int k0,x] :: zkD (k0+1) xs
theorem zbP:∀ (k0:Int) (xs:List D),(zkD k0 xs).length=xs.length
 | _,[]=>rfl
 | k0,x :: xs=>by simp [zkD,zbP]
theorem zhW:∀ (k0:Int) (xs:List D) (i:Nat),(zkD k0 xs)[i]? = (xs[i]?).map fun x=>.tup [.int (k0+i),x]
 | _,[],i=>by simp [zkD]
 | k0,x :: xs,0=>by simp [zkD]
 | k0,x :: xs,i+1=>by
  simp only [zkD,List.getElem?_cons_succ,zhW (k0+1) xs i]
  congr 1
  funext y
  have:k0+1+(i:Int)=k0+((i+1:Nat):Int):=by omega
  rw [this]
section
variable {K:PySem.W.Frag} {P:Program} {w:World} {H1:Hp} {a:Addr} {vs:List V} {ds:List D} {k0:Int}
theorem zjv {S:Sto} {H:Hp} {T:Addr} {x y:V} {d e:D} (r:Rp K P w S H) (hT:H T=none) (h1:DV K H d x) (h2:DV K H e y):Le H (upd H T (.tup [x,y]))∧Rp K P w S (upd H T (.tup [x,y]))∧DV K (upd H T (.tup [x,y])) (.tup [d,e]) (.ref T):=
 ⟨Le.new hT,r.more hT,.tup (.inl (.inl upd_same)) (.cons (h1.le (Le.new hT)) (.cons (h2.le (Le.new hT)) .nil)) upd_same⟩
theorem zps (s:SqT K H1 a vs) (z:DVs K H1 ds vs):WkD K P w H1 (zz8 K k0 a) (zkD k0 ds) fun _=>True where
 go:=fun i S H hi l _ _=>by
  rw [zbP,z.length] at hi
  exact ⟨vs,vs[i],zfA l s,List.getElem?_eq_getElem hi⟩
 stop:=fun S H l _ _=>by
  rw [zbP,z.length]
  exact ⟨vs,zfA l s,Nat.le_refl _⟩
 yld:=fun i S H x H' hi l r _ y=>by
  obtain ⟨T,x',rfl,hT,rfl,hx⟩:=y
  rw [zbP] at hi
  obtain ⟨v,e3,dv⟩:=(z.le l).get (List.getElem?_eq_getElem hi)
  have hx':=hx vs (zfA l s)
  rw [e3] at hx'
  cases hx'
  obtain ⟨p1,p2,p3⟩:=zjv r hT (.int (k0+(i:Nat))) dv
  exact ⟨p1,p2,_,by rw [zhW,List.getElem?_eq_getElem hi];rfl,p3⟩
theorem zpt (s:RoL K H1 a vs) (z:DVs K H1 ds vs):WkD K P w H1 (zxQ K k0 a) (zkD k0 ds) fun _=>True where
 go:=fun i S H hi l _ _=>by
  rw [zbP,z.length] at hi
  exact ⟨vs,vs[i],(s.le l).sq,List.getElem?_eq_getElem hi⟩
 stop:=fun S H l _ _=>by
  rw [zbP,z.length]
  exact ⟨vs,(s.le l).sq,Nat.le_refl _⟩
 yld:=fun i S H x H' hi l r _ y=>by
  obtain ⟨T,x',rfl,hT,rfl,hx⟩:=y
  rw [zbP] at hi
  obtain ⟨v,e3,dv⟩:=(z.le l).get (List.getElem?_eq_getElem hi)
  have hx':=hx vs (s.le l).sq
  rw [e3] at hx'
  cases hx'
  obtain ⟨p1,p2,p3⟩:=zjv r hT (.int (k0+(i:Nat))) dv
  exact ⟨p1,p2,_,by rw [zhW,List.getElem?_eq_getElem hi];rfl,p3⟩
theorem zpu:WkD K P w H1 (zxQ K k0 a) (zkD k0 ds) fun S=>S a=some (.lst ds) where
 go:=fun i S H hi l r g=>by
  obtain ⟨vs,q,z⟩:=r _ _ g
  rw [zbP,z.length] at hi
  exact ⟨vs,vs[i],SqL.of q,List.getElem?_eq_getElem hi⟩
 stop:=fun S H l r g=>by
  obtain ⟨vs,q,z⟩:=r _ _ g
  rw [zbP,z.length]
  exact ⟨vs,SqL.of q,Nat.le_refl _⟩
 yld:=fun i S H x H' hi l r g y=>by
  obtain ⟨vs,q,z⟩:=r _ _ g
  obtain ⟨T,x',rfl,hT,rfl,hx⟩:=y
  rw [zbP] at hi
  obtain ⟨v,e3,dv⟩:=z.get (List.getElem?_eq_getElem hi)
  have hx':=hx vs (SqL.of q)
  rw [e3] at hx'
  cases hx'
  obtain ⟨p1,p2,p3⟩:=zjv r hT (.int (k0+(i:Nat))) dv
  exact ⟨p1,p2,_,by rw [zhW,List.getElem?_eq_getElem hi];rfl,p3⟩
theorem zrz {b:Addr} {us:List V} {es:List D} (s:SqT K H1 a vs) (z:DVs K H1 ds vs) (s':SqT K H1 b us) (z':DVs K H1 es us):WkD K P w H1 (RZ.ItzT K a b) (List.zipWith (fun x y=>.tup [x,y]) ds es) fun _=>True where
 go:=fun i S H hi l _ _=>by
  rw [List.length_zipWith,z.length,z'.length] at hi
  exact ⟨vs,us,vs[i]'(by omega),us[i]'(by omega),zfA l s,zfA l s',List.getElem?_eq_getElem (by omega),List.getElem?_eq_getElem (by omega)⟩
 stop:=fun S H l _ _=>by
  rw [List.length_zipWith,z.length,z'.length]
  exact ⟨vs,us,zfA l s,zfA l s',by omega⟩
 yld:=fun i S H x H' hi l r _ y=>by
  obtain ⟨T,x',y',rfl,hT,rfl,hx,hy⟩:=y
  rw [List.length_zipWith] at hi
  obtain ⟨v,e3,dv⟩:=(z.le l).get (List.getElem?_eq_getElem (show i < ds.length by omega))
  obtain ⟨v',e3',dv'⟩:=(z'.le l).get (List.getElem?_eq_getElem (show i < es.length by omega))
  have hx':=hx vs (zfA l s)
  have hy':=hy us (zfA l s')
  rw [e3] at hx'
  rw [e3'] at hy'
  cases hx'
  cases hy'
  obtain ⟨p1,p2,p3⟩:=zjv r hT dv dv'
  refine ⟨p1,p2,_,?_,p3⟩
  rw [List.getElem?_zipWith,List.getElem?_eq_getElem (show i < ds.length by omega),List.getElem?_eq_getElem (show i < es.length by omega)]
end
section
variable {X:Cx} {B:Hp} {p pos tpos:Pos} {elts:List Expr} {kk:Nat}
def zhk (m:AM):IM:=fun env S R=>m env S fun ds S1=>match ds with
 | [.tp _ xs]=>R (zkD 0 xs) (fun _=>True) S1
 | [.rol xs]=>R (zkD 0 xs) (fun _=>True) S1
 | [.ref a]=>match S1 a with
  | some (.lst xs)=>R (zkD 0 xs) (fun S=>S a=some (.lst xs)) S1
  | _=>False
 | _=>False
theorem zhA {e:Expr} {m:AM} (ha:MA X B [e] m) (hm:X.mg "enumerate" = none) (hg:Gl X "enumerate" := by rfl) (hs:starEach [e] X.env=[(false,eval e X.env)]:=by rfl):MI X B (.Tuple elts kk tpos) (.Call (.Name "enumerate" p) [e] [] pos) (zhk m):=by
 refine ⟨zkz (zp0 hg hm ha.pa hs) fun σ H R q=>?_,fun env S Q Q' i q=>ha.mono env S _ _ (fun d S1 q=>?_) q⟩
 ·obtain ⟨lB,env,S,r0,z0,q⟩:=q
  refine ⟨lB,env,S,r0,z0,ha.mono env S _ _ (fun ds S1 q vs H1 l1 z1 d1=>?_) q⟩
  split at q
  ·obtain ⟨v,rfl,dv⟩:=zl9 d1
   cases dv with
   | tup s z=>exact ⟨_,rfl,.inr ⟨_,s,q _ H1 l1 z1 (zps s z)⟩⟩
  ·obtain ⟨v,rfl,dv⟩:=zl9 d1
   cases dv with
   | rol s z=>exact ⟨_,rfl,.inl ⟨_,s.sq,q _ H1 l1 z1 (zpt s z)⟩⟩
  ·obtain ⟨v,rfl,dv⟩:=zl9 d1
   cases dv
   split at q
   ·rename_i xs e0
    obtain ⟨vs,q1,z⟩:=z1 _ _ e0
    exact ⟨_,rfl,.inl ⟨_,SqL.of q1,q _ H1 l1 z1 zpu⟩⟩
   ·exact q.elim
  ·exact q.elim
 ·split at q
  ·exact i _ _ _ q
  ·exact i _ _ _ q
  ·split at q
   ·exact i _ _ _ q
   ·exact q.elim
  ·exact q.elim
def zqr (m:AM):IM:=fun env S R=>m env S fun ds S1=>match ds with
 | [.tp _ xs,.tp _ ys]=>R (List.zipWith (fun x y=>.tup [x,y]) xs ys) (fun _=>True) S1
 | _=>False
theorem zv5 {e e2:Expr} {m:AM} (ha:MA X B [e,e2] m) (hm:X.mg "zip" = none) (hg:Gl X "zip" := by rfl) (hs:starEach [e,e2] X.env=(false,eval e X.env) :: starEach [e2] X.env:=by rfl) (hpl:(backTo pos (starEach [e2] X.env)).any (·.1)=false:=by rfl) :
  MI X B (.Tuple elts kk tpos) (.Call (.Name "zip" p) [e,e2] [] pos) (zqr m):=by
 refine ⟨zkz (RZ.pi_zipA hg hm ha.pa hs hpl) fun σ H R q=>?_,fun env S Q Q' i q=>ha.mono env S _ _ (fun d S1 q=>?_) q⟩
 ·obtain ⟨lB,env,S,r0,z0,q⟩:=q
  refine ⟨lB,env,S,r0,z0,ha.mono env S _ _ (fun ds S1 q vs H1 l1 z1 d1=>?_) q⟩
  split at q
  ·obtain ⟨v,u,rfl,dv,du⟩:=zxO d1
   cases dv with
   | tup s z=>
    cases du with
    | tup s' z'=>exact ⟨_,_,_,_,rfl,.inr ⟨s,s',q _ H1 l1 z1 (zrz s z s' z')⟩⟩
  ·exact q.elim
 ·split at q
  ·exact i _ _ _ q
  ·exact q.elim
end
abbrev MM:=D->List D->Sto->DQ->Prop
structure zw5 (X:Cx) (id:String) (r:MM):Prop where
 mt:MtR X id fun x xs H Q=>∃ d ds S,DV X.K H d x∧DVs X.K H ds xs∧Rp X.K X.prog X.w S H∧r d ds S (dnE X.K X.prog X.w H Q)
 mono:∀ d ds S (Q Q':DQ),(∀ d S,Q d S->Q' d S)->r d ds S Q->r d ds S Q'
section
variable {X:Cx} {B:Hp}
theorem zzg {id:String} {r:MM} (R:V->List V->Hp->VK->Prop) (h:MtR X id R) (hR:∀ x xs H Q d ds S,DV X.K H d x->DVs X.K H ds xs->Rp X.K X.prog X.w S H->r d ds S (dnE X.K X.prog X.w H Q)->R x xs H Q)
  (mono:∀ d ds S (Q Q':DQ),(∀ d S,Q d S->Q' d S)->r d ds S Q->r d ds S Q'):zw5 X id r:=⟨fun pins s σ H x xs v us Q I rx rxs q=>by
 obtain ⟨d,ds,S,h1,h2,h3,h4⟩:=q
 exact h pins s σ H x xs v us Q I rx rxs (hR x xs H Q d ds S h1 h2 h3 h4),mono⟩
def ziB (ok:D->Sto->Prop) (r:MM) (mo:EM) (ma:AM):EM:=fun env S Q=>mo env S fun d S1=>ok d S1∧ma env S1 fun ds S2=>r d ds S2 Q
variable {o e:Expr} {es:List Expr} {name:Str} {apos cpos pos:Pos} {T id:String} {r:MM} {mo:EM} {ma:AM} {ok:D->Sto->Prop} {ty:V->Hp->Prop}
theorem zoH (ht:TyOk X T ty) (hty:∀ d x S H,DV X.K H d x->Rp X.K X.prog X.w S H->ok d S->ty x H) (pa:PlainAttrs T) (slot:Slot T name id) (htd:typeOf (.builtin id)=pure (.type "method_descriptor")) (hm:zw5 X id r) (ho:ME X B o mo) (ha:MA X B (e :: es) ma)
  (hbase:attributeBase o name X.env (eval o X.env)=eval o X.env:=by rfl)
  (hfew:((backTo cpos (starEach (e :: es) X.env)).all (fun x=>!x.1) && (backToKw cpos (keywordEach [] X.env)).all (fun x=>x.1.isSome)
   && decide ((e :: es).length+([]:List Keyword).length+(if ([]:List Keyword).isEmpty then 0 else 1) < 30))=true:=by rfl)
  (hline:(apos.endLine == cpos.line)=true:=by rfl) (hs:starEach (e :: es) X.env=(false,eval e X.env) :: starEach es X.env:=by rfl) (hplain:(backTo cpos (starEach es X.env)).any (·.1)=false:=by rfl) :
  ME X B (.Call (.Attribute o name apos) (e :: es) [] cpos) (ziB ok r mo ma):=by
 refine ⟨zbF (pe_mG ht pa slot htd hm.mt ho.pe ha.pa hbase hfew hline hs hplain) fun σ H Q q=>?_,fun env S Q Q' i q=>ho.mono env S _ _ (fun d S1 q=>⟨q.1,ha.mono env S1 _ _ (fun ds S2 q=>hm.mono _ _ _ _ _ i q) q.2⟩) q⟩
 obtain ⟨lB,env,S,r0,z0,q⟩:=q
 refine ⟨lB,env,S,r0,z0,ho.mono env S _ _ (fun d S1 q v H1 l1 z1 d1=>?_) q⟩
 refine ⟨hty _ _ _ _ d1 z1 q.1,lB.trans l1,env,S1,r0.le l1,z1,ha.mono env S1 _ _ (fun ds S2 q vs H2 l2 z2 d2=>?_) q.2⟩
 exact ⟨d,ds,S2,d1.le l2,d2,z2,hm.mono _ _ _ _ _ (ze6 (l1.trans l2)) q⟩
def okL (d:D) (S:Sto):Prop:=match d with
 | .ref a=>match S a with
  | some (.lst _)=>True
  | _=>False
 | _=>False
theorem zxW {T:String}:TyOk X T (tyV X.K T):=fun pins σ H s x v I r ty=>tyV_is I r ty
theorem zn6:∀ d x S H,DV X.K H d x->Rp X.K X.prog X.w S H->okL d S->tyV X.K "list" x H:=fun d x S H h r q=>by
 unfold okL at q
 split at q
 ·cases h
  split at q
  ·rename_i a e0
   obtain ⟨vs,e,_⟩:=r _ _ e0
   exact .inl ⟨rfl,vs,SqL.of e⟩
  ·exact q.elim
 ·exact q.elim
theorem zn1 {K:PySem.W.Frag} {P:Program} {w:World} {S:Sto} {H:Hp} {Q:VK} {a:Addr} {us ws:List V} {ds:List D} {d:D} {v:V} (r:Rp K P w S H) (e:H a=some (.lst us)) (z:DVs K H ds ws) (dv:DV K H d v) (q:dnE K P w H Q d (put S a (.lst ds))):Q v (upd H a (.lst ws)):=by
 have hmut:Mut (H a):=by rw [e];exact trivial
 have l:=Le.mut (o:=.lst ws) hmut
 exact q v _ l (r.wr (o:=.lst ds) hmut ⟨ws,upd_same,z.le l⟩) (dv.le l)
def zjL:MM:=fun d ds S Q=>match d,ds with
 | .ref a,[y]=>match S a with
  | some (.lst xs)=>xs.length < sizeLine∧Q .non (put S a (.lst (xs++[y])))
  | _=>False
 | _,_=>False
theorem zoM:zw5 X "list.append" zjL:=by
 refine zzg _ mt_append (fun x xs H Q d ds S h1 h2 r q=>?_) (fun d ds S Q Q' i q=>?_)
 ·unfold zjL at q
  split at q
  ·rename_i a y
   obtain ⟨v,rfl,dv⟩:=zl9 h2
   cases h1
   split at q
   ·rename_i ys e0
    obtain ⟨us,e,z⟩:=r _ _ e0
    exact ⟨_,us,v,rfl,rfl,e,by rw [← z.length];exact q.1,zn1 r e (z.append (.cons dv .nil)) .non q.2⟩
   ·exact q.elim
  ·exact q.elim
 ·unfold zjL at q ⊢
  split at q
  ·split at q
   ·exact ⟨q.1,i _ _ q.2⟩
   ·exact q.elim
  ·exact q.elim
def zpW:MM:=fun d ds S Q=>match d,ds with
 | .ref a,[.ref b]=>match S a,S b with
  | some (.lst xs),some (.lst ys)=>xs.length+ys.length≤sizeLine∧Q .non (put S a (.lst (xs++ys)))
  | _,_=>False
 | _,_=>False
theorem zoL:zw5 X "list.extend" zpW:=by
 refine zzg _ mt_extend (fun x xs H Q d ds S h1 h2 r q=>?_) (fun d ds S Q Q' i q=>?_)
 ·unfold zpW at q
  split at q
  ·rename_i a b
   obtain ⟨v,rfl,dv⟩:=zl9 h2
   cases h1
   cases dv
   split at q
   ·rename_i ys zs e0 e1
    obtain ⟨us,e,z⟩:=r _ _ e0
    obtain ⟨us',e',z'⟩:=r _ _ e1
    exact ⟨_,_,us,us',rfl,rfl,e,e',by rw [← z.length,← z'.length];exact q.1,zn1 r e (z.append z') .non q.2⟩
   ·exact q.elim
  ·exact q.elim
 ·unfold zpW at q ⊢
  split at q
  ·split at q
   ·exact ⟨q.1,i _ _ q.2⟩
   ·exact q.elim
  ·exact q.elim
def zDV:MM:=fun d ds S Q=>match d,ds with
 | .ref a,[]=>match S a with
  | some (.lst xs)=>Q .non (put S a (.lst xs.reverse))
  | _=>False
 | _,_=>False
theorem zbc (ho:ME X B o mo) (ha:MA X B [e] ma) (hbase:attributeBase o "append" X.env (eval o X.env)=eval o X.env:=by rfl)
  (hfew:((backTo cpos (starEach [e] X.env)).all (fun x=>!x.1) && (backToKw cpos (keywordEach [] X.env)).all (fun x=>x.1.isSome)
   && decide ([e].length+([]:List Keyword).length+(if ([]:List Keyword).isEmpty then 0 else 1) < 30))=true:=by rfl)
  (hline:(apos.endLine == cpos.line)=true:=by rfl) (hs:starEach [e] X.env=(false,eval e X.env) :: starEach [] X.env:=by rfl) (hplain:(backTo cpos (starEach [] X.env)).any (·.1)=false:=by rfl) :
  ME X B (.Call (.Attribute o "append" apos) [e] [] cpos) (ziB okL zjL mo ma):=zoH zxW zn6 F.plainAttrs_list F.slot_list_append F.type_list_append zoM ho ha hbase hfew hline hs hplain
theorem zjU (ho:ME X B o mo) (ha:MA X B [e] ma) (hbase:attributeBase o "extend" X.env (eval o X.env)=eval o X.env:=by rfl)
  (hfew:((backTo cpos (starEach [e] X.env)).all (fun x=>!x.1) && (backToKw cpos (keywordEach [] X.env)).all (fun x=>x.1.isSome)
   && decide ([e].length+([]:List Keyword).length+(if ([]:List Keyword).isEmpty then 0 else 1) < 30))=true:=by rfl)
  (hline:(apos.endLine == cpos.line)=true:=by rfl) (hs:starEach [e] X.env=(false,eval e X.env) :: starEach [] X.env:=by rfl) (hplain:(backTo cpos (starEach [] X.env)).any (·.1)=false:=by rfl) :
  ME X B (.Call (.Attribute o "extend" apos) [e] [] cpos) (ziB okL zpW mo ma):=zoH zxW zn6 F.plainAttrs_list F.slot_list_extend F.type_list_extend zoL ho ha hbase hfew hline hs hplain
def zrB:CM:=fun ds S Q=>match ds with
 | []=>∀ p,S p=none->Q (.ref p) (put S p (.set (fun _=>false) 0))
 | _=>False
theorem ztw:zhe X (.type "set") zrB:=by
 refine zjr _ cr_set0K (fun xs H Q ds S h r q=>?_) (fun ds S Q Q' i q=>?_)
 ·cases h with
  | nil=>exact ⟨rfl,fun p hp=>q p (r.free hp) _ _ (Le.new hp) (r.new hp upd_same) (.ref p)⟩
  | cons=>exact q.elim
 ·cases ds with
  | nil=>exact fun p hp=>i _ _ (q p hp)
  | cons=>exact q.elim
theorem zsK {K:PySem.W.Frag} {P:Program} {w:World} {H:Hp} {a:Addr} {f:Key->Bool} {n:Nat} (e:OOk K P w H a (.set f n)):Mut (H a):=by
 have e':H a=some (SetK P w a f n):=e
 rw [e']
 exact trivial
def okS (d:D) (S:Sto):Prop:=match d with
 | .ref a=>match S a with
  | some (.set _ _)=>True
  | _=>False
 | _=>False
def zxd (mo:EM) (ma:AM):EM:=fun env S Q=>mo env S fun d S1=>okS d S1∧ma env S1 fun ds S2=>match d,ds with
 | .ref a,[y]=>match S2 a,keyD y with
  | some (.set f n),some k=>n+1 < scanBound∧Q .non (put S2 a (.set (fun j=>f j || decide (j=k)) (if f k=true then n else n+1)))
  | _,_=>False
 | _,_=>False
theorem zv7 (ho:ME X B o mo) (ha:MA X B [e] ma) (hbase:attributeBase o "add" X.env (eval o X.env)=eval o X.env:=by rfl)
  (hfew:((backTo cpos (starEach [e] X.env)).all (fun x=>!x.1) && (backToKw cpos (keywordEach [] X.env)).all (fun x=>x.1.isSome)
   && decide ([e].length+([]:List Keyword).length+(if ([]:List Keyword).isEmpty then 0 else 1) < 30))=true:=by rfl)
  (hline:(apos.endLine == cpos.line)=true:=by rfl) (hs:starEach [e] X.env=(false,eval e X.env) :: starEach [] X.env:=by rfl) (hplain:(backTo cpos (starEach [] X.env)).any (·.1)=false:=by rfl) :
  ME X B (.Call (.Attribute o "add" apos) [e] [] cpos) (zxd mo ma):=by
 refine ⟨zbF (pe_saddK ho.pe ha.pa hbase hfew hline hs hplain) fun σ H Q q=>?_,fun env S Q Q' i q=>ho.mono env S _ _ (fun d S1 q=>⟨q.1,ha.mono env S1 _ _ (fun ds S2 q=>?_) q.2⟩) q⟩
 ·obtain ⟨lB,env,S,r0,z0,q⟩:=q
  refine ⟨lB,env,S,r0,z0,ho.mono env S _ _ (fun d S1 q v H1 l1 z1 d1=>?_) q⟩
  obtain ⟨q1,q⟩:=q
  refine ⟨?_,lB.trans l1,env,S1,r0.le l1,z1,ha.mono env S1 _ _ (fun ds S2 q vs H2 l2 z2 d2=>?_) q⟩
  ·unfold okS at q1
   split at q1
   ·cases d1
    split at q1
    ·rename_i f n e0
     exact ⟨_,f,n,rfl,z1 _ _ e0⟩
    ·exact q1.elim
   ·exact q1.elim
  ·split at q
   ·obtain ⟨u,rfl,du⟩:=zl9 d2
    cases d1
    split at q
    ·rename_i f n k e0 ek
     have eu:=zhj du ek
     subst eu
     have e1:=z2 _ _ e0
     have hmut:=zsK e1
     exact ⟨_,k,f,n,rfl,rfl,e1,q.1,q.2 _ _ ((l1.trans l2).trans (Le.mut hmut)) (z2.wr (o:=.set _ _) hmut upd_same) .non⟩
    ·exact q.elim
   ·exact q.elim
 ·split at q
  ·split at q
   ·exact ⟨q.1,i _ _ q.2⟩
   ·exact q.elim
  ·exact q.elim
def zl0:EM:=fun _ S Q=>∀ p,S p=none->Q (.ref p) (put S p (.dic []))
theorem ziA:ME X B (.Dict [] [] pos) zl0:=by
 refine ⟨zbF pe_dnewK fun σ H Q q=>?_,fun env S Q Q' i q p hp=>i _ _ (q p hp)⟩
 obtain ⟨lB,env,S,r0,z0,q⟩:=q
 exact fun p hp=>q p (z0.free hp) _ _ (Le.new hp) (z0.new (o:=.dic []) hp ⟨[],upd_same,.nil⟩) (.ref p)
def znt:CM:=fun ds S Q=>match ds with
 | [.ref a]=>match S a with
  | some (.dic kvs)=>∀ p,S p=none->Q (.ref p) (put S p (.dic kvs))
  | _=>False
 | _=>False
theorem ztx:zhe X (.type "dict") znt:=by
 refine zjr _ call_dictD (fun xs H Q ds S h r q=>?_) (fun ds S Q Q' i q=>?_)
 ·unfold znt at q
  split at q
  ·obtain ⟨v,rfl,dv⟩:=zl9 h
   cases dv
   split at q
   ·rename_i kvs e0
    obtain ⟨vs,e,z⟩:=r _ _ e0
    exact ⟨_,vs,rfl,.inl e,fun p hp=>q p (r.free hp) _ _ (Le.new hp) (r.new (o:=.dic kvs) hp ⟨vs,upd_same,z.le (Le.new hp)⟩) (.ref p)⟩
   ·exact q.elim
  ·exact q.elim
 ·unfold znt at q ⊢
  split at q
  ·split at q
   ·exact fun p hp=>i _ _ (q p hp)
   ·exact q.elim
  ·exact q.elim
def mPs:List (EM×EM)->Slo->Sto->(List (D×D)->Sto->Prop)->Prop
 | [],_,S,Q=>Q [] S
 | (mk,mv) :: r,env,S,Q=>mk env S fun x S1=>mv env S1 fun y S2=>mPs r env S2 fun ps S3=>Q ((x,y) :: ps) S3
structure MPs (X:Cx) (B:Hp) (pos:Pos) (keys:List (Option Expr)) (values:List Expr) (ms:List (EM×EM)):Prop where
 pps:PPs X pos keys values (ms.map fun p=>(up X.K X.prog X.w B p.1,up X.K X.prog X.w B p.2))
 mono:∀ p∈ms,zdx p.1∧zdx p.2
theorem zjS:MPs X B pos [] [] []:=⟨pps_nil,fun _ h=>nomatch h⟩
theorem zaV {k v:Expr} {ks:List (Option Expr)} {vs:List Expr} {mk mv:EM} {ms:List (EM×EM)} (hk:ME X B k mk) (hv:ME X B v mv) (hr:MPs X B pos ks vs ms):MPs X B pos (some k :: ks) (v :: vs) ((mk,mv) :: ms):=
 ⟨pps_cons hk.pe hv.pe hr.pps,fun p h=>by
  rcases List.mem_cons.mp h with e | h
  ·subst e;exact ⟨hk.mono,hv.mono⟩
  ·exact hr.mono p h⟩
def znO:List (D×D)->Option (List (Key×D))
 | []=>some []
 | (k,v) :: r=>match keyD k,znO r with
  | some k,some r=>some ((k,v) :: r)
  | _,_=>none
def zbb (kvs more:List (Key×D)):List (Key×D):=more.foldl (fun acc kv=>putD acc kv.1 kv.2) kvs
def zmx (ms:List (EM×EM)):EM:=fun env S Q=>∀ p,S p=none->mPs ms env (put S p (.dic [])) fun ps S2=>match znO ps with
 | some kvs=>S2 p=some (.dic [])∧kvs.length≤15∧Q (.ref p) (put S2 p (.dic (zbb [] kvs)))
 | none=>False
theorem zm5:∀ {ms:List (EM×EM)},(∀ p∈ms,zdx p.1∧zdx p.2)->∀ env S (Q Q':List (D×D)->Sto->Prop),(∀ ps S,Q ps S->Q' ps S)->mPs ms env S Q->mPs ms env S Q'
 | [],_,env,S,Q,Q',i,q=>i _ _ q
 | (mk,mv) :: r,h,env,S,Q,Q',i,q=>(h _ (List.mem_cons_self ..)).1 env S _ _ (fun x S1 q=>(h _ (List.mem_cons_self ..)).2 env S1 _ _ (fun y S2 q=>zm5 (fun p hp=>h p (List.mem_cons_of_mem _ hp)) env S2 _ _ (fun ps S3 q=>i _ _ q) q) q) q
inductive DPs (K:PySem.W.Frag) (H:Hp):List (D×D)->List (V×V)->Prop
 | nil:DPs K H [] []
 | cons {a b:D} {x y:V} {r:List (D×D)} {s:List (V×V)}:DV K H a x->DV K H b y->DPs K H r s->DPs K H ((a,b) :: r) ((x,y) :: s)
theorem DPs.le {K:PySem.W.Frag} {H H':Hp} {r:List (D×D)} {s:List (V×V)} (l:Le H H') (h:DPs K H r s):DPs K H' r s:=by
 induction h with
 | nil=>exact .nil
 | cons h1 h2 _ ih=>exact .cons (h1.le l) (h2.le l) ih
theorem zt1 {K:PySem.W.Frag} {P:Program} {w:World}:∀ {ms:List (EM×EM)},(∀ p∈ms,zdx p.1∧zdx p.2)->∀ {σ:L2.St} {H:Hp} {Q:List (V×V)->Hp->Prop} {env:Slo} {S:Sto},Le B H->zdy K H env σ->Rp K P w S H ->
  mPs ms env S (fun ps S'=>∀ vs H',Le H H'->Rp K P w S' H'->DPs K H' ps vs->Q vs H')->tPairs (ms.map fun p=>(up K P w B p.1,up K P w B p.2)) σ H Q
 | [],_,σ,H,Q,env,S,lB,r0,z0,q=>q [] H (Le.refl H) z0 .nil
 | (mk,mv) :: r,h,σ,H,Q,env,S,lB,r0,z0,q=>by
  refine ⟨lB,env,S,r0,z0,(h _ (List.mem_cons_self ..)).1 env S _ _ (fun x S1 q v H1 l1 z1 d1=>?_) q⟩
  refine ⟨lB.trans l1,env,S1,r0.le l1,z1,(h _ (List.mem_cons_self ..)).2 env S1 _ _ (fun y S2 q u H2 l2 z2 d2=>?_) q⟩
  refine zt1 (fun p hp=>h p (List.mem_cons_of_mem _ hp)) (lB.trans (l1.trans l2)) (r0.le (l1.trans l2)) z2 (zm5 (fun p hp=>h p (List.mem_cons_of_mem _ hp)) _ _ _ _ (fun ps S3 q vs H3 l3 z3 d3=>?_) q)
  exact q _ H3 ((l1.trans l2).trans l3) z3 (.cons (d1.le (l2.trans l3)) (d2.le l3) d3)
theorem zwq {K:PySem.W.Frag} {H:Hp} {ps:List (D×D)} {vs:List (V×V)} (h:DPs K H ps vs):∀ {kvs:List (Key×D)},znO ps=some kvs->∃ us:List (Key×V),vs=us.map (fun kv=>(kV kv.1,kv.2))∧KVs K H kvs us:=by
 induction h with
 | nil=>intro kvs e;cases e;exact ⟨[],rfl,.nil⟩
 | @cons a b x y r s h1 h2 h3 ih=>
  intro kvs e
  unfold znO at e
  split at e
  ·rename_i k r' ek er
   cases e
   obtain ⟨us,rfl,z⟩:=ih er
   have ex:=zhj h1 ek
   subst ex
   exact ⟨(k,y) :: us,rfl,.cons h2 z⟩
  ·cases e
theorem KVs.merge {K:PySem.W.Frag} {H:Hp} {more:List (Key×D)} {mv:List (Key×V)} (h:KVs K H more mv):∀ {ds:List (Key×D)} {vs:List (Key×V)},KVs K H ds vs->KVs K H (zbb ds more) (mergeK vs mv):=by
 induction h with
 | nil=>intro ds vs h;exact h
 | cons h1 _ ih=>intro ds vs h;exact ih (h.put _ h1)
theorem zjV {keys:List (Option Expr)} {values:List Expr} {ms:List (EM×EM)} (h:MPs X B pos keys values ms) (hall:keys.all (·.isSome)=true:=by rfl) (hl:keys.length=values.length:=by rfl) (h0:keys≠[]:=by simp)
  (h15:keys.length≤15:=by decide):ME X B (.Dict keys values pos) (zmx ms):=by
 refine ⟨zbF (pe_disp h.pps hall hl h0 h15) fun σ H Q q=>?_,fun env S Q Q' i q p hp=>zm5 h.mono _ _ _ _ (fun ps S2 q=>?_) (q p hp)⟩
 ·obtain ⟨lB,env,S,r0,z0,q⟩:=q
  intro p hp
  have l1:Le H (upd H p (.dK [])):=Le.new hp
  have z1:Rp X.K X.prog X.w (put S p (.dic [])) (upd H p (.dK [])):=z0.new (o:=.dic []) hp ⟨[],upd_same,.nil⟩
  refine zt1 h.mono (lB.trans l1) (r0.le l1) z1 (zm5 h.mono _ _ _ _ (fun ps S2 q vs H2 l2 z2 d2=>?_) (q p (z0.free hp)))
  split at q
  ·rename_i kvs ek
   obtain ⟨q1,q2,q3⟩:=q
   obtain ⟨us,rfl,zk⟩:=zwq d2 ek
   obtain ⟨ws,e1,e2⟩:=z2 _ _ q1
   have ew:ws=[]:=by cases e2;rfl
   subst ew
   have hmut:Mut (H2 p):=by rw [e1];exact trivial
   have l3:=Le.mut (o:=.dK (mergeK [] us)) hmut
   exact ⟨e1,us,rfl,by rw [← zk.length];exact q2,q3 _ _ ((l1.trans l2).trans l3) (z2.wr (o:=.dic (zbb [] kvs)) hmut ⟨_,upd_same,((zk.merge .nil)).le l3⟩) (.ref p)⟩
  ·exact q.elim
 ·split at q
  ·exact ⟨q.1,q.2.1,i _ _ q.2.2⟩
  ·exact q.elim
def ztG (d:D) (S:Sto):Prop:=match d with
 | .ref a=>match S a with
  | some (.dic _)=>True
  | _=>False
 | _=>False
def zlZ (mo mk mx:EM):EM:=fun env S Q=>mo env S fun d S1=>ztG d S1∧mk env S1 fun k S2=>mx env S2 fun z S3=>match d with
 | .ref a=>match S3 a,keyD k with
  | some (.dic kvs),some kk=>Q ((valD kvs kk).getD z) S3
  | _,_=>False
 | _=>False
theorem zjT {f:Expr} {mk mx:EM} (hu:X.A.units+1 < cLine) (ho:ME X B o mo) (he:ME X B e mk) (hf:ME X B f mx) (m:M2 X o "get" apos e f cpos:=by exact ⟨rfl,rfl,rfl,rfl⟩):ME X B (.Call (.Attribute o "get" apos) [e,f] [] cpos) (zlZ mo mk mx):=by
 refine ⟨zbF (pe_dget2 hu ho.pe he.pe hf.pe m) fun σ H Q q=>?_,fun env S Q Q' i q=>ho.mono env S _ _ (fun d S1 q=>⟨q.1,he.mono env S1 _ _ (fun k S2 q=>hf.mono env S2 _ _ (fun z S3 q=>?_) q) q.2⟩) q⟩
 ·obtain ⟨lB,env,S,r0,z0,q⟩:=q
  refine ⟨lB,env,S,r0,z0,ho.mono env S _ _ (fun d S1 q v H1 l1 z1 d1=>?_) q⟩
  obtain ⟨q1,q⟩:=q
  have hd:∃ a,v = .ref a∧d = .ref a∧IsD H1 a:=by
   unfold ztG at q1
   split at q1
   ·cases d1
    split at q1
    ·rename_i kvs e0
     obtain ⟨vs,e1,_⟩:=z1 _ _ e0
     exact ⟨_,rfl,rfl,.inl ⟨vs,.inl e1⟩⟩
    ·exact q1.elim
   ·exact q1.elim
  obtain ⟨a,rfl,rfl,hD⟩:=hd
  refine ⟨a,rfl,hD,lB.trans l1,env,S1,r0.le l1,z1,he.mono env S1 _ _ (fun k S2 q kv H2 l2 z2 d2=>?_) q⟩
  refine ⟨lB.trans (l1.trans l2),env,S2,r0.le (l1.trans l2),z2,hf.mono env S2 _ _ (fun z S3 q zv H3 l3 z3 d3=>?_) q⟩
  dsimp only at q
  split at q
  ·rename_i kvs kk e0 ek
   have ev:=zhj d2 ek
   subst ev
   obtain ⟨vs,e1,zz⟩:=z3 _ _ e0
   refine ⟨_,DGet.k e1,?_⟩
   have l123:=(l1.trans l2).trans l3
   cases hv:valD kvs kk with
   | none=>
    rw [hv] at q
    rw [(zz.val kk).2 hv]
    exact q _ H3 l123 z3 d3
   | some x=>
    rw [hv] at q
    obtain ⟨u,eu,du⟩:=(zz.val kk).1 x hv
    rw [eu]
    exact q _ H3 l123 z3 du
  ·exact q.elim
 ·split at q
  ·split at q
   ·exact i _ _ q
   ·exact q.elim
  ·exact q.elim
theorem zoJ {x:Str} {i:Int} (h:∃ t,X.mg x=some (.int i t)) (hg:Gl X x:=by rfl) (hd:(x == ("__debug__" : Str))=false:=by decide):ME X B (.Name x pos) (mC (.int i)):=by
 obtain ⟨t,h⟩:=h
 exact ztI (pe_glob (v:=.int i) hg h ⟨t,rfl⟩ hd) fun _=>.int i
end
def dcL (g:GM) (t:TM) (mk mv:EM) (G:Sto->Prop) (p:Addr) (Q:DQ) (env:Slo):List D->Sto->Prop
 | [],S=>G S∧Q (.ref p) S
 | x :: xs,S=>G S∧g x env S fun env2 S2=>t env2 S2 fun b S3=>match b with
  | true=>mk env2 S3 fun y S4=>mv env2 S4 fun z S5=>match S5 p,keyD y with
   | some (.dic kvs),some k=>kvs.length < sizeLine∧dcL g t mk mv G p Q env xs (put S5 p (.dic (putD kvs k z)))
   | _,_=>False
  | false=>dcL g t mk mv G p Q env xs S3
def mDc (mi:IM) (g:GM) (t:TM) (mk mv:EM) (vs:List Nat):EM:=fun env S Q=>mi env S fun xs G S1=>∀ p,S1 p=none->dcL g t mk mv G p Q (zcJ env vs) xs (put S1 p (.dic []))
section
variable {X:Cx} {B:Hp} {kx vx tg iter:Expr} {ifs:List Expr} {scope:Scope} {own:List (Str×Nat)} {pos:Pos} {mi:IM} {g:GM} {t:TM} {mk mv:EM}
theorem zlC {G:Sto->Prop} {p:Addr} {env:Slo} {Q Q':DQ} (hg:∀ d env S (Q Q':Slo->Sto->Prop),(∀ e S,Q e S->Q' e S)->g d env S Q->g d env S Q') (ht:zkh t) (hk:zdx mk) (hm:zdx mv) (i:∀ d S,Q d S->Q' d S):∀ xs S,dcL g t mk mv G p Q env xs S->dcL g t mk mv G p Q' env xs S
 | [],S,h=>⟨h.1,i _ _ h.2⟩
 | x :: xs,S,h=>⟨h.1,hg _ _ _ _ _ (fun e s q=>ht _ _ _ _ (fun b S3 q=>by
   cases b with
   | true=>
    refine hk _ _ _ _ (fun d S4 q=>hm _ _ _ _ (fun d S5 q=>?_) q) q
    split at q
    ·exact ⟨q.1,zlC hg ht hk hm i xs _ q.2⟩
    ·exact q.elim
   | false=>exact zlC hg ht hk hm i xs _ q) q) h.2⟩
theorem zxU {K:PySem.W.Frag} {P:Program} {w:World} {wi:TI} {tt:TG} {vs:List Nat} (hwi:∀ σ H R,(Le B H∧∃ env S,zdy K H env σ∧Rp K P w S H∧mi env S fun xs G S1=>∀ J H1,Le H H1->Rp K P w S1 H1->WkD K P w H1 J xs G->R J H1)->wi σ H R)
  (hmi:∀ env S (Q Q':List D->(Sto->Prop)->Sto->Prop),(∀ xs G S,Q xs G S->Q' xs G S)->mi env S Q->mi env S Q') (bt:BT K vs tt g) (ht:zkh t) (hk:zdx mk) (hm:zdx mv) {σ:L2.St} {H:Hp} {Q:VK}
  (q:up K P w B (mDc mi g t mk mv vs) σ H Q):tDc wi tt (upT K P w B t) (up K P w B mk) (up K P w B mv) vs σ H Q:=by
 obtain ⟨lB,env,S,r0,z0,q⟩:=q
 refine hwi _ _ _ ⟨lB,env,S,r0,z0,hmi _ _ _ _ (fun xs G S1 q J H1 l1 z1 wk=>?_) q⟩
 intro p hp
 have l2:Le H1 (upd H1 p (.dK [])):=Le.new hp
 have z2:Rp K P w (put S1 p (.dic [])) (upd H1 p (.dK [])):=z1.new (o:=.dic []) hp ⟨[],upd_same,.nil⟩
 have q:=q p (z1.free hp)
 refine ⟨fun i k H'=>i≤xs.length∧k=xs.length - i∧Le (upd H1 p (.dK [])) H'∧∃ S,Rp K P w S H'∧dcL g t mk mv G p (dnE K P w H Q) (zcJ env vs) (xs.drop i) S,⟨xs.length,Nat.zero_le _,rfl,Le.refl _,_,z2,q⟩,fun i k H' h=>?_⟩
 obtain ⟨hi,rfl,l3,S,z3,q⟩:=h
 have l23:=l2.trans l3
 by_cases hlt:i < xs.length
 ·have ed:xs.drop i=xs[i] :: xs.drop (i+1):=List.drop_eq_getElem_cons hlt
  rw [ed] at q
  refine .inr ⟨wk.go i S H' hlt l23 z3 q.1,fun H'=>Le (upd H1 p (.dK [])) H'∧∃ S,Rp K P w S H'∧dcL g t mk mv G p (dnE K P w H Q) (zcJ env vs) (xs.drop (i+1)) S,fun H3 h=>⟨xs.length - (i+1),by omega,hlt,rfl,h⟩,fun x H3 hy=>?_⟩
  obtain ⟨l4,z4,d,ex,dv⟩:=wk.yld i S H' x H3 hlt l23 z3 q.1 hy
  have e':d=xs[i]:=by
   rw [List.getElem?_eq_getElem hlt] at ex
   exact (Option.some.inj ex).symm
  subst e'
  have l04:=l1.trans (l23.trans l4)
  refine bt.mt _ _ _ _ _ (fun σ2 H2 z=>?_) (bt.td _ x _ _ S H3 _ dv ((r0.le l04).wipe vs) q.2)
  obtain ⟨e2,rfl,env2,r2,q2⟩:=z
  refine ⟨e2.trans zhN,lB.trans l04,env2,S,r2,z4,ht _ _ _ _ (fun b S3 q H5 l5 z5=>?_) q2⟩
  cases b with
  | false=>exact ⟨l3.trans (l4.trans l5),S3,z5,q⟩
  | true=>
   refine ⟨lB.trans (l04.trans l5),env2,S3,r2.le l5,z5,hk _ _ _ _ (fun d S4 q v H6 l6 z6 d6=>?_) q⟩
   refine ⟨lB.trans (l04.trans (l5.trans l6)),env2,S4,r2.le (l5.trans l6),z6,hm _ _ _ _ (fun d' S5 q v' H7 l7 z7 d7=>?_) q⟩
   split at q
   ·rename_i kvs kk ey ek
    obtain ⟨us,e1,e2⟩:=z7 _ _ ey
    have ev:=zhj d6 ek
    subst ev
    have hmut:Mut (H7 p):=by rw [e1];exact trivial
    have l8:=Le.mut (o:=.dK (putK us kk v')) hmut
    exact ⟨us,kk,rfl,e1,by rw [← e2.length];exact q.1,l3.trans (l4.trans (l5.trans (l6.trans (l7.trans l8)))),_,z7.wr (o:=.dic (putD kvs kk d')) hmut ⟨_,upd_same,(e2.put kk d7).le l8⟩,q.2⟩
   ·exact q.elim
 ·have ei:i=xs.length:=by omega
  subst ei
  rw [List.drop_length] at q
  exact .inl ⟨wk.stop S H' l23 z3 q.1,q.2 _ H' (l1.trans l23) z3 (.ref p)⟩
theorem zv1 {vs:List Nat} (hmi:∀ env S (Q Q':List D->(Sto->Prop)->Sto->Prop),(∀ xs G S,Q xs G S->Q' xs G S)->mi env S Q->mi env S Q') (hg:∀ d env S (Q Q':Slo->Sto->Prop),(∀ e S,Q e S->Q' e S)->g d env S Q->g d env S Q') (ht:zkh t) (hk:zdx mk) (hm:zdx mv):zdx (mDc mi g t mk mv vs):=fun env S Q Q' i q=>
 hmi _ _ _ _ (fun xs G S1 q p hp=>zlC hg ht hk hm i _ _ (q p hp)) q
abbrev zBS (X:Cx) (B:Hp) (mi:IM):TI:=fun σ H R=>Le B H∧∃ env S,zdy X.K H env σ∧Rp X.K X.prog X.w S H∧mi env S fun xs G S1=>∀ J H1,Le H H1->Rp X.K X.prog X.w S1 H1->WkD X.K X.prog X.w H1 J xs G->R J H1
theorem zpZ {i:Nat} {y:Str} {py spos:Pos} {wi:TI} {g:TG} {tt:TT} {tk tv:TE} (hc:X.calm=true) (hN:X.N.Nodup) (hy:X.N[i]? = some y) (hyl:X.env.scope.names.lookup y=some .local)
  (hsw:swapsWith (.DictComp kx vx [⟨tg,iter,ifs,0⟩] scope pos) (some (.Name y py)) spos.line X.env=pure true) (hi:PI X tg iter wi) (ok:BlkOk X.N X.env.scope scope own)
  (hg:Blk X scope fun Y=>PG Y tg g) (ht:Blk X scope fun Y=>PTs Y ifs tt) (hk:Blk X scope fun Y=>PE Y kx tk) (he:Blk X scope fun Y=>PE Y vx tv) (hs:∀ x,foldedSetIterable iter X.env x=pure x:=by intro _;rfl) :
  PS X (.Assign [.Name y py] (.DictComp kx vx [⟨tg,iter,ifs,0⟩] scope pos) spos) (tAsg (tDc wi g tt tk tv (own.map (·.2))) (gName i)):=by
 refine ⟨fun pins s σ H D I h=>?_⟩
 rw [exec_Assign_Name_used _ _ _ _ hsw]
 refine wpAny_bind (wpAny_standAt (wpAny_bind ?_))
 show wpAny _ X.A (do let _ ← comprehension (.DictComp kx vx [⟨tg,iter,ifs,0⟩] scope pos) scope X.env (firstIterPos [⟨tg,iter,ifs,0⟩] pos) newDict false (eval iter X.env) (some (assign (.Name y py) X.env))) _ _ s
 have h:tDc wi g tt tk tv (own.map (·.2)) σ H (fun x H1=>gName i x σ H1 D.nx):=h
 refine wpAny_bind (thn (dc_core (Qf:=fun _ s'=>SP X pins D .next s') hc hN I hi ok hg ht hk he hs h fun L C s' m H' I' q hn f=>?_) fun _ s' hq=>wpAny_pure (wpAny_pure hq))
 show wpAny _ _ (assign (.Name y py) X.env (.ref L)) _ _ _
 refine wpAny_assign_Name (store_ok2 (v:=V.ref L) I' hN hy (.inl hyl) rfl (fun s2 I2 ⟨a,sb,ha⟩=>?_) (.inr hyl))
 obtain ⟨f0,f1,f2,f3,f4,f5⟩:=f
 have haC:C≠a:=by
  rcases ha with z | z
  ·rw [z];exact f1
  ·exact fun e=>f4 y a z e.symm
 refine ⟨m,hn.sameBut sb haC,fun h3 sb3=>?_⟩
 exact ⟨_,H',I2.turned (t':=s2.toks) (fun b o hb e=>(sb3.2 b hb).trans e) f0 f1 f3 f4 f5,q⟩
theorem zp6 {tt:TG} {i:Nat} {y:Str} {py spos:Pos} (hc:X.calm=true) (hN:X.N.Nodup) (hi:MI X B tg iter mi) (ok:BlkOk X.N X.env.scope scope own) (bt:BT X.K (own.map (·.2)) tt g)
  (hg:Blk X scope fun Y=>PG Y tg tt) (hm:Blk X scope fun Y=>MTs Y B ifs t) (hk:Blk X scope fun Y=>ME Y B kx mk) (he:Blk X scope fun Y=>ME Y B vx mv) (hy:X.N[i]? = some y:=by rfl) (hyl:X.env.scope.names.lookup y=some .local:=by rfl)
  (hsw:swapsWith (.DictComp kx vx [⟨tg,iter,ifs,0⟩] scope pos) (some (.Name y py)) spos.line X.env=pure true:=by rfl) (hs:∀ x,foldedSetIterable iter X.env x=pure x:=by intro _;rfl) :
  MS X B (.Assign [.Name y py] (.DictComp kx vx [⟨tg,iter,ifs,0⟩] scope pos) spos) (zaM (mDc mi g t mk mv (own.map (·.2))) (gNm i)):=by
 have m1:zkh t:=(hm X.s_0 (fun _=>none) 0 [] []).mono
 have m2:zdx mk:=(hk X.s_0 (fun _=>none) 0 [] []).mono
 have m3:zdx mv:=(he X.s_0 (fun _=>none) 0 [] []).mono
 have m4:=zv1 (vs:=own.map (·.2)) hi.mono bt.mg m1 m2 m3
 refine ⟨zd4 (zpZ (wi:=zBS X B mi) (tt:=upT X.K X.prog X.w B t) (tk:=up X.K X.prog X.w B mk) (tv:=up X.K X.prog X.w B mv) hc hN hy hyl hsw hi.pi ok hg (fun s H C cl fp=>(hm s H C cl fp).pts) (fun s H C cl fp=>(hk s H C cl fp).pe) (fun s H C cl fp=>(he s H C cl fp).pe) hs)
  fun D σ H q=>?_,fun A B env S l q=>m4 _ _ _ _ (fun d S1 q=>l.nx _ _ q) q⟩
 obtain ⟨lB,env,S,r0,z0,q⟩:=q
 refine zxU (B:=B) (mi:=mi) (g:=g) (t:=t) (mk:=mk) (mv:=mv) (fun _ _ _ z=>z) hi.mono bt m1 m2 m3 ⟨lB,env,S,r0,z0,m4 _ _ _ _ (fun d S1 q v H1 l z dv=>?_) q⟩
 exact q _ H1 l ((r0.le l).set dv i) z
end
section
variable {X:Cx} {B:Hp} {W:XW} {k:Nat} {f C:Addr} {fd:FuncData} {ps:List Str} {x:Str} {p pos:Pos} {e:Expr} {es:List Expr} {ma:AM}
theorem zoi {CX:CXT} {sp:Sp} {E:XK} {pins:List (Addr×Obj)} {σ:L2.St} {H:Hp} {s:Shared} {Q:VK} {us:List Value} {vs:List V} (M:Mk X.K C f) (F:FnOk X.prog X.w X.K X.mg X.base CX k f fd ps sp) (hr:Room (k+1) X.A) (hb:Binds X.K fd ps [])
  (hx:PassesAt CX X σ E) (I:Inv X pins σ H s) (r:Vals vs us)
  (h:∀ x dx,H x=none->H dx=none->dx≠x->sp (.ref x :: vs) (upd (upd H dx (.own x)) x (.ins C dx [])) (fun v H2=>v = .non∧Q (.ref x) H2) E) :
  wpAny (model X.prog X.w) X.A (call (.ref C) us) (EP X pins σ Q) X.xe s:=by
 have hq:=h (s.heap.objs.size+1) s.heap.objs.size (I.hok.fresh (Nat.le_succ _)) (I.hok.fresh (Nat.le_refl _)) (Nat.ne_of_lt (Nat.lt_succ_self _))
 have I2:=Inv.made (C:=C) I
 have r2:Vals (V.ref (s.heap.objs.size+1) :: vs) (Value.ref (s.heap.objs.size+1) :: us):=.cons rfl r
 have hl:(Value.ref (s.heap.objs.size+1) :: us).length=ps.length:=by
  have e:=r2.length
  rw [F.len _ _ _ _ hq] at e
  exact e.symm
 have hl':((Value.ref (s.heap.objs.size+1) :: us)++[]).length=ps.length:=by rw [List.append_nil];exact hl
 have hbb:=hb _ (Value.ref (s.heap.objs.size+1) :: us) I2.kIn hl'
 rw [List.append_nil] at hbb
 refine wpAny_call (make_map (f:=f) I.kIn M.makes M.init (beq_iff_eq.mp M.fn) (codeAny_mono (F.run _ X.stack _ _ ⟨Value.ref (s.heap.objs.size+1) :: us,[]⟩ (Value.ref (s.heap.objs.size+1) :: us) _ _ E (hr.make C us [])
  (I2.env0.make C us []) hbb r2 hq) fun r s' hq'=>?_))
 cases r with
 | error e=>exact hx pins _ _ e s' I2 hq'
 | ok fl=>
  cases fl with
  | ret u=>
   obtain ⟨v,H',I3,rv,ev,q3⟩:=I2.after hq'
   subst ev
   exact ⟨rv,⟨V.ref (s.heap.objs.size+1),H',I3,rfl,q3⟩⟩
  | next=>exact False.elim hq'
  | brk=>exact False.elim hq'
  | cont=>exact False.elim hq'
def zjY (C:Addr) (sp:SpD) (W:XW) (m:AM):EM:=fun env S Q=>m env S fun ds S1=>∀ p,S1 p=none->sp (.ref p :: ds) (put S1 p (.ins C [])) (fun v S2=>v = .non∧Q (.ref p) S2) fun c fs S'=>W c fs env S'
theorem zp7 {sp:SpD} {m:AM} (hs:zgo sp) (hm:znY m):zdx (zjY C sp W m):=fun env S Q Q' i q=>hm env S _ _ (fun ds S1 q p hp=>hs _ _ _ _ _ _ (fun d S q=>⟨q.1,i _ _ q.2⟩) (fun _ _ _ h=>h) (q p hp)) q
theorem zrE {sp:SpD} (hs:zgo sp) {K:PySem.W.Frag} {P:Program} {w:World} {env:Slo} {σ:L2.St} {H H1:Hp} {S1:Sto} {ds:List D} {vs:List V} {Q:VK} (lB:Le B H) (r0:zdy K H env σ) (l1:Le H H1) (z1:Rp K P w S1 H1) (d1:DVs K H1 ds vs)
  (q:∀ p,S1 p=none->sp (.ref p :: ds) (put S1 p (.ins C [])) (fun v S2=>v = .non∧dnE K P w H Q (.ref p) S2) fun c fs S'=>W c fs env S') (x dx:Addr) (hx:H1 x=none) (hdx:H1 dx=none) (hne:dx≠x) :
  zlF K P w sp (.ref x :: vs) (upd (upd H1 dx (.own x)) x (.ins C dx [])) (fun v H2=>v = .non∧Q (.ref x) H2) (WE (upW K P w B W) σ):=by
 have hx2:upd H1 dx (.own x) x=none:=by rw [upd_ne (Ne.symm hne)];exact hx
 have l2:Le H1 (upd H1 dx (.own x)):=Le.new hdx
 have l3:Le (upd H1 dx (.own x)) (upd (upd H1 dx (.own x)) x (.ins C dx [])):=Le.new hx2
 have l13:=l2.trans l3
 have z3:Rp K P w (put S1 x (.ins C [])) (upd (upd H1 dx (.own x)) x (.ins C dx [])):=(z1.more hdx).new (o:=.ins C []) hx2 ⟨dx,[],upd_same,.nil⟩
 refine ⟨.ref x :: ds,_,.cons (.ref x) (d1.le l13),z3,hs _ _ _ _ _ _ (fun d S2 q v H2 l z dv=>?_) (fun c fs S' hW dd H' l z xx=>?_) (q x (z1.free hx))⟩
 ·obtain ⟨rfl,q⟩:=q
  cases dv
  exact ⟨rfl,q _ H2 ((l1.trans l13).trans l) z (.ref x)⟩
 ·exact ⟨lB.trans ((l1.trans l13).trans l),env,S',fs,r0.le ((l1.trans l13).trans l),z,xx,hW⟩
theorem zhB {sp:SpD} (M:Mk X.K C f) (F:Fd X.prog X.w X.K X.mg X.base k f sp) (hr:Room (k+1) X.A) (tk:Tk X B W) (hm:X.mg x=some (.ref C)) (ha:MA X B (e :: es) ma) (hg:Gl X x:=by rfl)
  (hdb:(x == ("__debug__" : Str))=false:=by decide) (he:starEach (e :: es) X.env=(false,eval e X.env) :: starEach es X.env:=by rfl) (hpl:(backTo pos (starEach es X.env)).any (·.1)=false:=by rfl) :
  ME X B (.Call (.Name x p) (e :: es) [] pos) (zjY C sp W ma):=by
 obtain ⟨fd,ps,F1,b⟩:=F.ex
 refine ⟨⟨fun pins s σ H Q I h=>?_⟩,zp7 F.mono ha.mono⟩
 obtain ⟨lB,env,S,r0,z0,q⟩:=h
 refine wpAny_Call_Name_kw (ld_glob I hg hm ?_ hdb)
 refine PySem.W.callWith_K (h₀:=X.base) I.ok.mod.kin M.kp (thn (ha.pa.run pos pins s σ H (fun vs H1=>∀ x dx,H1 x=none->H1 dx=none->dx≠x->zlF X.K X.prog X.w sp (.ref x :: vs) (upd (upd H1 dx (.own x)) x (.ins C dx [])) (fun v H2=>v = .non∧Q (.ref x) H2) (WE (upW X.K X.prog X.w B W) σ)) I ⟨lB,env,S,r0,z0,ha.mono env S _ _ (fun ds S1 q vs H1 l1 z1 d1=>?_) q⟩) fun us s1 ⟨vs,H1,I1,r,q⟩=>⟨I1.kIn,?_⟩) he hpl
 ·exact zrE F.mono lB r0 l1 z1 d1 q
 ·exact zoi M F1 hr b (passAt tk σ) I1 r q
end
def hitsD (S:Sto) (kb:List (Key×D)):List (Key×D)->Option Bool
 | []=>some true
 | (k,v) :: r=>match valD kb k with
  | none=>some false
  | some u=>match rs S 40 v,rs S 40 u,hitsD S kb r with
   | some p,some q,some b=>some (PyData.eqv p q && b)
   | _,_,_=>none
def zDB (S:Sto) (d e:D):Option Bool:=match d,e with
 | .ref a,.ref b=>match S a,S b with
  | some (.dic ka),some (.dic kb)=>if ka.length=kb.length then hitsD S kb ka else some false
  | _,_=>none
 | _,_=>none
def zDP (g:Bool->Bool):BM:=fun d e S Q=>match zDB S d e with
 | some b=>Q (.bl (g b)) S
 | none=>zkr g d e S Q
section
variable {X:Cx}
end
theorem zkI {k:Nat} {A:Around} (hr:Room k A):A.units+65 < cLine:=by have:=hr.un;omega
theorem zcW {k:Nat} {A:Around} (hr:Room k A):A.units+64 < cLine:=by have:=hr.un;omega
theorem hu1 {k:Nat} {A:Around} (hr:Room k A):A.units+1 < cLine:=by have:=hr.un;omega
abbrev zpk:BM:=vI0 fun i j=>.int (i - j)
abbrev zpl:BM:=vI (fun _ j=>0 < j) fun i j=>.int (i % j)
abbrev zkR:BM:=vI CDivW fun i j=>.int (i / j)
abbrev zt0:BM:=vI CPow fun i j=>.int (i ^ j.toNat)
abbrev zxa:CM:=vI1 fun i=>.int (if i < 0 then -i else i)
abbrev vInt:CM:=vI1 fun i=>.int i
abbrev zw8:CM:=vI2 fun i j=>.int (if j > i then j else i)
abbrev zDJ:CM:=vI2 fun i j=>.int (if j < i then j else i)
section
variable {X:Cx} {B:Hp} {pos:Pos}
theorem zjp {x:Str} {n:String} (hm:X.mg x=none) (hv:bootBuiltins x=some (.type n)) (hg:Gl X x:=by rfl) (hn:x ≠ "__name__" := by decide) (hd:(x == ("__debug__" : Str))=false:=by decide):ME X B (.Name x pos) (mC (.ty n)):=
 ztI (pe_bltn (v:=.ty n) hg hm hv rfl hn hd) fun _=>.ty n
end
theorem zmD {P:Program} {w:World} {K:PySem.W.Frag} {mg:Str->Option Value} {base:Heap} {k:Nat} {f:Addr} {fd:FuncData} {ps:List Str} (b:Binds K fd ps []) (kp:PySem.W.keepIn K (.ref f)=true):Fd P w K mg base k f (fun _ _ _ _=>False):=
 ⟨⟨fd,ps,⟨fun vs H Q E h=>(by obtain ⟨_,_,_,_,z⟩:=h;exact z.elim),fun A outer s H args us vs Q E _ _ _ _ h=>(by obtain ⟨_,_,_,_,z⟩:=h;exact z.elim)⟩,b⟩,kp,fun _ _ _ _ _ _ _ _ h=>h⟩
section
variable {fa:List He.Fa} {fn:List He.DefD} {K:PySem.W.Frag} {mg:Str->Option Value}
theorem Tx.df (T:Tx fa fn K mg) (i:Nat) {d:He.DefD} (h:fn[i]? = some d:=by rfl):∃ fd,FunD K d.name d.qual d.params d.body d.scope (d.dvs K) (d.kws K) (He.fAd K d.at_) fd:=by
 obtain ⟨_,X,G,c⟩:=T.ex
 exact c.def_ i h
end
section
variable {env:Slo} {S:Sto} {Q:DQ} {A:Fin} {m n:SM} {me mf mg' ma mb:EM} {g:GM} {t u:TM} {r:BM} {c:CM} {ms:AM} {d e:D} {TQ:Bool->Sto->Prop} {AQ:List D->Sto->Prop} {a:Addr} {x:D} {i j k:Nat} {K:PySem.W.Frag} {W:XW} {sp:SpD} {C:Addr} {f:Str}
theorem zcY (h:m { A with nx:=n A } env S):zav m n A env S:=h
def zs8 (g:GM) (env:Slo) (A:Fin):DQ:=fun d S1=>g d env S1 A.nx
theorem s_asg (h:me env S (zs8 g env A)):zaM me g A env S:=h
theorem zk0 (h:A.nx (env.set i (some d)) S):zs8 (gNm i) env A d S:=h
theorem zvl (h:g d env S A.nx):zs8 g env A d S:=h
def kIf (m n:SM) (A:Fin) (env:Slo):Bool->Sto->Prop:=fun b S1=>match b with
 | true=>m A env S1
 | false=>n A env S1
theorem s_if (h:t env S (kIf m n A env)):mIf t m n A env S:=h
theorem zB7 (h:m A env S):kIf m n A env true S:=h
theorem zyx (h:n A env S):kIf m n A env false S:=h
theorem zgk {p:Prop} {_:Decidable p} (h1:p->m A env S) (h2:¬ p->n A env S):kIf m n A env (decide p) S:=by
 by_cases q:p
 ·rw [decide_eq_true q];exact h1 q
 ·rw [decide_eq_false q];exact h2 q
theorem zdI {b:Bool} (h1:b=true->m A env S) (h2:b=false->n A env S):kIf m n A env b S:=by
 cases b
 ·exact h2 rfl
 ·exact h1 rfl
theorem zAk (h:A.nx env S):mNx A env S:=h
theorem zyY (h:A.bk env S):zAr A env S:=h
theorem zyX (h:A.ct env S):zAp A env S:=h
theorem s_ret (h:me env S A.rt):za9 me A env S:=h
theorem zul (h:A.rt .non S):zqe A env S:=h
def zqm (env:Slo) (A:Fin):DQ:=fun _ S1=>A.nx env S1
theorem s_drop (h:me env S (zqm env A)):zbQ me A env S:=h
theorem zr6 (h:A.nx env S):zqm env A d S:=h
def zs7 (i:Nat) (d:D) (r:BM) (env:Slo) (A:Fin):DQ:=fun y S1=>r d y S1 fun z S2=>A.nx (env.set i (some z)) S2
theorem s_aug (e0:env[i]? = some (some d)) (h:me env S (zs7 i d r env A)):zpo i me r A env S:=by
 unfold zpo
 rw [e0]
 exact h
def zoX (i:Nat) (env:Slo) (A:Fin):DQ:=fun z S2=>A.nx (env.set i (some z)) S2
theorem zsc (h:r d x S (zoX i env A)):zs7 i d r env A x S:=h
theorem zsb (h:A.nx (env.set i (some d)) S):zoX i env A d S:=h
def ztL (a:Addr) (i:Int) (env:Slo) (A:Fin):DQ:=fun z S5=>match zpI S5 (.ref a) (.int i) z with
 | some S6=>A.nx env S6
 | none=>False
def zwH (a:Addr) (i:Int) (x:D) (r:BM) (env:Slo) (A:Fin):DQ:=fun y S4=>r x y S4 (ztL a i env A)
def zzv (a:Addr) (i:Int) (me:EM) (r:BM) (env:Slo) (A:Fin):DQ:=fun x S3=>me env S3 (zwH a i x r env A)
theorem zsv {v:Nat} {z:Int} (e0:env[v]? = some (some (.ref a))) (hz:0≤z) (h:vIx (.ref a) (.int z) S (zzv a z me r env A)):znL (zag v) (mC (.int z)) me r A env S:=by
 unfold znL zag mC
 rw [e0]
 exact ⟨trivial,hz,h⟩
theorem zvo {z:Int} (h:me env S (zwH a z x r env A)):zzv a z me r env A x S:=h
theorem zvn {z:Int} (h:r d x S (ztL a z env A)):zwH a z d r env A x S:=h
theorem zvm {z:Int} {xs:List D} (e0:S a=some (.lst xs)) (ei:ixN xs.length z=some j) (h:A.nx env (put S a (.lst (xs.set j d)))):ztL a z env A d S:=by
 unfold ztL zpI
 simp only [e0,ei]
 exact h
def kFor (g:GM) (m:SM) (A:Fin) (env:Slo):List D->(Sto->Prop)->Sto->Prop:=fun xs G S1=>forL g m G A xs env S1
theorem zvF {mi:IM} (h:mi env S (kFor g m A env)):zgn mi g m A env S:=h
theorem zqS {xs:List D} {G:Sto->Prop} (h:forL g m G A xs env S):kFor g m A env xs G S:=h
def zoV (R:List D->(Sto->Prop)->Sto->Prop):DQ:=fun d S1=>match d with
 | .tp _ xs=>R xs (fun _=>True) S1
 | .rol xs=>R xs (fun _=>True) S1
 | .str x=>R (znV x) (fun _=>True) S1
 | .ref a=>match S1 a with
  | some (.lst xs)=>R xs (fun S=>S a=some (.lst xs)) S1
  | _=>False
 | _=>False
variable {R:List D->(Sto->Prop)->Sto->Prop} {xs ys:List D} {fl fl':Bool}
theorem zvw (h:me env S (zoV R)):zdY me env S R:=h
theorem zrT (h:R xs (fun _=>True) S):zoV R (.tp fl xs) S:=h
theorem zrV (h:R xs (fun _=>True) S):zoV R (.rol xs) S:=h
theorem zrU {x:Str} (h:R (znV x) (fun _=>True) S):zoV R (.str x) S:=h
theorem zrW (e0:S a=some (.lst xs)) (h:R xs (fun S=>S a=some (.lst xs)) S):zoV R (.ref a) S:=by
 unfold zoV
 simp only [e0]
 exact h
def kR1 (R:List D->(Sto->Prop)->Sto->Prop):List D->Sto->Prop:=fun ds S1=>match ds with
 | [.int j]=>-(2 ^ 62)≤j∧j < 2 ^ 62∧R (zky 0 j.toNat) (fun _=>True) S1
 | _=>False
theorem zyN (h:ms env S (kR1 R)):zds ms env S R:=h
theorem zkl {j:Int} (h1:-(2 ^ 62)≤j) (h2:j < 2 ^ 62) (h:R (zky 0 j.toNat) (fun _=>True) S):kR1 R [.int j] S:=⟨h1,h2,h⟩
def kEn (R:List D->(Sto->Prop)->Sto->Prop):List D->Sto->Prop:=fun ds S1=>match ds with
 | [.tp _ xs]=>R (zkD 0 xs) (fun _=>True) S1
 | [.rol xs]=>R (zkD 0 xs) (fun _=>True) S1
 | [.ref a]=>match S1 a with
  | some (.lst xs)=>R (zkD 0 xs) (fun S=>S a=some (.lst xs)) S1
  | _=>False
 | _=>False
theorem zyP (h:ms env S (kEn R)):zhk ms env S R:=h
theorem zvf (h:R (zkD 0 xs) (fun _=>True) S):kEn R [.tp fl xs] S:=h
theorem zvg (e0:S a=some (.lst xs)) (h:R (zkD 0 xs) (fun S=>S a=some (.lst xs)) S):kEn R [.ref a] S:=by
 unfold kEn
 simp only [e0]
 exact h
def kZi (R:List D->(Sto->Prop)->Sto->Prop):List D->Sto->Prop:=fun ds S1=>match ds with
 | [.tp _ xs,.tp _ ys]=>R (List.zipWith (fun x y=>.tup [x,y]) xs ys) (fun _=>True) S1
 | _=>False
theorem zyK (h:ms env S (kZi R)):zqr ms env S R:=h
theorem zyq (h:R (List.zipWith (fun x y=>.tup [x,y]) xs ys) (fun _=>True) S):kZi R [.tp fl xs,.tp fl' ys] S:=h
variable {NQ:Slo->Sto->Prop} {gs:GsM}
theorem zha (h:NQ (env.set i (some d)) S):gNm i d env S NQ:=h
theorem zCa (hl:xs.length=k) (h:gs xs env S NQ):gT k gs (.tp fl xs) env S NQ:=⟨hl,h⟩
def kgC (gs:GsM) (xs:List D) (NQ:Slo->Sto->Prop):Slo->Sto->Prop:=fun env' S'=>gs xs env' S' NQ
theorem zCc (h:g d env S (kgC gs xs NQ)):gC g gs (d :: xs) env S NQ:=h
theorem zyp (h:gs xs env S NQ):kgC gs xs NQ env S:=h
theorem zCb (h:NQ env S):gN [] env S NQ:=h
def zrj (d o:D) (env:Slo) (NQ:Slo->Sto->Prop):DQ:=fun i S2=>match zpI S2 o i d with
 | some S3=>NQ env S3
 | none=>False
def zxi (d:D) (mi:EM) (env:Slo) (NQ:Slo->Sto->Prop):DQ:=fun o S1=>mi env S1 (zrj d o env NQ)
theorem zyS {mo mi:EM} (h:mo env S (zxi d mi env NQ)):gIx mo mi d env S NQ:=h
theorem zuC {mi:EM} (h:mi env S (zrj d e env NQ)):zxi d mi env NQ e S:=h
theorem zuB {z:Int} (e0:S a=some (.lst xs)) (ei:ixN xs.length z=some j) (h:NQ env (put S a (.lst (xs.set j d)))):zrj d (.ref a) env NQ (.int z) S:=by
 unfold zrj zpI
 simp only [e0,ei]
 exact h
theorem zc7 {kvs:List (Key×D)} {kk:Key} (e0:S a=some (.dic kvs)) (ek:keyD e=some kk) (hl:kvs.length < sizeLine) (h:NQ env (put S a (.dic (putD kvs kk d)))):zrj d (.ref a) env NQ e S:=by
 unfold zrj zpI
 simp only [e0,ek,hl,if_true]
 exact h
theorem zx1 (e0:env[i]? = some (some d)) (h:Q d S):zag i env S Q:=by
 unfold zag
 rw [e0]
 exact h
theorem s_C (h:Q d S):mC d env S Q:=h
def zqj (r:BM) (x:D) (Q:DQ):DQ:=fun y S2=>r x y S2 Q
def zxr (r:BM) (mb:EM) (env:Slo) (Q:DQ):DQ:=fun x S1=>mb env S1 (zqj r x Q)
theorem zB5 (h:ma env S (zxr r mb env Q)):mOp r ma mb env S Q:=h
theorem zuX (h:mb env S (zqj r d Q)):zxr r mb env Q d S:=h
theorem zuW (h:r d e S Q):zqj r d Q e S:=h
theorem s_B (h:me env S (kB TQ)):mB me env S TQ:=h
theorem zB9 {b:Bool} (h:TQ b S):kB TQ (.bl b) S:=h
def zpp (TQ:Bool->Sto->Prop):DQ:=fun d S1=>match zt6 S1 d with
 | some b=>TQ b S1
 | none=>False
theorem zx3 (h:me env S (zpp TQ)):zfr me env S TQ:=h
theorem zuF {b:Bool} (e0:zt6 S d=some b) (h:TQ b S):zpp TQ d S:=by
 unfold zpp
 rw [e0]
 exact h
def zrn (u:TM) (env:Slo) (TQ:Bool->Sto->Prop):Bool->Sto->Prop:=fun c S1=>match c with
 | true=>u env S1 TQ
 | false=>TQ false S1
def kOr (u:TM) (env:Slo) (TQ:Bool->Sto->Prop):Bool->Sto->Prop:=fun c S1=>match c with
 | true=>TQ true S1
 | false=>u env S1 TQ
def zxs (TQ:Bool->Sto->Prop):Bool->Sto->Prop:=fun c S1=>TQ (!c) S1
theorem zy0 (h:t env S (zrn u env TQ)):zmd t u env S TQ:=h
theorem zB4 (h:t env S (kOr u env TQ)):mOr t u env S TQ:=h
theorem zyd (h:t env S (zxs TQ)):zhC t env S TQ:=h
theorem zuY {b:Bool} (h:TQ (!b) S):zxs TQ b S:=h
theorem zse (h:u env S TQ):zrn u env TQ true S:=h
theorem zsf (h:TQ false S):zrn u env TQ false S:=h
theorem zuU (h:TQ true S):kOr u env TQ true S:=h
theorem zuV (h:u env S TQ):kOr u env TQ false S:=h
theorem zbD {b:Bool} (h1:b=true->u env S TQ) (h2:b=false->TQ false S):zrn u env TQ b S:=by
 cases b
 ·exact h2 rfl
 ·exact h1 rfl
theorem zf7 {b:Bool} (h1:b=true->TQ true S) (h2:b=false->u env S TQ):kOr u env TQ b S:=by
 cases b
 ·exact h2 rfl
 ·exact h1 rfl
def zl6 (mb:EM) (env:Slo) (Q:DQ):Bool->Sto->Prop:=fun c S1=>match c with
 | true=>mb env S1 Q
 | false=>Q (.bl false) S1
def zrk (mb:EM) (env:Slo) (Q:DQ):Bool->Sto->Prop:=fun c S1=>match c with
 | true=>Q (.bl true) S1
 | false=>mb env S1 Q
def zqk (Q:DQ):Bool->Sto->Prop:=fun c S1=>Q (.bl (!c)) S1
theorem zvM (h:ma env S (kB (zl6 mb env Q))):zkq ma mb env S Q:=h
theorem zyc (h:ma env S (kB (zrk mb env Q))):zAn ma mb env S Q:=h
theorem zun (h:ma env S (kB (zqk Q))):zwc ma env S Q:=h
theorem zr1 {b:Bool} (h:Q (.bl (!b)) S):zqk Q b S:=h
theorem zpR (h:mb env S Q):zl6 mb env Q true S:=h
theorem zpS (h:Q (.bl false) S):zl6 mb env Q false S:=h
theorem zrZ (h:Q (.bl true) S):zrk mb env Q true S:=h
theorem zr0 (h:mb env S Q):zrk mb env Q false S:=h
theorem zcH {b:Bool} (h1:b=true->mb env S Q) (h2:b=false->Q (.bl false) S):zl6 mb env Q b S:=by
 cases b
 ·exact h2 rfl
 ·exact h1 rfl
theorem zdU {b:Bool} (h1:b=true->Q (.bl true) S) (h2:b=false->mb env S Q):zrk mb env Q b S:=by
 cases b
 ·exact h2 rfl
 ·exact h1 rfl
def zrl (ma mb:EM) (env:Slo) (Q:DQ):Bool->Sto->Prop:=fun c S1=>match c with
 | true=>ma env S1 Q
 | false=>mb env S1 Q
theorem zyJ (h:t env S (zrl ma mb env Q)):zqf t ma mb env S Q:=h
theorem zr4 (h:ma env S Q):zrl ma mb env Q true S:=h
theorem zr5 (h:mb env S Q):zrl ma mb env Q false S:=h
theorem zc8 {b:Bool} (h1:b=true->ma env S Q) (h2:b=false->mb env S Q):zrl ma mb env Q b S:=by
 cases b
 ·exact h2 rfl
 ·exact h1 rfl
def zqo (r':BM) (y:D) (mc:EM) (env:Slo) (Q:DQ):Bool->Sto->Prop:=fun k S3=>match k with
 | true=>mc env S3 (zqj r' y Q)
 | false=>Q (.bl false) S3
def zwF (r r':BM) (x:D) (mc:EM) (env:Slo) (Q:DQ):DQ:=fun y S2=>r x y S2 (kB (zqo r' y mc env Q))
def zxD (r r':BM) (mb mc:EM) (env:Slo) (Q:DQ):DQ:=fun x S1=>mb env S1 (zwF r r' x mc env Q)
variable {r':BM} {mc:EM}
theorem zsr (h:ma env S (zxD r r' mb mc env Q)):ziW r r' ma mb mc env S Q:=h
theorem zvj (h:mb env S (zwF r r' d mc env Q)):zxD r r' mb mc env Q d S:=h
theorem zvi (h:r d e S (kB (zqo r' e mc env Q))):zwF r r' d mc env Q e S:=h
theorem zr8 (h:mc env S (zqj r' d Q)):zqo r' d mc env Q true S:=h
theorem zr9 (h:Q (.bl false) S):zqo r' d mc env Q false S:=h
theorem zdV {b:Bool} (h1:b=true->mc env S (zqj r' d Q)) (h2:b=false->Q (.bl false) S):zqo r' d mc env Q b S:=by
 cases b
 ·exact h2 rfl
 ·exact h1 rfl
theorem zyf (h:AQ [] S):zal env S AQ:=h
def kC2 (d:D) (AQ:List D->Sto->Prop):List D->Sto->Prop:=fun ds S2=>AQ (d :: ds) S2
def kC1 (ms:AM) (env:Slo) (AQ:List D->Sto->Prop):DQ:=fun d S1=>ms env S1 (kC2 d AQ)
theorem zvJ (h:me env S (kC1 ms env AQ)):zac me ms env S AQ:=h
theorem zyB (h:ms env S (kC2 d AQ)):kC1 ms env AQ d S:=h
theorem zyA (h:AQ (d :: xs) S):kC2 d AQ xs S:=h
def kCB (c:CM) (Q:DQ):List D->Sto->Prop:=fun ds S1=>c ds S1 Q
theorem zCf (h:ms env S (kCB c Q)):mCB c ms env S Q:=h
theorem zyz (h:c xs S Q):kCB c Q xs S:=h
def kSp (sp:SpD) (W:XW) (env:Slo) (Q:DQ):List D->Sto->Prop:=fun ds S1=>sp ds S1 Q fun c fs S'=>W c fs env S'
theorem s_call (h:ms env S (kSp sp W env Q)):zaw sp W ms env S Q:=h
theorem zys (h:sp xs S Q fun c fs S'=>W c fs env S'):kSp sp W env Q xs S:=h
def kMk (C:Addr) (sp:SpD) (W:XW) (env:Slo) (Q:DQ):List D->Sto->Prop:=fun ds S1=>∀ p,S1 p=none->sp (.ref p :: ds) (put S1 p (.ins C [])) (fun v S2=>v = .non∧Q (.ref p) S2) fun c fs S'=>W c fs env S'
theorem zus (h:ms env S (kMk C sp W env Q)):zjY C sp W ms env S Q:=h
theorem zyu (h:∀ p,S p=none->sp (.ref p :: xs) (put S p (.ins C [])) (fun v S2=>v = .non∧Q (.ref p) S2) fun c fs S'=>W c fs env S'):kMk C sp W env Q xs S:=h
end
section
variable {env:Slo} {S:Sto} {Q:DQ} {A:Fin} {me mo ma mb:EM} {ms:AM} {d e x:D} {AQ:List D->Sto->Prop} {a C:Addr} {K:PySem.W.Frag} {W:XW} {sp:SpD} {f:Str} {fl:Bool} {xs ys:List D} {fs:List (Str×D)} {kvs:List (Key×D)} {kk:Key}
def kTup (Q:DQ):List D->Sto->Prop:=fun ds S1=>Q (.tup ds) S1
theorem zuE (h:Q (.tup xs) S):kTup Q xs S:=h
def zxx (sp:SpD) (W:XW) (a:Addr) (env:Slo) (Q:DQ):List D->Sto->Prop:=fun ds S2=>sp (.ref a :: ds) S2 Q fun c fs S'=>W c fs env S'
def zwB (C:Addr) (f:Str) (sp:SpD) (W:XW) (ms:AM) (env:Slo) (Q:DQ):DQ:=fun d S1=>match d with
 | .ref a=>match S1 a with
  | some (.ins C' fs)=>C'=C∧fs.lookup f=none∧ms env S1 fun ds S2=>sp (.ref a :: ds) S2 Q fun c fs S'=>W c fs env S'
  | _=>False
 | _=>False
theorem zur (h:mo env S (zwB C f sp W ms env Q)):zbG C f sp W mo ms env S Q:=h
theorem zu5 (e0:S a=some (.ins C fs)) (el:fs.lookup f=none) (h:ms env S (zxx sp W a env Q)):zwB C f sp W ms env Q (.ref a) S:=by
 unfold zwB
 simp only [e0]
 exact ⟨trivial,el,h⟩
theorem zu4 (h:sp (.ref a :: xs) S Q fun c fs S'=>W c fs env S'):zxx sp W a env Q xs S:=h
def zwD (K:PySem.W.Frag) (f:Str) (Q:DQ):DQ:=fun d S1=>match d with
 | .ref a=>match S1 a with
  | some (.ins C fs)=>match fs.lookup f with
   | some v=>FOk K C f∧Q v S1
   | none=>False
  | _=>False
 | _=>False
theorem zyT (h:me env S (zwD K f Q)):zd6 K me f env S Q:=h
theorem zve (e0:S a=some (.ins C fs)) (el:fs.lookup f=some d) (ok:FOk K C f) (h:Q d S):zwD K f Q (.ref a) S:=by
 unfold zwD
 simp only [e0,el]
 exact ⟨ok,h⟩
def zwt (K:PySem.W.Frag) (f:Str) (y:D) (env:Slo) (A:Fin):DQ:=fun d S2=>match d with
 | .ref a=>match S2 a with
  | some (.ins C fs)=>FOk K C f∧fs.length < 1000∧A.nx env (put S2 a (.ins C (zbE f y fs)))
  | _=>False
 | _=>False
def zxk (K:PySem.W.Frag) (f:Str) (mo:EM) (env:Slo) (A:Fin):DQ:=fun y S1=>mo env S1 (zwt K f y env A)
theorem zui (h:me env S (zxk K f mo env A)):zcw K mo me f A env S:=h
theorem zuJ (h:mo env S (zwt K f d env A)):zxk K f mo env A d S:=h
theorem zb3 (e0:S a=some (.ins C fs)) (ok:FOk K C f) (hl:fs.length < 1000) (h:A.nx env (put S a (.ins C (zbE f d fs)))):zwt K f d env A (.ref a) S:=by
 unfold zwt
 simp only [e0]
 exact ⟨ok,hl,h⟩
theorem zsg {z:Int} (e0:atI xs z=some d) (h:Q d S):vIx (.tp fl xs) (.int z) S Q:=by
 unfold vIx
 simp only [e0]
 exact h
theorem zyD {z:Int} (e0:atI xs z=some d) (h:Q d S):vIx (.rol xs) (.int z) S Q:=by
 unfold vIx
 simp only [e0]
 exact h
theorem zyC {x:Str} {z:Int} {c:Nat} (e0:atI x.cps.toList z=some c) (h:Q (.str ⟨#[c]⟩) S):vIx (.str x) (.int z) S Q:=by
 unfold vIx
 simp only [e0]
 exact h
theorem zyE {z:Int} (e0:S a=some (.lst xs)) (e1:atI xs z=some d) (h:Q d S):vIx (.ref a) (.int z) S Q:=by
 unfold vIx
 simp only [e0,e1]
 exact h
theorem zyF (e0:S a=some (.dic kvs)) (ek:keyD e=some kk) (e1:valD kvs kk=some d) (h:Q d S):vIx (.ref a) e S Q:=by
 unfold vIx
 cases e <;> simp_all
theorem zvN {i j:Int} (h:Q (.int (i+j)) S):zcp (.int i) (.int j) S Q:=h
theorem zsk {i j:Int} (h:Q (.int (i+j)) S):zkQ (.int i) (.int j) S Q:=h
theorem zx5 {i j:Int} (h:Q (.int (i - j)) S):zpk (.int i) (.int j) S Q:=h
theorem zyh {i j:Int} (hj:0 < j) (h:Q (.int (i % j)) S):zpl (.int i) (.int j) S Q:=⟨hj,h⟩
theorem zvG {i j:Int} (hj:CDivW i j) (h:Q (.int (i / j)) S):zkR (.int i) (.int j) S Q:=⟨hj,h⟩
theorem zyb {i j:Int} (hj:CPow i j) (h:Q (.int (i ^ j.toNat)) S):zt0 (.int i) (.int j) S Q:=⟨hj,h⟩
theorem zuq {i j:Int} (hj:CMul i j) (h:Q (.int (i * j)) S):zns (.int i) (.int j) S Q:=⟨hj,h⟩
theorem zyk {i j:Int} (h:Q (.bl (decide (i < j))) S):vLt (.int i) (.int j) S Q:=h
theorem zyn {i j:Int} (h:Q (.bl (decide (i≤j))) S):vLe (.int i) (.int j) S Q:=h
theorem zy2 {i:Int} (h:Q (.int (if i < 0 then -i else i)) S):zxa [.int i] S Q:=h
theorem zyH {i:Int} (h:Q (.int i) S):vInt [.int i] S Q:=h
theorem zyj {i j:Int} (h:Q (.int (if j > i then j else i)) S):zw8 [.int i,.int j] S Q:=h
theorem zyU {g:Bool->Bool} {i j:Str} (h:Q (.bl (g (decide (i=j)))) S):zkr g (.str i) (.str j) S Q:=h
theorem zyV {g:Bool->Bool} {i j:Int} (h:Q (.bl (g (decide (i=j)))) S):zkr g (.int i) (.int j) S Q:=h
theorem zyW {g:Bool->Bool} {i j:Bool} (h:Q (.bl (g (decide (i=j)))) S):zkr g (.bl i) (.bl j) S Q:=h
theorem zuy {n:Nat} (e0:zwm S d=some n) (h:Q (.int n) S):zdN [d] S Q:=by
 unfold zdN
 simp only [e0]
 exact h
theorem zqR (e0:zpJ S d=some xs) (h:∀ p,S p=none->Q (.ref p) (put S p (.lst xs))):zjd [d] S Q:=by
 unfold zjd
 simp only [e0]
 exact h
theorem zod (e0:zpJ S d=some xs) (h:Q (.tp (zqy d) xs) S):zbX [d] S Q:=by
 unfold zbX
 simp only [e0]
 exact h
theorem zyQ {i j:Int} (h:Q (.bl (decide (j < i))) S):vGt (.int i) (.int j) S Q:=h
theorem zyR {i j:Int} (h:Q (.bl (decide (j≤i))) S):vGe (.int i) (.int j) S Q:=h
theorem zym {i j:Str} (h:Q (.bl (!decide (j.cps.toList < i.cps.toList))) S):vLe (.str i) (.str j) S Q:=h
def kTp (Q:DQ):List D->Sto->Prop:=fun ds S1=>ds.length≤sizeLine∧Q (.tup ds) S1
def kLs (Q:DQ):List D->Sto->Prop:=fun ds S1=>ds.length≤sizeLine∧∀ p,S1 p=none->Q (.ref p) (put S1 p (.lst ds))
theorem zx2 (h:ms env S (kTp Q)):zcV ms env S Q:=h
theorem zaT (hl:xs.length≤sizeLine) (h:Q (.tup xs) S):kTp Q xs S:=⟨hl,h⟩
theorem zyl (h:ms env S (kLs Q)):zf2 ms env S Q:=h
theorem zcl (hl:xs.length≤sizeLine) (h:∀ p,S p=none->Q (.ref p) (put S p (.lst xs))):kLs Q xs S:=⟨hl,h⟩
theorem zqU {x y:Str} (hl:x.length+y.length≤sizeLine) (h:Q (.str (x++y)) S):zcp (.str x) (.str y) S Q:=⟨hl,h⟩
theorem zc9 (hl:xs.length+ys.length≤sizeLine) (h:Q (.tup (xs++ys)) S):zcp (.tup xs) (.tup ys) S Q:=⟨rfl,hl,h⟩
theorem zog {b:Addr} (e0:S a=some (.lst xs)) (e1:S b=some (.lst ys)) (hl:xs.length+ys.length≤sizeLine) (h:∀ p,S p=none->Q (.ref p) (put S p (.lst (xs++ys)))):zcp (.ref a) (.ref b) S Q:=by
 unfold zcp
 simp only [e0,e1]
 exact ⟨hl,h⟩
def zxv (r:MM) (d:D) (Q:DQ):List D->Sto->Prop:=fun ds S2=>r d ds S2 Q
def zxw (ok:D->Sto->Prop) (r:MM) (ms:AM) (env:Slo) (Q:DQ):DQ:=fun d S1=>ok d S1∧ms env S1 (zxv r d Q)
variable {ok:D->Sto->Prop} {rm:MM}
theorem zyi (h:mo env S (zxw ok rm ms env Q)):ziB ok rm mo ms env S Q:=h
theorem zr2 (e0:S a=some (.lst xs)) (h:ms env S (zxv rm (.ref a) Q)):zxw okL rm ms env Q (.ref a) S:=by
 refine ⟨?_,h⟩
 unfold okL
 simp only [e0]
theorem zu3 (h:rm d xs S Q):zxv rm d Q xs S:=h
theorem s_app (e0:S a=some (.lst xs)) (hl:xs.length < sizeLine) (h:Q .non (put S a (.lst (xs++[d])))):zjL (.ref a) [d] S Q:=by
 unfold zjL
 simp only [e0]
 exact ⟨hl,h⟩
def ztK (d k:D) (Q:DQ):DQ:=fun z S3=>match d with
 | .ref a=>match S3 a,keyD k with
  | some (.dic kvs),some kk=>Q ((valD kvs kk).getD z) S3
  | _,_=>False
 | _=>False
def zxA (d:D) (mx:EM) (env:Slo) (Q:DQ):DQ:=fun k S2=>mx env S2 (ztK d k Q)
def zxB (mk mx:EM) (env:Slo) (Q:DQ):DQ:=fun d S1=>ztG d S1∧mk env S1 (zxA d mx env Q)
variable {mk mx:EM}
theorem zvz (h:mo env S (zxB mk mx env Q)):zlZ mo mk mx env S Q:=h
theorem zvb (e0:S a=some (.dic kvs)) (h:mk env S (zxA (.ref a) mx env Q)):zxB mk mx env Q (.ref a) S:=by
 refine ⟨?_,h⟩
 unfold ztG
 simp only [e0]
theorem zva (h:mx env S (ztK d e Q)):zxA d mx env Q e S:=h
theorem zu9 (e0:S a=some (.dic kvs)) (ek:keyD e=some kk) (h:Q ((valD kvs kk).getD d) S):ztK (.ref a) e Q d S:=by
 unfold ztK
 simp only [e0,ek]
 exact h
theorem zkw (h:∀ p,S p=none->Q (.ref p) (put S p (.dic []))):zl0 env S Q:=h
def zwx (x y:D) (PQ:List (D×D)->Sto->Prop):List (D×D)->Sto->Prop:=fun ps S3=>PQ ((x,y) :: ps) S3
def zww (x:D) (r:List (EM×EM)) (env:Slo) (PQ:List (D×D)->Sto->Prop):DQ:=fun y S2=>mPs r env S2 (zwx x y PQ)
def zxq (mv:EM) (r:List (EM×EM)) (env:Slo) (PQ:List (D×D)->Sto->Prop):DQ:=fun x S1=>mv env S1 (zww x r env PQ)
variable {PQ:List (D×D)->Sto->Prop} {mps:List (EM×EM)} {ps:List (D×D)}
theorem zya (h:ma env S (zxq mb mps env PQ)):mPs ((ma,mb) :: mps) env S PQ:=h
theorem zx9 (h:PQ [] S):mPs [] env S PQ:=h
theorem zuS (h:mb env S (zww d mps env PQ)):zxq mb mps env PQ d S:=h
theorem zuR (h:mPs mps env S (zwx d e PQ)):zww d mps env PQ e S:=h
theorem zuT (h:PQ ((d,e) :: ps) S):zwx d e PQ ps S:=h
def kDi (p:Addr) (Q:DQ):List (D×D)->Sto->Prop:=fun ps S2=>match znO ps with
 | some kvs=>S2 p=some (.dic [])∧kvs.length≤15∧Q (.ref p) (put S2 p (.dic (zbb [] kvs)))
 | none=>False
theorem zlP (h:∀ p,S p=none->mPs mps env (put S p (.dic [])) (kDi p Q)):zmx mps env S Q:=h
theorem zof (e0:znO ps=some kvs) (e1:S a=some (.dic [])) (hl:kvs.length≤15) (h:Q (.ref a) (put S a (.dic (zbb [] kvs)))):kDi a Q ps S:=by
 unfold kDi
 simp only [e0]
 exact ⟨e1,hl,h⟩
theorem zuj (h:∀ p,S p=none->Q (.ref p) (put S p (.set (fun _=>false) 0))):zrB [] S Q:=h
theorem zvI (e0:S a=some (.dic kvs)) (h:∀ p,S p=none->Q (.ref p) (put S p (.dic kvs))):znt [.ref a] S Q:=by
 unfold znt
 simp only [e0]
 exact h
def zxF (d:D) (Q:DQ):List D->Sto->Prop:=fun ds S2=>match d,ds with
 | .ref a,[y]=>match S2 a,keyD y with
  | some (.set f n),some k=>n+1 < scanBound∧Q .non (put S2 a (.set (fun j=>f j || decide (j=k)) (if f k=true then n else n+1)))
  | _,_=>False
 | _,_=>False
def zxG (ms:AM) (env:Slo) (Q:DQ):DQ:=fun d S1=>okS d S1∧ms env S1 (zxF d Q)
theorem zy1 (h:mo env S (zxG ms env Q)):zxd mo ms env S Q:=h
theorem zvq {fu:Key->Bool} {n:Nat} (e0:S a=some (.set fu n)) (h:ms env S (zxF (.ref a) Q)):zxG ms env Q (.ref a) S:=by
 refine ⟨?_,h⟩
 unfold okS
 simp only [e0]
theorem zvp {fu:Key->Bool} {n:Nat} (e0:S a=some (.set fu n)) (ek:keyD d=some kk) (hn:n+1 < scanBound) (h:Q .non (put S a (.set (fun j=>fu j || decide (j=kk)) (if fu kk=true then n else n+1)))):zxF (.ref a) Q [d] S:=by
 unfold zxF
 simp only [e0,ek]
 exact ⟨hn,h⟩
theorem zyI {g:Bool->Bool} (e0:S a=some (.dic kvs)) (ek:keyD d=some kk) (h:Q (.bl (g (valD kvs kk).isSome)) S):zlJ g d (.ref a) S Q:=by
 unfold zlJ
 simp only [e0,ek]
 exact h
theorem zsj {g:Bool->Bool} {fu:Key->Bool} {n:Nat} (e0:S a=some (.set fu n)) (ek:keyD d=some kk) (h:Q (.bl (g (fu kk))) S):zlJ g d (.ref a) S Q:=by
 unfold zlJ
 simp only [e0,ek]
 exact h
theorem zlO {g:Bool->Bool} {p:PyData} {qs:List PyData} (e0:S a=some (.lst xs)) (e1:rs S 40 d=some p) (e2:rs S 40 (.ref a)=some (.list qs)) (h:Q (.bl (g (qs.any fun z=>PyData.eqv z p))) S):zlJ g d (.ref a) S Q:=by
 unfold zlJ
 simp only [e0,e1,e2]
 exact h
theorem zjj {g:Bool->Bool} {p:PyData} {qs:List PyData} (e1:rs S 40 d=some p) (e2:rs S 40 (.tp fl xs)=some (.tuple qs)) (h:Q (.bl (g (qs.any fun z=>PyData.eqv z p))) S):zlJ g d (.tp fl xs) S Q:=by
 unfold zlJ
 simp only [e1,e2]
 exact h
theorem zyG {g:Bool->Bool} (h:Q (.bl (g true)) S):zqP g .non .non S Q:=h
theorem zsi {ty:String} {b:String} {c:Bool} (e0:tyD S d=some ty) (e1:zro ty b=some c) (h:Q (.bl c) S):zkk [d,.ty b] S Q:=by
 unfold zkk
 simp only [e0,e1]
 exact h
def zwr (d:D) (l:Option Int) (Q:DQ):Option Int->Sto->Prop:=fun h S3=>vSl d l h S3 Q
def zws (d:D) (hi:OM) (env:Slo) (Q:DQ):Option Int->Sto->Prop:=fun l S2=>hi env S2 (zwr d l Q)
def zxj (lo hi:OM) (env:Slo) (Q:DQ):DQ:=fun d S1=>lo env S1 (zws d hi env Q)
variable {lo hi:OM} {OQ:Option Int->Sto->Prop} {l h':Option Int}
theorem zB3 (h:me env S (zxj lo hi env Q)):mSl me lo hi env S Q:=h
theorem zuI (h:lo env S (zws d hi env Q)):zxj lo hi env Q d S:=h
theorem zuH (h:hi env S (zwr d l Q)):zws d hi env Q l S:=h
theorem zuG (h:vSl d l h' S Q):zwr d l Q h' S:=h
theorem zye (h:OQ none S):zs2 env S OQ:=h
def kP (OQ:Option Int->Sto->Prop):DQ:=fun d S1=>match d with
 | .int i=>OQ (some i) S1
 | _=>False
theorem s_P (h:me env S (kP OQ)):mP me env S OQ:=h
theorem zB8 {i:Int} (h:OQ (some i) S):kP OQ (.int i) S:=h
theorem zx6 (h:Q (.tup (cutD xs l h')) S):vSl (.tup xs) l h' S Q:=⟨rfl,h⟩
theorem zx7 (h:∀ p,S p=none->Q (.ref p) (put S p (.lst (cutD xs l h')))):vSl (.rol xs) l h' S Q:=h
theorem zuh (e0:S a=some (.lst xs)) (h:∀ p,S p=none->Q (.ref p) (put S p (.lst (cutD xs l h')))):vSl (.ref a) l h' S Q:=by
 unfold vSl
 simp only [e0]
 exact h
variable {g:GM} {t:TM} {G:Sto->Prop} {mi:IM} {vs:List Nat}
def kLc (g:GM) (t:TM) (me:EM) (vs:List Nat) (env:Slo) (Q:DQ):List D->(Sto->Prop)->Sto->Prop:=fun xs G S1=>∀ p,S1 p=none->lcL g t me G p Q (zcJ env vs) xs (put S1 p (.lst []))
theorem zB6 (h:mi env S (kLc g t me vs env Q)):mLc mi g t me vs env S Q:=h
theorem zyv (h:∀ p,S p=none->lcL g t me G p Q (zcJ env vs) xs (put S p (.lst []))):kLc g t me vs env Q xs G S:=h
def kDc (g:GM) (t:TM) (mk mb:EM) (vs:List Nat) (env:Slo) (Q:DQ):List D->(Sto->Prop)->Sto->Prop:=fun xs G S1=>∀ p,S1 p=none->dcL g t mk mb G p Q (zcJ env vs) xs (put S1 p (.dic []))
theorem zCe (h:mi env S (kDc g t mk mb vs env Q)):mDc mi g t mk mb vs env S Q:=h
theorem zyy (h:∀ p,S p=none->dcL g t mk mb G p Q (zcJ env vs) xs (put S p (.dic []))):kDc g t mk mb vs env Q xs G S:=h
theorem zuw (e0:S a=some (.lst xs)) (h:Q (.int xs.length) S):zdN [.ref a] S Q:=zuy (n:=xs.length) (by unfold zwm;simp only [e0]) h
theorem zux (e0:S a=some (.dic kvs)) (h:Q (.int kvs.length) S):zdN [.ref a] S Q:=zuy (n:=kvs.length) (by unfold zwm;simp only [e0]) h
theorem zut (h:Q (.int xs.length) S):zdN [.tp fl xs] S Q:=h
theorem zuv (h:Q (.int xs.length) S):zdN [.rol xs] S Q:=h
theorem zuu {x:Str} (h:Q (.int x.length) S):zdN [.str x] S Q:=h
theorem zkZ (e0:S a=some (.lst xs)) (h:∀ p,S p=none->Q (.ref p) (put S p (.lst xs))):zjd [.ref a] S Q:=zqR (by unfold zpJ;simp only [e0]) h
theorem zoe (h:∀ p,S p=none->Q (.ref p) (put S p (.lst xs))):zjd [.tp fl xs] S Q:=zqR rfl h
theorem zpM (e0:S a=some (.lst xs)) (h:Q (.tup xs) S):zbX [.ref a] S Q:=zod (by unfold zpJ;simp only [e0]) h
theorem zpL (h:Q (.tup xs) S):zbX [.tup xs] S Q:=zod rfl h
theorem zvr {b:String} {c:Bool} (e1:zro "tuple" b=some c) (h:Q (.bl c) S):zkk [.tp fl xs,.ty b] S Q:=zsi rfl e1 h
theorem zvs {x:Str} {b:String} {c:Bool} (e1:zro "str" b=some c) (h:Q (.bl c) S):zkk [.str x,.ty b] S Q:=zsi rfl e1 h
theorem zvt {b:String} {c:Bool} (e0:S a=some (.lst xs)) (e1:zro "list" b=some c) (h:Q (.bl c) S):zkk [.ref a,.ty b] S Q:=zsi (by unfold tyD;simp only [e0]) e1 h
theorem zrS {TQ:Bool->Sto->Prop} {b:Bool} (h:TQ b S):zpp TQ (.bl b) S:=h
end
structure zjC (N P:List Str) (sc:Scope):Prop where
 kind:sc.kind = .function
 co:sc.isCoroutine=false
 gen:sc.isGenerator=false
 nd:N.Nodup
 pre:N.take P.length=P
 par:∀ x∈P,sc.names.lookup x=some .local
 nocell:∀ y∈sc.names,y.2≠.cell
 free:∀ y∈sc.names,y.2 = .free->y.1 = "__class__"
 cls:sc.names.lookup ("__class__" : Str)=some .free
 sup:sc.names.lookup ("super" : Str)=some .globalImplicit
abbrev ziN (qual:Str) (scope:Scope) (L f:Addr) (cd:Value) (cc:Addr):Env:=PySem.W.ksEnv qual scope L f cd cc
def cxS (P:Program) (w:World) (K:PySem.W.Frag) (mg:Str->Option Value) (base:Heap) (N:List Str) (qual:Str) (scope:Scope) (f:Addr) (cd:Value) (cc:Addr) (A:Around) (outer:List Env) (s:Shared) (H:Hp) (E:XK):Cx where
 prog:=P
 w:=w
 K:=K
 mg:=mg
 base:=base
 A:=A.deeper (ziN qual scope s.heap.objs.size f cd cc)
 N:=N
 s_0:=s
 H_0:=H
 env:=ziN qual scope s.heap.objs.size f cd cc
 outer:=outer
 stack:=ziN qual scope s.heap.objs.size f cd cc :: outer
 ex:=[]
 calm:=true
 fn:=fun x=>!(x == ("__class__" : Str))
 pn:=[]
 xe:=fun e s'=>wpAny (model P w) (A.deeper (ziN qual scope s.heap.objs.size f cd cc)) (leaving (ziN qual scope s.heap.objs.size f cd cc) e) (fun _ s''=>L2.CX P w outer H s E e s'') (fun e' s''=>L2.CX P w outer H s E e' s'') s'
theorem zhS {x:Str} {c cc:Addr} (h:([(("__class__" : Str),cc)]:List (Str×Addr)).lookup x=some c):x = "__class__" ∧ c=cc:=by
 rw [List.lookup_cons] at h
 cases q:(x == ("__class__" : Str)) with
 | true=>rw [q] at h;cases h;exact ⟨beq_iff_eq.mp q,rfl⟩
 | false=>rw [q] at h;cases h
theorem zta {P:Program} {w:World} {K:PySem.W.Frag} {mg:Str->Option Value} {base:Heap} {N ps:List Str} {qual:Str} {scope:Scope} {f:Addr} {cd:Value} {cc:Addr} {A:Around} {outer:List Env} {s:Shared} {H:Hp} {E:XK} {us:List Value} {vs:List V} {h0:Heap} {t0:Nat} {v0:Option Value} {o0:Obj}
  (Z:zjC N ps scope) (hd:A.handled=none) (e0:Env0 P w K mg base A outer s H) (hl:vs.length=ps.length) (r:Vals vs us) (kc:K.lookup cc=some o0) (dc:o0.data = .cell v0)
  (hns:h0.Ns s.heap.objs.size (fun x=>(ps.zip us).reverse.lookup x)) (hk:∀ b o,s.heap.get? b=some o->h0.get? b=some o) :
  Inv (cxS P w K mg base N qual scope f cd cc A outer s H E) [] (L2.start N vs) H { s with heap:=h0,toks:=t0 }:=by
 have hpl:ps.length≤N.length:=by have:=congrArg List.length Z.pre;rw [List.length_take] at this;omega
 obtain ⟨hb1,hb2⟩:=e0.bs cc o0 (e0.mod.kin _ _ kc)
 have no:∀ b:Addr,b∉([]:List Addr):=fun b z=>by simp at z
 refine ⟨⟨e0.mod,Z.kind,rfl,rfl,Nat.le_refl _,fun x y c a b=>?_,fun y hy=>?_,fun y c a b=>?_,fun _=>hd,Around.frames_deeper e0.frames,.inr ⟨rfl,rfl⟩,fun b z=>absurd z (no b),e0.bs,e0.bsz,fun b _ _=>no b,fun b z=>absurd z (no b),e0.funs,e0.frf⟩,
  rfl,e0.bare,Un.kept hk,⟨_,hns,fun i y v a b c=>?_⟩,fun y c a=>?_,e0.hok.fresh (Nat.le_refl _),fun y c a=>?_,fun p hp=>?_,e0.hok.kept hk,?_⟩
 ·rw [(zhS a).1,(zhS b).1]
 ·have hy':scope.names.lookup y=some .cell ∨ scope.names.lookup y=some .free:=hy
  rcases hy' with q | q
  ·exact absurd rfl (Z.nocell _ (PySem.mem_of_lookup q))
  ·have:=Z.free _ (PySem.mem_of_lookup q) rfl
   have ey:y = "__class__" := this
   subst ey
   exact ⟨cc,rfl⟩
 ·have a':(!(y == ("__class__" : Str)))=true:=a
  rw [(zhS b).1] at a'
  simp at a'
 ·have hi:i < vs.length:=by
   unfold L2.start at b
   by_cases hi:i < vs.length
   ·exact hi
   ·rw [List.getElem?_append_right (by simpa using hi),List.getElem?_replicate] at b
    split at b <;> cases b
  have ha:vs[i]? = some v:=by
   unfold L2.start at b
   rw [List.getElem?_append_left (by simpa using hi),List.getElem?_map] at b
   cases q:vs[i]? with
   | none=>rw [q] at b;cases b
   | some z=>rw [q] at b;cases b;rfl
  obtain ⟨u,hu,rv⟩:=r.get ha
  have hp:ps[i]? = some y:=by
   rw [← Z.pre,List.getElem?_take_of_lt (by omega)];exact a
  have ndP:ps.Nodup:=by rw [← Z.pre];exact Z.nd.sublist (List.take_sublist _ _)
  have ky:=Z.par y (List.mem_of_getElem? hp)
  refine ⟨u,rv,.inl ⟨ky,?_⟩⟩
  have q1:=bindL_get (kindOf:=fun x=>scope.names.lookup x) (m:=fun _=>none) ndP hp hu ky
  rw [bindL_loc _ _ (fun x hx=>Z.par _ (List.of_mem_zip (a:=x.1) (b:=x.2) hx).1)] at q1
  simpa using q1
 ·obtain ⟨_,rfl⟩:=zhS a
  exact ⟨v0,o0,hk _ _ hb1,dc⟩
 ·obtain ⟨_,rfl⟩:=zhS a
  exact hb2
 ·exact absurd hp (by simp [cxS])
 ·unfold L2.start
  show _=N.length
  rw [List.length_append,List.length_map,List.length_replicate]
  omega
def zs1 (C:Addr) (sp:SpD) (W:XW) (ma:AM):EM:=fun env S Q=>zag 0 env S fun d S1=>match d with
 | .ref a=>(match S1 a with
  | some (.ins C' _)=>C'=C∧ma env S1 fun ds S2=>sp (.ref a :: ds) S2 Q fun c fs S'=>W c fs env S'
  | _=>False)
 | _=>False
theorem zx4 {C a:Addr} {sp:SpD} {W:XW} {ma:AM} {env:Slo} {S:Sto} {Q:DQ} {fs:List (Str×D)} (e0:env[0]? = some (some (.ref a))) (e1:S a=some (.ins C fs)) (h:ma env S (zxx sp W a env Q)):zs1 C sp W ma env S Q:=by
 unfold zs1 zag
 simp only [e0,e1]
 exact ⟨trivial,h⟩
theorem zrH {C:Addr} {sp:SpD} {W:XW} {ma:AM} {env:Slo} {S:Sto} {Q:DQ} (h:zs1 C sp W ma env S Q):∃ a fs,env[0]? = some (some (.ref a))∧S a=some (.ins C fs)∧ma env S fun ds S2=>sp (.ref a :: ds) S2 Q fun c fs S'=>W c fs env S':=by
 unfold zs1 zag at h
 split at h
 ·rename_i d e0
  split at h
  ·rename_i a
   split at h
   ·rename_i C' fs e1
    obtain ⟨rfl,h⟩:=h
    exact ⟨a,fs,e0,e1,h⟩
   ·exact h.elim
  ·exact h.elim
 ·exact h.elim
structure zpj (env:Env) (p0 p1 pa pos pe:Pos) (e:Expr) (es:List Expr) (pl:Sem Bool):Prop where
 hi:interactive env=false
 hs:swapsWith (.Call (.Attribute (.Call (.Name "super" p0) [] [] p1) "__init__" pa) (e :: es) [] pos) none pe.line env=pure false
 he:eval (.Call (.Attribute (.Call (.Name "super" p0) [] [] p1) "__init__" pa) (e :: es) [] pos) env=(do
   let ov ← attributeBase (.Call (.Name "super" p0) [] [] p1) "__init__" env (eval (.Call (.Name "super" p0) [] [] p1) env)
   standAt pa.atName
   let (f,first) ← holding [ov] (getMethod ov "__init__" pl)
   callWith pos f first (backTo pos (starEach (e :: es) env)) [])
 st:starEach (e :: es) env=(false,eval e env) :: starEach es env
 pl_:(backTo pos (starEach es env)).any (·.1)=false
theorem zpA {X:Cx} {body:List Stmt} {qual:Str} {scope:Scope} {fd fd2:FuncData} {oc c1 x1:Value} {od c2 x2:Option Addr} {osl c3 x3:Array (Option Value)} {f g cda cc C L a dx:Addr} {ps ps2:List Str} {k:Nat} {CX:CXT} {sp:Sp} {E:L2.St->XK} {e:Expr} {es:List Expr} {t:TA} {p0 p1 pa pos pe:Pos} {ar:Arg} {pl:Sem Bool} {fvs:Array Value} {tf:Tok} {cd:ClassData}
  {σ:L2.St} {H:Hp} {s:Shared} {fs:List (Str×V)} {Q:VK}
  (I:Inv X [] σ H s) (henv:X.env=ziN qual scope L f (.ref cda) cc) (Z:zjC X.N ps scope)
  (lk:X.K.lookup f=some ⟨oc,od,.func fd,osl⟩) (hp:(fd.params.posonlyargs++fd.params.args).head? = some ar) (h0:X.N[0]? = some ar.arg) (h1:ar.arg∈ps)
  (kcode:X.K.lookup cda=some ⟨c1,c2,.fields fvs,c3⟩) (hvs:fvs[2]? = some (.str X.prog.main.file tf)) (kcell:X.K.lookup cc=some ⟨x1,x2,.cell (some (.ref C)),x3⟩)
  (kC:PySem.W.clsIn X.K C=some cd) (hsub:PySem.W.mroIn X.K C (.ref C)=some true) (hst:PySem.W.nsIn X.K cStatics "thirdparty.any" = some none)
  (hm:PySem.W.ks_superIn X.K C C "__init__" = some (some (.ref g))) (ht:PySem.W.typeIn X.K (.ref g)=some (.type "function")) (hfi:PySem.W.fnIn X.K g=true)
  (gs:X.mg "super" = none) (htop:(X.prog.main.scope.names.lookup ("super" : Str)).isSome=false) (hboot:bootBuiltins "super" = some (.type "super"))
  (es0:σ[0]? = some (some (.ref a))) (eH:H a=some (.ins C dx fs)) (fo:zpj X.env p0 p1 pa pos pe e es pl)
  (ha:PA X (e :: es) t) (F:FnOk X.prog X.w X.K X.mg X.base CX k g fd2 ps2 sp) (hr:Room k X.A) (b:Binds X.K fd2 ps2 []) (hx:PassesAt CX X σ (E σ)) (q:t σ H fun vs H2=>sp (.ref a :: vs) H2 Q (E σ)) :
  _root_.PySem.wpAt (model X.prog X.w) X.A (.func body X.env) (eval (.Call (.Attribute (.Call (.Name "super" p0) [] [] p1) "__init__" pa) (e :: es) [] pos) X.env) (EP X [] σ Q) X.xe s:=by
 refine ks_wpAt_MethodCall ?_ fo.he
 have KX:=I.kIn
 have hk:X.env.scope.kind = .function:=by rw [henv];exact Z.kind
 have ks:X.env.kindOf "super" = some .globalImplicit:=by rw [henv];exact Z.sup
 have kcl:X.env.kindOf "__class__" = some .free:=by rw [henv];exact Z.cls
 have kar:X.env.kindOf ar.arg=some .local:=by rw [henv];exact Z.par _ h1
 obtain ⟨mA,O,_,_,_,_⟩:=ins_get I.hok eH
 obtain ⟨od',J,_⟩:=O.look
 obtain ⟨ml,hns,hlk⟩:=I.loc
 obtain ⟨u,ru,lu⟩:=hlk 0 _ _ h0 es0 (.inl kar)
 cases ru
 have hml:ml ar.arg=some (.ref a):=by
  rcases lu with ⟨_,z⟩ | ⟨z,_⟩
  ·exact z
  ·rw [kar] at z;rcases z with z | z <;> cases z
 obtain ⟨oD,hD1,hD2⟩:∃ oD,s.heap.get? C=some oD∧oD.data = .cls cd:=by
  unfold PySem.W.clsIn at kC
  split at kC
  ·rename_i z;cases kC;exact ⟨_,KX _ _ z,rfl⟩
  ·cases kC
 obtain ⟨mb,hb1,hb2⟩:=I.mod.blt
 have hxC:a≠C:=PySem.W.ks_ne KX J kC
 refine ks_wpAt_super_base ks kcl (by decide) (by rw [henv]) (KX _ _ lk) rfl hp (by rw [henv]) (KX _ _ kcode) rfl hvs (by simp) htop ?_
 refine PySem.W.ks_loadName_global hk ks (Calls.loadGlobal_builtin (by rw [I.ok.glob];exact I.mod.glob.keeps I.bk) gs (by rw [I.ok.blt];exact hb1.keeps I.bk) ((hb2 _ (by decide +kernel)).trans hboot) ⟨rfl,?_⟩)
 refine wpAny_loadName_free hk kcl (c:=cc) (by rw [henv];rfl) ⟨_,KX _ _ kcell,rfl⟩ ?_
 refine wpAny_loadName_local hk kar hns hml ?_
 obtain ⟨hh,gg,dd,tt,oo⟩:=s
 refine ks_wpAny_isType_cls hD1 hD2 ⟨rfl,?_⟩
 refine ks_wpAny_call_super hD1 hD2 J.at_ J.cls (fun c z=>?_) (PySem.W.looks_mroIn KX hsub) (fun h' eso kh=>?_)
 ·have no:=J.no
  unfold PySem.W.notCls at no
  rw [z] at no
  cases no
 have I1:Inv X [] σ H ⟨h',gg,dd,tt,oo⟩:=I.kept (t':=tt) kh
 have hmr:PySem.W.Looks (model X.prog X.w) h' (mroOf (.ref C)) cd.mro:=(PySem.W.looks_clsIn I1.kIn kC).andThen .now
 have hal:PySem.W.alongIn X.K "__init__" ((cd.mro.dropWhile (· != .ref C)).drop 1)=some (some (.ref g)):=by
  have:=hm
  unfold PySem.W.ks_superIn at this
  rw [kC] at this
  exact this
 obtain ⟨og,hg1,hg2⟩:∃ og,h'.get? g=some og∧og.cls = .type "function" := by
  have t2:(X.K.lookup g).map (·.cls)=some (.type "function"):=ht
  cases z:X.K.lookup g with
  | none=>rw [z] at t2;cases t2
  | some og=>rw [z] at t2;exact ⟨og,I1.kIn _ _ z,Option.some.inj t2⟩
 refine ks_wpAny_getMethod_super eso (PySem.W.looks_opaque I1.kIn hst) hmr rfl I1.kIn hal hg1 hg2 hxC (by decide) ?_
 have kp:∀ b o,h'.get? b=some o->(h'.push (PySem.W.methodObj (.ref g) (.ref a))).get? b=some o:=fun b o z=>Heap.get?_push_of_some _ z
 have I2:Inv X [] σ H ⟨h'.push (PySem.W.methodObj (.ref g) (.ref a)),gg,dd,tt+1,oo⟩:=I1.kept (t':=tt+1) kp
 have eq0:(h'.push (PySem.W.methodObj (.ref g) (.ref a))).get? h'.objs.size=some (PySem.W.methodObj (.ref g) (.ref a)):=Heap.get?_push_size h' rfl
 have I3:Inv X [(h'.objs.size,PySem.W.methodObj (.ref g) (.ref a))] σ H ⟨h'.push (PySem.W.methodObj (.ref g) (.ref a)),gg,dd,tt+1,oo⟩:=I2.pins_of fun p hp=>by
  rw [List.mem_singleton.mp hp]
  refine ⟨eq0,I1.hok.fresh (Nat.le_refl _),Nat.ne_of_gt I1.lt,I1.nofs (Nat.le_refl _),fun v z=>?_⟩
  cases z
 show wpAny _ _ (callWith pos (.ref h'.objs.size) [] (backTo pos (starEach (e :: es) X.env)) []) _ _ _
 rw [fo.st]
 have run:=ha.run pos _ _ σ H _ I3 q
 rw [fo.st] at run
 refine callwith_met (X:=X) (g:=g) (a:=a) (by show (false || (backTo pos (starEach es X.env)).any (·.1) || false)=false;rw [fo.pl_];rfl) hfi ?_
 refine Calls.evalArgs_plain (thn run fun us s2 z=>?_)
 obtain ⟨vs,H2,I4,rv,q2⟩:=z
 have pn:=I4.pin (h'.objs.size,PySem.W.methodObj (.ref g) (.ref a)) (List.mem_append_right _ (List.mem_singleton.mpr rfl))
 refine ⟨⟨pn.1,I4.kIn⟩,?_⟩
 have I5:Inv X [] σ H2 s2:=I4.pins_of fun p hp=>absurd hp (by simp)
 refine wpAny_call (PySem.W.method_call pn.1 ?_)
 have hl:(Value.ref a :: us).length=ps2.length:=by
  have:=F.len _ _ _ _ q2
  rw [← this]
  simp [rv.length]
 have bb:=b s2 (.ref a :: us) I5.kIn (by rw [List.append_nil];exact hl)
 rw [List.append_nil] at bb
 refine codeAny_mono (F.run X.A X.stack s2 H2 ⟨.ref a :: us,[]⟩ (.ref a :: us) (.ref a :: vs) Q (E σ) hr I5.env0 bb (.cons rfl rv) q2) fun r s' hq=>?_
 cases r with
 | error e=>exact hx [] H2 s2 e s' I5 hq
 | ok fl=>cases fl with
  | ret u=>exact I5.after hq
  | next=>exact False.elim hq
  | brk=>exact False.elim hq
  | cont=>exact False.elim hq
theorem zvV {P:Program} {w:World} {K:PySem.W.Frag} {mg:Str->Option Value} {base:Heap} {name qual:Str} {params:Arguments} {rest:List Stmt} {scope:Scope} {dV kV doc pm ct oc c1 x1:Value} {an od c2 x2:Option Addr} {osl c3 x3:Array (Option Value)} {f g cda cc C:Addr} {N ps:List Str} {k n m:Nat} {sp2:SpD} {e:Expr} {es:List Expr} {ma:AM} {mr:XW->SM} {p0 p1 pa pos pe:Pos} {ar:Arg} {pl:Sem Bool} {fvs:Array Value} {tf:Tok} {cd:ClassData}
  (lk:K.lookup f=some ⟨oc,od,.func (PySem.W.ksFn name qual params (.Expr (.Call (.Attribute (.Call (.Name "super" p0) [] [] p1) "__init__" pa) (e :: es) [] pos) pe :: rest) scope dV kV doc pm an (.ref cda) ct cc),osl⟩)
  (kp:PySem.W.keepIn K (.ref f)=true) (hcd:PySem.W.codeIn K (.ref cda) qual=true) (Z:zjC N ps scope)
  (bi:Binds K (PySem.W.ksFn name qual params (.Expr (.Call (.Attribute (.Call (.Name "super" p0) [] [] p1) "__init__" pa) (e :: es) [] pos) pe :: rest) scope dV kV doc pm an (.ref cda) ct cc) ps [])
  (hn:ps.length=n) (hN:N.length=n+m) (hp:(params.posonlyargs++params.args).head? = some ar) (h0:ps[0]? = some ar.arg)
  (kcode:K.lookup cda=some ⟨c1,c2,.fields fvs,c3⟩) (hvs:fvs[2]? = some (.str P.main.file tf)) (kcell:K.lookup cc=some ⟨x1,x2,.cell (some (.ref C)),x3⟩)
  (kC:PySem.W.clsIn K C=some cd) (hsub:PySem.W.mroIn K C (.ref C)=some true) (hst:PySem.W.nsIn K cStatics "thirdparty.any" = some none)
  (hm:PySem.W.ks_superIn K C C "__init__" = some (some (.ref g))) (ht:PySem.W.typeIn K (.ref g)=some (.type "function")) (hfi:PySem.W.fnIn K g=true)
  (gs:mg "super" = none) (htop:(P.main.scope.names.lookup ("super" : Str)).isSome=false) (hboot:bootBuiltins "super" = some (.type "super"))
  (F2:Fd P w K mg base k g sp2) (form:∀ L,zpj (ziN qual scope L f (.ref cda) cc) p0 p1 pa pos pe e es pl)
  (hb:∀ (A:Around) (outer:List Env) (s:Shared) (H:Hp) (E:XK),Room k (A.deeper (ziN qual scope s.heap.objs.size f (.ref cda) cc))->∀ (X:Cx) (eX:X=cxS P w K mg base N qual scope f (.ref cda) cc A outer s H E) (W:XW),Tk X H W->MA X H (e :: es) ma∧MSs X H rest (mr W)) :
  Fd P w K mg base (k+1) f (spB n m fun W=>zav (zbQ (zs1 C sp2 W ma)) (mr W)):=by
 refine ⟨⟨_,ps,⟨fun vs H Q E h=>?_,fun A outer s H args us vs Q E hr e0 hbind r hsp=>?_⟩,bi⟩,kp,zln⟩
 ·obtain ⟨ds,S0,h1,h2,Q0,E0,_,_,h3,_⟩:=h
  rw [← h1.length,h3,hn]
 obtain ⟨ds,S0,h1,h2,Q0,E0,i1,i2,h3,h4⟩:=hsp
 have hl:vs.length=ps.length:=by rw [← h1.length,h3,hn]
 have KX:K.In s.heap:=e0.mod.kin.keeps fun b o q=>(e0.bs b o q).1
 have lim:s.heap.NoLimit:=e0.mod.nolimit.keeps fun b o q=>(e0.bs b o q).1
 refine ks_codeAny_call_defAt hr.depth (KX _ _ lk) rfl lim (PySem.W.codeRec_of KX hcd) rfl hbind Z.nocell (fun x hx=>Z.par _ (List.of_mem_zip (a:=x.1) (b:=x.2) hx).1) (fun hp0 hns hk=>?_) Z.co Z.gen Z.kind
 have I0:Inv (cxS P w K mg base N qual scope f (.ref cda) cc A outer s H E) [] (L2.start N vs) H { s with heap:=hp0,toks:=s.toks+(ps.zip us).length }:=zta Z hr.hd e0 hl r kcell rfl hns hk
 have fo:=form s.heap.objs.size
 have tk0:Takes (cxS P w K mg base N qual scope f (.ref cda) cc A outer s H E) (fun cls d _ H=>E cls d H):=takes_of rfl rfl rfl rfl
 have tk:Tk (cxS P w K mg base N qual scope f (.ref cda) cc A outer s H E) H (fun c fs _ S'=>E0 c fs S'):=tk0.imp fun c d σ H' z=>by
  obtain ⟨l,env,S',fs,_,z1,z2,z3⟩:=z
  exact i2 _ _ _ z3 d H' l z1 z2
 obtain ⟨hma,hmr⟩:=hb A outer s H E (hr.deeper _) _ rfl _ tk
 obtain ⟨a,fs,ea,eb,hq⟩:=zrH (show zs1 C sp2 (fun c fs _ S'=>E0 c fs S') ma (ds.map some++List.replicate m none) S0 (fun _ S1=>mr (fun c fs _ S'=>E0 c fs S') { nx:=fun _ S'=>Q0 .non S',rt:=Q0 } (ds.map some++List.replicate m none) S1) from h4)
 have er:zdy K H (ds.map some++List.replicate m none) (L2.start N vs):=zgG h1 (by rw [h3];exact hN)
 generalize ds.map some++List.replicate m none=env0 at ea hq er
 obtain ⟨v,ev,dv⟩:=er.at_ 0 _ ea
 cases dv
 obtain ⟨dx,fv,eH,kv⟩:=h2 a _ eb
 obtain ⟨fd2,ps2,F21,b2⟩:=F2.ex
 have n0:N[0]? = some ar.arg:=by
  have hps:0 < ps.length:=(List.getElem?_eq_some_iff.mp h0).1
  have q:(N.take ps.length)[0]? = N[0]?:=List.getElem?_take_of_lt hps
  rw [← q,Z.pre,h0]
 have main:=ks_wpAt_mono (Q':=SP (cxS P w K mg base N qual scope f (.ref cda) cc A outer s H E) [] { nx:=fun _ H'=>Q .non H',rt:=Q }) (ks_wpAt_execs_cons (ks_wpAt_Expr_any (ks_wpAt_mono (zpA (body:=.Expr (.Call (.Attribute (.Call (.Name "super" p0) [] [] p1) "__init__" pa) (e :: es) [] pos) pe :: rest) (E:=WE (upW K P w H fun c fs _ S'=>E0 c fs S')) (Q:=fun _ H3=>Le H H3∧∃ S3,Rp K P w S3 H3∧mr (fun c fs _ S'=>E0 c fs S') { nx:=fun _ S'=>Q0 .non S',rt:=Q0 } env0 S3) I0 rfl Z lk hp n0 (List.mem_of_getElem? h0) kcode hvs kcell kC hsub hst hm ht hfi gs htop hboot ev eH fo hma.pa F21 (hr.deeper _) b2 (passAt tk _)
   ⟨Le.refl H,env0,S0,er,h2,hma.mono _ _ _ _ (fun ds2 S2 hz vs2 H2 l2 r2 d2=>⟨.ref a :: ds2,S2,.cons (.ref a) d2,r2,F2.mono _ _ _ _ _ _ (fun d S3 hd v H3 l3 r3 _=>⟨l2.trans l3,S3,r3,hd⟩) (fun c fs S' hW dd H' l3 r3 x=>⟨l2.trans l3,env0,S',fs,er.le (l2.trans l3),r3,x,hW⟩) hz⟩) hq⟩)
   (fun u s3 z=>by
    obtain ⟨v3,H3,I3,_,l3,S3,r3,q3⟩:=z
    exact wpAt_of_wpAny (hmr.ps.run [] s3 _ H3 { nx:=fun _ H'=>Q .non H',rt:=Q } I3 ⟨l3,env0,S3,er.le l3,r3,hmr.mono { nx:=fun _ S'=>Q0 .non S',rt:=Q0 } _ _ _ ⟨fun e S' q σ H' l r z=>i1 _ _ q _ H' (l3.trans l) z .non,fun d S' q v H' l z dv=>i1 _ _ q v H' (l3.trans l) z dv,fun _ _ q=>q.elim,fun _ _ q=>q.elim⟩ q3⟩)) (fun _ _ z=>z)) fo.hi fo.hs)) (fun _ _ z=>z) (fun _ _ z=>z)
 refine ks_wpAt_mono main (fun fl s' hs=>?_) (fun _ _ z=>z)
 have fin:∀ {σ':L2.St} {H':Hp} {v:V} {u:Value},Inv (cxS P w K mg base N qual scope f (.ref cda) cc A outer s H E) [] σ' H' s'->RelV v u->Q v H'->CE outer P w H s Q u s':=fun J rv q=>⟨_,_,J.os,J.bare,J.base,J.hok,rv,q⟩
 cases fl with
 | ret u=>
  obtain ⟨_,_,_,J,rv,q⟩:=hs
  exact fin J rv q
 | next=>
  obtain ⟨_,_,J,q⟩:=hs
  exact fin (v:=V.non) (u:=Value.none) J rfl q
 | brk=>
  obtain ⟨_,_,_,q⟩:=hs
  exact q.elim
 | cont=>
  obtain ⟨_,_,_,q⟩:=hs
  exact q.elim
def zzc (n:Nat) (fa:List He.Fa) (fn:List He.DefD) (su:List SuD) (file:Str) (g:Addr->Option Obj):AlS:=zvX fa fn su file (He.frG g (He.asD g n++[cStatics]))
def zDw (n:Nat) (fa:List He.Fa) (fn:List He.DefD) (su:List SuD) (file:Str):PySem.W.Hook where
 α:=AlS
 obs:=fun s=>zzc n fa fn su file s.heap.get?
 val:=fun _=>ztZ fn su
 says:=fun _ h=>∃ K:PySem.W.Frag,K.In h∧zvX fa fn su file K=ztZ fn su
 of:=fun _ _ e=>⟨_,He.frG_in,e⟩
 keeps:=fun _ _ _ ⟨K,hK,c⟩ k=>⟨K,hK.keeps k,c⟩
theorem Ty.mk' {fa:List He.Fa} {fn:List He.DefD} {su:List SuD} {file:Str} {K:PySem.W.Frag} {mg:Str->Option Value} {h:Heap} (X:K.In h) (G:h.Ns mainGlobals mg) (c:zvX fa fn su file K=ztZ fn su):Ty fa fn su file K mg:=
 ⟨⟨h,X,G,congrArg (fun z:AlS=>z.1) c⟩,c⟩
theorem zsF {P:Program} {w:World} {K:PySem.W.Frag} {mg:Str->Option Value} {base:Heap} {x qual:Str} {params:Arguments} {body:List Stmt} {scope:Scope} {dvs:List V} {kws:List (Str×V)} {f:Addr} {fd:FuncData} {N ps:List Str} {k n m:Nat} {b:XW->SM} (F:FunD K x qual params body scope dvs kws f fd) (S:FnScope N ps scope)
  (hn:ps.length=n) (hN:N.length=n+m)
  (hb:∀ (cdv:Value) (A:Around) (outer:List Env) (s:Shared) (H:Hp) (E:XK),Room k (A.deeper (envOfC qual scope s.heap.objs.size f cdv))->∀ (X:Cx) (eX:X=cxOf (L2.CX P w) P w K mg base N qual scope f cdv A outer s H E) (W:XW),Tk X H W->PassesOwn (model X.prog X.w) X.A X.env X.xe->MSs X H body (b W)):FnOk P w K mg base (L2.CX P w) (k+1) f fd ps (zlF K P w (spB n m b)):=by
 refine F.ok S (fun vs H Q E h=>?_) (fun cdv A outer s H vs Q E hr h=>?_)
 ·obtain ⟨ds,S0,h1,h2,Q0,E0,_,_,h3,_⟩:=h
  rw [← h1.length,h3,hn]
 ·obtain ⟨ds,S0,h1,h2,Q0,E0,i1,i2,h3,h4⟩:=h
  have tk0:Takes (cxOf (L2.CX P w) P w K mg base N qual scope f cdv A outer s H E) (fun cls d _ H=>E cls d H):=takes_of rfl rfl rfl rfl
  have tk:Tk (cxOf (L2.CX P w) P w K mg base N qual scope f cdv A outer s H E) H (fun c fs _ S'=>E0 c fs S'):=tk0.imp fun c d σ H' z=>by
   obtain ⟨l,env,S',fs,_,z1,z2,z3⟩:=z
   exact i2 _ _ _ z3 d H' l z1 z2
  have Z:=hb cdv A outer s H E hr _ rfl _ tk (passes_of rfl)
  refine ⟨_,Z.ps,Le.refl H,_,S0,zgG h1 (by rw [h3];exact hN),h2,Z.mono.go h4 ⟨fun e S' q σ H' l r z=>?_,fun d S' q v H' l z dv=>i1 _ _ q v H' l z dv,fun _ _ q=>q.elim,fun _ _ q=>q.elim⟩⟩
  exact i1 _ _ q _ H' l z .non
theorem zjz {K:PySem.W.Frag} {H:Hp}:∀ ns:List Int,DVs K H (ns.map D.int) (ns.map V.int)
 | []=>.nil
 | n :: ns=>.cons (.int n) (zjz ns)
structure ClH where
 c:Value
 i:Nat
 ts:Addr->Value->Option Addr->TS
def zvT (i:Nat) (D:Ends):Ends where
 nx:=fun σ H=>D.nx (σ.set i none) H
 rt:=D.rt
 bk:=fun σ H=>D.bk (σ.set i none) H
 ct:=fun σ H=>D.ct (σ.set i none) H
def wCl (K:PySem.W.Frag) (Wout:WX) (D:Ends):List ClH->WX
 | []=>Wout
 | q :: r=>fun cls d σ H=>∃ b,PySem.W.exmOne K cls q.c=some b∧(b=true->∀ a,H a=none->q.ts a cls d (zvT q.i D) (σ.set q.i (some (.ref a))) H)∧(b=false->wCl K Wout D r cls d σ H)
inductive ClOk (X:Cx):List ExceptHandler->List ClH->Prop
 | nil:ClOk X [] []
 | cons {x n:Str} {q:ClH} {st0:Stmt} {rest:List Stmt} {p1 p2:Pos} {hds:List ExceptHandler} {l:List ClH} (hi:X.N[q.i]? = some n) (hl:X.env.kindOf n=some .local) (hc:Names X x q.c)
   (hsu:∀ (a:Addr) (oe:Obj) (cls:Value) (d:Option Addr) (pn:List (Addr×Obj)),Zc cls d oe->(∃ vs,oe.data = .fields vs)->PSs (X.suite a ((a,oe) :: pn)) (st0 :: rest) (q.ts a cls d)) (r:ClOk X hds l) :
   ClOk X (.ExceptHandler (some (.Name x p1)) (some n) (st0 :: rest) p2 :: hds) (q :: l)
section
variable {X:Cx} {bd:List Stmt} {c0:ExceptHandler} {cs:List ExceptHandler} {l:List ClH} {pos:Pos} {tb:WX->TS} {Wout:WX}
end
abbrev SuM:=Addr->Value->List (Str×D)->SM
structure Cl where
 C:Addr
 i:Nat
 su:SuM
def zwQ (i:Nat) (A:Fin):Fin:={ nx:=fun e s=>A.nx (e.set i none) s,rt:=A.rt,bk:=fun e s=>A.bk (e.set i none) s,ct:=fun e s=>A.ct (e.set i none) s }
def zz9 (K:PySem.W.Frag) (W:XW) (A:Fin):List Cl->XW
 | []=>W
 | q :: r=>fun c fs env S=>∃ b,PySem.W.exmOne K c (.ref q.C)=some b∧(b=true->∀ a,S a=none->q.su a c fs (zwQ q.i A) (env.set q.i (some (.ref a))) S)∧(b=false->zz9 K W A r c fs env S)
def zD3 (K:PySem.W.Frag) (b:XW->SM) (l:List Cl) (W:XW):SM:=fun A env S=>∃ A0,zhd A0 A∧b (zz9 K W A0 l) A0 env S
theorem zhd.trans {A B C:Fin} (h:zhd A B) (h':zhd B C):zhd A C:=⟨fun e S q=>h'.nx e S (h.nx e S q),fun e S q=>h'.rt e S (h.rt e S q),fun e S q=>h'.bk e S (h.bk e S q),fun e S q=>h'.ct e S (h.ct e S q)⟩
def tSu (K:PySem.W.Frag) (P:Program) (w:World) (su:SuM):Addr->Value->Option Addr->TS:=fun a cls d D' σ H=>∃ (fs:List (Str×D)) (A1:Fin) (env:Slo) (S:Sto),XdR K H d fs∧zhd A1 (dnF K P w H D')∧zdy K H env σ∧Rp K P w S H∧su a cls fs A1 env S
inductive HdM (X:Cx):List ExceptHandler->List Cl->Prop
 | nil:HdM X [] []
 | cons {x n:Str} {q:Cl} {st0:Stmt} {rest:List Stmt} {p1 p2:Pos} {hds:List ExceptHandler} {l:List Cl} (hi:X.N[q.i]? = some n) (hl:X.env.kindOf n=some .local) (hc:Names X x (.ref q.C))
   (hsu:∀ (a:Addr) (oe:Obj) (cls:Value) (d:Option Addr) (pn:List (Addr×Obj)),Zc cls d oe->(∃ vs,oe.data = .fields vs)->∀ (fs:List (Str×D)) (B':Hp),XdR X.K B' d fs->MSs (X.suite a ((a,oe) :: pn)) B' (st0 :: rest) (q.su a cls fs)) (r:HdM X hds l) :
   HdM X (.ExceptHandler (some (.Name x p1)) (some n) (st0 :: rest) p2 :: hds) (q :: l)
section
variable {X:Cx} {B:Hp} {W:XW}
theorem HdM.ok {hds:List ExceptHandler} {l:List Cl} (h:HdM X hds l):ClOk X hds (l.map fun q=>⟨.ref q.C,q.i,tSu X.K X.prog X.w q.su⟩):=by
 induction h with
 | nil=>exact .nil
 | cons hi hl hc hsu _ ih=>
  refine .cons hi hl hc (fun a oe cls d pn hz hf=>⟨fun pins s σ H D' I z=>?_⟩) ih
  obtain ⟨fs,A1,env,S,xd,le,er,rp,q⟩:=z
  have M:=hsu a oe cls d pn hz hf fs H xd
  exact M.ps.run pins s σ H D' I ⟨Le.refl H,env,S,er,rp,M.mono _ _ _ _ le q⟩
def mXf (i:Nat) (C a:Addr) (cls:Value) (fs:List (Str×D)) (f:Str):EM:=fun env S Q=>zag i env S fun x S1=>x = .ref a∧cls = .ref C∧match fs.lookup f with
 | some v=>Q v S1
 | none=>False
end
def spX (K:PySem.W.Frag) (f:Str):Sp:=fun vs H Q _=>∃ (a:Addr) (y:V) (C:Addr),vs=[.ref a,y]∧OexC K C∧PySem.W.findIn K (.ref C) f=some none∧H a=some (exo a C none)∧∀ dx,H dx=none->dx≠a->Q .non (upd (upd H dx (exd dx [(f,y)])) a (exo a C (some dx)))
theorem zrr {P:Program} {w:World} {K:PySem.W.Frag} {mg:Str->Option Value} {base:Heap} {CX:CXT} {qual f pn:Str} {params:Arguments} {body:List Stmt} {scope:Scope} {fI:Addr} {fd:FuncData} {p0 p1 p2 p3:Pos} (F:FunD K "__init__" qual params body scope [] [] fI fd) (S:FnScope ["self", pn] ["self", pn] scope)
  (hb:body=[.Assign [.Attribute (.Name "self" p0) f p1] (.Name pn p2) p3])
  (h1:∀ (X:Cx),X.N=(["self", pn]:List Str)->X.env.scope=scope->PE X (.Name "self" p0) (tVar 0)∧PE X (.Name pn p2) (tVar 1)∧swapsWith (.Name pn p2) (some (.Attribute (.Name "self" p0) f p1)) p3.line X.env=pure false) :
  FnOk P w K mg base CX 1 fI fd ["self", pn] (spX K f):=by
 refine F.ok S (fun vs H Q E h=>?_) (fun cdv A outer s H vs Q E hr h=>?_)
 ·obtain ⟨a,y,C,rfl,_⟩:=h
  rfl
 ·obtain ⟨g1,g2,g3⟩:=h1 (cxOf CX P w K mg base ["self", pn] qual scope fI cdv A outer s H E) rfl rfl
  refine ⟨tOst K f (tVar 0) (tVar 1),?_,?_⟩
  ·rw [hb]
   exact pss_one (ps_ost g1 g2 g3)
  ·obtain ⟨a,y,C,rfl,T,hno,ea,hq⟩:=h
   exact ⟨y,rfl,.ref a,rfl,a,C,rfl,T,hno,.inl ⟨ea,fun dx hd hne=>hq dx hd hne⟩⟩
structure ExOk (P:Program) (w:World) (K:PySem.W.Frag) (mg:Str->Option Value) (base:Heap) (x f:Str):Prop where
 gC:mg x=some (.ref (He.ga K x))
 oex:OexC K (He.ga K x)
 iC:PySem.W.findIn K (.ref (He.ga K x)) "__init__" = some (some (.ref (He.ma K (He.ga K x) "__init__")))
 tI:PySem.W.typeIn K (.ref (He.ma K (He.ga K x) "__init__"))=some (.type "function")
 hno:PySem.W.findIn K (.ref (He.ga K x)) f=some none
 xf:XfC K (He.ga K x)
 fn:∃ fd ps,FnOk P w K mg base (L2.CX P w) 1 (He.ma K (He.ga K x) "__init__") fd ps (spX K f)∧Binds K fd ps []
def znb (C:Addr) (f:Str) (W:XW) (ma:AM):SM:=fun _ env S=>ma env S fun ds S1=>match ds with
 | [y]=>W (.ref C) [(f,y)] env S1
 | _=>False
section
variable {X:Cx} {B:Hp} {W:XW} {ma:AM} {x f:Str} {p pos pos':Pos} {e:Expr}
theorem zlm (hc:X.calm=true) (tk:Tk X B W) (hr:Room 2 X.A) (U:ExOk X.prog X.w X.K X.mg X.base x f) (ha:MA X B [e] ma) (hg:Gl X x:=by rfl) (hdb:(x == ("__debug__" : Str))=false:=by decide)
  (he:starEach [e] X.env=(false,eval e X.env) :: starEach [] X.env:=by rfl) (hpl:(backTo pos (starEach [] X.env)).any (·.1)=false:=by rfl):MS X B (.Raise (some (.Call (.Name x p) [e] [] pos)) none pos') (znb (He.ga X.K x) f W ma):=by
 obtain ⟨fd,ps,F1,bi⟩:=U.fn
 have none:Passes (L2.CX X.prog X.w) X (fun _ _ _=>False):=fun pins σ H s e s' I c=>by
  obtain ⟨_,_,_,_,_,_,_,_,_,_,_,_,z⟩:=c
  exact z.elim
 refine ⟨zd4 (ps_raise hc tk (pmk_oex U.oex U.iC U.tI F1 hr bi .nil none hg U.gC ha.pa hdb he hpl)) fun D' σ H q=>?_,fun A A' env S _ q=>q⟩
 obtain ⟨lB,env,S,er,rp,q⟩:=q
 refine ⟨lB,env,S,er,rp,ha.mono _ _ _ _ (fun ds S1 z vs H1 l1 z1 dv=>?_) q⟩
 split at z
 ·rename_i y
  cases dv with
  | @cons _ _ v _ d1 d2=>
   cases d2
   refine ⟨by simp,fun a na=>⟨a,v,He.ga X.K x,rfl,U.oex,U.hno,upd_same,fun dx hdx hne=>⟨rfl,dx,[(f,v)],upd_same,(upd_ne hne).trans upd_same,(upd_ne hne).symm.trans hdx,?_⟩⟩⟩
   have hd1:H1 dx = .none:=(upd_ne hne).symm.trans hdx
   have at_:∀ b,b≠a->b≠dx->upd (del (upd (upd (upd H1 a (exo a (He.ga X.K x) .none)) dx (exd dx [(f,v)])) a (exo a (He.ga X.K x) (some dx))) a) dx (.xd [(f,v)]) b=H1 b:=fun b h1 h2=>by
    rw [upd_ne h2,del_ne h1,upd_ne h1,upd_ne h2,upd_ne h1]
   have off:∀ b o,H1 b=some o->b≠a∧b≠dx:=fun b o eb=>⟨fun z=>(by subst z;rw [na] at eb;cases eb),fun z=>(by subst z;rw [hd1] at eb;cases eb)⟩
   have le:Le H1 (upd (del (upd (upd (upd H1 a (exo a (He.ga X.K x) .none)) dx (exd dx [(f,v)])) a (exo a (He.ga X.K x) (some dx))) a) dx (.xd [(f,v)])):=
    ⟨fun b xs eb=>(at_ b (off b _ eb).1 (off b _ eb).2).trans eb,fun b o u eb=>(at_ b (off b _ eb).1 (off b _ eb).2).trans eb,fun b u eb=>(at_ b (off b _ eb).1 (off b _ eb).2).trans eb⟩
   refine ⟨(lB.trans l1).trans le,env,S1,[(f,y)],(er.le l1).le le,fun b o eb=>?_,⟨[(f,v)],upd_same,.cons (d1.le le) .nil⟩,z⟩
   obtain ⟨u,eu,_⟩:=(z1 b o eb).some
   exact (z1 b o eb).at le (at_ b (off b _ eu).1 (off b _ eu).2)
 ·exact z.elim
end
theorem zsG {K:PySem.W.Frag} {C:Addr} (h:zy9 K C=true):OexC K C:=by
 obtain ⟨h1,h⟩:=He.ba h
 obtain ⟨h2,h⟩:=He.ba h
 obtain ⟨h3,h⟩:=He.ba h
 obtain ⟨h4,h5⟩:=He.ba h
 refine ⟨?_,He.eqO_ok h2,of_decide_eq_true h3,of_decide_eq_true h4,h5⟩
 split at h1
 ·rename_i t dd cd sl e
  split at h1
  ·rename_i C' bm k0 k1 k2 k3 n k5 em es
   obtain ⟨j0,h1⟩:=He.ba h1
   obtain ⟨j1,h1⟩:=He.ba h1
   obtain ⟨j2,h1⟩:=He.ba h1
   obtain ⟨j3,h1⟩:=He.ba h1
   obtain ⟨j4,j5⟩:=He.ba h1
   have i0:=of_decide_eq_true j0
   have i1:=of_decide_eq_true j1
   have i2:=of_decide_eq_true j2
   have i3:cd.hasDel=false:=by simpa using j3
   subst i0 i1 i2
   obtain ⟨nm,bs,mro,ns,qn,hd,sn,sb,ab,col,del⟩:=cd
   dsimp only at em i3 j4
   subst em i3 j4
   have esl:sl = #[k0,k1,k2,k3,some (.builtin "ValueError.__new__"),k5]:=by
    rw [← Array.toList_inj]
    exact es
   subst esl
   exact ⟨_,_,_,_,_,_,_,_,_,_,_,_,_,_,_,e,j5⟩
  ·cases h1
 ·cases h1
def zzb (n:Nat) (fa:List He.Fa) (fn:List He.DefD) (su:List SuD) (file:Str) (ex:List Str) (g:Addr->Option Obj):AlX:=obsX fa fn su file ex (He.frG g (He.asD g n++[cStatics]))
def hookX (n:Nat) (fa:List He.Fa) (fn:List He.DefD) (su:List SuD) (file:Str) (ex:List Str):PySem.W.Hook where
 α:=AlX
 obs:=fun s=>zzb n fa fn su file ex s.heap.get?
 val:=fun _=>valX fn su
 says:=fun _ h=>∃ K:PySem.W.Frag,K.In h∧obsX fa fn su file ex K=valX fn su
 of:=fun _ _ e=>⟨_,He.frG_in,e⟩
 keeps:=fun _ _ _ ⟨K,hK,c⟩ k=>⟨K,hK.keeps k,c⟩
theorem Tz.mk' {fa:List He.Fa} {fn:List He.DefD} {su:List SuD} {file:Str} {ex:List Str} {K:PySem.W.Frag} {mg:Str->Option Value} {h:Heap} (X:K.In h) (G:h.Ns mainGlobals mg) (c:obsX fa fn su file ex K=valX fn su):Tz fa fn su file ex K mg:=
 ⟨Ty.mk' X G (congrArg (fun z:AlX=>z.1) c),List.all_eq_true.mp (congrArg (fun z:AlX=>z.2) c)⟩
theorem Tz.exc {fa:List He.Fa} {fn:List He.DefD} {su:List SuD} {file:Str} {ex:List Str} {K:PySem.W.Frag} {mg:Str->Option Value} {P:Program} {w:World} {base:Heap} (T:Tz fa fn su file ex K mg) {x f:Str} (j g m n:Nat) (hj:ex[j]? = some x) (hg:fa[g]? = some (.glo x)) (hm:fa[m]? = some (.meth x "__init__")) (hn:fa[n]? = some (.noat x f))
  (hf:∃ fd ps,FnOk P w K mg base (L2.CX P w) 1 (He.ma K (He.ga K x) "__init__") fd ps (spX K f)∧Binds K fd ps []):ExOk P w K mg base x f:=by
 obtain ⟨e1,e2⟩:=He.ba (T.exs x (List.mem_of_getElem? hj))
 have M:=T.meth m hm
 exact ⟨T.glo g hg,zsG e1,M.at_,beq_iff_eq.mp M.fn,T.noat n hn,xfB_ok e2,hf⟩
section
variable {X:Cx} {B:Hp} {e:Expr} {pos:Pos}
def zzi (m:EM):EM:=fun env S Q=>m env S fun d S1=>match d with
 | .int i=>Q (.int (-i)) S1
 | _=>False
theorem zv6 {m:EM} (h:ME X B e m):ME X B (.UnaryOp .USub e pos) (zzi m):=by
 refine ⟨zbF (pe_un un_neg h.pe) fun σ H Q q=>?_,fun env S Q Q' i q=>h.mono env S _ _ (fun d S1 z=>?_) q⟩
 ·obtain ⟨lB,env,S,er,rp,q⟩:=q
  refine ⟨lB,env,S,er,rp,h.mono env S _ _ (fun d S1 z v H1 l1 z1 dv=>?_) q⟩
  split at z
  ·cases dv
   exact ⟨_,rfl,z _ H1 l1 z1 (.int _)⟩
  ·exact z.elim
 ·split at z
  ·exact i _ _ z
  ·exact z.elim
def zAf:CM:=fun ds S Q=>match ds with
 | [.ref a]=>match S a with
  | some (.dic kvs)=>(∀ kv∈kvs,okK kv.1)∧∀ p,S p=none->Q (.ref p) (put S p (.lst (kvs.map fun kv=>kD kv.1)))
  | _=>False
 | _=>False
def zAc:CM:=fun ds S Q=>match ds with
 | [.ref a]=>∃ zs:List Str,S a=some (.lst (zs.map D.str))∧zs.length < 64∧∀ ys,ys.Perm zs->sortedS ys=true->∀ p,S p=none->Q (.ref p) (put S p (.lst (ys.map D.str)))
 | _=>False
end
section
variable {env:Slo} {S:Sto} {Q:DQ} {A:Fin} {ma:AM} {W:XW} {C a:Addr} {f:Str} {d:D} {K:PySem.W.Frag} {b:XW->SM} {l:List Cl} {m:EM} {i:Nat} {cls:Value} {fs:List (Str×D)} {c:Cl} {kvs:List (Key×D)}
def kRa (C:Addr) (f:Str) (W:XW) (env:Slo):List D->Sto->Prop:=fun ds S1=>match ds with
 | [y]=>W (.ref C) [(f,y)] env S1
 | _=>False
def zAv (Q:DQ):DQ:=fun d S1=>match d with
 | .int i=>Q (.int (-i)) S1
 | _=>False
theorem zyg (h:m env S (zAv Q)):zzi m env S Q:=h
theorem zuZ {z:Int} (h:Q (.int (-z)) S):zAv Q (.int z) S:=h
end
class St (g:Prop) (n:outParam Prop):Prop where
 go:n->g
theorem zpD {g n:Prop} [h:St g n] (q:n):g:=h.go q
section
variable {env:Slo} {S:Sto} {Q:DQ} {A:Fin} {m n:SM} {me mf mg' ma mb:EM} {g:GM} {t u:TM} {r:BM} {c:CM} {ms:AM} {d e:D} {TQ:Bool->Sto->Prop} {AQ:List D->Sto->Prop} {a:Addr} {x:D} {i j k:Nat} {K:PySem.W.Frag} {W:XW} {sp:SpD} {C:Addr} {f:Str}
instance zDq:St (zaM me g A env S) (me env S (zs8 g env A)):=⟨fun h=>s_asg h⟩
instance zEi:St (mIf t m n A env S) (t env S (kIf m n A env)):=⟨fun h=>s_if h⟩
instance zEe:St (kIf m n A env true S) (m A env S):=⟨fun h=>zB7 h⟩
instance zEg:St (kIf m n A env false S) (n A env S):=⟨fun h=>zyx h⟩
instance zEc:St (mNx A env S) (A.nx env S):=⟨fun h=>zAk h⟩
instance zDp:St (zAr A env S) (A.bk env S):=⟨fun h=>zyY h⟩
instance zDo:St (zAp A env S) (A.ct env S):=⟨fun h=>zyX h⟩
instance zCJ:St (za9 me A env S) (me env S A.rt):=⟨fun h=>s_ret h⟩
instance zAE:St (zqe A env S) (A.rt .non S):=⟨fun h=>zul h⟩
instance zBA:St (zbQ me A env S) (me env S (zqm env A)):=⟨fun h=>s_drop h⟩
instance zzM:St (zqm env A d S) (A.nx env S):=⟨fun h=>zr6 h⟩
instance zzR:St (zs7 i d r env A x S) (r d x S (zoX i env A)):=⟨fun h=>zsc h⟩
instance zBq {z:Int}:St (zzv a z me r env A x S) (me env S (zwH a z x r env A)):=⟨fun h=>zvo h⟩
instance zBp {z:Int}:St (zwH a z d r env A x S) (r d x S (ztL a z env A)):=⟨fun h=>zvn h⟩
instance zDj {mi:IM}:St (zgn mi g m A env S) (mi env S (kFor g m A env)):=⟨fun h=>zvF h⟩
instance zBj {xs:List D} {G:Sto->Prop}:St (kFor g m A env xs G S) (forL g m G A xs env S):=⟨fun h=>zqS h⟩
variable {R:List D->(Sto->Prop)->Sto->Prop} {xs ys:List D}
instance zBs:St (zdY me env S R) (me env S (zoV R)):=⟨fun h=>zvw h⟩
instance zzC:St (zoV R (.tp fl xs) S) (R xs (fun _=>True) S):=⟨fun h=>zrT h⟩
instance zzE:St (zoV R (.rol xs) S) (R xs (fun _=>True) S):=⟨fun h=>zrV h⟩
instance zzD {x:Str}:St (zoV R (.str x) S) (R (znV x) (fun _=>True) S):=⟨fun h=>zrU h⟩
instance zDd:St (zds ms env S R) (ms env S (kR1 R)):=⟨fun h=>zyN h⟩
instance zDf:St (zhk ms env S R) (ms env S (kEn R)):=⟨fun h=>zyP h⟩
instance zBk:St (kEn R [.tp fl xs] S) (R (zkD 0 xs) (fun _=>True) S):=⟨fun h=>zvf h⟩
instance zDa:St (zqr ms env S R) (ms env S (kZi R)):=⟨fun h=>zyK h⟩
instance zCZ:St (kZi R [.tp fl xs,.tp fl' ys] S) (R (List.zipWith (fun x y=>.tup [x,y]) xs ys) (fun _=>True) S):=⟨fun h=>zyq h⟩
variable {NQ:Slo->Sto->Prop} {gs:GsM}
instance zEk:St (gC g gs (d :: xs) env S NQ) (g d env S (kgC gs xs NQ)):=⟨fun h=>zCc h⟩
instance zCY:St (kgC gs xs NQ env S) (gs xs env S NQ):=⟨fun h=>zyp h⟩
instance zEj:St (gN [] env S NQ) (NQ env S):=⟨fun h=>zCb h⟩
instance zDi {mo mi:EM}:St (gIx mo mi d env S NQ) (mo env S (zxi d mi env NQ)):=⟨fun h=>zyS h⟩
instance zAQ {mi:EM}:St (zxi d mi env NQ e S) (mi env S (zrj d e env NQ)):=⟨fun h=>zuC h⟩
instance i_C:St (mC d env S Q) (Q d S):=⟨fun h=>s_C h⟩
instance zEb:St (mOp r ma mb env S Q) (ma env S (zxr r mb env Q)):=⟨fun h=>zB5 h⟩
instance zA8:St (zxr r mb env Q d S) (mb env S (zqj r d Q)):=⟨fun h=>zuX h⟩
instance zA7:St (zqj r d Q e S) (r d e S Q):=⟨fun h=>zuW h⟩
instance i_B:St (mB me env S TQ) (me env S (kB TQ)):=⟨fun h=>s_B h⟩
instance zEh {b:Bool}:St (kB TQ (.bl b) S) (TQ b S):=⟨fun h=>zB9 h⟩
instance zCE:St (zfr me env S TQ) (me env S (zpp TQ)):=⟨fun h=>zx3 h⟩
instance zDr:St (zmd t u env S TQ) (t env S (zrn u env TQ)):=⟨fun h=>zy0 h⟩
instance zEa:St (mOr t u env S TQ) (t env S (kOr u env TQ)):=⟨fun h=>zB4 h⟩
instance zCN:St (zhC t env S TQ) (t env S (zxs TQ)):=⟨fun h=>zyd h⟩
instance zA9 {b:Bool}:St (zxs TQ b S) (TQ (!b) S):=⟨fun h=>zuY h⟩
instance zzS:St (zrn u env TQ true S) (u env S TQ):=⟨fun h=>zse h⟩
instance zzT:St (zrn u env TQ false S) (TQ false S):=⟨fun h=>zsf h⟩
instance zA5:St (kOr u env TQ true S) (TQ true S):=⟨fun h=>zuU h⟩
instance zA6:St (kOr u env TQ false S) (u env S TQ):=⟨fun h=>zuV h⟩
instance zBF:St (zkq ma mb env S Q) (ma env S (kB (zl6 mb env Q))):=⟨fun h=>zvM h⟩
instance zCM:St (zAn ma mb env S Q) (ma env S (kB (zrk mb env Q))):=⟨fun h=>zyc h⟩
instance zAG:St (zwc ma env S Q) (ma env S (kB (zqk Q))):=⟨fun h=>zun h⟩
instance zzI {b:Bool}:St (zqk Q b S) (Q (.bl (!b)) S):=⟨fun h=>zr1 h⟩
instance zxL:St (zl6 mb env Q true S) (mb env S Q):=⟨fun h=>zpR h⟩
instance zxM:St (zl6 mb env Q false S) (Q (.bl false) S):=⟨fun h=>zpS h⟩
instance zzG:St (zrk mb env Q true S) (Q (.bl true) S):=⟨fun h=>zrZ h⟩
instance zzH:St (zrk mb env Q false S) (mb env S Q):=⟨fun h=>zr0 h⟩
instance zC9:St (zqf t ma mb env S Q) (t env S (zrl ma mb env Q)):=⟨fun h=>zyJ h⟩
instance zzK:St (zrl ma mb env Q true S) (ma env S Q):=⟨fun h=>zr4 h⟩
instance zzL:St (zrl ma mb env Q false S) (mb env S Q):=⟨fun h=>zr5 h⟩
variable {r':BM} {mc:EM}
instance zz0:St (ziW r r' ma mb mc env S Q) (ma env S (zxD r r' mb mc env Q)):=⟨fun h=>zsr h⟩
instance zBn:St (zxD r r' mb mc env Q d S) (mb env S (zwF r r' d mc env Q)):=⟨fun h=>zvj h⟩
instance zBm:St (zwF r r' d mc env Q e S) (r d e S (kB (zqo r' e mc env Q))):=⟨fun h=>zvi h⟩
instance zzO:St (zqo r' d mc env Q true S) (mc env S (zqj r' d Q)):=⟨fun h=>zr8 h⟩
instance zzP:St (zqo r' d mc env Q false S) (Q (.bl false) S):=⟨fun h=>zr9 h⟩
instance zCP:St (zal env S AQ) (AQ [] S):=⟨fun h=>zyf h⟩
instance zBB:St (zac me ms env S AQ) (me env S (kC1 ms env AQ)):=⟨fun h=>zvJ h⟩
instance zC6:St (kC1 ms env AQ d S) (ms env S (kC2 d AQ)):=⟨fun h=>zyB h⟩
instance zC5:St (kC2 d AQ xs S) (AQ (d :: xs) S):=⟨fun h=>zyA h⟩
instance zEn:St (mCB c ms env S Q) (ms env S (kCB c Q)):=⟨fun h=>zCf h⟩
instance zC4:St (kCB c Q xs S) (c xs S Q):=⟨fun h=>zyz h⟩
instance zBC:St (zaw sp W ms env S Q) (ms env S (kSp sp W env Q)):=⟨fun h=>s_call h⟩
instance zC0:St (kSp sp W env Q xs S) (sp xs S Q fun c fs S'=>W c fs env S'):=⟨fun h=>zys h⟩
instance zAK:St (zjY C sp W ms env S Q) (ms env S (kMk C sp W env Q)):=⟨fun h=>zus h⟩
instance zC1:St (kMk C sp W env Q xs S) (∀ p,S p=none->sp (.ref p :: xs) (put S p (.ins C [])) (fun v S2=>v = .non∧Q (.ref p) S2) fun c fs S'=>W c fs env S'):=⟨fun h=>zyu h⟩
end
section
variable {env:Slo} {S:Sto} {Q:DQ} {A:Fin} {me mo ma mb:EM} {ms:AM} {d e x:D} {AQ:List D->Sto->Prop} {a C:Addr} {K:PySem.W.Frag} {W:XW} {sp:SpD} {f:Str} {xs ys:List D} {fs:List (Str×D)} {kvs:List (Key×D)} {kk:Key}
instance zAR:St (kTup Q xs S) (Q (.tup xs) S):=⟨fun h=>zuE h⟩
instance zAJ:St (zbG C f sp W mo ms env S Q) (mo env S (zwB C f sp W ms env Q)):=⟨fun h=>zur h⟩
instance zBe:St (zxx sp W a env Q xs S) (sp (.ref a :: xs) S Q fun c fs S'=>W c fs env S'):=⟨fun h=>zu4 h⟩
instance zDk:St (zd6 K me f env S Q) (me env S (zwD K f Q)):=⟨fun h=>zyT h⟩
instance zAC:St (zcw K mo me f A env S) (me env S (zxk K f mo env A)):=⟨fun h=>zui h⟩
instance zAV:St (zxk K f mo env A d S) (mo env S (zwt K f d env A)):=⟨fun h=>zuJ h⟩
instance zBG {i j:Int}:St (zcp (.int i) (.int j) S Q) (Q (.int (i+j)) S):=⟨fun h=>zvN h⟩
instance zzU {i j:Int}:St (zkQ (.int i) (.int j) S Q) (Q (.int (i+j)) S):=⟨fun h=>zsk h⟩
instance zCG {i j:Int}:St (zpk (.int i) (.int j) S Q) (Q (.int (i - j)) S):=⟨fun h=>zx5 h⟩
instance zCS {i j:Int}:St (vLt (.int i) (.int j) S Q) (Q (.bl (decide (i < j))) S):=⟨fun h=>zyk h⟩
instance zCV {i j:Int}:St (vLe (.int i) (.int j) S Q) (Q (.bl (decide (i≤j))) S):=⟨fun h=>zyn h⟩
instance zDt {i:Int}:St (zxa [.int i] S Q) (Q (.int (if i < 0 then -i else i)) S):=⟨fun h=>zy2 h⟩
instance zC8 {i:Int}:St (vInt [.int i] S Q) (Q (.int i) S):=⟨fun h=>zyH h⟩
instance zCR {i j:Int}:St (zw8 [.int i,.int j] S Q) (Q (.int (if j > i then j else i)) S):=⟨fun h=>zyj h⟩
instance zDl {g:Bool->Bool} {i j:Str}:St (zkr g (.str i) (.str j) S Q) (Q (.bl (g (decide (i=j)))) S):=⟨fun h=>zyU h⟩
instance zDm {g:Bool->Bool} {i j:Int}:St (zkr g (.int i) (.int j) S Q) (Q (.bl (g (decide (i=j)))) S):=⟨fun h=>zyV h⟩
instance zDn {g:Bool->Bool} {i j:Bool}:St (zkr g (.bl i) (.bl j) S Q) (Q (.bl (g (decide (i=j)))) S):=⟨fun h=>zyW h⟩
instance zDg {i j:Int}:St (vGt (.int i) (.int j) S Q) (Q (.bl (decide (j < i))) S):=⟨fun h=>zyQ h⟩
instance zDh {i j:Int}:St (vGe (.int i) (.int j) S Q) (Q (.bl (decide (j≤i))) S):=⟨fun h=>zyR h⟩
instance zCU {i j:Str}:St (vLe (.str i) (.str j) S Q) (Q (.bl (!decide (j.cps.toList < i.cps.toList))) S):=⟨fun h=>zym h⟩
instance zCD:St (zcV ms env S Q) (ms env S (kTp Q)):=⟨fun h=>zx2 h⟩
instance zCT:St (zf2 ms env S Q) (ms env S (kLs Q)):=⟨fun h=>zyl h⟩
variable {ok:D->Sto->Prop} {rm:MM}
instance zCQ:St (ziB ok rm mo ms env S Q) (mo env S (zxw ok rm ms env Q)):=⟨fun h=>zyi h⟩
instance zBd:St (zxv rm d Q xs S) (rm d xs S Q):=⟨fun h=>zu3 h⟩
variable {mk mx:EM}
instance zBv:St (zlZ mo mk mx env S Q) (mo env S (zxB mk mx env Q)):=⟨fun h=>zvz h⟩
instance zBh:St (zxA d mx env Q e S) (mx env S (ztK d e Q)):=⟨fun h=>zva h⟩
variable {PQ:List (D×D)->Sto->Prop} {mps:List (EM×EM)} {ps:List (D×D)}
instance zCL:St (mPs ((ma,mb) :: mps) env S PQ) (ma env S (zxq mb mps env PQ)):=⟨fun h=>zya h⟩
instance zCK:St (mPs [] env S PQ) (PQ [] S):=⟨fun h=>zx9 h⟩
instance zA3:St (zxq mb mps env PQ d S) (mb env S (zww d mps env PQ)):=⟨fun h=>zuS h⟩
instance zA2:St (zww d mps env PQ e S) (mPs mps env S (zwx d e PQ)):=⟨fun h=>zuR h⟩
instance zA4:St (zwx d e PQ ps S) (PQ ((d,e) :: ps) S):=⟨fun h=>zuT h⟩
instance zDs:St (zxd mo ms env S Q) (mo env S (zxG ms env Q)):=⟨fun h=>zy1 h⟩
instance zC7 {g:Bool->Bool}:St (zqP g .non .non S Q) (Q (.bl (g true)) S):=⟨fun h=>zyG h⟩
variable {lo hi:OM} {OQ:Option Int->Sto->Prop} {l h':Option Int}
instance zD9:St (mSl me lo hi env S Q) (me env S (zxj lo hi env Q)):=⟨fun h=>zB3 h⟩
instance zAU:St (zxj lo hi env Q d S) (lo env S (zws d hi env Q)):=⟨fun h=>zuI h⟩
instance zAT:St (zws d hi env Q l S) (hi env S (zwr d l Q)):=⟨fun h=>zuH h⟩
instance zAS:St (zwr d l Q h' S) (vSl d l h' S Q):=⟨fun h=>zuG h⟩
instance zCO:St (zs2 env S OQ) (OQ none S):=⟨fun h=>zye h⟩
instance i_P:St (mP me env S OQ) (me env S (kP OQ)):=⟨fun h=>s_P h⟩
instance zEf {i:Int}:St (kP OQ (.int i) S) (OQ (some i) S):=⟨fun h=>zB8 h⟩
instance zCH:St (vSl (.tup xs) l h' S Q) (Q (.tup (cutD xs l h')) S):=⟨fun h=>zx6 h⟩
variable {g:GM} {t:TM} {G:Sto->Prop} {mi:IM} {vs:List Nat}
instance zEd:St (mLc mi g t me vs env S Q) (mi env S (kLc g t me vs env Q)):=⟨fun h=>zB6 h⟩
instance zC2:St (kLc g t me vs env Q xs G S) (∀ p,S p=none->lcL g t me G p Q (zcJ env vs) xs (put S p (.lst []))):=⟨fun h=>zyv h⟩
instance zEm:St (mDc mi g t mk mb vs env S Q) (mi env S (kDc g t mk mb vs env Q)):=⟨fun h=>zCe h⟩
instance zC3:St (kDc g t mk mb vs env Q xs G S) (∀ p,S p=none->dcL g t mk mb G p Q (zcJ env vs) xs (put S p (.dic []))):=⟨fun h=>zyy h⟩
instance zAL:St (zdN [.tp fl xs] S Q) (Q (.int xs.length) S):=⟨fun h=>zut h⟩
instance zAN:St (zdN [.rol xs] S Q) (Q (.int xs.length) S):=⟨fun h=>zuv h⟩
instance zAM {x:Str}:St (zdN [.str x] S Q) (Q (.int x.length) S):=⟨fun h=>zuu h⟩
instance zxH:St (zbX [.tup xs] S Q) (Q (.tup xs) S):=⟨fun h=>zpL h⟩
instance zzB {TQ:Bool->Sto->Prop} {b:Bool}:St (zpp TQ (.bl b) S) (TQ b S):=⟨fun h=>zrS h⟩
end
section
variable {X:Cx} {B:Hp}
def zmg (f:List Bool->Bool):CM:=fun ds S Q=>match ds with
 | [.ref a]=>∃ bs:List Bool,S a=some (.lst (bs.map D.bl))∧Q (.bl (f bs)) S
 | _=>False
abbrev ztF:CM:=zmg fun bs=>bs.all id
abbrev zw9:CM:=zmg fun bs=>bs.any id
theorem zmF {K:PySem.W.Frag} {H:Hp}:∀ {bs:List Bool} {vs:List V},DVs K H (bs.map D.bl) vs->vs=bs.map V.bl
 | [],_,h=>by cases h;rfl
 | b :: bs,_,h=>by
  cases h with
  | cons h1 h2=>
   cases h1
   rw [zmF h2]
   rfl
theorem zm8 {f:List Bool->Bool}:∀ ds S (Q Q':DQ),(∀ d S,Q d S->Q' d S)->zmg f ds S Q->zmg f ds S Q':=fun ds S Q Q' i q=>by
 unfold zmg at q ⊢
 split at q
 ·obtain ⟨bs,e,q⟩:=q
  exact ⟨bs,e,i _ _ q⟩
 ·exact q.elim
theorem zpf (hc:X.calm=true):zhe X (.builtin "all") ztF:=by
 refine zjr _ (cr_all hc) (fun xs H Q ds S h r q=>?_) zm8
 unfold ztF zmg at q
 split at q
 ·obtain ⟨v,rfl,dv⟩:=zl9 h
  cases dv
  obtain ⟨bs,e0,q⟩:=q
  obtain ⟨vs,e1,z⟩:=r _ _ e0
  obtain rfl:=zmF z
  exact ⟨_,bs,rfl,SqL.of e1,zaC q r (.bl _)⟩
 ·exact q.elim
theorem zwY (hc:X.calm=true):zhe X (.builtin "any") zw9:=by
 refine zjr _ (cr_any hc) (fun xs H Q ds S h r q=>?_) zm8
 unfold zw9 zmg at q
 split at q
 ·obtain ⟨v,rfl,dv⟩:=zl9 h
  cases dv
  obtain ⟨bs,e0,q⟩:=q
  obtain ⟨vs,e1,z⟩:=r _ _ e0
  obtain rfl:=zmF z
  exact ⟨_,bs,rfl,SqL.of e1,zaC q r (.bl _)⟩
 ·exact q.elim
def znr:CM:=fun ds S Q=>match ds with
 | [.ref a]=>∃ xs,S a=some (.lst xs)∧Q (.tp true xs) S
 | _=>False
theorem zpg:CallR X (.type "tuple") (fun xs H Q=>∃ p ys,xs=[.ref p]∧SqL X.K H p ys∧∀ l o,H l=none->o.dict=none->Q (.ref l) (upd H l (.frz o (.tup ys)))):=by
 intro pins s σ H xs us Q I r h
 obtain ⟨p,ys,rfl,hq,q⟩:=h
 obtain ⟨u,rfl,rx⟩:=vals1 r
 cases rx
 obtain ⟨its,rv,pl,hz⟩:=I.list hq
 have hn:=rv.length
 refine call_tuple_list pl.isList (fun h1 kp=>?_) (by simp only [List.size_toArray] <;> omega)
 have I1:Inv X pins σ H { s with heap:=h1 }:=I.kept (t':=s.toks) kp
 refine ⟨.ref h1.objs.size,upd H h1.objs.size (.frz { cls:=.type "tuple", data:=.seq its.toArray } (.tup ys)),?_,rfl,q _ _ (I1.hok.fresh (Nat.le_refl _)) rfl⟩
 refine I1.laid (t':=s.toks) (fun b o e=>Heap.get?_push_of_some _ e) (Nat.le_refl _) ?_
 exact ⟨Heap.get?_push_size _ rfl,hz,its,rv,IsTup.new _ _⟩
theorem ztv:zhe X (.type "tuple") znr:=by
 refine zjr _ zpg (fun xs H Q ds S h r q=>?_) (fun ds S Q Q' i q=>?_)
 ·unfold znr at q
  split at q
  ·obtain ⟨v,rfl,dv⟩:=zl9 h
   cases dv
   obtain ⟨xs,e0,q⟩:=q
   obtain ⟨vs,e1,z⟩:=r _ _ e0
   refine ⟨_,vs,rfl,SqL.of e1,fun l o hl ho=>q _ _ (Le.new hl) (r.more hl) (.tup (.inl (.inr ⟨o,upd_same⟩)) (z.le (Le.new hl)) ⟨o,upd_same,ho⟩)⟩
  ·exact q.elim
 ·unfold znr at q ⊢
  split at q
  ·obtain ⟨xs,e,q⟩:=q
   exact ⟨xs,e,i _ _ q⟩
  ·exact q.elim
def okT (d:D) (_:Sto):Prop:=match d with
 | .tp f _=>f=true
 | _=>False
def tyN (x:V) (H:Hp):Prop:=∃ a o vs,x = .ref a∧H a=some (.frz o (.tup vs))∧o.dict=none
def zDZ:MM:=fun d ds S Q=>match d,ds with
 | .tp _ xs,[.str z]=>∃ (ys:List Str) (j:Nat),xs=ys.map D.str∧ys[j]? = some z∧(∀ m,m < j->ys[m]?≠some z)∧Q (.int (j:Nat)) S
 | _,_=>False
end
section
variable {K:PySem.W.Frag} {P:Program} {w:World} {H1:Hp} {a b:Addr} {ds es:List D}
end
section
variable {X:Cx} {B:Hp} {p pos tpos:Pos} {elts:List Expr} {kk:Nat}
def zwI (m:AM):IM:=fun env S R=>m env S fun ds S1=>match ds with
 | [.ref a,.ref b]=>∃ xs ys,S1 a=some (.lst xs)∧S1 b=some (.lst ys)∧R (List.zipWith (fun x y=>.tup [x,y]) xs ys) (fun S=>S a=some (.lst xs)∧S b=some (.lst ys)) S1
 | _=>False
end
section
variable {X:Cx} {B:Hp} {pos:Pos}
def znc:EM:=fun _ S Q=>∀ p,S p=none->Q (.ref p) (put S p (.dit []))
theorem zqd:ME X B (.Dict [] [] pos) znc:=by
 refine ⟨zbF pe_dnewT fun σ H Q q=>?_,fun env S Q Q' i q p hp=>i _ _ (q p hp)⟩
 obtain ⟨lB,env,S,r0,z0,q⟩:=q
 exact fun p hp=>q p (z0.free hp) _ _ (Le.new hp) (z0.new (o:=.dit []) hp ⟨[],upd_same,.nil⟩) (.ref p)
def zl5:D->Option (List Key)
 | .tp f xs=>if f then none else xs.mapM keyD
 | _=>none
theorem zl8 {K:PySem.W.Frag} {H:Hp}:∀ {ds:List D} {vs:List V} {k:List Key},DVs K H ds vs->ds.mapM keyD=some k->vs=k.map kV
 | [],_,k,h,e=>by
  cases h
  simp at e
  subst e
  rfl
 | d :: ds,_,k,h,e=>by
  cases h with
  | cons h1 h2=>
   rw [List.mapM_cons] at e
   cases e1:keyD d with
   | none=>rw [e1] at e;cases e
   | some x=>
    rw [e1] at e
    cases e2:ds.mapM keyD with
    | none=>rw [e2] at e;cases e
    | some xs=>
     rw [e2] at e
     cases e
     rw [zl8 h2 e2,zhj h1 e1]
     rfl
theorem zoU {K:PySem.W.Frag} {H:Hp} {d:D} {v:V} {k:List Key} (h:DV K H d v) (e:zl5 d=some k):∃ b,v = .ref b∧H b=some (.tup (k.map kV)):=by
 cases h <;> first | (cases e;done) | skip
 rename_i a vs ds f s z t
 cases f with
 | true=>cases e
 | false=>exact ⟨a,rfl,by rw [show H a=some (.tup vs) from t,zl8 z e]⟩
def setT (S:Sto) (o i v:D):Option Sto:=match o,zl5 i with
 | .ref a,some k=>match S a with
  | some (.dit kvs)=>if kvs.length < sizeLine then some (put S a (.dit (putD kvs k v))) else none
  | _=>none
 | _,_=>none
def zy5 (X:Cx):TSet:=fun o i v H Q=>∃ do_ di dv S S',DV X.K H do_ o∧DV X.K H di i∧DV X.K H dv v∧Rp X.K X.prog X.w S H∧setT S do_ di dv=some S'∧∀ H',Le H H'->Rp X.K X.prog X.w S' H'->Q H'
theorem zpH (hu:X.A.units+1 < cLine):PSet X (zy5 X):=by
 intro pins s σ H o i v ov iv u Q I ro ri rv h
 obtain ⟨do_,di,dv,S,S',h1,h2,h3,r,e,q⟩:=h
 unfold setT at e
 split at e
 ·rename_i a k ek
  cases h1
  split at e
  ·rename_i kvs e0
   split at e
   ·rename_i hl
    cases e
    obtain ⟨vs,q1,z1⟩:=r _ _ e0
    have mu:Mut (H a):=by rw [q1];trivial
    obtain ⟨b,rfl,hb⟩:=zoU h2 ek
    exact set_dict hu pins s σ H _ _ v ov iv u Q I ro ri rv ⟨a,_,rfl,DPut.t q1 hb (by rw [← z1.length];exact hl),q _ (Le.mut mu) (r.wr mu ⟨_,upd_same,(z1.put k h3).le (Le.mut mu)⟩)⟩
   ·cases e
  ·cases e
 ·cases e
def zxN (mo mi:EM):GM:=fun d env S Q=>mo env S fun o S1=>mi env S1 fun i S2=>match setT S2 o i d with
 | some S3=>Q env S3
 | none=>False
theorem zsY {o i:Expr} {mo mi:EM} (hu:X.A.units+1 < cLine) (ho:ME X B o mo) (hi:ME X B i mi)
  (ha:∀ v,assign (.Subscript o i pos) X.env v=(do
   let ov ← holding [v] (eval o X.env)
   let iv ← holding [v,ov] (eval i X.env)
   standAt pos
   holding [v,ov,iv] (setItem ov iv v)
   release [v,ov,iv] []):=by intro _;rfl):MG X B (.Subscript o i pos) (zxN mo mi):=by
 refine ⟨zmZ (pg_sub ho.pe hi.pe (zpH hu) ha) fun v σ H Q q=>?_,fun d env S Q Q' i q=>ho.mono env S _ _ (fun o S1 q=>hi.mono env S1 _ _ (fun j S2 q=>?_) q) q⟩
 ·obtain ⟨lB,d,env,S,dv,r0,z0,q⟩:=q
  refine ⟨lB,env,S,r0,z0,ho.mono env S _ _ (fun o S1 q v1 H1 l1 z1 d1=>?_) q⟩
  refine ⟨lB.trans l1,env,S1,r0.le l1,z1,hi.mono env S1 _ _ (fun j S2 q v2 H2 l2 z2 d2=>?_) q⟩
  split at q
  ·rename_i S3 e
   exact ⟨o,j,d,S2,S3,d1.le l2,d2,dv.le (l1.trans l2),z2,e,fun H3 l3 z3=>q _ H3 ((l1.trans l2).trans l3) (r0.le ((l1.trans l2).trans l3)) z3⟩
  ·exact q.elim
 ·split at q
  ·exact i _ _ q
  ·exact q.elim
def tFz (t:TE):TE:=fun σ H Q=>t σ H fun x H1=>∃ d u,H1 d=some u∧Mut (some u)∧∀ od,Q x (upd H1 d (.frz od u))
theorem zy7 {e:Expr} {t:TE} (h:PE X e t):PE X e (tFz t):=⟨fun pins s σ H Q I hw=>thn (h.run pins s σ H _ I hw) fun v s1 ⟨x,H1,I1,r,d,u,hd,mu,q⟩=>by
 obtain ⟨od,I2⟩:=I1.lock hd mu
 exact ⟨x,_,I2,r,q od⟩⟩
def zpd (S:Sto) (a:Addr):Sto:=fun b=>if b=a then none else S b
def mFz (m:EM):EM:=fun env S Q=>m env S fun d S1=>match d with
 | .ref a=>match S1 a with
  | some (.dit kvs)=>(∀ kv∈kvs,∀ x∈kv.1,okK x)∧Q (.rod (kvs.map (·.1)) (kvs.map (·.2))) (zpd S1 a)
  | _=>False
 | _=>False
theorem zoT {K:PySem.W.Frag} {H:Hp} {κ:Type} {ds:List (κ×D)} {vs:List (κ×V)} (h:KVs K H ds vs):DVs K H (ds.map (·.2)) (vs.map (·.2))∧(ds.map (·.1)).zip (vs.map (·.2))=vs∧ds.map (·.1)=vs.map (·.1):=by
 induction h with
 | nil=>exact ⟨.nil,rfl,rfl⟩
 | cons h1 _ ih=>exact ⟨.cons h1 ih.1,by simp [ih.2.1],by simp [ih.2.2]⟩
theorem zzh {e:Expr} {m:EM} (h:ME X B e m):ME X B e (mFz m):=by
 refine ⟨zbF (zy7 h.pe) fun σ H Q q=>?_,fun env S Q Q' i q=>h.mono env S _ _ (fun d S1 q=>?_) q⟩
 ·obtain ⟨lB,env,S,r0,z0,q⟩:=q
  refine ⟨lB,env,S,r0,z0,h.mono env S _ _ (fun d S1 q v H1 l1 z1 d1=>?_) q⟩
  split at q
  ·rename_i a
   cases d1
   split at q
   ·rename_i kvs e0
    obtain ⟨vs,e1,z⟩:=z1 _ _ e0
    have mu:Mut (some (HO.dT vs)):=trivial
    refine ⟨a,_,e1,mu,fun od=>?_⟩
    have l2:Le H1 (upd H1 a (.frz od (.dT vs))):=Le.mut (by rw [e1];exact mu)
    obtain ⟨y1,y2,y3⟩:=zoT z
    refine q.2 _ _ (l1.trans l2) (fun b o eb=>?_) (.rod (vs:=vs.map (·.2)) ⟨od,by rw [y2];exact upd_same⟩ (by rw [y3];simp) (fun k hk x hx=>?_) (y1.le l2))
    ·unfold zpd at eb
     split at eb
     ·cases eb
     ·rename_i hb
      exact (z1 b o eb).at l2 (upd_ne hb)
    ·obtain ⟨kv,m1,rfl⟩:=List.mem_map.mp hk
     exact q.1 kv m1 x hx
   ·exact q.elim
  ·exact q.elim
 ·split at q
  ·split at q
   ·exact ⟨q.1,i _ _ q.2⟩
   ·exact q.elim
  ·exact q.elim
def zn4:BM:=fun d e S Q=>match d,zl5 e with
 | .rod ks xs,some k=>match valD (ks.zip xs) k with
  | some x=>Q x S
  | none=>False
 | _,_=>False
theorem zoD:∀ d e S (Q Q':DQ),(∀ d S,Q d S->Q' d S)->zn4 d e S Q->zn4 d e S Q':=fun d e S Q Q' i q=>by
 unfold zn4 at q ⊢
 split at q
 ·split at q
  ·exact i _ _ q
  ·exact q.elim
 ·exact q.elim
theorem zoS {K:PySem.W.Frag} {H:Hp} {κ:Type}:∀ {ks:List κ} {ds:List D} {vs:List V},DVs K H ds vs->ks.length=vs.length->KVs K H (ks.zip ds) (ks.zip vs)
 | [],_,_,h,_=>by cases h <;> exact .nil
 | k :: ks,_,_,h,e=>by
  cases h with
  | nil=>simp at e
  | cons h1 h2=>exact .cons h1 (zoS h2 (by simpa using e))
theorem zoI {a b:Expr} {ma mb:EM} (hu:X.A.units+1 < cLine) (ha:ME X B a ma) (hb:ME X B b mb) (hs:PlainIx b:=by exact fun _ _=>rfl):ME X B (.Subscript a b pos) (mOp zn4 ma mb):=by
 refine ⟨zbF (pe_ix (zoY hu) ha.pe hb.pe hs) fun σ H Q h=>zlK ha.mono hb.mono (fun x y H Q d e S h1 h2 r h=>?_) zoD h,zkE zoD ha.mono hb.mono⟩
 unfold zn4 at h
 split at h
 ·rename_i ks xs k ek
  split at h
  ·rename_i x0 e0
   obtain ⟨c,rfl,hc⟩:=zoU h2 ek
   cases h1 with
   | rod hs hl hk z=>
    obtain ⟨o,hs⟩:=hs
    obtain ⟨v,e1,dv⟩:=((zoS z hl).val k).1 _ e0
    exact ⟨_,v,rfl,.inr ⟨_,k,c,.inr ⟨o,hs⟩,rfl,hc,e1.symm⟩,zaC h r dv⟩
  ·exact h.elim
 ·exact h.elim
theorem zru {K:PySem.W.Frag} {H:Hp}:∀ {k:List Key},(∀ x∈k,okK x)->DVs K H (k.map kD) (k.map kV)
 | [],_=>.nil
 | x :: k,h=>by
  refine .cons ?_ (zru fun y hy=>h y (List.mem_cons_of_mem _ hy))
  cases x with
  | inl i=>exact .int i
  | inr s=>exact .str s (h (.inr s) (List.mem_cons_self ..))
theorem ztT {K:PySem.W.Frag} {P:Program} {w:World} {H1:Hp} {a:Addr} {o:Obj} {ks:List (List Key)} {vs:List V} (hs:H1 a=some (.frz o (.dT (ks.zip vs)))) (hl:ks.length=vs.length) (hk:∀ k∈ks,∀ x∈k,okK x) :
  WkD K P w H1 (Itkt a o (ks.zip vs)) (ks.map fun k=>.tup (k.map kD)) fun _=>True where
 go:=fun i S H hi l r _=>⟨l.frz _ _ _ hs,by simp at hi;simp [← hl];exact hi⟩
 stop:=fun S H l r _=>⟨l.frz _ _ _ hs,by simp [← hl]⟩
 yld:=fun i S H x H' hi l r _ y=>by
  obtain ⟨rfl,k,v,q,e,rfl,eq⟩:=y
  have ek:ks[i]? = some k:=by
   rw [List.getElem?_zip_eq_some] at e
   exact e.1
  refine ⟨Le.refl _,r,.tup (k.map kD),by rw [List.getElem?_map,ek];rfl,?_⟩
  exact .tup (SqT.of eq) (zru (hk k (List.mem_of_getElem? ek))) eq
def zwJ (m:EM):IM:=fun env S R=>m env S fun d S1=>match d with
 | .rod ks _=>R (ks.map fun k=>.tup (k.map kD)) (fun _=>True) S1
 | _=>False
theorem zq9 {tg l:Expr} {m:EM} (h:ME X B l m):MI X B tg l (zwJ m):=by
 refine ⟨zkz (pi_keys h.pe) fun σ H R q=>?_,fun env S Q Q' i q=>h.mono env S _ _ (fun d S1 q=>?_) q⟩
 ·obtain ⟨lB,env,S,r0,z0,q⟩:=q
  refine ⟨lB,env,S,r0,z0,h.mono env S _ _ (fun d S1 q v H1 l1 z1 d1=>?_) q⟩
  split at q
  ·cases d1 with
   | rod hs hl hk z=>
    obtain ⟨o,hs⟩:=hs
    exact ⟨_,o,rfl,.inr ⟨_,hs,q _ H1 l1 z1 (ztT hs hl hk)⟩⟩
  ·exact q.elim
 ·split at q
  ·exact i _ _ _ q
  ·exact q.elim
end
def lcI (g:GM) (t:TM) (m:EM) (G:Sto->Prop) (p:Addr) (N:Sto->Prop) (env:Slo):List D->Sto->Prop
 | [],S=>G S∧N S
 | x :: xs,S=>G S∧g x env S fun env2 S2=>t env2 S2 fun b S3=>match b with
  | true=>m env2 S3 fun d S4=>match S4 p with
   | some (.lst ys)=>ys.length < sizeLine∧lcI g t m G p N env xs (put S4 p (.lst (ys++[d])))
   | _=>False
  | false=>lcI g t m G p N env xs S3
def lcO (g:GM) (t:TM) (mi1:IM) (g1:GM) (t1:TM) (m:EM) (vs1:List Nat) (G:Sto->Prop) (p:Addr) (Q:DQ) (env:Slo):List D->Sto->Prop
 | [],S=>G S∧Q (.ref p) S
 | x :: xs,S=>G S∧g x env S fun env2 S2=>t env2 S2 fun b S3=>match b with
  | true=>mi1 env2 S3 fun ys G1 S4=>lcI g1 t1 m G1 p (lcO g t mi1 g1 t1 m vs1 G p Q env xs) (zcJ env2 vs1) ys S4
  | false=>lcO g t mi1 g1 t1 m vs1 G p Q env xs S3
def ztJ (mi:IM) (g:GM) (t:TM) (mi1:IM) (g1:GM) (t1:TM) (m:EM) (vs vs1:List Nat):EM:=fun env S Q=>mi env S fun xs G S1=>∀ p,S1 p=none->lcO g t mi1 g1 t1 m vs1 G p Q (zcJ env vs) xs (put S1 p (.lst []))
section
abbrev zw4 (g:GM):Prop:=∀ d env S (Q Q':Slo->Sto->Prop),(∀ e S,Q e S->Q' e S)->g d env S Q->g d env S Q'
abbrev ztM (mi:IM):Prop:=∀ env S (Q Q':List D->(Sto->Prop)->Sto->Prop),(∀ xs G S,Q xs G S->Q' xs G S)->mi env S Q->mi env S Q'
variable {X:Cx} {B:Hp} {elt tg iter tg1 iter1:Expr} {ifs ifs1:List Expr} {scope:Scope} {own:List (Str×Nat)} {pos:Pos} {mi mi1:IM} {g g1:GM} {t t1:TM} {m:EM} {vs1:List Nat}
theorem zlv {G:Sto->Prop} {p:Addr} {env:Slo} {N N':Sto->Prop} (hg:zw4 g) (ht:zkh t) (hm:zdx m) (i:∀ S,N S->N' S):∀ xs S,lcI g t m G p N env xs S->lcI g t m G p N' env xs S
 | [],S,h=>⟨h.1,i _ h.2⟩
 | x :: xs,S,h=>⟨h.1,hg _ _ _ _ _ (fun e s q=>ht _ _ _ _ (fun b S3 q=>by
   cases b with
   | true=>
    refine hm _ _ _ _ (fun d S4 q=>?_) q
    split at q
    ·exact ⟨q.1,zlv hg ht hm i xs _ q.2⟩
    ·exact q.elim
   | false=>exact zlv hg ht hm i xs _ q) q) h.2⟩
theorem zlt {G:Sto->Prop} {p:Addr} {env:Slo} {Q Q':DQ} (hg:zw4 g) (ht:zkh t) (hi1:ztM mi1) (hg1:zw4 g1) (ht1:zkh t1) (hm:zdx m) (i:∀ d S,Q d S->Q' d S):∀ xs S,lcO g t mi1 g1 t1 m vs1 G p Q env xs S->lcO g t mi1 g1 t1 m vs1 G p Q' env xs S
 | [],S,h=>⟨h.1,i _ _ h.2⟩
 | x :: xs,S,h=>⟨h.1,hg _ _ _ _ _ (fun e s q=>ht _ _ _ _ (fun b S3 q=>by
   cases b with
   | true=>exact hi1 _ _ _ _ (fun ys G1 S4 q=>zlv hg1 ht1 hm (fun S5 q=>zlt hg ht hi1 hg1 ht1 hm i xs _ q) _ _ q) q
   | false=>exact zlt hg ht hi1 hg1 ht1 hm i xs _ q) q) h.2⟩
theorem zt2 {K:PySem.W.Frag} {P:Program} {w:World} {wi wi1:TI} {tt tt1:TG} {vs:List Nat} (hwi:∀ σ H R,(Le B H∧∃ env S,zdy K H env σ∧Rp K P w S H∧mi env S fun xs G S1=>∀ J H1,Le H H1->Rp K P w S1 H1->WkD K P w H1 J xs G->R J H1)->wi σ H R)
  (hwi1:∀ σ H R,(Le B H∧∃ env S,zdy K H env σ∧Rp K P w S H∧mi1 env S fun xs G S1=>∀ J H1,Le H H1->Rp K P w S1 H1->WkD K P w H1 J xs G->R J H1)->wi1 σ H R)
  (hmi:ztM mi) (hmi1:ztM mi1) (bt:BT K vs tt g) (bt1:BT K vs1 tt1 g1) (ht:zkh t) (ht1:zkh t1) (hm:zdx m) {σ:L2.St} {H:Hp} {Q:VK}
  (q:up K P w B (ztJ mi g t mi1 g1 t1 m vs vs1) σ H Q):tLc2 wi tt (upT K P w B t) wi1 tt1 (upT K P w B t1) (up K P w B m) vs vs1 σ H Q:=by
 obtain ⟨lB,env,S,r0,z0,q⟩:=q
 refine hwi _ _ _ ⟨lB,env,S,r0,z0,hmi _ _ _ _ (fun xs G S1 q J H1 l1 z1 wk=>?_) q⟩
 intro p hp
 have l2:Le H1 (upd H1 p (.lst [])):=Le.new hp
 have z2:Rp K P w (put S1 p (.lst [])) (upd H1 p (.lst [])):=z1.new hp ⟨[],upd_same,.nil⟩
 have q:=q p (z1.free hp)
 refine ⟨fun i k H'=>i≤xs.length∧k=xs.length - i∧Le (upd H1 p (.lst [])) H'∧∃ S,Rp K P w S H'∧lcO g t mi1 g1 t1 m vs1 G p (dnE K P w H Q) (zcJ env vs) (xs.drop i) S,⟨xs.length,Nat.zero_le _,rfl,Le.refl _,_,z2,q⟩,fun i k H' h=>?_⟩
 obtain ⟨hi,rfl,l3,S,z3,q⟩:=h
 have l23:=l2.trans l3
 by_cases hlt:i < xs.length
 ·have ed:xs.drop i=xs[i] :: xs.drop (i+1):=List.drop_eq_getElem_cons hlt
  rw [ed] at q
  refine .inr ⟨wk.go i S H' hlt l23 z3 q.1,fun H'=>Le (upd H1 p (.lst [])) H'∧∃ S,Rp K P w S H'∧lcO g t mi1 g1 t1 m vs1 G p (dnE K P w H Q) (zcJ env vs) (xs.drop (i+1)) S,fun H3 h=>⟨xs.length - (i+1),by omega,hlt,rfl,h⟩,fun x H3 hy=>?_⟩
  obtain ⟨l4,z4,d,ex,dv⟩:=wk.yld i S H' x H3 hlt l23 z3 q.1 hy
  have e':d=xs[i]:=by
   rw [List.getElem?_eq_getElem hlt] at ex
   exact (Option.some.inj ex).symm
  subst e'
  have l04:=l1.trans (l23.trans l4)
  refine bt.mt _ _ _ _ _ (fun σ2 H2 z=>?_) (bt.td _ x _ _ S H3 _ dv ((r0.le l04).wipe vs) q.2)
  obtain ⟨e2,rfl,env2,r2,q2⟩:=z
  refine ⟨e2.trans zhN,lB.trans l04,env2,S,r2,z4,ht _ _ _ _ (fun b S3 q H5 l5 z5=>?_) q2⟩
  cases b with
  | false=>exact ⟨l3.trans (l4.trans l5),S3,z5,q⟩
  | true=>
   refine hwi1 _ _ _ ⟨lB.trans (l04.trans l5),env2,S3,r2.le l5,z5,hmi1 _ _ _ _ (fun ys G1 S4 q J1 H6 l6 z6 wk1=>?_) q⟩
   refine ⟨fun j k H'=>j≤ys.length∧k=ys.length - j∧Le H6 H'∧∃ S,Rp K P w S H'∧lcI g1 t1 m G1 p (lcO g t mi1 g1 t1 m vs1 G p (dnE K P w H Q) (zcJ env vs) (xs.drop (i+1))) (zcJ env2 vs1) (ys.drop j) S,⟨ys.length,Nat.zero_le _,rfl,Le.refl _,_,z6,q⟩,fun j k H7 h=>?_⟩
   obtain ⟨hj,rfl,l7,S7,z7,q⟩:=h
   by_cases hjl:j < ys.length
   ·have ej:ys.drop j=ys[j] :: ys.drop (j+1):=List.drop_eq_getElem_cons hjl
    rw [ej] at q
    refine .inr ⟨wk1.go j S7 H7 hjl l7 z7 q.1,fun H'=>Le H6 H'∧∃ S,Rp K P w S H'∧lcI g1 t1 m G1 p (lcO g t mi1 g1 t1 m vs1 G p (dnE K P w H Q) (zcJ env vs) (xs.drop (i+1))) (zcJ env2 vs1) (ys.drop (j+1)) S,fun H3 h=>⟨ys.length - (j+1),by omega,hjl,rfl,h⟩,fun x H8 hy=>?_⟩
    obtain ⟨l8,z8,d,ex,dv⟩:=wk1.yld j S7 H7 x H8 hjl l7 z7 q.1 hy
    have e':d=ys[j]:=by
     rw [List.getElem?_eq_getElem hjl] at ex
     exact (Option.some.inj ex).symm
    subst e'
    have l08:=l5.trans (l6.trans (l7.trans l8))
    refine bt1.mt _ _ _ _ _ (fun σ3 H9 z=>?_) (bt1.td _ x _ _ S7 H8 _ dv ((r2.le l08).wipe vs1) q.2)
    obtain ⟨e3,rfl,env3,r3,q3⟩:=z
    refine ⟨e3.trans zhN,lB.trans (l04.trans l08),env3,S7,r3,z8,ht1 _ _ _ _ (fun b S9 q H10 l9 z9=>?_) q3⟩
    cases b with
    | false=>exact ⟨l7.trans (l8.trans l9),S9,z9,q⟩
    | true=>
     refine ⟨lB.trans (l04.trans (l08.trans l9)),env3,S9,r3.le l9,z9,hm _ _ _ _ (fun d S10 q v H11 l10 z10 d10=>?_) q⟩
     split at q
     ·rename_i us0 ey
      obtain ⟨us,f1,f2⟩:=z10 _ _ ey
      have hmut:Mut (H11 p):=by rw [f1];exact trivial
      have l11:=Le.mut (o:=.lst (us++[v])) hmut
      exact ⟨us,f1,by rw [← f2.length];exact q.1,l7.trans (l8.trans (l9.trans (l10.trans l11))),_,z10.wr (o:=.lst (us0++[d])) hmut ⟨_,upd_same,(f2.append (.cons d10 .nil)).le l11⟩,q.2⟩
     ·exact q.elim
   ·have ei:j=ys.length:=by omega
    subst ei
    rw [List.drop_length] at q
    exact .inl ⟨wk1.stop S7 H7 l7 z7 q.1,l3.trans (l4.trans (l5.trans (l6.trans l7))),S7,z7,q.2⟩
 ·have ei:i=xs.length:=by omega
  subst ei
  rw [List.drop_length] at q
  exact .inl ⟨wk.stop S H' l23 z3 q.1,q.2 _ H' (l1.trans l23) z3 (.ref p)⟩
theorem zsR {vs:List Nat} (hmi:ztM mi) (hg:zw4 g) (ht:zkh t) (hi1:ztM mi1) (hg1:zw4 g1) (ht1:zkh t1) (hm:zdx m):zdx (ztJ mi g t mi1 g1 t1 m vs vs1):=fun env S Q Q' i q=>
 hmi _ _ _ _ (fun xs G S1 q p hp=>zlt hg ht hi1 hg1 ht1 hm i _ _ (q p hp)) q
abbrev ztV (X:Cx) (B:Hp) (mi:IM):TI:=fun σ H R=>Le B H∧∃ env S,zdy X.K H env σ∧Rp X.K X.prog X.w S H∧mi env S fun xs G S1=>∀ J H1,Le H H1->Rp X.K X.prog X.w S1 H1->WkD X.K X.prog X.w H1 J xs G->R J H1
theorem zoA {tt tt1:TG} {i:Nat} {y:Str} {py spos:Pos} (hc:X.calm=true) (hN:X.N.Nodup) (hi:MI X B tg iter mi) (ok:BlkOk X.N X.env.scope scope own) (bt:BT X.K (own.map (·.2)) tt g) (bt1:BT X.K vs1 tt1 g1)
  (hg:Blk X scope fun Y=>PG Y tg tt) (hm:Blk X scope fun Y=>MTs Y B ifs t) (hi1:Blk X scope fun Y=>MI Y B tg1 iter1 mi1) (hg1:Blk X scope fun Y=>PG Y tg1 tt1) (hm1:Blk X scope fun Y=>MTs Y B ifs1 t1) (he:Blk X scope fun Y=>ME Y B elt m)
  (hv:∀ i∈vs1,i∈own.map (·.2):=by decide) (hy:X.N[i]? = some y:=by rfl) (hyl:X.env.scope.names.lookup y=some .local:=by rfl)
  (hsw:swapsWith (.ListComp elt [⟨tg,iter,ifs,0⟩,⟨tg1,iter1,ifs1,0⟩] scope pos) (some (.Name y py)) spos.line X.env=pure true:=by rfl) (hs:∀ x,foldedSetIterable iter X.env x=pure x:=by intro _;rfl) (hs1:∀ env x,foldedSetIterable iter1 env x=pure x:=by intro _ _;rfl) :
  MS X B (.Assign [.Name y py] (.ListComp elt [⟨tg,iter,ifs,0⟩,⟨tg1,iter1,ifs1,0⟩] scope pos) spos) (zaM (ztJ mi g t mi1 g1 t1 m (own.map (·.2)) vs1) (gNm i)):=by
 have m1:zkh t:=(hm X.s_0 (fun _=>none) 0 [] []).mono
 have m2:zdx m:=(he X.s_0 (fun _=>none) 0 [] []).mono
 have m3:zkh t1:=(hm1 X.s_0 (fun _=>none) 0 [] []).mono
 have m4:ztM mi1:=(hi1 X.s_0 (fun _=>none) 0 [] []).mono
 have m5:=zsR (vs:=own.map (·.2)) (vs1:=vs1) hi.mono bt.mg m1 m4 bt1.mg m3 m2
 refine ⟨zd4 (ps_setLc2 (tt:=upT X.K X.prog X.w B t) (tt1:=upT X.K X.prog X.w B t1) (te:=up X.K X.prog X.w B m) (wi:=ztV X B mi) (wi1:=ztV X B mi1) hc hN hy hyl hsw hi.pi ok hv hg (fun s H C cl fp=>(hm s H C cl fp).pts) (fun s H C cl fp=>(hi1 s H C cl fp).pi) hg1 (fun s H C cl fp=>(hm1 s H C cl fp).pts) (fun s H C cl fp=>(he s H C cl fp).pe) hs hs1)
  fun D σ H q=>?_,fun A B env S l q=>m5 _ _ _ _ (fun d S1 q=>l.nx _ _ q) q⟩
 obtain ⟨lB,env,S,r0,z0,q⟩:=q
 refine zt2 (B:=B) (mi:=mi) (mi1:=mi1) (g:=g) (t:=t) (g1:=g1) (t1:=t1) (m:=m) (fun _ _ _ z=>z) (fun _ _ _ z=>z) hi.mono m4 bt bt1 m1 m3 m2 ⟨lB,env,S,r0,z0,m5 _ _ _ _ (fun d S1 q v H1 l z dv=>?_) q⟩
 exact q _ H1 l ((r0.le l).set dv i) z
end
section
variable {prog:Program} {w:World} {A:Around} {E:Value->Shared->Prop} {s:Shared}
end
section
variable {X:Cx} {B:Hp}
def zBZ (K:PySem.W.Frag) (te:TE):TE:=fun σ H Q=>te σ H fun x H1=>∃ a xs,x = .ref a∧SqT K H1 a xs∧∀ p,H1 p=none->Q (.ref p) (upd H1 p (.tup xs.reverse))
def zwa (m:EM):EM:=fun env S Q=>m env S fun d S1=>match d with
 | .tp _ xs=>Q (.tup xs.reverse) S1
 | _=>False
end
section
variable {env:Slo} {S:Sto} {Q:DQ} {A:Fin} {me mo mi':EM} {ms:AM} {d e:D} {a b p:Addr} {xs ys:List D} {bs:List Bool} {R:List D->(Sto->Prop)->Sto->Prop} {ks:List (List Key)} {kvs:List (List Key×D)} {k:List Key} {NQ:Slo->Sto->Prop}
theorem zpT (e0:S a=some (.lst (bs.map D.bl))) (h:Q (.bl (bs.all id)) S):ztF [.ref a] S Q:=⟨bs,e0,h⟩
theorem zyZ (e0:S a=some (.lst (bs.map D.bl))) (h:Q (.bl (bs.any id)) S):zw9 [.ref a] S Q:=⟨bs,e0,h⟩
theorem zue (e0:S a=some (.lst xs)) (h:Q (.tp true xs) S):znr [.ref a] S Q:=⟨xs,e0,h⟩
def kZL (R:List D->(Sto->Prop)->Sto->Prop):List D->Sto->Prop:=fun ds S1=>match ds with
 | [.ref a,.ref b]=>∃ xs ys,S1 a=some (.lst xs)∧S1 b=some (.lst ys)∧R (List.zipWith (fun x y=>.tup [x,y]) xs ys) (fun S=>S a=some (.lst xs)∧S b=some (.lst ys)) S1
 | _=>False
theorem zsl (h:ms env S (kZL R)):zwI ms env S R:=h
theorem zyr (e1:S a=some (.lst xs)) (e2:S b=some (.lst ys)) (h:R (List.zipWith (fun x y=>.tup [x,y]) xs ys) (fun S=>S a=some (.lst xs)∧S b=some (.lst ys)) S):kZL R [.ref a,.ref b] S:=⟨xs,ys,e1,e2,h⟩
theorem zsp (h:∀ p,S p=none->Q (.ref p) (put S p (.dit []))):znc env S Q:=h
def zwC (d o:D) (env:Slo) (NQ:Slo->Sto->Prop):DQ:=fun i S2=>match setT S2 o i d with
 | some S3=>NQ env S3
 | none=>False
def zxC (d:D) (mi:EM) (env:Slo) (NQ:Slo->Sto->Prop):DQ:=fun o S1=>mi env S1 (zwC d o env NQ)
theorem zvD (h:mo env S (zxC d mi' env NQ)):zxN mo mi' d env S NQ:=h
theorem zvd (h:mi' env S (zwC d e env NQ)):zxC d mi' env NQ e S:=h
theorem zvc {v:D} (ek:zl5 d=some k) (e0:S a=some (.dit kvs)) (hl:kvs.length < sizeLine) (h:NQ env (put S a (.dit (putD kvs k v)))):zwC v (.ref a) env NQ d S:=by
 unfold zwC setT
 rw [ek]
 simp only [e0,if_pos hl]
 exact h
def kFz (Q:DQ):DQ:=fun d S1=>match d with
 | .ref a=>match S1 a with
  | some (.dit kvs)=>(∀ kv∈kvs,∀ x∈kv.1,okK x)∧Q (.rod (kvs.map (·.1)) (kvs.map (·.2))) (zpd S1 a)
  | _=>False
 | _=>False
theorem zCd (h:me env S (kFz Q)):mFz me env S Q:=h
theorem zyw (e0:S a=some (.dit kvs)) (ok:∀ kv∈kvs,∀ x∈kv.1,okK x) (h:Q (.rod (kvs.map (·.1)) (kvs.map (·.2))) (zpd S a)):kFz Q (.ref a) S:=by
 unfold kFz
 simp only [e0]
 exact ⟨ok,h⟩
theorem zsh (ek:zl5 d=some k) (e0:valD (ks.zip xs) k=some e) (h:Q e S):zn4 (.rod ks xs) d S Q:=by
 unfold zn4
 rw [ek]
 simp only [e0]
 exact h
def zxm (R:List D->(Sto->Prop)->Sto->Prop):DQ:=fun d S1=>match d with
 | .rod ks _=>R (ks.map fun k=>.tup (k.map kD)) (fun _=>True) S1
 | _=>False
theorem zvx (h:me env S (zxm R)):zwJ me env S R:=h
theorem zuN (h:R (ks.map fun k=>.tup (k.map kD)) (fun _=>True) S):zxm R (.rod ks xs) S:=h
def zqi (Q:DQ):DQ:=fun d S1=>match d with
 | .tp _ xs=>Q (.tup xs.reverse) S1
 | _=>False
theorem zuk (h:me env S (zqi Q)):zwa me env S Q:=h
theorem zrX {f:Bool} (h:Q (.tup xs.reverse) S):zqi Q (.tp f xs) S:=h
def zzs (g:GM) (t:TM) (mi1:IM) (g1:GM) (t1:TM) (m:EM) (vs vs1:List Nat) (env:Slo) (Q:DQ):List D->(Sto->Prop)->Sto->Prop:=fun xs G S1=>∀ p,S1 p=none->lcO g t mi1 g1 t1 m vs1 G p Q (zcJ env vs) xs (put S1 p (.lst []))
theorem zyo {mi mi1:IM} {g g1:GM} {t t1:TM} {m:EM} {vs vs1:List Nat} (h:mi env S (zzs g t mi1 g1 t1 m vs vs1 env Q)):ztJ mi g t mi1 g1 t1 m vs vs1 env S Q:=h
instance zzV:St (zwI ms env S R) (ms env S (kZL R)):=⟨fun h=>zsl h⟩
instance zzY:St (znc env S Q) (∀ p,S p=none->Q (.ref p) (put S p (.dit []))):=⟨fun h=>zsp h⟩
instance zBy:St (zxN mo mi' d env S NQ) (mo env S (zxC d mi' env NQ)):=⟨fun h=>zvD h⟩
instance zBi:St (zxC d mi' env NQ e S) (mi' env S (zwC d e env NQ)):=⟨fun h=>zvd h⟩
instance zEl:St (mFz me env S Q) (me env S (kFz Q)):=⟨fun h=>zCd h⟩
instance zBt:St (zwJ me env S R) (me env S (zxm R)):=⟨fun h=>zvx h⟩
instance zAZ:St (zxm R (.rod ks xs) S) (R (ks.map fun k=>.tup (k.map kD)) (fun _=>True) S):=⟨fun h=>zuN h⟩
instance zAD:St (zwa me env S Q) (me env S (zqi Q)):=⟨fun h=>zuk h⟩
instance zzF {f:Bool}:St (zqi Q (.tp f xs) S) (Q (.tup xs.reverse) S):=⟨fun h=>zrX h⟩
instance zCX {mi mi1:IM} {g g1:GM} {t t1:TM} {m:EM} {vs vs1:List Nat}:St (ztJ mi g t mi1 g1 t1 m vs vs1 env S Q) (mi env S (zzs g t mi1 g1 t1 m vs vs1 env Q)):=⟨fun h=>zyo h⟩
end
def kFr (n:Nat) (g:Addr->Option Obj):PySem.W.Frag:=He.frG g (frD g n [mainGlobals]++[cStatics])
def zDz (n:Nat) (fa:List He.Fa) (fn:List He.DefD) (su:List SuD) (file:Str) (ex:List Str):PySem.W.Hook where
 α:=AlX
 obs:=fun s=>obsX fa fn su file ex (kFr n s.heap.get?)
 val:=fun _=>valX fn su
 says:=fun _ h=>∃ K:PySem.W.Frag,K.In h∧obsX fa fn su file ex K=valX fn su
 of:=fun _ _ e=>⟨_,He.frG_in,e⟩
 keeps:=fun _ _ _ ⟨K,hK,c⟩ k=>⟨K,hK.keeps k,c⟩
section
variable {env:Slo} {S:Sto} {A:Fin} {m:SM} {t:TM}
def kWh (W:Nat->Slo->Sto->Prop) (k:Nat) (m:SM) (A:Fin) (env:Slo):Bool->Sto->Prop:=fun b S1=>match b with
 | true=>m { A with nx:=fun e s=>∃ k',k' < k∧W k' e s,ct:=fun e s=>∃ k',k' < k∧W k' e s,bk:=A.nx } env S1
 | false=>A.nx env S1
theorem s_while (W:Nat->Slo->Sto->Prop) (h0:∃ k,W k env S) (h:∀ k env S,W k env S->t env S (kWh W k m A env)):zna t m A env S:=⟨W,h0,h⟩
theorem zuD {W:Nat->Slo->Sto->Prop} {k:Nat} {b:Bool} (h1:b=true->m { A with nx:=fun e s=>∃ k',k' < k∧W k' e s,ct:=fun e s=>∃ k',k' < k∧W k' e s,bk:=A.nx } env S) (h2:b=false->A.nx env S):kWh W k m A env b S:=by
 cases b
 ·exact h2 rfl
 ·exact h1 rfl
end
theorem zts {a:D} {l:List D}:List.map some (a :: l)=some a :: List.map some l:=rfl
theorem ztr:List.map (some:D->Option D) []=[]:=rfl
theorem ztt {a:Option D} {l m:List (Option D)}:(a :: l)++m=a :: (l++m):=rfl
theorem ztq {m:List (Option D)}:[]++m=m:=rfl
theorem ztp {n:Nat}:List.replicate (n+1) (none:Option D)=none :: List.replicate n none:=rfl
theorem zto:List.replicate 0 (none:Option D)=[]:=rfl
theorem ztn {a b:Option D} {l:List (Option D)}:List.set (a :: l) 0 b=b :: l:=rfl
theorem ztm {a b:Option D} {l:List (Option D)} {n:Nat}:List.set (a :: l) (n+1) b=a :: List.set l n b:=rfl
theorem ztl {env:Slo}:zcJ env []=env:=rfl
theorem ztk {env:Slo} {v:Nat} {vs:List Nat}:zcJ env (v :: vs)=(zcJ env vs).set v none:=rfl
section
variable {env env':Slo} {S:Sto} {A:Fin} {d:D} {i:Nat} {NQ:Slo->Sto->Prop}
theorem zsd (e:env.set i (some d)=env') (h:A.nx env' S):zs8 (gNm i) env A d S:=by subst e;exact h
theorem zvC (e:env.set i (some d)=env') (h:NQ env' S):gNm i d env S NQ:=by subst e;exact h
theorem zpQ (e:env.set i (some d)=env') (h:A.nx env' S):zoX i env A d S:=by subst e;exact h
end
theorem zra {α β γ:Type} {f:α->β} {h:β->Option γ} {g:α->γ}:∀ {xs:List α},(∀ a∈xs,h (f a)=some (g a))->(xs.map f).mapM h=some (xs.map g)
 | [],_=>rfl
 | x :: xs,e=>by
  rw [List.map_cons,List.mapM_cons,e x (List.mem_cons_self ..),zra fun a ha=>e a (List.mem_cons_of_mem _ ha)]
  rfl
section
variable {S:Sto} {Q:DQ} {g:Bool->Bool} {p q:PyData} {a b:Addr} {fl fl':Bool} {xs ys:List D}
theorem zqV {n:Nat} {ps:List PyData} (e:S a=some (.lst xs)) (h:xs.mapM (rs S n)=some ps):rs S (n+1) (.ref a)=some (.list ps):=by
 unfold rs
 simp only [e,h]
 rfl
theorem zrR {TQ:Bool->Sto->Prop} (h:TQ (!xs.isEmpty) S):zpp TQ (.tp fl xs) S:=zuF rfl h
end
section
variable {X:Cx} {B:Hp}
def zDE (f f':Bool) (xs ys:List D):Bool:=if xs.isEmpty then f' else if ys.isEmpty then f else false
def zBY:BM:=fun d e S Q=>match d,e with
 | .tp f xs,.tp f' ys=>xs.length+ys.length≤sizeLine∧Q (.tp (zDE f f' xs ys) (xs++ys)) S
 | _,_=>False
def zAe (d:D) (lo hi:Option Int) (S:Sto) (Q:DQ):Prop:=match d with
 | .tp f xs=>∀ g,(g=true->f=true)->Q (.tp g (cutD xs lo hi)) S
 | _=>False
def zAm (m:EM) (lo hi:OM):EM:=fun env S Q=>m env S fun d S1=>lo env S1 fun l S2=>hi env S2 fun h S3=>zAe d l h S3 Q
end
section
variable {env:Slo} {S:Sto} {Q:DQ} {me:EM} {lo hi:OM} {xs ys:List D} {f f':Bool} {l h':Option Int} {d:D}
def zzn (d:D) (l:Option Int) (Q:DQ):Option Int->Sto->Prop:=fun h S3=>zAe d l h S3 Q
def zwu (d:D) (hi:OM) (env:Slo) (Q:DQ):Option Int->Sto->Prop:=fun l S2=>hi env S2 (zzn d l Q)
def zxl (lo hi:OM) (env:Slo) (Q:DQ):DQ:=fun d S1=>lo env S1 (zwu d hi env Q)
theorem zx8 (h:me env S (zxl lo hi env Q)):zAm me lo hi env S Q:=h
theorem zuM (h:lo env S (zwu d hi env Q)):zxl lo hi env Q d S:=h
theorem zuL (h:hi env S (zzn d l Q)):zwu d hi env Q l S:=h
instance zCI:St (zAm me lo hi env S Q) (me env S (zxl lo hi env Q)):=⟨fun h=>zx8 h⟩
instance zAY:St (zxl lo hi env Q d S) (lo env S (zwu d hi env Q)):=⟨fun h=>zuM h⟩
instance zAX:St (zwu d hi env Q l S) (hi env S (zzn d l Q)):=⟨fun h=>zuL h⟩
end
section
variable {X:Cx} {B:Hp} {o e:Expr} {mo:EM} {ma:AM} {apos cpos pos:Pos} {tg:Expr}
def rPp:MM:=fun d ds S Q=>match d,ds with
 | .ref a,[]=>match S a with
  | some (.lst xs)=>match xs[xs.length - 1]? with
   | some y=>Q y (put S a (.lst xs.dropLast))
   | none=>False
  | _=>False
 | _,_=>False
theorem DVs.dropLast {K:PySem.W.Frag} {H:Hp} {ds:List D} {vs:List V} (h:DVs K H ds vs):DVs K H ds.dropLast vs.dropLast:=by
 rw [List.dropLast_eq_take,List.dropLast_eq_take,← h.length]
 exact h.take _
def rPa:MM:=fun d ds S Q=>match d,ds with
 | .ref a,[.int i]=>match S a with
  | some (.lst xs)=>-(2 ^ 63)≤i∧i < 2 ^ 63∧∃ k y,seqIndex? i xs.length=some k∧xs[k]? = some y∧Q y (put S a (.lst (xs.eraseIdx k)))
  | _=>False
 | _,_=>False
def zAl (lo c:Int) (n:Nat):List D:=(List.range n).map fun (i:Nat)=>.int (lo+(i:Int) * c)
def zo3 (m:AM):IM:=fun env S R=>m env S fun ds S1=>match ds with
 | [.int i,.int j,.int c]=>∃ n,RgC i j c n∧R (zAl i c n) (fun _=>True) S1
 | _=>False
end
def zn3 (K:PySem.W.Frag) (C:Addr) (su:SuM) (W:XW) (A:Fin):XW:=fun c fs env S=>∃ b,PySem.W.exmOne K c (.ref C)=some b∧(b=true->∀ a,S a=none->su a c fs A env S)∧(b=false->W c fs env S)
def zv9 (K:PySem.W.Frag) (b:XW->SM) (C:Addr) (su:SuM) (W:XW):SM:=fun A env S=>∃ A0,zhd A0 A∧b (zn3 K C su W A0) A0 env S
section
variable {X:Cx} {B:Hp} {W:XW}
structure TabOk (K:PySem.W.Frag) (w:World) (a:Addr) (kvs:List (Str×Int)):Prop where
 kd:∃ es n,KDict K w a es n
 at_:∀ k i,kvs.lookup k=some i->∃ t,PySem.W.nsIn K a k=some (some (.int i t))
def zAa (kvs:List (Str×Int)) (m:EM):EM:=fun env S Q=>m env S fun d S1=>match d with
 | .str z=>(match kvs.lookup z with
  | some i=>Q (.int i) S1
  | none=>False)
 | _=>False
end
abbrev zhM:Type:=Str×List (Str×Int)
def zAi (K:PySem.W.Frag) (t:zhM):Bool:=t.2.all fun q=>match PySem.W.nsIn K (He.ga K t.1) q.1 with
 | some (some (.int j _))=>decide (j=q.2)
 | _=>false
abbrev AlG:Type:=AlX×Bool×List (Option (List (Option (Str×Int))))
def obsG (fa:List He.Fa) (fn:List He.DefD) (su:List SuD) (file:Str) (ex:List Str) (tb:List zhM) (K:PySem.W.Frag):AlG:=(obsX fa fn su file ex K,tb.all (zAi K),tb.map fun t=>He.dicW K (He.ga K t.1))
def zw7 (fn:List He.DefD) (su:List SuD) (tb:List zhM) (w:World):AlG:=(valX fn su,true,tb.map fun t=>some (He.keysIn w.params (t.2.map (·.1))))
def zDy (n:Nat) (fa:List He.Fa) (fn:List He.DefD) (su:List SuD) (file:Str) (ex:List Str) (tb:List zhM):PySem.W.Hook where
 α:=AlG
 obs:=fun s=>obsG fa fn su file ex tb (kFr n s.heap.get?)
 val:=fun w=>zw7 fn su tb w
 says:=fun w h=>∃ K:PySem.W.Frag,K.In h∧obsG fa fn su file ex tb K=zw7 fn su tb w
 of:=fun _ _ e=>⟨_,He.frG_in,e⟩
 keeps:=fun _ _ _ ⟨K,hK,c⟩ k=>⟨K,hK.keeps k,c⟩
structure Tg (fa:List He.Fa) (fn:List He.DefD) (su:List SuD) (file:Str) (ec:List Str) (tb:List zhM) (w:World) (K:PySem.W.Frag) (mg:Str->Option Value):Prop extends Tz fa fn su file ec K mg where
 tabs:∀ t∈tb,TabOk K w (He.ga K t.1) t.2
theorem lookup_mem {kvs:List (Str×Int)} {k:Str} {i:Int} (h:kvs.lookup k=some i):(k,i)∈kvs:=by
 induction kvs with
 | nil=>cases h
 | cons a r ih=>
  rw [List.lookup_cons] at h
  split at h
  ·rename_i e
   have e':k=a.1:=by simpa using e
   cases h
   subst e'
   exact List.mem_cons_self
  ·exact List.mem_cons_of_mem _ (ih h)
theorem Tg.mk' {fa:List He.Fa} {fn:List He.DefD} {su:List SuD} {file:Str} {ex:List Str} {tb:List zhM} {w:World} {K:PySem.W.Frag} {mg:Str->Option Value} {h:Heap} (X:K.In h) (G:h.Ns mainGlobals mg) (c:obsG fa fn su file ex tb K=zw7 fn su tb w):Tg fa fn su file ex tb w K mg:=by
 refine ⟨Tz.mk' X G (congrArg (fun z:AlG=>z.1) c),fun t ht=>⟨?_,fun k i e=>?_⟩⟩
 ·have c2:(tb.map fun t=>He.dicW K (He.ga K t.1))=tb.map fun t=>some (He.keysIn w.params (t.2.map (·.1))):=congrArg (fun z:AlG=>z.2.2) c
  obtain ⟨i,hi⟩:=List.getElem?_of_mem ht
  have e2:(tb.map fun t=>He.dicW K (He.ga K t.1))[i]? = (tb.map fun t=>some (He.keysIn w.params (t.2.map (·.1))))[i]?:=by rw [c2]
  rw [List.getElem?_map,List.getElem?_map,hi] at e2
  exact He.dicW_ok (Option.some.inj e2)
 ·have c1:tb.all (zAi K)=true:=congrArg (fun z:AlG=>z.2.1) c
  have c3:=List.all_eq_true.mp (List.all_eq_true.mp c1 t ht) _ (lookup_mem e)
  dsimp only at c3
  split at c3
  ·rename_i j tt e3
   have:=of_decide_eq_true c3
   subst this
   exact ⟨tt,e3⟩
  ·cases c3
theorem Tg.tab {fa:List He.Fa} {fn:List He.DefD} {su:List SuD} {file:Str} {ex:List Str} {tb:List zhM} {w:World} {K:PySem.W.Frag} {mg:Str->Option Value} (T:Tg fa fn su file ex tb w K mg) (i:Nat) {x:Str} {kvs:List (Str×Int)} (h:tb[i]? = some (x,kvs):=by rfl):TabOk K w (He.ga K x) kvs:=T.tabs (x,kvs) (List.mem_of_getElem? h)
section
variable {K:PySem.W.Frag} {b:XW->SM} {C:Addr} {su:SuM} {W:XW} {A:Fin} {env:Slo} {S:Sto} {Q:DQ} {m:EM} {kvs:List (Str×Int)}
theorem zuf (h:b (zn3 K C su W A) A env S):zv9 K b C su W A env S:=⟨A,zhd.refl A,h⟩
end
structure Enc {α:Type} [DecidableEq α] (k:Nat) (f:α->D) (g:α->PyData):Prop where
 rd:∀ (S:Sto) (n:Nat) (a:α),k≤n->rs S n (f a)=some (g a)
 eq:∀ a b,PyData.eqv (g a) (g b)=decide (a=b)
theorem zmE:Enc 0 D.str PyData.str:=⟨fun S n a _=>by cases n <;> rfl,fun a b=>(zf3 a b).symm⟩
section
variable {α β:Type} [DecidableEq α] [DecidableEq β] {k k':Nat} {f:α->D} {g:α->PyData} {f':β->D} {g':β->PyData}
theorem Enc.mono (h:Enc k f g) (hk:k≤k'):Enc k' f g:=⟨fun S n a hn=>h.rd S n a (by omega),h.eq⟩
theorem Enc.all (h:Enc k f g):∀ xs ys:List α,PyData.eqvAll (xs.map g) (ys.map g)=decide (xs=ys)
 | [],[]=>by simp [PyData.eqvAll]
 | [],y :: ys=>by simp [PyData.eqvAll]
 | x :: xs,[]=>by simp [PyData.eqvAll]
 | x :: xs,y :: ys=>by
  rw [List.map_cons,List.map_cons,PyData.eqvAll,h.eq,h.all xs ys]
  by_cases e:x=y
  ·subst e;simp
  ·simp [e]
theorem Enc.many (h:Enc k f g) (S:Sto) {n:Nat} (hn:k≤n) (xs:List α):(xs.map f).mapM (rs S n)=some (xs.map g):=zra fun a _=>h.rd S n a hn
theorem Enc.tup (h:Enc k f g) (fl:Bool):Enc (k+1) (fun xs:List α=>D.tp fl (xs.map f)) (fun xs=>.tuple (xs.map g)):=⟨fun S n a hn=>by
 obtain ⟨n,rfl⟩:∃ m,n=m+1:=⟨n - 1,by omega⟩
 show ((a.map f).mapM (rs S n)).map PyData.tuple=_
 rw [h.many S (by omega)]
 rfl,fun a b=>by rw [PyData.eqv,h.all]⟩
theorem Enc.cons (h:Enc k f g) (h':Enc k f' g') (fl:Bool):Enc (k+1) (fun z:α×List β=>D.tp fl (f z.1 :: z.2.map f')) (fun z=>.tuple (g z.1 :: z.2.map g')):=⟨fun S n a hn=>by
 obtain ⟨n,rfl⟩:∃ m,n=m+1:=⟨n - 1,by omega⟩
 show ((f a.1 :: a.2.map f').mapM (rs S n)).map PyData.tuple=_
 rw [List.mapM_cons,h.rd S n _ (by omega),h'.many S (by omega)]
 rfl,fun a b=>by
 obtain ⟨a1,a2⟩:=a
 obtain ⟨b1,b2⟩:=b
 rw [PyData.eqv,PyData.eqvAll,h.eq,h'.all]
 by_cases e:a1=b1
 ·subst e
  by_cases e2:a2=b2
  ·subst e2;simp
  ·simp [e2]
 ·simp [e]⟩
theorem Enc.pair (h:Enc k f g) (h':Enc k f' g') (fl:Bool):Enc (k+1) (fun z:α×β=>D.tp fl [f z.1,f' z.2]) (fun z=>.tuple [g z.1,g' z.2]):=⟨fun S n a hn=>by
 obtain ⟨n,rfl⟩:∃ m,n=m+1:=⟨n - 1,by omega⟩
 show ([f a.1,f' a.2].mapM (rs S n)).map PyData.tuple=_
 rw [List.mapM_cons,List.mapM_cons,h.rd S n _ (by omega),h'.rd S n _ (by omega)]
 rfl,fun a b=>by
 obtain ⟨a1,a2⟩:=a
 obtain ⟨b1,b2⟩:=b
 rw [PyData.eqv,PyData.eqvAll,PyData.eqvAll,PyData.eqvAll,h.eq,h'.eq]
 by_cases e:a1=b1
 ·subst e
  by_cases e2:a2=b2
  ·subst e2;simp
  ·simp [e2]
 ·simp [e]⟩
theorem Enc.any (h:Enc k f g) (z:α):∀ zs:List α,((zs.map g).any fun y=>PyData.eqv y (g z))=decide (z∈zs)
 | []=>by simp
 | y :: zs=>by
  rw [List.map_cons,List.any_cons,h.any z zs,h.eq]
  by_cases e:y=z
  ·subst e;simp
  ·have e2:¬ z=y:=fun q=>e q.symm
   simp [e,e2]
variable {S:Sto} {Q:DQ} {u:Bool->Bool} {a b:Addr} {z y:α} {zs ys:List α}
theorem zqT {d e:D} {p q:PyData} (e1:rs S 40 d=some p) (e2:rs S 40 e=some q) (h:Q (.bl (u (PyData.eqv p q))) S):zkr u d e S Q:=by
 unfold zkr
 split
 ·cases e1;cases e2
  rw [zf3];exact h
 ·cases e1;cases e2
  exact h
 ·cases e1;cases e2
  rename_i x y
  have e:PyData.eqv (.bool x) (.bool y)=decide (x=y):=by
   cases x <;> cases y <;> rfl
  rw [e] at h
  exact h
 ·simp only [e1,e2]
  exact h
theorem Enc.eqv (h:Enc k f g) (hk:k≤40) (q:Q (.bl (u (decide (z=y)))) S):zkr u (f z) (f y) S Q:=
 zqT (h.rd S 40 z hk) (h.rd S 40 y hk) (by rw [h.eq];exact q)
theorem Enc.eqL (h:Enc k f g) (hk:k≤39) (e1:S a=some (.lst (zs.map f))) (e2:S b=some (.lst (ys.map f))) (q:Q (.bl (u (decide (zs=ys)))) S):zkr u (.ref a) (.ref b) S Q:=by
 refine zqT (zqV e1 (h.many S (n:=39) (by omega) zs)) (zqV e2 (h.many S (by omega) ys)) ?_
 have e:PyData.eqv (.list (zs.map g)) (.list (ys.map g))=decide (zs=ys):=by rw [PyData.eqv,h.all]
 rw [e]
 exact q
end
section
variable {env:Slo} {S:Sto} {Q:DQ} {ms:AM} {R:List D->(Sto->Prop)->Sto->Prop} {xs:List D} {a:Addr}
def kR3 (R:List D->(Sto->Prop)->Sto->Prop):List D->Sto->Prop:=fun ds S1=>match ds with
 | [.int i,.int j,.int c]=>∃ n,RgC i j c n∧R (zAl i c n) (fun _=>True) S1
 | _=>False
theorem zyL (h:ms env S (kR3 R)):zo3 ms env S R:=h
instance zDb:St (zo3 ms env S R) (ms env S (kR3 R)):=⟨fun h=>zyL h⟩
variable {K:PySem.W.Frag} {b:XW->SM} {C:Addr} {su:SuM} {W:XW} {A:Fin} {m:EM} {kvs:List (Str×Int)}
instance zAB:St (zv9 K b C su W A env S) (b (zn3 K C su W A) A env S):=⟨fun h=>zuf h⟩
def zAt (kvs:List (Str×Int)) (Q:DQ):DQ:=fun d S1=>match d with
 | .str z=>(match kvs.lookup z with
  | some i=>Q (.int i) S1
  | none=>False)
 | _=>False
theorem zug (h:m env S (zAt kvs Q)):zAa kvs m env S Q:=h
instance zCF:St (zAa kvs m env S Q) (m env S (zAt kvs Q)):=⟨fun h=>zug h⟩
end
def zDI (C:Addr) (sp:SpD) (g:Bool->Bool):BM:=fun d e S Q=>match d,e with
 | .ref a,.ref b=>(∃ fs,S a=some (.ins C fs))∧(∃ fs,S b=some (.ins C fs))∧sp [.ref a,.ref b] S (fun v S'=>∃ r,v = .bl r∧Q (.bl (g r)) S') (fun _ _ _=>False)
 | _,_=>False
structure EqC (K:PySem.W.Frag) (C f:Addr):Prop where
 hs:PySem.W.findIn K (.ref C) "__eq__" = some (some (.ref f))
 hf:PySem.W.isFn K (.ref f)=true
 own:∀ h:Heap,K.In h->∀ x o,h.get? x=some o->o.cls = .ref C->h.OwnEqNoNe x C f "object" [.type "object"]
section
variable {X:Cx} {k:Nat} {C f:Addr} {sp:SpD}
end
def neB (K:PySem.W.Frag) (C:Addr):Bool:=(match K.lookup C with
 | some ⟨.type t,_,.cls cd,sl⟩=>(match cd.mro,sl.toList with
  | [.ref C',.type o],[_,_,_,_,some (.builtin n),_]=>decide (t = "type") && (decide (C'=C) && (decide (o = "object") && (decide (n = "object.__new__") && (!cd.hasDel && (PySem.W.nsOkIn K cd.ns && (He.eqO (PySem.W.nsIn K cd.ns "__eq__") (some (some (.ref (He.ma K C "__eq__")))) && He.eqO (PySem.W.nsIn K cd.ns "__ne__") (some none)))))))
  | _,_=>false)
 | _=>false) && (match K.lookup (He.ma K C "__eq__") with
 | some ⟨.type t,_,_,_⟩=>decide (t = "function")
 | _=>false)
def zB0 (K:PySem.W.Frag) (f g:Str):Sp:=fun vs H Q _=>∃ (a:Addr) (y z:V) (C:Addr),vs=[.ref a,y,z]∧OexC K C∧PySem.W.findIn K (.ref C) f=some none∧PySem.W.findIn K (.ref C) g=some none∧H a=some (exo a C none)∧
 ∀ dx,H dx=none->dx≠a->Q .non (upd (upd (upd H dx (exd dx [(f,y)])) a (exo a C (some dx))) dx (exd dx [(g,z),(f,y)]))
structure zDG (P:Program) (w:World) (K:PySem.W.Frag) (mg:Str->Option Value) (base:Heap) (x f g:Str):Prop where
 gC:mg x=some (.ref (He.ga K x))
 oex:OexC K (He.ga K x)
 iC:PySem.W.findIn K (.ref (He.ga K x)) "__init__" = some (some (.ref (He.ma K (He.ga K x) "__init__")))
 tI:PySem.W.typeIn K (.ref (He.ma K (He.ga K x) "__init__"))=some (.type "function")
 hno1:PySem.W.findIn K (.ref (He.ga K x)) f=some none
 hno2:PySem.W.findIn K (.ref (He.ga K x)) g=some none
 xf:XfC K (He.ga K x)
 fn:∃ fd ps,FnOk P w K mg base (L2.CX P w) 1 (He.ma K (He.ga K x) "__init__") fd ps (zB0 K f g)∧Binds K fd ps []
def zoN (C:Addr) (f g:Str) (W:XW) (ma:AM):SM:=fun _ env S=>ma env S fun ds S1=>match ds with
 | [y,z]=>W (.ref C) [(g,z),(f,y)] env S1
 | _=>False
section
variable {X:Cx} {B:Hp} {W:XW} {ma:AM} {x f g:Str} {p pos pos':Pos} {e e2:Expr}
end
structure IsC (K:PySem.W.Frag) (C:Addr):Prop where
 cl:Cls K C
 ha:PySem.W.findIn K (.ref C) "__class__" = some (some (.builtin "object.__class__"))
 hn:PySem.W.specialIn K (.builtin "object.__class__") "__get__" = some (some (.builtin "getset_descriptor.__get__"))
 htk:PySem.W.takesIn K (.builtin "object.__class__")=some true
 hm:PySem.W.mroIn K C (.type "object")=some true
def isB (K:PySem.W.Frag) (C:Addr):Bool:=He.eqO (PySem.W.findIn K (.ref C) "__class__") (some (some (.builtin "object.__class__"))) && (He.eqO (PySem.W.specialIn K (.builtin "object.__class__") "__get__") (some (some (.builtin "getset_descriptor.__get__"))) &&
 (decide (PySem.W.takesIn K (.builtin "object.__class__")=some true) && decide (PySem.W.mroIn K C (.type "object")=some true)))
def zDN (C:Addr):CM:=fun ds S Q=>match ds with
 | [.ref a,.ref c]=>c=C∧(∃ fs,S a=some (.ins C fs))∧Q (.bl true) S
 | _=>False
abbrev AlE:Type:=AlG×Bool
def obsE (fa:List He.Fa) (fn:List He.DefD) (su:List SuD) (file:Str) (ex:List Str) (tb:List zhM) (eq:List Str) (K:PySem.W.Frag):AlE:=(obsG fa fn su file ex tb K,eq.all fun x=>neB K (He.ga K x) && isB K (He.ga K x))
def valE (fn:List He.DefD) (su:List SuD) (tb:List zhM) (w:World):AlE:=(zw7 fn su tb w,true)
def hookE (n:Nat) (fa:List He.Fa) (fn:List He.DefD) (su:List SuD) (file:Str) (ex:List Str) (tb:List zhM) (eq:List Str):PySem.W.Hook where
 α:=AlE
 obs:=fun s=>obsE fa fn su file ex tb eq (kFr n s.heap.get?)
 val:=fun w=>valE fn su tb w
 says:=fun w h=>∃ K:PySem.W.Frag,K.In h∧obsE fa fn su file ex tb eq K=valE fn su tb w
 of:=fun _ _ e=>⟨_,He.frG_in,e⟩
 keeps:=fun _ _ _ ⟨K,hK,c⟩ k=>⟨K,hK.keeps k,c⟩
structure Te (fa:List He.Fa) (fn:List He.DefD) (su:List SuD) (file:Str) (ec:List Str) (tb:List zhM) (eq:List Str) (w:World) (K:PySem.W.Frag) (mg:Str->Option Value):Prop extends Tg fa fn su file ec tb w K mg where
 eqs:∀ x∈eq,(neB K (He.ga K x) && isB K (He.ga K x))=true
theorem Te.mk' {fa:List He.Fa} {fn:List He.DefD} {su:List SuD} {file:Str} {ex:List Str} {tb:List zhM} {eq:List Str} {w:World} {K:PySem.W.Frag} {mg:Str->Option Value} {h:Heap} (X:K.In h) (G:h.Ns mainGlobals mg) (c:obsE fa fn su file ex tb eq K=valE fn su tb w):Te fa fn su file ex tb eq w K mg:=
 ⟨Tg.mk' X G (congrArg (fun z:AlE=>z.1) c),List.all_eq_true.mp (congrArg (fun z:AlE=>z.2) c)⟩
section
variable {env:Slo} {S:Sto} {Q:DQ} {ma:AM} {A:Fin} {C:Addr} {f g':Str} {W:XW} {d e:D}
def zxn (C:Addr) (f g:Str) (W:XW) (env:Slo):List D->Sto->Prop:=fun ds S1=>match ds with
 | [y,z]=>W (.ref C) [(g,z),(f,y)] env S1
 | _=>False
theorem zpN (h:ma env S (zxn C f g' W env)):zoN C f g' W ma A env S:=h
theorem zuO (h:W (.ref C) [(g',e),(f,d)] env S):zxn C f g' W env [d,e] S:=h
instance zxI:St (zoN C f g' W ma A env S) (ma env S (zxn C f g' W env)):=⟨fun h=>zpN h⟩
instance zA0:St (zxn C f g' W env [d,e] S) (W (.ref C) [(g',e),(f,d)] env S):=⟨fun h=>zuO h⟩
end
section
open PyProof.Rows
variable {prog:Program} {w:World} {A:Around} {E:Value->Shared->Prop} {s:Shared}
end
section
variable {X:Cx}
end
section
variable {X:Cx} {B:Hp} {pos:Pos}
def zDK:BM:=fun d e S Q=>match d,zl5 e with
 | .ref a,some k=>match S a with
  | some (.dit kvs)=>match valD kvs k with
   | some v=>Q v S
   | none=>False
  | _=>False
 | _,_=>False
def zBW (g:Bool->Bool):BM:=fun d e S Q=>match zl5 d,e with
 | some k,.ref a=>match S a with
  | some (.dit kvs)=>Q (.bl (g (valD kvs k).isSome)) S
  | _=>False
 | _,_=>False
def zAd:CM:=fun ds S Q=>match ds with
 | [.tp _ xs]=>∃ ns:List Int,xs=ns.map D.int∧ns.length < 64∧∀ ns':List Int,ns'.Perm ns->ns'.Pairwise (·≤·)->∀ p,S p=none->Q (.ref p) (put S p (.lst (ns'.map D.int)))
 | _=>False
def zwi (m:EM):EM:=fun env S Q=>m env S fun d S1=>match d with
 | .int i=>Q (.int (Builtin.Int.intBits i:Nat)) S1
 | _=>False
end
def gTL (n:Nat) (gs:GsM):GM:=fun d env S Q=>match d with
 | .ref a=>match S a with
  | some (.lst ds)=>ds.length=n∧gs ds env S Q
  | _=>False
 | _=>False
section
variable {X:Cx} {B:Hp} {pos:Pos}
end
def zD4 (i j:Nat) (ma:AM):SM:=fun A env S=>ma env S fun ds S1=>match ds with
 | [d,e]=>A.nx ((env.set i (some d)).set j (some e)) S1
 | _=>False
section
variable {X:Cx} {B:Hp} {pos:Pos}
end
section
variable {env:Slo} {S:Sto} {ma:AM} {A:Fin} {i j:Nat} {d e:D}
def zD8 (i j:Nat) (A:Fin) (env:Slo):List D->Sto->Prop:=fun ds S1=>match ds with
 | [d,e]=>A.nx ((env.set i (some d)).set j (some e)) S1
 | _=>False
end
section
variable {env:Slo} {S:Sto} {Q:DQ} {a:Addr} {d:D} {m:EM} {kvs:List (List Key×D)} {k:List Key} {v:D}
def zqp (Q:DQ):DQ:=fun d S1=>match d with
 | .int i=>Q (.int (Builtin.Int.intBits i:Nat)) S1
 | _=>False
theorem zvK (h:m env S (zqp Q)):zwi m env S Q:=h
theorem zsa {i:Int} (h:Q (.int (Builtin.Int.intBits i:Nat)) S):zqp Q (.int i) S:=h
instance zBD:St (zwi m env S Q) (m env S (zqp Q)):=⟨fun h=>zvK h⟩
instance zzQ {i:Int}:St (zqp Q (.int i) S) (Q (.int (Builtin.Int.intBits i:Nat)) S):=⟨fun h=>zsa h⟩
end
open PyProof.Rows (sortedS envOfC)
section
open PyProof.Rows
variable {prog:Program} {w:World} {A:Around} {E:Value->Shared->Prop} {s:Shared}
end
section
variable {X:Cx}
def zAb:CM:=fun ds S Q=>match ds with
 | [.tp _ xs]=>∃ zs:List Str,xs=zs.map D.str∧zs.length < 64∧∀ ys,ys.Perm zs->sortedS ys=true->∀ p,S p=none->Q (.ref p) (put S p (.lst (ys.map D.str)))
 | _=>False
def eqz (k:Str) (v:Value):Bool:=match v with
 | .str n _=>n.cps.toList == k.cps.toList
 | _=>false
def zCj:V->List V->Hp->VK->Prop:=fun x xs H Q=>∃ (l:Addr) (ns:List Str) (k:Str) (j:Nat),x = .ref l∧xs=[.str k]∧H l=some (.lst (ns.map V.str))∧ns[j]? = some k∧(∀ m:Nat,m < j->ns[m]?≠some k)∧Q .non (upd H l (.lst ((ns.eraseIdx j).map V.str)))
def zDW:MM:=fun d ds S Q=>match d,ds with
 | .ref a,[.str k]=>∃ (zs:List Str) (j:Nat),S a=some (.lst (zs.map D.str))∧zs[j]? = some k∧(∀ m:Nat,m < j->zs[m]?≠some k)∧Q .non (put S a (.lst ((zs.eraseIdx j).map D.str)))
 | _,_=>False
end
section
variable {X:Cx} {B:Hp} {pos cpos apos:Pos} {o e value:Expr} {mo me:EM}
def zwj (K:PySem.W.Frag) (mo me:EM) (f:Str) (r:BM):SM:=fun A env S=>mo env S fun d S1=>match d with
 | .ref a=>match S1 a with
  | some (.ins C fs)=>match fs.lookup f with
   | some v=>FOk K C f∧me env S1 fun y S2=>r v y S2 fun z S3=>match S3 a with
    | some (.ins C' fs')=>C'=C∧fs'.length < 1000∧A.nx env (put S3 a (.ins C (zbE f z fs')))
    | _=>False
   | none=>False
  | _=>False
 | _=>False
end
section
variable {X:Cx} {B:Hp} {pos cpos apos tpos:Pos} {o e value:Expr} {mo me:EM}
end
structure FdK (P:Program) (w:World) (K:PySem.W.Frag) (mg:Str->Option Value) (base:Heap) (k:Nat) (f:Addr) (sp:SpD) (n:Nat) (x:Str) (i:Int):Prop where
 ex:∃ fd ps,FnOk P w K mg base (L2.CX P w) k f fd ps (zlF K P w sp)∧KBn K fd ps n [x] (fun us ws=>us++ws) (fun vs zs=>vs++zs)∧∃ ds,Vals [V.int i] ds∧Binds K fd ps ds
 kp:PySem.W.keepIn K (.ref f)=true
 mono:zgo sp
section
variable {P:Program} {w:World} {K:PySem.W.Frag} {mg:Str->Option Value} {base:Heap}
end
section
variable {X:Cx} {B:Hp} {W:XW} {k n:Nat} {f:Addr} {sp:SpD} {x y:Str} {i:Int} {p pos kpos:Pos} {e e2:Expr} {es:List Expr} {ma:AM} {m2:EM}
def zrh (sp:SpD) (W:XW) (n:Nat) (m:AM) (m2:EM):EM:=fun env S Q=>m env S fun ds S1=>m2 env S1 fun d S2=>ds.length=n∧sp (ds++[d]) S2 Q fun c fs S'=>W c fs env S'
def zri (sp:SpD) (W:XW) (i:Int) (m:AM):EM:=fun env S Q=>m env S fun ds S1=>sp (ds++[.int i]) S1 Q fun c fs S'=>W c fs env S'
end
structure zw1 (K:PySem.W.Frag) (a:Addr) (zs:List Str):Prop where
 sq:∀ H,SqT K H a (zs.map V.str)
 sh:SeqAt.shaped (.tuple (zs.map PyData.str))=true
def zAj:Value->Option Str
 | .str z _=>some z
 | _=>none
def zqu (K:PySem.W.Frag) (t:Str×List Str):Bool:=(match K.lookup (He.ga K t.1) with
 | some ⟨.type c,_,.seq its _,_⟩=>decide (c = "tuple") && (decide (its.toList.map zAj=t.2.map some) && (decide (its.size≤100) && SeqAt.shaped (.tuple (t.2.map PyData.str))))
 | _=>false)
theorem zlI:∀ {us:List Value} {zs:List Str},us.map zAj=zs.map some->Vals (zs.map V.str) us
 | [],[],_=>.nil
 | [],z :: zs,h=>by cases h
 | u :: us,[],h=>by cases h
 | u :: us,z :: zs,h=>by
  rw [List.map_cons,List.map_cons] at h
  injection h with h1 h2
  refine .cons ?_ (zlI h2)
  cases u <;> first | (cases h1;done) | skip
  rename_i y t
  cases h1
  exact ⟨t,rfl⟩
theorem zqt {K:PySem.W.Frag} {t:Str×List Str} (h:zqu K t=true):zw1 K (He.ga K t.1) t.2:=by
 unfold zqu at h
 split at h
 ·rename_i c dd its n sl e
  obtain ⟨h1,h⟩:=He.ba h
  obtain ⟨h2,h⟩:=He.ba h
  obtain ⟨h3,h4⟩:=He.ba h
  have h1:=of_decide_eq_true h1
  subst h1
  exact ⟨fun H=>.inr ⟨_,its,n,e,rfl,rfl,Nat.le_trans (of_decide_eq_true h3) (by decide),zlI (of_decide_eq_true h2)⟩,h4⟩
 ·cases h
def zwf (zs:List Str) (g:Bool->Bool) (m:EM):EM:=fun env S Q=>m env S fun d S1=>match d with
 | .str z=>Q (.bl (g (decide (z∈zs)))) S1
 | _=>False
section
variable {X:Cx} {B:Hp} {e:Expr} {m:EM} {x:Str} {a:Addr} {zs:List Str} {p pos:Pos}
end
abbrev zmK:Type:=Str×List Str
abbrev AlT:Type:=AlE×Bool
def obsT (fa:List He.Fa) (fn:List He.DefD) (su:List SuD) (file:Str) (ex:List Str) (tb:List zhM) (eq:List Str) (gt:List zmK) (K:PySem.W.Frag):AlT:=(obsE fa fn su file ex tb eq K,gt.all (zqu K))
def valT (fn:List He.DefD) (su:List SuD) (tb:List zhM) (w:World):AlT:=(valE fn su tb w,true)
def hookT (n:Nat) (fa:List He.Fa) (fn:List He.DefD) (su:List SuD) (file:Str) (ex:List Str) (tb:List zhM) (eq:List Str) (gt:List zmK):PySem.W.Hook where
 α:=AlT
 obs:=fun s=>obsT fa fn su file ex tb eq gt (kFr n s.heap.get?)
 val:=fun w=>valT fn su tb w
 says:=fun w h=>∃ K:PySem.W.Frag,K.In h∧obsT fa fn su file ex tb eq gt K=valT fn su tb w
 of:=fun _ _ e=>⟨_,He.frG_in,e⟩
 keeps:=fun _ _ _ ⟨K,hK,c⟩ k=>⟨K,hK.keeps k,c⟩
structure Tt (fa:List He.Fa) (fn:List He.DefD) (su:List SuD) (file:Str) (ec:List Str) (tb:List zhM) (eq:List Str) (gt:List zmK) (w:World) (K:PySem.W.Frag) (mg:Str->Option Value):Prop extends Te fa fn su file ec tb eq w K mg where
 gts:∀ t∈gt,zqu K t=true
theorem Tt.mk' {fa:List He.Fa} {fn:List He.DefD} {su:List SuD} {file:Str} {ex:List Str} {tb:List zhM} {eq:List Str} {gt:List zmK} {w:World} {K:PySem.W.Frag} {mg:Str->Option Value} {h:Heap} (X:K.In h) (G:h.Ns mainGlobals mg) (c:obsT fa fn su file ex tb eq gt K=valT fn su tb w):Tt fa fn su file ex tb eq gt w K mg:=
 ⟨Te.mk' X G (congrArg (fun z:AlT=>z.1) c),List.all_eq_true.mp (congrArg (fun z:AlT=>z.2) c)⟩
theorem Tt.gt {fa:List He.Fa} {fn:List He.DefD} {su:List SuD} {file:Str} {ex:List Str} {tb:List zhM} {eq:List Str} {gt:List zmK} {w:World} {K:PySem.W.Frag} {mg:Str->Option Value} (T:Tt fa fn su file ex tb eq gt w K mg) (i:Nat) {x:Str} {zs:List Str} (h:gt[i]? = some (x,zs):=by rfl):zw1 K (He.ga K x) zs:=
 zqt (T.gts _ (List.mem_of_getElem? h))
section
variable {env:Slo} {S:Sto} {Q:DQ} {A:Fin} {m mo me m2:EM} {ms:AM} {K:PySem.W.Frag} {C a:Addr} {f:Str} {d e:D} {r:BM} {W:XW} {sp:SpD} {n:Nat} {i:Int} {zs:List Str} {xs:List D} {fs:List (Str×D)} {z:Str}
def zql (zs:List Str) (g:Bool->Bool) (Q:DQ):DQ:=fun d S1=>match d with
 | .str z=>Q (.bl (g (decide (z∈zs)))) S1
 | _=>False
theorem zvv {g:Bool->Bool} (h:m env S (zql zs g Q)):zwf zs g m env S Q:=h
theorem zr3 {g:Bool->Bool} (h:Q (.bl (g (decide (z∈zs)))) S):zql zs g Q (.str z) S:=h
instance zBr {g:Bool->Bool}:St (zwf zs g m env S Q) (m env S (zql zs g Q)):=⟨fun h=>zvv h⟩
instance zzJ {g:Bool->Bool}:St (zql zs g Q (.str z) S) (Q (.bl (g (decide (z∈zs)))) S):=⟨fun h=>zr3 h⟩
def zzu (sp:SpD) (W:XW) (n:Nat) (ds:List D) (env:Slo) (Q:DQ):DQ:=fun d S2=>ds.length=n∧sp (ds++[d]) S2 Q fun c fs S'=>W c fs env S'
def zxE (sp:SpD) (W:XW) (n:Nat) (m2:EM) (env:Slo) (Q:DQ):List D->Sto->Prop:=fun ds S1=>m2 env S1 (zzu sp W n ds env Q)
theorem zst (h:ms env S (zxE sp W n m2 env Q)):zrh sp W n ms m2 env S Q:=h
theorem zvk (h:m2 env S (zzu sp W n xs env Q)):zxE sp W n m2 env Q xs S:=h
instance zz2:St (zrh sp W n ms m2 env S Q) (ms env S (zxE sp W n m2 env Q)):=⟨fun h=>zst h⟩
instance zBo:St (zxE sp W n m2 env Q xs S) (m2 env S (zzu sp W n xs env Q)):=⟨fun h=>zvk h⟩
def kCD (sp:SpD) (W:XW) (i:Int) (env:Slo) (Q:DQ):List D->Sto->Prop:=fun ds S1=>sp (ds++[.int i]) S1 Q fun c fs S'=>W c fs env S'
theorem zsu (h:ms env S (kCD sp W i env Q)):zri sp W i ms env S Q:=h
instance zz3:St (zri sp W i ms env S Q) (ms env S (kCD sp W i env Q)):=⟨fun h=>zsu h⟩
def zCz (K:PySem.W.Frag) (a C:Addr) (f:Str) (env:Slo) (A:Fin):DQ:=fun z S3=>match S3 a with
 | some (.ins C' fs')=>C'=C∧fs'.length < 1000∧A.nx env (put S3 a (.ins C (zbE f z fs')))
 | _=>False
def zAA (K:PySem.W.Frag) (me:EM) (f:Str) (r:BM) (env:Slo) (A:Fin):DQ:=fun d S1=>match d with
 | .ref a=>match S1 a with
  | some (.ins C fs)=>match fs.lookup f with
   | some v=>FOk K C f∧me env S1 fun y S2=>r v y S2 (zCz K a C f env A)
   | none=>False
  | _=>False
 | _=>False
theorem zvL (h:mo env S (zAA K me f r env A)):zwj K mo me f r A env S:=h
instance zBE:St (zwj K mo me f r A env S) (mo env S (zAA K me f r env A)):=⟨fun h=>zvL h⟩
end
class Gt (k:Nat) (g:Prop):Prop
theorem zfs (k:Nat) {g:Prop} [Gt k g] (q:g):g:=q
section
variable {env:Slo} {S:Sto} {Q:DQ} {A:Fin} {m n:SM} {me mf mg' ma mb:EM} {g:GM} {t u:TM} {r:BM} {ms:AM} {d e:D} {TQ:Bool->Sto->Prop} {ds:List D} {i:Nat} {K:PySem.W.Frag} {NQ:Slo->Sto->Prop} {b:Bool}
instance:Gt 0 (zs8 (gNm i) env A d S):=⟨⟩
instance:Gt 0 (gNm i d env S NQ):=⟨⟩
instance:Gt 0 (zoX i env A d S):=⟨⟩
instance:Gt 1 (zag i env S Q):=⟨⟩
instance {f}:Gt 1 (zwD K f Q d S):=⟨⟩
instance:Gt 2 (vIx d e S Q):=⟨⟩
instance {C f sp W}:Gt 3 (zwB C f sp W ms env Q d S):=⟨⟩
instance {o}:Gt 3 (zrj d o env NQ e S):=⟨⟩
instance:Gt 3 (zpo i me r A env S):=⟨⟩
instance {mk mx}:Gt 3 (zxB mk mx env Q d S):=⟨⟩
instance {a}:Gt 3 (ztK a e Q d S):=⟨⟩
instance:Gt 4 (zdN ds S Q):=⟨⟩
instance:Gt 4 (zkk ds S Q):=⟨⟩
instance {ok rm}:Gt 5 (zxw ok rm ms env Q d S):=⟨⟩
instance {k gs}:Gt 5 (gT k gs d env S NQ):=⟨⟩
instance {a z}:Gt 5 (ztL a z env A d S):=⟨⟩
instance {R}:Gt 5 (zoV R d S):=⟨⟩
instance:Gt 5 (zs8 g env A d S):=⟨⟩
instance:Gt 6 (zpl d e S Q):=⟨⟩
instance:Gt 6 (zkR d e S Q):=⟨⟩
instance:Gt 6 (zt0 d e S Q):=⟨⟩
instance:Gt 6 (zns d e S Q):=⟨⟩
instance {mv mc}:Gt 6 (znL mv mc me r A env S):=⟨⟩
instance {R}:Gt 7 (kEn R ds S):=⟨⟩
instance:Gt 7 (zxG ms env Q d S):=⟨⟩
instance:Gt 7 (zbX ds S Q):=⟨⟩
instance:Gt 7 (znr ds S Q):=⟨⟩
instance {R}:Gt 7 (kZL R ds S):=⟨⟩
instance:Gt 8 (kIf m n A env b S):=⟨⟩
instance:Gt 8 (zrl ma mb env Q b S):=⟨⟩
instance:Gt 9 (zrn u env TQ b S):=⟨⟩
instance:Gt 9 (kOr u env TQ b S):=⟨⟩
instance:Gt 10 (zl6 mb env Q b S):=⟨⟩
instance:Gt 10 (zrk mb env Q b S):=⟨⟩
instance {mc}:Gt 10 (zqo r d mc env Q b S):=⟨⟩
end
structure zEs (P:Program) (w:World) (K:PySem.W.Frag) (mg:Str->Option Value) (base:Heap) (k:Nat) (f:Addr) (sp:SpD) (n:Nat) (y:Str) (gD:List D->List D->List D):Prop where
 ex:∃ (fd:FuncData) (ps:List Str) (g:List Value->List Value->List Value) (gV:List V->List V->List V),FnOk P w K mg base (L2.CX P w) k f fd ps (zlF K P w sp)∧KBn K fd ps n [y] g gV∧∀ (H:Hp) (ds ws:List D) (vs zs:List V),DVs K H ds vs->DVs K H ws zs->DVs K H (gD ds ws) (gV vs zs)
 kp:PySem.W.keepIn K (.ref f)=true
 mono:zgo sp
section
variable {P:Program} {w:World} {K:PySem.W.Frag} {mg:Str->Option Value} {base:Heap}
end
section
variable {X:Cx} {B:Hp} {W:XW} {k n:Nat} {f C:Addr} {sp:SpD} {x y:Str} {p pos kpos:Pos} {e e2:Expr} {es:List Expr} {ma:AM} {m2:EM} {gD:List D->List D->List D}
def zrd (C:Addr) (sp:SpD) (W:XW) (n:Nat) (gD:List D->List D->List D) (m:AM) (m2:EM):EM:=fun env S Q=>m env S fun ds S1=>m2 env S1 fun d S2=>ds.length=n∧∀ p,S2 p=none->sp (gD (.ref p :: ds) [d]) (put S2 p (.ins C [])) (fun v S3=>v = .non∧Q (.ref p) S3) fun c fs S'=>W c fs env S'
end
section
variable {env:Slo} {S:Sto} {Q:DQ} {C:Addr} {sp:SpD} {W:XW} {n:Nat} {gD:List D->List D->List D} {ms:AM} {m2:EM} {xs:List D} {d:D}
def zzo (C:Addr) (sp:SpD) (W:XW) (n:Nat) (gD:List D->List D->List D) (ds:List D) (env:Slo) (Q:DQ):DQ:=fun d S2=>ds.length=n∧∀ p,S2 p=none->sp (gD (.ref p :: ds) [d]) (put S2 p (.ins C [])) (fun v S3=>v = .non∧Q (.ref p) S3) fun c fs S'=>W c fs env S'
def zxt (C:Addr) (sp:SpD) (W:XW) (n:Nat) (gD:List D->List D->List D) (m2:EM) (env:Slo) (Q:DQ):List D->Sto->Prop:=fun ds S1=>m2 env S1 (zzo C sp W n gD ds env Q)
theorem zrP (h:ms env S (zxt C sp W n gD m2 env Q)):zrd C sp W n gD ms m2 env S Q:=h
theorem zu0 (h:m2 env S (zzo C sp W n gD xs env Q)):zxt C sp W n gD m2 env Q xs S:=h
instance zzz:St (zrd C sp W n gD ms m2 env S Q) (ms env S (zxt C sp W n gD m2 env Q)):=⟨fun h=>zrP h⟩
instance zBa:St (zxt C sp W n gD m2 env Q xs S) (m2 env S (zzo C sp W n gD xs env Q)):=⟨fun h=>zu0 h⟩
end
def iGT (zs:List Str):IM:=fun env S R=>R (zs.map D.str) (fun _=>True) S
def zD2 (zs:List Str):Bool:=zs.all fun z=>PyData.strOk z && decide (z.length≤sizeLine)
section
variable {X:Cx} {B:Hp} {tg:Expr} {x:Str} {a:Addr} {zs:List Str} {p:Pos}
def zCn:V->List V->Hp->VK->Prop:=fun x xs H Q=>∃ (l:Addr) (ns:List Str) (k:Str),x = .ref l∧xs=[.str k]∧H l=some (.lst (ns.map V.str))∧Q (.int (ns.count k:Nat)) H
def zD0:MM:=fun d ds S Q=>match d,ds with
 | .ref a,[.str k]=>∃ zs:List Str,S a=some (.lst (zs.map D.str))∧Q (.int (zs.count k:Nat)) S
 | _,_=>False
end
section
variable {X:Cx} {B:Hp} {cpos apos:Pos} {o e:Expr} {mo:EM} {ma:AM}
end
section
variable {env:Slo} {S:Sto} {Q:DQ} {a:Addr} {zs:List Str} {z:Str} {R:List D->(Sto->Prop)->Sto->Prop}
theorem zyO (h:R (zs.map D.str) (fun _=>True) S):iGT zs env S R:=h
instance zDe:St (iGT zs env S R) (R (zs.map D.str) (fun _=>True) S):=⟨fun h=>zyO h⟩
end
section
variable {X:Cx} {B:Hp} {a:Expr} {pos:Pos} {ma:EM} {ta:TE}
def zwd (ma:EM):EM:=fun env S Q=>ma env S (zpp fun c S1=>Q (.bl (!c)) S1)
end
section
variable {ma:EM} {env:Slo} {S:Sto} {Q:DQ} {a:Addr} {xs:List D} {TQ:Bool->Sto->Prop}
theorem zuo (h:ma env S (zpp fun c S1=>Q (.bl (!c)) S1)):zwd ma env S Q:=h
instance zAH:St (zwd ma env S Q) (ma env S (zpp fun c S1=>Q (.bl (!c)) S1)):=⟨fun h=>zuo h⟩
end
section
variable {X:Cx}
def zBV:CM:=fun ds S Q=>match ds with
 | [.bl b]=>Q (.int (if b then 1 else 0)) S
 | _=>False
end
section
variable {S:Sto} {Q:DQ} {b:Bool}
end
section
variable {prog:Program} {w:World} {A:Around} {E:Value->Shared->Prop} {s:Shared} {K:PySem.W.Frag} {x C f:Addr} {ox:Obj} {od:Option Obj}
end
def zBT (C:Addr) (sp:SpD):CM:=fun ds S Q=>match ds with
 | [.ref a]=>(∃ fs,S a=some (.ins C fs))∧sp [.ref a] S (fun v S'=>∃ i:Nat,v = .int i∧i < 2 ^ 62∧Q (.int i) S') (fun _ _ _=>False)
 | _=>False
section
variable {X:Cx} {k:Nat} {C f:Addr} {sp:SpD}
end
section
variable {S:Sto} {Q:DQ} {C a:Addr} {fs:List (Str×D)} {sp:SpD}
end
def zwb (C:Addr) (sp:SpD) (m:EM):EM:=fun env S Q=>m env S fun d S1=>match d with
 | .ref a=>(∃ fs,S1 a=some (.ins C fs))∧sp [.ref a] S1 Q (fun _ _ _=>False)
 | _=>False
section
variable {X:Cx} {B:Hp} {W:XW} {k:Nat} {C p g:Addr} {sp:SpD} {f:Str} {e:Expr} {mo:EM} {pos:Pos}
end
section
variable {M:Model} {A:Around} {E:Value->Shared->Prop} {s:Shared} {K:PySem.W.Frag} {x C f:Addr} {ox:Obj} {od:Option Obj} {i v:Value}
end
def zxf (C:Addr) (sp:SpD) (W:XW) (o d:D) (env:Slo) (NQ:Slo->Sto->Prop):DQ:=fun i S2=>match o with
 | .ref a=>(∃ fs,S2 a=some (.ins C fs))∧sp [.ref a,i,d] S2 (fun _ S3=>NQ env S3) (fun c fs S'=>W c fs env S')
 | _=>False
def zBK (C:Addr) (sp:SpD) (W:XW) (mo mi:EM):GM:=fun d env S Q=>mo env S fun o S1=>mi env S1 (zxf C sp W o d env Q)
section
variable {X:Cx} {B:Hp} {W:XW} {k:Nat} {C f:Addr} {sp:SpD} {o i:Expr} {mo mi:EM} {pos:Pos}
end
structure PrD where
 C:Str
 f:Str
 qual:Str
 params:Arguments
 body:List Stmt
 scope:Scope
def PrD.p (d:PrD) (K:PySem.W.Frag):Addr:=He.ma K (He.ga K d.C) d.f
def PrD.g (d:PrD) (K:PySem.W.Frag):Addr:=He5.wf K (He.ga K d.C) "property" d.f
def PrD.da (d:PrD):He5.DefA:=⟨d.g,d.f,d.qual,d.params,d.body,d.scope,[],[]⟩
def zvR (K:PySem.W.Frag) (p:Addr):Bool:=match PySem.W.recIn K p "property" with
 | some (.ref _ :: _)=>true
 | _=>false
def PrD.ok (K:PySem.W.Frag) (d:PrD):Bool:=He.eqO (PySem.W.findIn K (.ref (He.ga K d.C)) d.f) (some (some (.ref (d.p K)))) && (He.eqO (PySem.W.specialIn K (.ref (d.p K)) "__get__") (some (some (.builtin "property.__get__"))) && (decide (PySem.W.takesIn K (.ref (d.p K))=some true) && (zvR K (d.p K) && d.da.ok K)))
theorem PrD.get {K:PySem.W.Frag} {d:PrD} (e:He5.fnA K (d.g K)=d.da.val) (c:d.ok K=true):PropOf K (He.ga K d.C) d.f (d.p K) (d.g K)∧∃ fd,FunD K d.f d.qual d.params d.body d.scope [] [] (d.g K) fd:=by
 obtain ⟨k1,c⟩:=He.ba c
 obtain ⟨k2,c⟩:=He.ba c
 obtain ⟨k3,c⟩:=He.ba c
 obtain ⟨k4,k5⟩:=He.ba c
 refine ⟨⟨He.eqO_ok k1,He.eqO_ok k2,of_decide_eq_true k3,?_⟩,He5.DefA.funD (d:=d.da) e k5⟩
 unfold zvR at k4
 split at k4
 ·rename_i f r e2
  refine ⟨r,?_⟩
  have:d.g K=f:=by
   unfold PrD.g He5.wf
   rw [show PySem.W.recIn K (He.ma K (He.ga K d.C) d.f) "property" = _ from e2]
  rw [this]
  exact e2
 ·cases k4
abbrev AlV:Type:=AlT×Bool×List He5.FnW
def ztH (fa:List He.Fa) (fn:List He.DefD) (su:List SuD) (file:Str) (ex:List Str) (tb:List zhM) (eq:List Str) (gt:List zmK) (pr:List PrD) (sq:List Str) (K:PySem.W.Frag):AlV:=(obsT fa fn su file ex tb eq gt K,(pr.all fun d=>d.ok K) && sq.all fun C=>PySem.W.noSeq K (He.ga K C),pr.map fun d=>He5.fnA K (d.g K))
def znq (fn:List He.DefD) (su:List SuD) (tb:List zhM) (pr:List PrD) (w:World):AlV:=(valT fn su tb w,true,pr.map fun d=>d.da.val)
def zDu (n:Nat) (fa:List He.Fa) (fn:List He.DefD) (su:List SuD) (file:Str) (ex:List Str) (tb:List zhM) (eq:List Str) (gt:List zmK) (pr:List PrD) (sq:List Str):PySem.W.Hook where
 α:=AlV
 obs:=fun s=>ztH fa fn su file ex tb eq gt pr sq (kFr n s.heap.get?)
 val:=fun w=>znq fn su tb pr w
 says:=fun w h=>∃ K:PySem.W.Frag,K.In h∧ztH fa fn su file ex tb eq gt pr sq K=znq fn su tb pr w
 of:=fun _ _ e=>⟨_,He.frG_in,e⟩
 keeps:=fun _ _ _ ⟨K,hK,c⟩ k=>⟨K,hK.keeps k,c⟩
structure Tv (fa:List He.Fa) (fn:List He.DefD) (su:List SuD) (file:Str) (ec:List Str) (tb:List zhM) (eq:List Str) (gt:List zmK) (pr:List PrD) (sq:List Str) (w:World) (K:PySem.W.Frag) (mg:Str->Option Value):Prop extends Tt fa fn su file ec tb eq gt w K mg where
 prs:∀ d∈pr,d.ok K=true
 prv:(pr.map fun d=>He5.fnA K (d.g K))=pr.map fun d=>d.da.val
 sqs:∀ C∈sq,PySem.W.noSeq K (He.ga K C)=true
section
variable {fa:List He.Fa} {fn:List He.DefD} {su:List SuD} {file:Str} {ex:List Str} {tb:List zhM} {eq:List Str} {gt:List zmK} {qr:List PrD} {qs:List Str} {w:World} {K:PySem.W.Frag} {mg:Str->Option Value}
theorem Tv.mk' {h:Heap} (X:K.In h) (G:h.Ns mainGlobals mg) (c:ztH fa fn su file ex tb eq gt qr qs K=znq fn su tb qr w):Tv fa fn su file ex tb eq gt qr qs w K mg:=by
 have c2:((qr.all fun d=>d.ok K) && qs.all fun C=>PySem.W.noSeq K (He.ga K C))=true:=congrArg (fun z:AlV=>z.2.1) c
 obtain ⟨c3,c4⟩:=He.ba c2
 exact ⟨Tt.mk' X G (congrArg (fun z:AlV=>z.1) c),List.all_eq_true.mp c3,congrArg (fun z:AlV=>z.2.2) c,List.all_eq_true.mp c4⟩
theorem Tv.pr (T:Tv fa fn su file ex tb eq gt qr qs w K mg) (i:Nat) {d:PrD} (h:qr[i]? = some d:=by rfl):PropOf K (He.ga K d.C) d.f (d.p K) (d.g K)∧∃ fd,FunD K d.f d.qual d.params d.body d.scope [] [] (d.g K) fd:=by
 have e2:(qr.map fun d=>He5.fnA K (d.g K))[i]? = (qr.map fun d=>d.da.val)[i]?:=by rw [T.prv]
 rw [List.getElem?_map,List.getElem?_map,h] at e2
 exact PrD.get (Option.some.inj e2) (T.prs d (List.mem_of_getElem? h))
theorem Tv.sq (T:Tv fa fn su file ex tb eq gt qr qs w K mg) (i:Nat) {C:Str} (h:qs[i]? = some C:=by rfl):PySem.W.noSeq K (He.ga K C)=true:=T.sqs C (List.mem_of_getElem? h)
end
section
variable {env:Slo} {S:Sto} {Q:DQ} {m mo mi:EM} {C a:Addr} {sp:SpD} {W:XW} {fs:List (Str×D)} {d e o:D} {NQ:Slo->Sto->Prop}
def zwy (C:Addr) (sp:SpD) (Q:DQ):DQ:=fun d S1=>match d with
 | .ref a=>(∃ fs,S1 a=some (.ins C fs))∧sp [.ref a] S1 Q (fun _ _ _=>False)
 | _=>False
theorem zum (h:m env S (zwy C sp Q)):zwb C sp m env S Q:=h
def zxg (C:Addr) (sp:SpD) (W:XW) (mi:EM) (d:D) (env:Slo) (NQ:Slo->Sto->Prop):DQ:=fun o S1=>mi env S1 (zxf C sp W o d env NQ)
theorem zvB (h:mo env S (zxg C sp W mi d env NQ)):zBK C sp W mo mi d env S NQ:=h
theorem zuz (h:mi env S (zxf C sp W o d env NQ)):zxg C sp W mi d env NQ o S:=h
instance zAF:St (zwb C sp m env S Q) (m env S (zwy C sp Q)):=⟨fun h=>zum h⟩
instance zBx:St (zBK C sp W mo mi d env S NQ) (mo env S (zxg C sp W mi d env NQ)):=⟨fun h=>zvB h⟩
instance zAO:St (zxg C sp W mi d env NQ o S) (mi env S (zxf C sp W o d env NQ)):=⟨fun h=>zuz h⟩
end
def zBO:List Value:=[.type "ValueError", .type "Exception", .type "BaseException", .type "object"]
structure Ex0 (K:PySem.W.Frag) (mg:Str->Option Value) (x:Str):Prop where
 gC:mg x=some (.ref (He.ga K x))
 oex:OexC K (He.ga K x)
 q:PySem.W.excIn K (He.ga K x) zBO "ValueError.__new__" = true
def zoO (C:Addr) (W:XW) (ma:AM):SM:=fun _ env S=>ma env S fun ds S1=>match ds with
 | [_]=>W (.ref C) [] env S1
 | _=>False
section
variable {X:Cx} {B:Hp} {W:XW} {ma:AM} {x:Str} {p pos pos':Pos} {e:Expr}
end
end DL
namespace PySem.W
open PySem PySem.Spec PySem.Calls PyProof.Rows
section
variable {prog:Program} {w:World} {A:Around} {E:Value->Shared->Prop} {s:Shared} {K:Frag} {x D:Addr} {ox:Obj} {od:Option Obj}
end
end PySem.W
namespace DL
open PySem PySem.Spec PyProof.Rows L2
def XdH (H:Hp) (d:Option Addr):Prop:=match d with
 | some dd=>∃ fs,H dd=some (.xd fs)
 | none=>True
def zDX (K:PySem.W.Frag) (D a:Addr) (d:Option Addr):List V->Hp->VK->Prop:=fun xs H Q=>∃ (c:V) (cv:Value) (b:Bool),xs=[.ref a,c]∧XdH H d∧(∀ u,RelV c u->u=cv)∧PySem.W.kitOne K (.ref D) cv=some b∧Q (.bl b) H
def zD6 (i:Nat) (C a:Addr) (cls:Value) (b:Bool):EM:=fun env S Q=>zag i env S fun x S1=>x = .ref a∧cls = .ref C∧Q (.bl b) S1
structure zEr (P:Program) (w:World) (K:PySem.W.Frag) (mg:Str->Option Value) (base:Heap) (k:Nat) (f:Addr) (sp:SpD) (n:Nat) (y y2:Str) (gD:List D->List D->List D):Prop where
 ex:∃ (fd:FuncData) (ps:List Str) (g:List Value->List Value->List Value) (gV:List V->List V->List V),FnOk P w K mg base (L2.CX P w) k f fd ps (zlF K P w sp)∧KBn K fd ps n [y,y2] g gV∧∀ (H:Hp) (ds ws:List D) (vs zs:List V),DVs K H ds vs->DVs K H ws zs->DVs K H (gD ds ws) (gV vs zs)
 kp:PySem.W.keepIn K (.ref f)=true
 mono:zgo sp
section
variable {P:Program} {w:World} {K:PySem.W.Frag} {mg:Str->Option Value} {base:Heap}
end
section
variable {X:Cx} {B:Hp} {W:XW} {k n:Nat} {f C:Addr} {sp:SpD} {x y y2:Str} {p pos kpos kpos2:Pos} {e e2 e3:Expr} {es:List Expr} {ma:AM} {m2 m3:EM} {gD:List D->List D->List D}
def zre (C:Addr) (sp:SpD) (W:XW) (n:Nat) (gD:List D->List D->List D) (m:AM) (m2 m3:EM):EM:=fun env S Q=>m env S fun ds S1=>m2 env S1 fun d S2=>m3 env S2 fun d2 S3=>ds.length=n∧∀ p,S3 p=none->sp (gD (.ref p :: ds) [d,d2]) (put S3 p (.ins C [])) (fun v S4=>v = .non∧Q (.ref p) S4) fun c fs S'=>W c fs env S'
end
abbrev AlU:Type:=AlV×Bool
abbrev ztN:Type:=Str×Str×Bool
def zzw (K:PySem.W.Frag) (z:ztN):Bool:=xfB K (He.ga K z.1) && (isB K (He.ga K z.1) && decide (PySem.W.kitOne K (.ref (He.ga K z.1)) (.ref (He.ga K z.2.1))=some z.2.2))
def zzd (K:PySem.W.Frag) (x:Str):Bool:=zy9 K (He.ga K x) && PySem.W.excIn K (He.ga K x) zBO "ValueError.__new__"
def zvW (fa:List He.Fa) (fn:List He.DefD) (su:List SuD) (file:Str) (ex:List Str) (tb:List zhM) (eq:List Str) (gt:List zmK) (pr:List PrD) (sq:List Str) (no:List Str) (is:List ztN) (K:PySem.W.Frag):AlU:=(ztH fa fn su file ex tb eq gt pr sq K,(no.all fun x=>zzd K x) && is.all fun z=>zzw K z)
def ztY (fn:List He.DefD) (su:List SuD) (tb:List zhM) (pr:List PrD) (w:World):AlU:=(znq fn su tb pr w,true)
def zDv (n:Nat) (fa:List He.Fa) (fn:List He.DefD) (su:List SuD) (file:Str) (ex:List Str) (tb:List zhM) (eq:List Str) (gt:List zmK) (pr:List PrD) (sq:List Str) (no:List Str) (is:List ztN):PySem.W.Hook where
 α:=AlU
 obs:=fun s=>zvW fa fn su file ex tb eq gt pr sq no is (kFr n s.heap.get?)
 val:=fun w=>ztY fn su tb pr w
 says:=fun w h=>∃ K:PySem.W.Frag,K.In h∧zvW fa fn su file ex tb eq gt pr sq no is K=ztY fn su tb pr w
 of:=fun _ _ e=>⟨_,He.frG_in,e⟩
 keeps:=fun _ _ _ ⟨K,hK,c⟩ k=>⟨K,hK.keeps k,c⟩
structure Tu (fa:List He.Fa) (fn:List He.DefD) (su:List SuD) (file:Str) (ec:List Str) (tb:List zhM) (eq:List Str) (gt:List zmK) (pr:List PrD) (sq no:List Str) (is:List ztN) (w:World) (K:PySem.W.Frag) (mg:Str->Option Value):Prop extends Tv fa fn su file ec tb eq gt pr sq w K mg where
 nos:∀ x∈no,zzd K x=true
 iss:∀ z∈is,zzw K z=true
section
variable {fa:List He.Fa} {fn:List He.DefD} {su:List SuD} {file:Str} {ex:List Str} {tb:List zhM} {eq:List Str} {gt:List zmK} {qr:List PrD} {qs no:List Str} {is:List ztN} {w:World} {K:PySem.W.Frag} {mg:Str->Option Value}
theorem Tu.mk' {h:Heap} (X:K.In h) (G:h.Ns mainGlobals mg) (c:zvW fa fn su file ex tb eq gt qr qs no is K=ztY fn su tb qr w):Tu fa fn su file ex tb eq gt qr qs no is w K mg:=by
 have c2:((no.all fun x=>zzd K x) && is.all fun z=>zzw K z)=true:=congrArg (fun z:AlU=>z.2) c
 obtain ⟨c3,c4⟩:=He.ba c2
 exact ⟨Tv.mk' X G (congrArg (fun z:AlU=>z.1) c),List.all_eq_true.mp c3,List.all_eq_true.mp c4⟩
end
section
variable {env:Slo} {S:Sto} {Q:DQ} {ma ms:AM} {m2 m3:EM} {A:Fin} {C a:Addr} {W:XW} {d e:D} {cls:Value} {b:Bool} {i n:Nat} {sp:SpD} {gD:List D->List D->List D} {xs:List D}
def zxo (C:Addr) (W:XW) (env:Slo):List D->Sto->Prop:=fun ds S1=>match ds with
 | [_]=>W (.ref C) [] env S1
 | _=>False
theorem zpO (h:ma env S (zxo C W env)):zoO C W ma A env S:=h
theorem zuP (h:W (.ref C) [] env S):zxo C W env [d] S:=h
def zzp (C:Addr) (sp:SpD) (W:XW) (n:Nat) (gD:List D->List D->List D) (ds:List D) (d:D) (env:Slo) (Q:DQ):DQ:=fun d2 S3=>ds.length=n∧∀ p,S3 p=none->sp (gD (.ref p :: ds) [d,d2]) (put S3 p (.ins C [])) (fun v S4=>v = .non∧Q (.ref p) S4) fun c fs S'=>W c fs env S'
def zwA (C:Addr) (sp:SpD) (W:XW) (n:Nat) (gD:List D->List D->List D) (ds:List D) (m3:EM) (env:Slo) (Q:DQ):DQ:=fun d S2=>m3 env S2 (zzp C sp W n gD ds d env Q)
def zxu (C:Addr) (sp:SpD) (W:XW) (n:Nat) (gD:List D->List D->List D) (m2 m3:EM) (env:Slo) (Q:DQ):List D->Sto->Prop:=fun ds S1=>m2 env S1 (zwA C sp W n gD ds m3 env Q)
theorem zrQ (h:ms env S (zxu C sp W n gD m2 m3 env Q)):zre C sp W n gD ms m2 m3 env S Q:=h
theorem zu2 (h:m2 env S (zwA C sp W n gD xs m3 env Q)):zxu C sp W n gD m2 m3 env Q xs S:=h
theorem zu1 (h:m3 env S (zzp C sp W n gD xs d env Q)):zwA C sp W n gD xs m3 env Q d S:=h
instance zxJ:St (zoO C W ma A env S) (ma env S (zxo C W env)):=⟨fun h=>zpO h⟩
instance zA1:St (zxo C W env [d] S) (W (.ref C) [] env S):=⟨fun h=>zuP h⟩
instance zzA:St (zre C sp W n gD ms m2 m3 env S Q) (ms env S (zxu C sp W n gD m2 m3 env Q)):=⟨fun h=>zrQ h⟩
instance zBc:St (zxu C sp W n gD m2 m3 env Q xs S) (m2 env S (zwA C sp W n gD xs m3 env Q)):=⟨fun h=>zu2 h⟩
instance zBb:St (zwA C sp W n gD xs m3 env Q d S) (m3 env S (zzp C sp W n gD xs d env Q)):=⟨fun h=>zu1 h⟩
end
def frE (g:Addr->Option Obj):Nat->List Addr->List Addr
 | 0,l=>l
 | n+1,l=>l++frE g n (l.flatMap fun a=>match g a with
  | some o=>(He.refsD o).filter fun b=>!(Nat.beq b mainGlobals)
  | none=>[])
def kPr (n:Nat) (g:Addr->Option Obj):PySem.W.Frag:=He.frG g (frE g n [mainGlobals]++[cStatics])
def zBI (n:Nat) (fa:List He.Fa) (fn:List He.DefD) (su:List SuD) (file:Str) (ex:List Str) (tb:List zhM) (eq:List Str) (gt:List zmK) (pr:List PrD) (sq:List Str):PySem.W.Hook where
 α:=AlV
 obs:=fun s=>ztH fa fn su file ex tb eq gt pr sq (kPr n s.heap.get?)
 val:=fun w=>znq fn su tb pr w
 says:=fun w h=>∃ K:PySem.W.Frag,K.In h∧ztH fa fn su file ex tb eq gt pr sq K=znq fn su tb pr w
 of:=fun _ _ e=>⟨_,He.frG_in,e⟩
 keeps:=fun _ _ _ ⟨K,hK,c⟩ k=>⟨K,hK.keeps k,c⟩
def zBJ (n:Nat) (fa:List He.Fa) (fn:List He.DefD) (su:List SuD) (file:Str) (ex:List Str) (tb:List zhM) (eq:List Str) (gt:List zmK) (pr:List PrD) (sq:List Str) (no:List Str) (is:List ztN):PySem.W.Hook where
 α:=AlU
 obs:=fun s=>zvW fa fn su file ex tb eq gt pr sq no is (kPr n s.heap.get?)
 val:=fun w=>ztY fn su tb pr w
 says:=fun w h=>∃ K:PySem.W.Frag,K.In h∧zvW fa fn su file ex tb eq gt pr sq no is K=ztY fn su tb pr w
 of:=fun _ _ e=>⟨_,He.frG_in,e⟩
 keeps:=fun _ _ _ ⟨K,hK,c⟩ k=>⟨K,hK.keeps k,c⟩
structure ClV where
 c:Value
 i:Option Nat
 ts:Addr->Value->Option Addr->TS
def zCo (i:Option Nat) (D:Ends):Ends:=match i with
 | some j=>zvT j D
 | none=>D
def zB1 (i:Option Nat) (a:Addr) (σ:L2.St):L2.St:=match i with
 | some j=>σ.set j (some (.ref a))
 | none=>σ
def wCv (K:PySem.W.Frag) (Wout:WX) (D:Ends):List ClV->WX
 | []=>Wout
 | q :: r=>fun cls d σ H=>∃ b,PySem.W.exmOne K cls q.c=some b∧(b=true->∀ a,H a=none->q.ts a cls d (zCo q.i D) (zB1 q.i a σ) H)∧(b=false->wCv K Wout D r cls d σ H)
inductive CvOk (X:Cx):List ExceptHandler->List ClV->Prop
 | nil:CvOk X [] []
 | named {x n:Str} {c:Value} {i:Nat} {ts:Addr->Value->Option Addr->TS} {st0:Stmt} {rest:List Stmt} {p1 p2:Pos} {hds:List ExceptHandler} {l:List ClV} (hi:X.N[i]? = some n) (hl:X.env.kindOf n=some .local) (hc:Names X x c)
   (hsu:∀ (a:Addr) (oe:Obj) (cls:Value) (d:Option Addr) (pn:List (Addr×Obj)),Zc cls d oe->(∃ vs,oe.data = .fields vs)->PSs (X.suite a ((a,oe) :: pn)) (st0 :: rest) (ts a cls d)) (r:CvOk X hds l) :
   CvOk X (.ExceptHandler (some (.Name x p1)) (some n) (st0 :: rest) p2 :: hds) (⟨c,some i,ts⟩ :: l)
 | plain {x:Str} {c:Value} {ts:Addr->Value->Option Addr->TS} {st0:Stmt} {rest:List Stmt} {p1 p2:Pos} {hds:List ExceptHandler} {l:List ClV} (hc:Names X x c)
   (hsu:∀ (a:Addr) (oe:Obj) (cls:Value) (d:Option Addr) (pn:List (Addr×Obj)),Zc cls d oe->(∃ vs,oe.data = .fields vs)->PSs (X.suite a ((a,oe) :: pn)) (st0 :: rest) (ts a cls d)) (r:CvOk X hds l) :
   CvOk X (.ExceptHandler (some (.Name x p1)) none (st0 :: rest) p2 :: hds) (⟨c,none,ts⟩ :: l)
section
variable {X:Cx} {bd:List Stmt} {c0:ExceptHandler} {cs:List ExceptHandler} {l:List ClV} {pos:Pos} {tb:WX->TS} {Wout:WX}
end
structure ClW where
 C:Addr
 i:Option Nat
 su:SuM
def zDA (i:Option Nat) (A:Fin):Fin:=match i with
 | some j=>zwQ j A
 | none=>A
def zB2 (i:Option Nat) (a:Addr) (env:Slo):Slo:=match i with
 | some j=>env.set j (some (.ref a))
 | none=>env
def ztX (K:PySem.W.Frag) (W:XW) (A:Fin):List ClW->XW
 | []=>W
 | q :: r=>fun c fs env S=>∃ b,PySem.W.exmOne K c (.ref q.C)=some b∧(b=true->∀ a,S a=none->q.su a c fs (zDA q.i A) (zB2 q.i a env) S)∧(b=false->ztX K W A r c fs env S)
def zCr (K:PySem.W.Frag) (b:XW->SM) (l:List ClW) (W:XW):SM:=fun A env S=>∃ A0,zhd A0 A∧b (ztX K W A0 l) A0 env S
inductive HdX (X:Cx):List ExceptHandler->List ClW->Prop
 | nil:HdX X [] []
 | named {x n:Str} {C:Addr} {i:Nat} {su:SuM} {st0:Stmt} {rest:List Stmt} {p1 p2:Pos} {hds:List ExceptHandler} {l:List ClW} (hi:X.N[i]? = some n) (hl:X.env.kindOf n=some .local) (hc:Names X x (.ref C))
   (hsu:∀ (a:Addr) (oe:Obj) (cls:Value) (d:Option Addr) (pn:List (Addr×Obj)),Zc cls d oe->(∃ vs,oe.data = .fields vs)->∀ (fs:List (Str×D)) (B':Hp),XdR X.K B' d fs->MSs (X.suite a ((a,oe) :: pn)) B' (st0 :: rest) (su a cls fs)) (r:HdX X hds l) :
   HdX X (.ExceptHandler (some (.Name x p1)) (some n) (st0 :: rest) p2 :: hds) (⟨C,some i,su⟩ :: l)
 | plain {x:Str} {C:Addr} {su:SuM} {st0:Stmt} {rest:List Stmt} {p1 p2:Pos} {hds:List ExceptHandler} {l:List ClW} (hc:Names X x (.ref C))
   (hsu:∀ (a:Addr) (oe:Obj) (cls:Value) (d:Option Addr) (pn:List (Addr×Obj)),Zc cls d oe->(∃ vs,oe.data = .fields vs)->∀ (fs:List (Str×D)) (B':Hp),XdR X.K B' d fs->MSs (X.suite a ((a,oe) :: pn)) B' (st0 :: rest) (su a cls fs)) (r:HdX X hds l) :
   HdX X (.ExceptHandler (some (.Name x p1)) none (st0 :: rest) p2 :: hds) (⟨C,none,su⟩ :: l)
section
variable {X:Cx} {B:Hp} {W:XW}
theorem HdX.ok {hds:List ExceptHandler} {l:List ClW} (h:HdX X hds l):CvOk X hds (l.map fun q=>⟨.ref q.C,q.i,tSu X.K X.prog X.w q.su⟩):=by
 have su_ok:∀ {su:SuM} {st0:Stmt} {rest:List Stmt},(∀ (a:Addr) (oe:Obj) (cls:Value) (d:Option Addr) (pn:List (Addr×Obj)),Zc cls d oe->(∃ vs,oe.data = .fields vs)->∀ (fs:List (Str×D)) (B':Hp),XdR X.K B' d fs->MSs (X.suite a ((a,oe) :: pn)) B' (st0 :: rest) (su a cls fs)) ->
   ∀ (a:Addr) (oe:Obj) (cls:Value) (d:Option Addr) (pn:List (Addr×Obj)),Zc cls d oe->(∃ vs,oe.data = .fields vs)->PSs (X.suite a ((a,oe) :: pn)) (st0 :: rest) (tSu X.K X.prog X.w su a cls d):=fun {su st0 rest} hsu a oe cls d pn hz hf=>⟨fun pins s σ H D' I z=>by
  obtain ⟨fs,A1,env,S,xd,le,er,rp,q⟩:=z
  have M:=hsu a oe cls d pn hz hf fs H xd
  exact M.ps.run pins s σ H D' I ⟨Le.refl H,env,S,er,rp,M.mono _ _ _ _ le q⟩⟩
 induction h with
 | nil=>exact .nil
 | named hi hl hc hsu _ ih=>exact .named hi hl hc (su_ok hsu) ih
 | plain hc hsu _ ih=>exact .plain hc (su_ok hsu) ih
end
section
variable {K:PySem.W.Frag} {b:XW->SM} {l:List ClW} {W:XW} {A:Fin} {env:Slo} {S:Sto} {cls:Value} {fs:List (Str×D)} {C:Addr} {i:Option Nat} {su:SuM}
end
section
variable {P:Program} {w:World} {K:PySem.W.Frag} {mg:Str->Option Value} {base:Heap}
end
structure Lo (H H':Hp):Prop where
 tup:∀ a xs,H a=some (.tup xs)->H' a=some (.tup xs)
 frz:∀ a o u,(∀ vs,u≠.dK vs)->H a=some (.frz o u)->H' a=some (.frz o u)
theorem Lo.sqt {K:PySem.W.Frag} {H H':Hp} {a:Addr} {xs:List V} (l:Lo H H') (h:SqT K H a xs):SqT K H' a xs:=by
 rcases h with (h | ⟨o,h⟩) | h
 ·exact .inl (.inl (l.tup a xs h))
 ·exact .inl (.inr ⟨o,l.frz a o _ (fun _ z=>nomatch z) h⟩)
 ·exact .inr h
theorem Lo.rol {K:PySem.W.Frag} {H H':Hp} {a:Addr} {xs:List V} (l:Lo H H') (h:RoL K H a xs):RoL K H' a xs:=by
 rcases h with ⟨o,h⟩ | h
 ·exact .inl ⟨o,l.frz a o _ (fun _ z=>nomatch z) h⟩
 ·exact .inr h
theorem Lo.tf {H H':Hp} {a:Addr} {vs:List V} {f:Bool} (l:Lo H H') (h:TF H a vs f):TF H' a vs f:=by
 cases f with
 | false=>exact l.tup _ _ h
 | true=>
  obtain ⟨o,e,z⟩:=h
  exact ⟨o,l.frz _ _ _ (fun _ z=>nomatch z) e,z⟩
section
variable {K:PySem.W.Frag} {H H':Hp}
mutual
theorem DV.lo (l:Lo H H'):∀ (d:D) (v:V),DV K H d v->DV K H' d v
 | .non,_,h=>by cases h;exact .non
 | .bl b,_,h=>by cases h;exact .bl b
 | .int b,_,h=>by cases h;exact .int b
 | .str b,_,h=>by
  cases h with
  | str _ ok=>exact .str b ok
 | .ty b,_,h=>by cases h;exact .ty b
 | .ref b,_,h=>by cases h;exact .ref b
 | .tp f ds,_,h=>by
  cases h with
  | tup hs hd ht=>exact .tup (l.sqt hs) (DVs.lo l ds _ hd) (l.tf ht)
 | .rol ds,_,h=>by
  cases h with
  | rol hs hd=>exact .rol (l.rol hs) (DVs.lo l ds _ hd)
 | .rod ks ds,_,h=>by
  cases h with
  | rod hs hl hk hd=>
   obtain ⟨o,hs⟩:=hs
   exact .rod ⟨o,l.frz _ _ _ (fun _ z=>nomatch z) hs⟩ hl hk (DVs.lo l ds _ hd)
theorem DVs.lo (l:Lo H H'):∀ (ds:List D) (vs:List V),DVs K H ds vs->DVs K H' ds vs
 | [],_,h=>by cases h;exact .nil
 | d :: ds,_,h=>by
  cases h with
  | cons h1 h2=>exact .cons (DV.lo l d _ h1) (DVs.lo l ds _ h2)
end
theorem KVs.lo {κ:Type} {ds:List (κ×D)} {vs:List (κ×V)} (l:Lo H H') (h:KVs K H ds vs):KVs K H' ds vs:=by
 induction h with
 | nil=>exact .nil
 | cons h1 _ ih=>exact .cons (DV.lo l _ _ h1) ih
theorem KN.lo {ds:List D} {kvs:List (NestedKey×D)} {zs:List (NestedKey×Addr×V)} (l:Lo H H') (h:KN K H ds kvs zs):KN K H' ds kvs zs:=by
 induction h with
 | nil=>exact .nil
 | cons h1 h2 h3 h4 _ ih=>exact .cons h1 h2 (DV.lo l _ _ h3) (DV.lo l _ _ h4) ih
theorem OOk.lo {P:Program} {w:World} {a:Addr} {o:O} (h:OOk K P w H a o) (l:Lo H H') (e:H' a=H a):OOk K P w H' a o:=by
 cases o with
 | lst=>obtain ⟨vs,q,z⟩:=h;exact ⟨vs,e.trans q,DVs.lo l _ _ z⟩
 | dic=>obtain ⟨vs,q,z⟩:=h;exact ⟨vs,e.trans q,z.lo l⟩
 | dit=>obtain ⟨vs,q,z⟩:=h;exact ⟨vs,e.trans q,z.lo l⟩
 | set=>exact e.trans h
 | ins=>obtain ⟨dx,vs,q,z⟩:=h;exact ⟨dx,vs,e.trans q,z.lo l⟩
 | din=>obtain ⟨zs,q,z⟩:=h;exact ⟨zs,e.trans q,z.lo l⟩
 | tbl=>
  obtain ⟨ps,q,z,y⟩:=h
  refine ⟨ps,e.trans q,z,fun pos cv hc=>?_⟩
  obtain ⟨c,oc,e1,e2,e3⟩:=y pos cv hc
  exact ⟨c,oc,e1,l.frz _ _ _ (fun _ z=>nomatch z) e2,e3⟩
end
def FzK (K:PySem.W.Frag) (H:Hp) (a:Addr) (kvs:List (Key×D)):Prop:=∃ o vs,H a=some (.frz o (.dK vs))∧KVs K H kvs vs
theorem FzK.le {K:PySem.W.Frag} {H H':Hp} {a:Addr} {kvs:List (Key×D)} (h:FzK K H a kvs) (l:Le H H'):FzK K H' a kvs:=by
 obtain ⟨o,vs,e,z⟩:=h
 exact ⟨o,vs,l.frz _ _ _ e,z.le l⟩
def zD5 (m:Addr->List (Key×D)->EM):EM:=fun env S Q=>∃ a kvs,S a=some (.dic kvs)∧∃ Q0:DQ,(∀ d S1,Q0 d S1->S1 a=none∧Q d (put S1 a (.dic kvs)))∧m a kvs env (zpd S a) Q0
section
variable {X:Cx} {B:Hp} {e:Expr} {m:Addr->List (Key×D)->EM}
end
def zwM (a:Addr) (kvs:List (Key×D)) (m:EM):IM:=fun env S R=>m env S fun d S1=>d = .ref a∧(∀ kv∈kvs,okK kv.1)∧R (kvs.map fun kv=>kD kv.1) (fun _=>True) S1
section
variable {X:Cx} {B:Hp} {a:Addr} {kvs:List (Key×D)} {tg:Expr}
def zDM (a:Addr) (kvs:List (Key×D)):BM:=fun d e S Q=>d = .ref a∧match keyD e with
 | some k=>(match valD kvs k with
  | some x=>Q x S
  | none=>False)
 | none=>False
end
section
variable {env:Slo} {S:Sto} {Q:DQ} {a:Addr} {kvs:List (Key×D)} {me:EM} {R:List D->(Sto->Prop)->Sto->Prop} {x:D} {k:Key} {d:D} {m:Addr->List (Key×D)->EM}
def zwE (a:Addr) (kvs:List (Key×D)) (R:List D->(Sto->Prop)->Sto->Prop):DQ:=fun d S1=>d = .ref a∧(∀ kv∈kvs,okK kv.1)∧R (kvs.map fun kv=>kD kv.1) (fun _=>True) S1
theorem zsn (h:me env S (zwE a kvs R)):zwM a kvs me env S R:=h
instance zzX:St (zwM a kvs me env S R) (me env S (zwE a kvs R)):=⟨fun h=>zsn h⟩
end
section
variable {K:PySem.W.Frag} {P:Program} {w:World} {H:Hp} {h:Heap}
theorem zt9 (ok:HOk P w H h) {a:Addr} {vs:List V} {f:Bool} (t:TF H a vs f):∃ (its:List Value) (o:Obj) (n:Nat),Vals vs its∧h.get? a=some o∧o.cls = .type "tuple" ∧ o.data = .seq its.toArray n:=by
 cases f with
 | false=>
  obtain ⟨_,its,r,o,h1,h2,n,h3⟩:=(show ObjOk P w H h a (.tup vs) from ok a _ t)
  exact ⟨its,o,n,r,h1,h2,h3⟩
 | true=>
  obtain ⟨ob,e,_⟩:=t
  obtain ⟨_,_,its,r,o,h1,h2,n,h3⟩:=(show ObjOk P w H h a (.frz ob (.tup vs)) from ok a _ e)
  exact ⟨its,o,n,r,h1,h2,h3⟩
mutual
theorem zsJ (ok:HOk P w H h):∀ (d:D) (v:V) (u:Value) (k:NestedKey),DV K H d v->RelV v u->nkD d=some k->NestedIs h k u
 | .non,_,u,k,z,r,e=>by
  cases z
  rw [nkD] at e
  cases e
  rw [show u=Value.none from r]
  exact .none
 | .bl b,_,u,k,z,r,e=>by
  cases z
  rw [nkD] at e
  cases e
  rw [show u=Value.bool b from r]
  exact .bool rfl
 | .int i,_,u,k,z,r,e=>by
  cases z
  rw [nkD] at e
  cases e
  obtain ⟨t,rfl⟩:=r
  exact .int i t
 | .str x,_,u,k,z,r,e=>by
  cases z
  rw [nkD] at e
  cases e
  obtain ⟨t,rfl⟩:=r
  exact .text x t
 | .tp f xs,_,u,k,z,r,e=>by
  cases z with
  | @tup a vs _ _ s zs t=>
   rw [nkD] at e
   obtain ⟨ks,e1,rfl⟩:=Option.map_eq_some_iff.mp e
   obtain rfl:u=Value.ref a:=r
   obtain ⟨its,o,n,rr,h1,h2,h3⟩:=zt9 ok t
   exact .tup h1 h2 h3 (by simpa using zm2 ok xs vs its ks zs rr e1)
 | .rol _,_,_,_,_,_,e=>by rw [nkD] at e;cases e
 | .ref _,_,_,_,_,_,e=>by rw [nkD] at e;cases e
 | .ty _,_,_,_,_,_,e=>by rw [nkD] at e;cases e
 | .rod _ _,_,_,_,_,_,e=>by rw [nkD] at e;cases e
theorem zm2 (ok:HOk P w H h):∀ (ds:List D) (vs:List V) (us:List Value) (ks:List NestedKey),DVs K H ds vs->Vals vs us->zvZ ds=some ks->NestedAll h ks us
 | [],_,_,ks,z,r,e=>by
  cases z
  cases r
  rw [zvZ] at e
  cases e
  exact .nil
 | d :: ds,_,_,ks,z,r,e=>by
  cases z with
  | cons z1 z2=>
   cases r with
   | cons r1 r2=>
    rw [zvZ] at e
    obtain ⟨k,e1,e⟩:=Option.bind_eq_some_iff.mp e
    obtain ⟨ks',e2,rfl⟩:=Option.map_eq_some_iff.mp e
    exact .cons (zsJ ok d _ _ k z1 r1 e1) (zm2 ok ds _ _ ks' z2 r2 e2)
end
def nk8:D->Option NestedKey
 | .tp f xs=>match nkD (.tp f xs) with
  | some k=>if k.depth≤8 then some k else none
  | none=>none
 | _=>none
def zV (zs:List (NestedKey×Addr×V)):List (NestedKey×V):=zs.map fun z=>(z.1,z.2.2)
variable {ks:List D} {kvs:List (NestedKey×D)} {zs:List (NestedKey×Addr×V)} {xs:List (NestedKey×Addr×Value)} {a:Addr} {k:NestedKey}
theorem KN.kv_ (r:KN K H ks kvs zs):KVs K H kvs (zV zs):=by
 induction r with
 | nil=>exact .nil
 | cons _ _ _ h4 _ ih=>exact .cons h4 ih
theorem KN.len (r:KN K H ks kvs zs):kvs.length=zs.length∧ks.length=zs.length:=by
 induction r with
 | nil=>exact ⟨rfl,rfl⟩
 | cons _ _ _ _ _ ih=>exact ⟨by simp [ih.1],by simp [ih.2]⟩
theorem KZ.val (r:KZ zs xs) (k:NestedKey):RelO (valV (zV zs) k) ((atKey xs k).map (·.2)):=by
 induction r with
 | nil=>exact True.intro
 | @cons p q ps qs h t ih=>
  obtain ⟨h1,_,h2⟩:=h
  by_cases e:p.1=k
  ·have e':q.1=k:=h1.symm.trans e
   have b:atKey (q :: qs) k=some q.2:=by simp [atKey,List.find?_cons,e']
   rw [show zV (p :: ps)=(p.1,p.2.2) :: zV ps from rfl,valV_pos (p:=(p.1,p.2.2)) e,b]
   exact h2
  ·have e':¬ q.1=k:=fun z=>e (h1.trans z)
   have b:atKey (q :: qs) k=atKey qs k:=by simp [atKey,List.find?_cons,e']
   rw [show zV (p :: ps)=(p.1,p.2.2) :: zV ps from rfl,valV_neg (p:=(p.1,p.2.2)) e,b]
   exact ih
def zxc (zs:List (NestedKey×Addr×V)) (k:NestedKey) (b:Addr) (y:V):List (NestedKey×Addr×V):=if (valV (zV zs) k).isSome=true then zs.map (fun z=>if z.1=k then (z.1,z.2.1,y) else z) else zs++[(k,b,y)]
theorem KZ.repl (r:KZ zs xs) (k:NestedKey) {y:V} {u:Value} (ry:RelV y u):KZ (zs.map fun z=>if z.1=k then (z.1,z.2.1,y) else z) (xs.map (putAt k u)):=by
 induction r with
 | nil=>exact .nil
 | @cons p q ps qs h t ih=>
  rw [List.map_cons,List.map_cons]
  refine .cons ?_ ih
  obtain ⟨h1,h2,h3⟩:=h
  unfold putAt
  by_cases e:p.1=k
  ·rw [if_pos e,if_pos (h1.symm.trans e)];exact ⟨h1,h2,ry⟩
  ·rw [if_neg e,if_neg (fun z=>e (h1.trans z))];exact ⟨h1,h2,h3⟩
theorem KZ.put (r:KZ zs xs) (k:NestedKey) {b:Addr} {y:V} {u:Value} (ry:RelV y u):KZ (zxc zs k b y) (storedH xs k b u):=by
 have e:=(r.val k).isSome_eq
 rw [Option.isSome_map] at e
 unfold zxc storedH
 rw [e]
 by_cases q:(atKey xs k).isSome=true
 ·rw [if_pos q,if_pos q];exact r.repl k ry
 ·rw [if_neg q,if_neg q];exact Paired.snoc r ⟨rfl,rfl,ry⟩
def zpX (ks:List D) (kvs:List (NestedKey×D)) (k:NestedKey) (d:D):List D:=if (valD kvs k).isSome=true then ks else ks++[d]
theorem ztC (kvs:List (NestedKey×D)) (k:NestedKey):(kvs.any fun kv=>decide (kv.1=k))=(valD kvs k).isSome:=by
 induction kvs with
 | nil=>rfl
 | cons p kvs ih=>
  unfold valD at ih ⊢
  rw [List.any_cons,List.find?_cons,ih]
  by_cases e:p.1=k
  ·simp [e]
  ·simp [e]
theorem KN.map (r:KN K H ks kvs zs) (k:NestedKey) {e:D} {y:V} (ry:DV K H e y):KN K H ks (kvs.map fun kv=>if kv.1=k then (kv.1,e) else kv) (zs.map fun z=>if z.1=k then (z.1,z.2.1,y) else z):=by
 induction r with
 | nil=>exact .nil
 | @cons d e' k' b v ds kvs zs h1 h2 h3 h4 _ ih=>
  rw [List.map_cons,List.map_cons]
  by_cases q:k'=k
  ·simp only [q,if_true]
   rw [q] at h1 h2
   exact .cons h1 h2 h3 ry ih
  ·simp only [q,if_false]
   exact .cons h1 h2 h3 h4 ih
theorem KN.snoc (r:KN K H ks kvs zs) {k:NestedKey} {d e:D} {b:Addr} {y:V} (h1:nkD d=some k) (h2:k.depth≤8) (h3:DV K H d (.ref b)) (h4:DV K H e y):KN K H (ks++[d]) (kvs++[(k,e)]) (zs++[(k,b,y)]):=by
 induction r with
 | nil=>exact .cons h1 h2 h3 h4 .nil
 | cons g1 g2 g3 g4 _ ih=>exact .cons g1 g2 g3 g4 ih
theorem KN.put (r:KN K H ks kvs zs) {k:NestedKey} {d e:D} {b:Addr} {y:V} (h1:nkD d=some k) (h2:k.depth≤8) (h3:DV K H d (.ref b)) (h4:DV K H e y):KN K H (zpX ks kvs k d) (putD kvs k e) (zxc zs k b y):=by
 unfold zpX putD zxc
 rw [ztC,zkH r.kv_ k]
 by_cases q:(valD kvs k).isSome=true
 ·rw [if_pos q,if_pos q,if_pos q];exact r.map k h4
 ·rw [if_neg q,if_neg q,if_neg q];exact r.snoc h1 h2 h3 h4
end
section
variable {X:Cx} {B:Hp} {pos:Pos}
def zrf:EM:=fun _ S Q=>∀ p,S p=none->Q (.ref p) (put S p (.din [] []))
def zAg (g:Bool->Bool):BM:=fun d e S Q=>match nk8 d,e with
 | some k,.ref a=>match S a with
  | some (.din _ kvs)=>Q (.bl (g (valD kvs k).isSome)) S
  | _=>False
 | _,_=>False
def zDL:BM:=fun d e S Q=>match d,nk8 e with
 | .ref a,some k=>match S a with
  | some (.din _ kvs)=>match valD kvs k with
   | some v=>Q v S
   | none=>False
  | _=>False
 | _,_=>False
def setN (S:Sto) (o i v:D):Option Sto:=match o,nk8 i with
 | .ref a,some k=>match S a with
  | some (.din ks kvs)=>if kvs.length < sizeLine then some (put S a (.din (zpX ks kvs k i) (putD kvs k v))) else none
  | _=>none
 | _,_=>none
def zCh (X:Cx):TSet:=fun o i v H Q=>∃ do_ di dv S S',DV X.K H do_ o∧DV X.K H di i∧DV X.K H dv v∧Rp X.K X.prog X.w S H∧setN S do_ di dv=some S'∧∀ H',Le H H'->Rp X.K X.prog X.w S' H'->Q H'
def zBL (mo mi:EM):GM:=fun d env S Q=>mo env S fun o S1=>mi env S1 fun i S2=>match setN S2 o i d with
 | some S3=>Q env S3
 | none=>False
def kSd (d k:D) (Q:DQ):DQ:=fun z S3=>match d,nk8 k with
 | .ref a,some kk=>match S3 a with
  | some (.din ks kvs)=>kvs.length < sizeLine∧match valD kvs kk with
   | some v=>Q v S3
   | none=>Q z (put S3 a (.din (zpX ks kvs kk k) (putD kvs kk z)))
  | _=>False
 | _,_=>False
def okN (d:D) (S:Sto):Prop:=match d with
 | .ref a=>match S a with
  | some (.din _ _)=>True
  | _=>False
 | _=>False
def zrb (mo mk mx:EM):EM:=fun env S Q=>mo env S fun d S1=>okN d S1∧mk env S1 fun k S2=>mx env S2 (kSd d k Q)
def zDR (X:Cx) (to ty tx:TE):TE:=fun σ H Q=>to σ H fun x H1=>(∃ a zs,x = .ref a∧H1 a=some (dN X.prog X.w a zs))∧ty σ H1 fun y H2=>tx σ H2 fun z H3=>∃ d k v S,DV X.K H3 d x∧DV X.K H3 k y∧DV X.K H3 v z∧Rp X.K X.prog X.w S H3∧kSd d k (dnE X.K X.prog X.w H3 Q) v S
end
section
variable {env:Slo} {S:Sto} {Q:DQ} {a:Addr} {ks:List D} {kvs:List (NestedKey×D)} {d e v:D} {k:NestedKey} {NQ:Slo->Sto->Prop} {mo mi mk mx:EM}
theorem zsq (h:∀ p,S p=none->Q (.ref p) (put S p (.din [] []))):zrf env S Q:=h
theorem zvu {g:Bool->Bool} (ek:nk8 d=some k) (e0:S a=some (.din ks kvs)) (h:Q (.bl (g (valD kvs k).isSome)) S):zAg g d (.ref a) S Q:=by
 unfold zAg
 simp only [ek,e0]
 exact h
def zzl (d o:D) (env:Slo) (NQ:Slo->Sto->Prop):DQ:=fun i S2=>match setN S2 o i d with
 | some S3=>NQ env S3
 | none=>False
def zxh (d:D) (mi:EM) (env:Slo) (NQ:Slo->Sto->Prop):DQ:=fun o S1=>mi env S1 (zzl d o env NQ)
theorem zvE (h:mo env S (zxh d mi env NQ)):zBL mo mi d env S NQ:=h
theorem zuA (h:mi env S (zzl d e env NQ)):zxh d mi env NQ e S:=h
def zzm (d:D) (mx:EM) (env:Slo) (Q:DQ):DQ:=fun k S2=>mx env S2 (kSd d k Q)
def zAu (mk mx:EM) (env:Slo) (Q:DQ):DQ:=fun d S1=>okN d S1∧mk env S1 (zzm d mx env Q)
theorem zrN (h:mo env S (zAu mk mx env Q)):zrb mo mk mx env S Q:=h
theorem zuK (h:mx env S (kSd e d Q)):zzm e mx env Q d S:=h
end
section
variable {env:Slo} {S:Sto} {Q:DQ} {d e:D} {NQ:Slo->Sto->Prop} {mo mi mk mx:EM}
instance zzZ:St (zrf env S Q) (∀ p,S p=none->Q (.ref p) (put S p (.din [] []))):=⟨fun h=>zsq h⟩
instance zBz:St (zBL mo mi d env S NQ) (mo env S (zxh d mi env NQ)):=⟨fun h=>zvE h⟩
instance zAP:St (zxh d mi env NQ e S) (mi env S (zzl d e env NQ)):=⟨fun h=>zuA h⟩
instance zzx:St (zrb mo mk mx env S Q) (mo env S (zAu mk mx env Q)):=⟨fun h=>zrN h⟩
instance zAW:St (zzm e mx env Q d S) (mx env S (kSd e d Q)):=⟨fun h=>zuK h⟩
end
def weave {α:Type}:List Bool->List α->List α->List α
 | [],_,_=>[]
 | true :: _,_,[]=>[]
 | true :: bs,mv,w :: ws=>w :: weave bs mv ws
 | false :: _,[],_=>[]
 | false :: bs,m :: mv,ws=>m :: weave bs mv ws
structure MK (X:Cx) (B:Hp) (kws:List Keyword) (m:AM):Prop where
 pk:PK X kws (upA X.K X.prog X.w B m)
 mono:znY m
section
variable {X:Cx} {B:Hp}
end
structure FdL (P:Program) (w:World) (K:PySem.W.Frag) (mg:Str->Option Value) (base:Heap) (k:Nat) (f:Addr) (sp:SpD) (n:Nat) (ks:List Str) (gD:List D->List D->List D):Prop where
 ex:∃ (fd:FuncData) (ps:List Str) (g:List Value->List Value->List Value) (gV:List V->List V->List V),FnOk P w K mg base (L2.CX P w) k f fd ps (zlF K P w sp)∧KBn K fd ps n ks g gV∧∀ (H:Hp) (ds ws:List D) (vs zs:List V),DVs K H ds vs->DVs K H ws zs->DVs K H (gD ds ws) (gV vs zs)
 kp:PySem.W.keepIn K (.ref f)=true
 mono:zgo sp
section
variable {P:Program} {w:World} {K:PySem.W.Frag} {mg:Str->Option Value} {base:Heap}
end
section
variable {X:Cx} {B:Hp} {W:XW} {k n nk:Nat} {f C:Addr} {sp:SpD} {x:Str} {p pos:Pos} {e:Expr} {es:List Expr} {ma mk:AM} {gD:List D->List D->List D} {ks:List Str} {kws:List Keyword}
def zrg (sp:SpD) (W:XW) (n nk:Nat) (gD:List D->List D->List D) (m mk:AM):EM:=fun env S Q=>m env S fun ds S1=>mk env S1 fun ws S2=>ds.length=n∧ws.length=nk∧sp (gD ds ws) S2 Q fun c fs S'=>W c fs env S'
def zrc (C:Addr) (sp:SpD) (W:XW) (n nk:Nat) (gD:List D->List D->List D) (m mk:AM):EM:=fun env S Q=>m env S fun ds S1=>mk env S1 fun ws S2=>ds.length=n∧ws.length=nk∧∀ p,S2 p=none->sp (gD (.ref p :: ds) ws) (put S2 p (.ins C [])) (fun v S4=>v = .non∧Q (.ref p) S4) fun c fs S'=>W c fs env S'
end
section
variable {env:Slo} {S:Sto} {Q:DQ} {ma mk:AM} {C:Addr} {W:XW} {n nk:Nat} {sp:SpD} {gD:List D->List D->List D} {xs ys:List D}
def zzq (sp:SpD) (W:XW) (n nk:Nat) (gD:List D->List D->List D) (ds:List D) (env:Slo) (Q:DQ):List D->Sto->Prop:=fun ws S2=>ds.length=n∧ws.length=nk∧sp (gD ds ws) S2 Q fun c fs S'=>W c fs env S'
def zxy (sp:SpD) (W:XW) (n nk:Nat) (gD:List D->List D->List D) (mk:AM) (env:Slo) (Q:DQ):List D->Sto->Prop:=fun ds S1=>mk env S1 (zzq sp W n nk gD ds env Q)
theorem zss (h:ma env S (zxy sp W n nk gD mk env Q)):zrg sp W n nk gD ma mk env S Q:=h
theorem zu6 (h:mk env S (zzq sp W n nk gD xs env Q)):zxy sp W n nk gD mk env Q xs S:=h
def zzr (C:Addr) (sp:SpD) (W:XW) (n nk:Nat) (gD:List D->List D->List D) (ds:List D) (env:Slo) (Q:DQ):List D->Sto->Prop:=fun ws S2=>ds.length=n∧ws.length=nk∧∀ p,S2 p=none->sp (gD (.ref p :: ds) ws) (put S2 p (.ins C [])) (fun v S4=>v = .non∧Q (.ref p) S4) fun c fs S'=>W c fs env S'
def zxz (C:Addr) (sp:SpD) (W:XW) (n nk:Nat) (gD:List D->List D->List D) (mk:AM) (env:Slo) (Q:DQ):List D->Sto->Prop:=fun ds S1=>mk env S1 (zzr C sp W n nk gD ds env Q)
theorem zrO (h:ma env S (zxz C sp W n nk gD mk env Q)):zrc C sp W n nk gD ma mk env S Q:=h
theorem zu7 (h:mk env S (zzr C sp W n nk gD xs env Q)):zxz C sp W n nk gD mk env Q xs S:=h
instance zz1:St (zrg sp W n nk gD ma mk env S Q) (ma env S (zxy sp W n nk gD mk env Q)):=⟨fun h=>zss h⟩
instance zBf:St (zxy sp W n nk gD mk env Q xs S) (mk env S (zzq sp W n nk gD xs env Q)):=⟨fun h=>zu6 h⟩
instance zzy:St (zrc C sp W n nk gD ma mk env S Q) (ma env S (zxz C sp W n nk gD mk env Q)):=⟨fun h=>zrO h⟩
instance zBg:St (zxz C sp W n nk gD mk env Q xs S) (mk env S (zzr C sp W n nk gD xs env Q)):=⟨fun h=>zu7 h⟩
end
section
variable {prog:Program} {w:World} {A:Around} {E:Value->Shared->Prop} {s:Shared} {K:PySem.W.Frag} {x C f:Addr} {ox:Obj} {od:Option Obj} {y:Value}
end
def zDO (C:Addr) (sp:SpD) (g:Bool->Bool):BM:=fun d e S Q=>match e with
 | .ref a=>(∃ fs,S a=some (.ins C fs))∧sp [.ref a,d] S (fun v S'=>∃ b:Bool,v = .bl b∧Q (.bl (g b)) S') (fun _ _ _=>False)
 | _=>False
section
variable {X:Cx} {k:Nat} {C f:Addr} {sp:SpD}
end
section
variable {S:Sto} {Q:DQ} {C a:Addr} {fs:List (Str×D)} {sp:SpD} {d:D} {g:Bool->Bool}
end
section
variable {X:Cx} {B:Hp}
def zCm:MM:=fun d ds S Q=>match d,ds with
 | .ref a,[y]=>∃ (p:PyData) (ps:List PyData) (j:Nat) (z:PyData),rs S 40 y=some p∧rs S 40 (.ref a)=some (.list ps)∧ps[j]? = some z∧PyData.eqv z p=true∧(∀ (m:Nat) (z':PyData),m < j->ps[m]? = some z'->PyData.eqv z' p=false)∧Q (.int (j:Nat)) S
 | _,_=>False
end
section
variable {S:Sto} {Q:DQ} {a:Addr} {d:D}
end
section
variable {X:Cx} {B:Hp}
def kG1 (d:D) (Q:DQ):DQ:=fun k S2=>match d with
 | .ref a=>match S2 a,keyD k with
  | some (.dic kvs),some kk=>Q ((valD kvs kk).getD .non) S2
  | _,_=>False
 | _=>False
def zwh (mo mk:EM):EM:=fun env S Q=>mo env S fun d S1=>ztG d S1∧mk env S1 (kG1 d Q)
def kGN (d:D) (Q:DQ):DQ:=fun k S2=>match d,nk8 k with
 | .ref a,some kk=>match S2 a with
  | some (.din ks kvs)=>Q ((valD kvs kk).getD .non) S2
  | _=>False
 | _,_=>False
def zwg (mo mk:EM):EM:=fun env S Q=>mo env S fun d S1=>okN d S1∧mk env S1 (kGN d Q)
def tGN (X:Cx) (to ty:TE):TE:=fun σ H Q=>to σ H fun x H1=>(∃ a zs,x = .ref a∧H1 a=some (dN X.prog X.w a zs))∧ty σ H1 fun y H2=>∃ d k S,DV X.K H2 d x∧DV X.K H2 k y∧Rp X.K X.prog X.w S H2∧kGN d (dnE X.K X.prog X.w H2 Q) k S
end
section
variable {env:Slo} {S:Sto} {Q:DQ} {a:Addr} {ks:List D} {kvs:List (NestedKey×D)} {d k:D} {kk:NestedKey} {mo mk:EM}
def zAy (mk:EM) (env:Slo) (Q:DQ):DQ:=fun d S1=>ztG d S1∧mk env S1 (kG1 d Q)
def zAx (mk:EM) (env:Slo) (Q:DQ):DQ:=fun d S1=>okN d S1∧mk env S1 (kGN d Q)
theorem zvA (h:mo env S (zAy mk env Q)):zwh mo mk env S Q:=h
theorem zvy (h:mo env S (zAx mk env Q)):zwg mo mk env S Q:=h
instance zBw:St (zwh mo mk env S Q) (mo env S (zAy mk env Q)):=⟨fun h=>zvA h⟩
instance zBu:St (zwg mo mk env S Q) (mo env S (zAx mk env Q)):=⟨fun h=>zvy h⟩
end
structure LoX (H H':Hp):Prop where
 tup:∀ a xs,H a=some (.tup xs)->H' a=some (.tup xs)
 frz:∀ a o u,(∀ φ,u≠.ext φ)->H a=some (.frz o u)->H' a=some (.frz o u)
theorem LoX.sqt {K:PySem.W.Frag} {H H':Hp} {a:Addr} {xs:List V} (l:LoX H H') (h:SqT K H a xs):SqT K H' a xs:=by
 rcases h with (h | ⟨o,h⟩) | h
 ·exact .inl (.inl (l.tup a xs h))
 ·exact .inl (.inr ⟨o,l.frz a o _ (fun _ z=>nomatch z) h⟩)
 ·exact .inr h
theorem LoX.rol {K:PySem.W.Frag} {H H':Hp} {a:Addr} {xs:List V} (l:LoX H H') (h:RoL K H a xs):RoL K H' a xs:=by
 rcases h with ⟨o,h⟩ | h
 ·exact .inl ⟨o,l.frz a o _ (fun _ z=>nomatch z) h⟩
 ·exact .inr h
theorem LoX.tf {H H':Hp} {a:Addr} {vs:List V} {f:Bool} (l:LoX H H') (h:TF H a vs f):TF H' a vs f:=by
 cases f with
 | false=>exact l.tup _ _ h
 | true=>
  obtain ⟨o,e,z⟩:=h
  exact ⟨o,l.frz _ _ _ (fun _ z=>nomatch z) e,z⟩
section
variable {K:PySem.W.Frag} {H H':Hp}
mutual
theorem DV.lx (l:LoX H H'):∀ (d:D) (v:V),DV K H d v->DV K H' d v
 | .non,_,h=>by cases h;exact .non
 | .bl b,_,h=>by cases h;exact .bl b
 | .int b,_,h=>by cases h;exact .int b
 | .str b,_,h=>by
  cases h with
  | str _ ok=>exact .str b ok
 | .ty b,_,h=>by cases h;exact .ty b
 | .ref b,_,h=>by cases h;exact .ref b
 | .tp f ds,_,h=>by
  cases h with
  | tup hs hd ht=>exact .tup (l.sqt hs) (DVs.lx l ds _ hd) (l.tf ht)
 | .rol ds,_,h=>by
  cases h with
  | rol hs hd=>exact .rol (l.rol hs) (DVs.lx l ds _ hd)
 | .rod ks ds,_,h=>by
  cases h with
  | rod hs hl hk hd=>
   obtain ⟨o,hs⟩:=hs
   exact .rod ⟨o,l.frz _ _ _ (fun _ z=>nomatch z) hs⟩ hl hk (DVs.lx l ds _ hd)
theorem DVs.lx (l:LoX H H'):∀ (ds:List D) (vs:List V),DVs K H ds vs->DVs K H' ds vs
 | [],_,h=>by cases h;exact .nil
 | d :: ds,_,h=>by
  cases h with
  | cons h1 h2=>exact .cons (DV.lx l d _ h1) (DVs.lx l ds _ h2)
end
theorem KVs.lx {κ:Type} {ds:List (κ×D)} {vs:List (κ×V)} (l:LoX H H') (h:KVs K H ds vs):KVs K H' ds vs:=by
 induction h with
 | nil=>exact .nil
 | cons h1 _ ih=>exact .cons (DV.lx l _ _ h1) ih
theorem KN.lx {ds:List D} {kvs:List (NestedKey×D)} {zs:List (NestedKey×Addr×V)} (l:LoX H H') (h:KN K H ds kvs zs):KN K H' ds kvs zs:=by
 induction h with
 | nil=>exact .nil
 | cons h1 h2 h3 h4 _ ih=>exact .cons h1 h2 (DV.lx l _ _ h3) (DV.lx l _ _ h4) ih
theorem zdy.lx {env:Slo} {σ:L2.St} (r:zdy K H env σ) (l:LoX H H'):zdy K H' env σ:=⟨r.len,fun i d e=>by
 obtain ⟨v,q,z⟩:=r.at_ i d e
 exact ⟨v,q,DV.lx l _ _ z⟩⟩
theorem OOk.lx {P:Program} {w:World} {a:Addr} {o:O} (h:OOk K P w H a o) (l:LoX H H') (e:H' a=H a):OOk K P w H' a o:=by
 cases o with
 | lst=>obtain ⟨vs,q,z⟩:=h;exact ⟨vs,e.trans q,DVs.lx l _ _ z⟩
 | dic=>obtain ⟨vs,q,z⟩:=h;exact ⟨vs,e.trans q,z.lx l⟩
 | dit=>obtain ⟨vs,q,z⟩:=h;exact ⟨vs,e.trans q,z.lx l⟩
 | set=>exact e.trans h
 | ins=>obtain ⟨dx,vs,q,z⟩:=h;exact ⟨dx,vs,e.trans q,z.lx l⟩
 | din=>obtain ⟨zs,q,z⟩:=h;exact ⟨zs,e.trans q,z.lx l⟩
 | tbl=>
  obtain ⟨ps,q,z,y⟩:=h
  refine ⟨ps,e.trans q,z,fun pos cv hc=>?_⟩
  obtain ⟨c,oc,e1,e2,e3⟩:=y pos cv hc
  exact ⟨c,oc,e1,l.frz _ _ _ (fun _ z=>nomatch z) e2,e3⟩
theorem KN.get {ds:List D} {kvs:List (NestedKey×D)} {zs:List (NestedKey×Addr×V)} (h:KN K H ds kvs zs):∀ {i:Nat} {k:NestedKey} {b:Addr} {v:V},zs[i]? = some (k,b,v)->∃ d,ds[i]? = some d∧DV K H d (.ref b):=by
 induction h with
 | nil=>intro i k b v e;simp at e
 | cons h1 h2 h3 h4 _ ih=>
  intro i k b v e
  cases i with
  | zero=>
   simp only [List.getElem?_cons_zero,Option.some.injEq,Prod.mk.injEq] at e
   obtain ⟨rfl,rfl,rfl⟩:=e
   exact ⟨_,rfl,h3⟩
  | succ i=>
   simp only [List.getElem?_cons_succ] at e ⊢
   exact ih e
end
def FzN (X:Cx) (H:Hp) (a:Addr) (ks:List D) (kvs:List (NestedKey×D)):Prop:=∃ o zs,H a=some (.frz o (dN X.prog X.w a zs))∧KN X.K H ks kvs zs
theorem FzN.le {X:Cx} {H H':Hp} {a:Addr} {ks:List D} {kvs:List (NestedKey×D)} (h:FzN X H a ks kvs) (l:Le H H'):FzN X H' a ks kvs:=by
 obtain ⟨o,zs,e,z⟩:=h
 exact ⟨o,zs,l.frz _ _ _ e,z.le l⟩
def zCs (m:Addr->List D->List (NestedKey×D)->SM):SM:=fun A env S=>∃ a ks kvs,S a=some (.din ks kvs)∧∃ A0:Fin,zhd A0 ⟨fun e S1=>A.nx e (put S1 a (.din ks kvs)),fun d S1=>A.rt d (put S1 a (.din ks kvs)),fun e S1=>A.bk e (put S1 a (.din ks kvs)),fun e S1=>A.ct e (put S1 a (.din ks kvs))⟩∧m a ks kvs A0 env (zpd S a)
section
variable {X:Cx} {B:Hp} {st:Stmt} {m:Addr->List D->List (NestedKey×D)->SM}
end
def Itn (P:Program) (w:World) (d:Addr) (o:Obj) (zs:List (NestedKey×Addr×V)):It:=
 ⟨fun i H=>H d=some (.frz o (dN P w d zs))∧i < zs.length,fun i H x H'=>H'=H∧∃ k b v,zs[i]? = some (k,b,v)∧x = .ref b,fun i H=>H d=some (.frz o (dN P w d zs))∧zs.length≤i⟩
section
variable {X:Cx} {pins:List (Addr×Obj)} {σ:L2.St} {H:Hp} {s:Shared} {d:Addr} {o:Obj}
end
section
variable {P:Program} {w:World} {K:PySem.W.Frag} {tg:Expr} {d:Addr} {o:Obj} {es:Array DictEntry} {ep:Nat}
def zBH (P:Program) (w:World) (td:TE):TI:=fun σ H R=>td σ H fun x H1=>∃ d o zs,x = .ref d∧H1 d=some (.frz o (dN P w d zs))∧R (Itn P w d o zs) H1
end
section
variable {X:Cx} {tg e:Expr} {td:TE}
end
def zwL (a:Addr) (ks:List D) (m:EM):IM:=fun env S R=>m env S fun d S1=>d = .ref a∧R ks (fun _=>True) S1
def zxT (a:Addr) (kvs:List (NestedKey×D)) (g:Bool->Bool):BM:=fun d e S Q=>match nk8 d with
 | some k=>e = .ref a∧Q (.bl (g (valD kvs k).isSome)) S
 | none=>False
section
variable {X:Cx} {B:Hp} {a:Addr} {ks:List D} {kvs:List (NestedKey×D)} {tg:Expr} {pos:Pos}
def zCk (X:Cx) (a:Addr) (ks:List D) (kvs:List (NestedKey×D)) (g:Bool->Bool):R2:=fun x y H Q=>FzN X H a ks kvs∧∃ d e S,DV X.K H d x∧DV X.K H e y∧Rp X.K X.prog X.w S H∧zxT a kvs g d e S (dnE X.K X.prog X.w H Q)
end
def zzk (mk mv:EM):EM:=fun env S Q=>∀ p,S p=none->mk env (put S p (.din [] [])) fun k S1=>mv env S1 fun v S2=>match nk8 k with
 | some kk=>S2 p=some (.din [] [])∧Q (.ref p) (put S2 p (.din [k] [(kk,v)]))
 | none=>False
section
variable {X:Cx} {B:Hp} {pos:Pos} {k v:Expr} {mk mv:EM}
def zxZ (X:Cx) (tk tv:TE):TE:=fun σ H Q=>∀ p,H p=none->tk σ (upd H p (dN X.prog X.w p [])) fun x H1=>tv σ H1 fun y H2=>∃ d kk b,DV X.K H2 d x∧nk8 d=some kk∧x = .ref b∧H2 p=some (dN X.prog X.w p [])∧Q (.ref p) (upd H2 p (dN X.prog X.w p [(kk,b,y)]))
end
section
variable {env:Slo} {S:Sto} {Q:DQ} {a:Addr} {ks:List D} {kvs:List (NestedKey×D)} {me mk mv:EM} {R:List D->(Sto->Prop)->Sto->Prop} {d x:D} {k:NestedKey} {A:Fin} {m:Addr->List D->List (NestedKey×D)->SM} {g:Bool->Bool}
def zqn (a:Addr) (ks:List D) (R:List D->(Sto->Prop)->Sto->Prop):DQ:=fun d S1=>d = .ref a∧R ks (fun _=>True) S1
theorem zsm (h:me env S (zqn a ks R)):zwL a ks me env S R:=h
theorem zr7 (h:R ks (fun _=>True) S):zqn a ks R (.ref a) S:=⟨rfl,h⟩
def zzt (p:Addr) (k:D) (Q:DQ):DQ:=fun v S2=>match nk8 k with
 | some kk=>S2 p=some (.din [] [])∧Q (.ref p) (put S2 p (.din [k] [(kk,v)]))
 | none=>False
def zAz (p:Addr) (mv:EM) (env:Slo) (Q:DQ):DQ:=fun k S1=>mv env S1 (zzt p k Q)
theorem zvh {p:Addr} (h:mv env S (zzt p d Q)):zAz p mv env Q d S:=h
instance zzW:St (zwL a ks me env S R) (me env S (zqn a ks R)):=⟨fun h=>zsm h⟩
instance zzN:St (zqn a ks R (.ref a) S) (R ks (fun _=>True) S):=⟨fun h=>zr7 h⟩
instance zBl {p:Addr}:St (zAz p mv env Q d S) (mv env S (zzt p d Q)):=⟨fun h=>zvh h⟩
end
def zy6:V->List V->Hp->VK->Prop:=fun x vs H Q=>∃ (l:Addr) (xs:List V) (i:Int) (y:V),x = .ref l∧vs=[.int i,y]∧H l=some (.lst xs)∧0≤i∧i.toNat≤xs.length∧xs.length < sizeLine∧Q .non (upd H l (.lst (xs.take i.toNat++y :: xs.drop i.toNat)))
section
variable {X:Cx} {B:Hp} {o e e2:Expr} {mo:EM} {ma:AM} {apos cpos:Pos}
def zDY:MM:=fun d ds S Q=>match d,ds with
 | .ref a,[.int i,y]=>match S a with
  | some (.lst xs)=>0≤i∧i.toNat≤xs.length∧xs.length < sizeLine∧Q .non (put S a (.lst (xs.take i.toNat++y :: xs.drop i.toNat)))
  | _=>False
 | _,_=>False
end
def zAo (m:Addr->List D->List (NestedKey×D)->EM):EM:=fun env S Q=>∃ a ks kvs,S a=some (.din ks kvs)∧∃ Q0:DQ,(∀ d S1,Q0 d S1->Q d (put S1 a (.din ks kvs)))∧m a ks kvs env (zpd S a) Q0
section
variable {X:Cx} {B:Hp} {e:Expr} {m:Addr->List D->List (NestedKey×D)->EM}
end
def zoP (m:EM):EM:=fun env S Q=>m env S fun d S1=>match d with
 | .int n=>RgOk 0 n∧∀ a,S1 a=none->Q (.ref a) (put S1 a (.lst (zky 0 n.toNat)))
 | _=>False
section
variable {X:Cx} {B:Hp} {e:Expr} {p p2 pos pos2:Pos}
end
section
variable {env:Slo} {S:Sto} {Q:DQ} {me:EM} {n:Int}
def zAw (Q:DQ):DQ:=fun d S1=>match d with
 | .int n=>RgOk 0 n∧∀ a,S1 a=none->Q (.ref a) (put S1 a (.lst (zky 0 n.toNat)))
 | _=>False
theorem zpP (h:me env S (zAw Q)):zoP me env S Q:=h
instance zxK:St (zoP me env S Q) (me env S (zAw Q)):=⟨fun h=>zpP h⟩
end
def zBU:CM:=fun ds S Q=>match ds with
 | [.ref a]=>match S a with
  | some (.din _ kvs)=>Q (.int kvs.length) S
  | _=>False
 | _=>False
section
variable {X:Cx}
end
def zxS:CM:=fun ds S Q=>match ds with
 | [.ref a]=>∃ zs:List Int,S a=some (.lst (zs.map D.int))∧zs.length < 64∧∀ ys:List Int,ys.Perm zs->ys.Pairwise (·≤·)->∀ p,S p=none->Q (.ref p) (put S p (.lst (ys.map D.int)))
 | _=>False
section
variable {X:Cx}
end
abbrev NoE:Value->Shared->Prop:=fun _ _=>False
def zmM (t:Expr) (fs:List Expr) (p:Pos) (it:Value) (env:Env) (body:Sem PySem.Fin->Sem PySem.Fin) (lp:Code):Sem PySem.Fin:=do
 standAt p
 match ← pyNext it with
 | none=>pure (.done .next)
 | some v=>
  letOwnedTupleGo t it v
  assign t env v
  let mut ok:=true
  for c in fs do
   if ok then ok ← isTrue c env (eval c env)
  if ok then body (again lp) else again lp
def zBN (elt:Expr) (acc:Value) (env:Env) (k:Sem PySem.Fin):Sem PySem.Fin:=do
 (do let _ ← call (.builtin "list.append") [acc,← eval elt env])
 k
def zmH (c:Expr) (d:Nat) (i:Expr) (acc:Value) (env:Env) (k:Sem PySem.Fin):Sem PySem.Fin:=do
 let x ← eval i env
 standAt i.pos
 let x ← foldedSetIterable i env x
 let _ ← runOwn (.compStart c d (← holding [x] (pyIter x)) acc env) env
 k
section
variable {elt t0 i0 t1 i1 t2 i2:Expr} {f0 f1 f2:List Expr} {scope:Scope} {pos:Pos} {it acc:Value} {env:Env}
end
section
variable {prog:Program} {w:World} {A:Around} {R:Result->Shared->Prop} {s:Shared} {e0 t i:Expr} {gs:List Comprehension} {sc:Scope} {ps:Pos} {fs:List Expr} {d:Nat} {it acc:Value} {env:Env} {body:Sem PySem.Fin->Sem PySem.Fin}
def BodyOk (prog:Program) (w:World) (A:Around) (body:Sem PySem.Fin->Sem PySem.Fin) (Nx:Shared->Prop) (s:Shared):Prop:=
 ∀ (k:Sem PySem.Fin) (Q:PySem.Fin->Shared->Prop),(∀ s',Nx s'->wpAny (model prog w) A k Q NoE s')->wpAny (model prog w) A (body k) Q NoE s
theorem zs3 (hk:compTurn (.ListComp e0 gs sc ps) d it acc env=zmM t fs i.pos it env body (.compLoop (.ListComp e0 gs sc ps) d it acc env)) (I:Nat->Shared->Prop)
  (turn:∀ n s,I n s->wpAny (model prog w) A (pyNext it) (fun r z1=>match r with
   | none=>R (.ok .next) z1
   | some v=>wpAny (model prog w) A (letOwnedTupleGo t it v) (fun _ z2=>wpAny (model prog w) A (assign t env v) (fun _ z3=>
     wpAny (model prog w) A (forIn fs true fun c r=>if r=true then do let ok ← isTrue c env (eval c env);pure (ForInStep.yield ok) else pure (ForInStep.yield r)) (fun ok z4=>
      match ok with
      | true=>BodyOk prog w A body (fun z=>∃ m,m < n∧I m z) z4
      | false=>∃ m,m < n∧I m z4) NoE z3) NoE z2) NoE z1) NoE s)
  (n:Nat) (h:I n s):codeAny (model prog w) A (.compLoop (.ListComp e0 gs sc ps) d it acc env) R s:=by
 refine codeAny_loop rfl I (fun n s hI=>?_) n h
 show wpAny _ A ((compTurn (.ListComp e0 gs sc ps) d it acc env).onRaise (fun x=>do noteFrame x env;theTreesLotGoes x)) _ _ s
 refine wpAny_noted ?_
 rw [hk]
 unfold zmM
 refine wpAny_bind (wpAny_standAt (wpAny_bind (thnF (turn n s hI) fun r z1 g1=>?_)))
 cases r with
 | none=>exact wpAny_pure g1
 | some v=>
  refine wpAny_bind (thnF g1 fun _ z2 g2=>wpAny_bind (thnF g2 fun _ z3 g3=>wpAny_bind (thnF g3 fun ok z4 g4=>?_)))
  cases ok with
  | false=>exact wpAny_pure ⟨rfl,g4⟩
  | true=>exact thnF (g4 _ _ fun z5 g5=>wpAny_pure ⟨rfl,g5⟩) fun _ _ z=>z
theorem zpC (hq:(clausesOf (.ListComp e0 gs sc ps))[d]? = some ⟨t,i,fs,0⟩) (h0:codeAny (model prog w) A (.compLoop (.ListComp e0 gs sc ps) d it acc env) R s)
  (h:wpAny (model prog w) A (pyIter it) (fun it' s'=>codeAny (model prog w) A (.compLoop (.ListComp e0 gs sc ps) d it' acc env) R s') NoE s) :
  codeAny (model prog w) A (.compStart (.ListComp e0 gs sc ps) d it acc env) R s:=by
 refine codeAny_of_tree ?_
 show wpAny _ _ ((compStart (.ListComp e0 gs sc ps) d it acc env).onRaise (fun x=>do noteFrame x env;standAt theWindowsPlace)) _ _ s
 refine wpAny_notedAt ?_
 unfold compStart
 rw [hq]
 show wpAny _ _ (ask >>= _) _ _ s
 refine wpAny_bind (wpAny_askSetting (wpAny_ite ?_))
 split
 ·first
   | exact wpAny_bind (wpAny_pure (wpAny_pure ⟨rfl,h0⟩))
   | exact wpAny_pure ⟨rfl,h0⟩
 ·first
   | exact wpAny_bind (wpAny_rule (wpAny_bind (wpAny_standAt (wpAny_bind (thnF h fun it' s' h'=>wpAny_pure ⟨rfl,h'⟩)))))
   | (refine wpAny_bind (wpAny_rule ?_);show wpAny _ _ (standAt i.pos >>= _) _ _ s;exact wpAny_bind (wpAny_standAt (wpAny_bind (thnF h fun it' s' h'=>wpAny_pure ⟨rfl,h'⟩))))
theorem znU {Nx:Shared->Prop} (hs:∀ x,foldedSetIterable i env x=pure x) (h:wpAny (model prog w) A (eval i env) (fun x z1=>wpAny (model prog w) A (pyIter x) (fun it1 z2=>
   codeAny (model prog w) A (.compStart (.ListComp e0 gs sc ps) d it1 acc env) (fun r z=>match r with | .ok _=>Nx z | .error _=>False) z2) NoE z1) NoE s):BodyOk prog w A (zmH (.ListComp e0 gs sc ps) d i acc env) Nx s:=by
 intro k Q hk
 unfold zmH
 refine wpAny_bind (thnF h fun x z1 g1=>wpAny_bind (wpAny_standAt (wpAny_bind (wpAny_of_eq (hs x) (wpAny_bind (wpAny_holding (thnF g1 fun it1 z2 g2=>?_)))))))
 refine wpAny_bind (wpAny_runOwn ?_)
 rw [Around.mark_none]
 refine codeAny_mono g2 fun r z hr=>?_
 cases r with
 | ok f=>exact hk z hr
 | error e=>exact hr.elim
end
def zmb (vs:List Nat) (σ σ':L2.St):Prop:=σ.length=σ'.length∧∀ j v,σ[j]? = some (some v)->j∉vs->σ'[j]? = some (some v)
theorem zmb.wipe {vs:List Nat} {σ:L2.St}:zmb vs σ (L2.wipe σ vs):=⟨(wipe_length _ _).symm,fun j v e hj=>(wipe_out hj).trans e⟩
theorem zmb.of_wipe {vs us:List Nat} {σ σ3 σ':L2.St} (hw:L2.wipe σ3 vs=L2.wipe σ vs) (hu:∀ j∈us,j∈vs) (k:zmb us σ3 σ'):(L2.wipe σ vs).length=σ'.length∧∀ (j:Nat) v,(L2.wipe σ vs)[j]? = some (some v)->σ'[j]? = some (some v):=by
 refine ⟨by rw [← hw,wipe_length];exact k.1,fun j v e=>?_⟩
 rw [← hw] at e
 obtain ⟨e1,e2⟩:=wipe_some e
 exact k.2 j v e1 fun z=>e2 (hu j z)
abbrev zxP (J:It) (H4:Hp) (N:Hp->Prop) (g:TG) (tt:TT) (vs:List Nat) (σ:L2.St) (Bq:L2.St->Hp->(Hp->Prop)->Prop):Prop:=
 ∃ W:Nat->Nat->Hp->Prop,(∃ m,W 0 m H4)∧∀ j k H,W j k H->(J.stop j H∧N H) ∨ (J.go j H∧∃ Nx:Hp->Prop,(∀ H',Nx H'->∃ k',k' < k∧W (j+1) k' H')∧
  ∀ x H',J.yld j H x H'->g x (L2.wipe σ vs) H' fun σ3 H5=>L2.wipe σ3 vs=L2.wipe σ vs∧tt σ3 H5 fun b H6=>if b=true then Bq σ3 H6 Nx else Nx H6)
def zxR (Y:Cx) (pins:List (Addr×Obj)) (vs:List Nat) (σ:L2.St) (N:Hp->Prop) (s:Shared):Prop:=∃ σ' H',Inv Y pins σ' H' s∧zmb vs σ σ'∧N H'
section
variable {Y:Cx} {e0 t i:Expr} {gs:List Comprehension} {sc:Scope} {ps:Pos} {fs:List Expr} {d:Nat} {acc:Value} {body:Sem PySem.Fin->Sem PySem.Fin} {pins:List (Addr×Obj)} {σ:L2.St} {H:Hp} {s:Shared} {wi:TI} {g:TG} {tt:TT} {vs us:List Nat} {N:Hp->Prop} {Bq:L2.St->Hp->(Hp->Prop)->Prop}
theorem znN (hc:Y.calm=true) (hx:Y.xe=NoE) {it:Addr} {fp:List Addr} {tn:Nat->Heap->Prop} {J:It} (hk:compTurn (.ListComp e0 gs sc ps) d (.ref it) acc Y.env=zmM t fs i.pos (.ref it) Y.env body (.compLoop (.ListComp e0 gs sc ps) d (.ref it) acc Y.env)) (pg:PG Y t g) (pt:PTs Y fs tt) (hu:∀ j∈us,j∈vs)
  (hb:∀ pins' σ3 H6 s6 Nx,Inv Y pins' σ3 H6 s6->Bq σ3 H6 Nx->BodyOk Y.prog Y.w Y.A body (zxR Y pins' us σ3 Nx) s6)
  (I:Inv Y pins (L2.wipe σ vs) H s) (T:Turn Y.prog Y.w Y.K t J fp it tn) (st:tn 0 s.heap) (fpo:∀ b∈fp,FpOk Y pins H b) (q:zxP J H N g tt vs σ Bq) {R:Result->Shared->Prop}
  (hR:∀ H' s',Inv Y pins (L2.wipe σ vs) H' s'->(∀ b∈fp,H' b=none)->N H'->R (.ok .next) s') :
  codeAny (model Y.prog Y.w) Y.A (.compLoop (.ListComp e0 gs sc ps) d (.ref it) acc Y.env) R s:=by
 obtain ⟨W,⟨m0,w0⟩,turn⟩:=q
 refine zs3 hk (fun k z=>∃ j Hz,Inv Y pins (L2.wipe σ vs) Hz z∧tn j z.heap∧(∀ b∈fp,Hz b=none)∧W j k Hz) ?_ m0 ⟨0,H,I,st,fun b hb=>(fpo b hb).1,w0⟩
 rintro k z ⟨j,Hz,Iz,stz,nz,wz⟩
 have fz:∀ {H':Hp},(∀ b∈fp,H' b=none)->∀ b∈fp,FpOk Y pins H' b:=fun hn b hb=>⟨hn b hb,(fpo b hb).2⟩
 rcases turn j k Hz wz with ⟨stop,qn⟩ | ⟨go,Nx,hNx,step⟩
 ·refine thnF (T.done Y rfl rfl rfl hc j pins z (L2.wipe σ vs) Hz NoE Iz (fz nz) stz stop) fun r z1 g1=>?_
  obtain ⟨rfl,I1⟩:=g1
  exact hR Hz z1 I1 nz qn
 ·refine thnF (T.item Y rfl rfl rfl hc j pins z (L2.wipe σ vs) Hz NoE Iz (fz nz) stz go) fun r z1 g1=>?_
  obtain ⟨u,rfl,g1⟩:=g1
  refine thnF g1 fun _ z2 ⟨x,H2,I2,r2,y2,st2,n2⟩=>?_
  have I2':=I2.pinned (fz n2) (T.obj _ _ st2)
  have hg:=pg.run _ z2 (L2.wipe σ vs) H2 x u _ I2' r2 (step x H2 y2)
  rw [hx] at hg
  refine thnF hg fun _ z3 ⟨σ3,H3,I3,hw,q3⟩=>?_
  have ht:=pt.run _ z3 σ3 H3 _ I3 q3
  rw [hx] at ht
  refine thnF ht fun b z4 ⟨H4,I4,q4⟩=>?_
  have fin:∀ {σ5:L2.St} {H5:Hp} {z5:Shared},Inv Y (pins++pinsAt fp z2.heap) σ5 H5 z5->zmb us σ3 σ5->Nx H5->∃ m,m < k∧∃ j H5,Inv Y pins (L2.wipe σ vs) H5 z5∧tn j z5.heap∧(∀ b∈fp,H5 b=none)∧W j m H5:=fun {σ5 H5 z5} I5 hk nx=>by
   obtain ⟨m,hm,w5⟩:=hNx H5 nx
   have pin:∀ b∈fp,∀ o,z2.heap.get? b=some o->z5.heap.get? b=some o∧H5 b=none:=fun b hb o e=>
    have y:=I5.pin (b,o) (List.mem_append_right _ (List.mem_append_right _ (mem_pinsAt hb e)))
    ⟨y.1,y.2.1⟩
   obtain ⟨k1,k2⟩:=zmb.of_wipe hw hu hk
   refine ⟨m,hm,j+1,H5,I5.unpinned.weak k1 k2,T.keep _ _ _ st2 fun b hb o e=>(pin b hb o e).1,fun b hb=>?_,w5⟩
   obtain ⟨o,e,_⟩:=T.obj _ _ st2 b hb
   exact (pin b hb o e).2
  cases b with
  | false=>
   simp only [Bool.false_eq_true,if_false] at q4 ⊢
   exact fin I4 ⟨rfl,fun _ _ e _=>e⟩ q4
  | true=>
   simp only [if_true] at q4 ⊢
   have hq:=hb _ _ _ _ _ I4 q4
   intro kk Q hkk
   exact hq kk Q fun z5 ⟨σ5,H5,I5,k5,n5⟩=>hkk z5 (fin I5 k5 n5)
theorem zCv (hc:Y.calm=true) (hx:Y.xe=NoE) (hk:∀ it,compTurn (.ListComp e0 gs sc ps) d it acc Y.env=zmM t fs i.pos it Y.env body (.compLoop (.ListComp e0 gs sc ps) d it acc Y.env)) (hq:(clausesOf (.ListComp e0 gs sc ps))[d]? = some ⟨t,i,fs,0⟩) (pi:PI Y t i wi) (pg:PG Y t g) (pt:PTs Y fs tt) (hu:∀ j∈us,j∈vs)
  (hs:∀ x,foldedSetIterable i Y.env x=pure x)
  (hb:∀ pins' σ3 H6 s6 Nx,Inv Y pins' σ3 H6 s6->Bq σ3 H6 Nx->BodyOk Y.prog Y.w Y.A body (zxR Y pins' us σ3 Nx) s6)
  (I:Inv Y pins σ H s) (q:wi σ H fun J H4=>zxP J H4 N g tt vs σ Bq):BodyOk Y.prog Y.w Y.A (zmH (.ListComp e0 gs sc ps) d i acc Y.env) (zxR Y pins vs σ N) s:=by
 refine znU hs ?_
 have h:=pi.run pins s σ H _ I q
 rw [hx] at h
 refine thnF h fun xv z1 g1=>thnF g1 fun itv z2 g2=>?_
 obtain ⟨it,fp,tn,J,H2,e,I2,T,st,f2,q2⟩:=g2
 subst e
 have lp:=znN (R:=fun r z=>match r with | .ok _=>zxR Y pins vs σ N z | .error _=>False) hc hx (hk _) pg pt hu hb (I2.weak (wipe_length _ _) fun j v e=>(wipe_some e).1) T st f2 q2 fun H' s' I' _ n=>⟨_,H',I',zmb.wipe,n⟩
 exact zpC hq lp (T.self Y.A 0 _ _ _ st lp)
end
def bqI (te:TE) (D:Addr):L2.St->Hp->(Hp->Prop)->Prop:=fun σ H Nx=>te σ H fun y H7=>∃ ys,H7 D=some (.lst ys)∧ys.length < sizeLine∧Nx (upd H7 D (.lst (ys++[y])))
def bqO (wi:TI) (g:TG) (tt:TT) (vs:List Nat) (Bq:L2.St->Hp->(Hp->Prop)->Prop):L2.St->Hp->(Hp->Prop)->Prop:=fun σ H Nx=>wi σ H fun J H4=>zxP J H4 Nx g tt vs σ Bq
def zDS (wi:TI) (g:TG) (tt:TT) (wi1:TI) (g1:TG) (tt1:TT) (wi2:TI) (g2:TG) (tt2:TT) (te:TE) (vs vs1 vs2:List Nat):TE:=fun σ H Q=>wi σ H fun J H1=>∀ D,H1 D=none ->
 zxP J (upd H1 D (.lst [])) (Q (.ref D)) g tt vs σ (bqO wi1 g1 tt1 vs1 (bqO wi2 g2 tt2 vs2 (bqI te D)))
section
variable {X:Cx} {elt tg iter tg1 iter1 tg2 iter2:Expr} {ifs ifs1 ifs2:List Expr} {scope:Scope} {own:List (Str×Nat)} {pos:Pos} {wi wi1 wi2:TI} {g g1 g2:TG} {tt tt1 tt2:TT} {te:TE} {vs1 vs2:List Nat}
end
def lcM (g:GM) (t:TM) (bd:Slo->(Sto->Prop)->Sto->Prop) (G N:Sto->Prop) (env:Slo):List D->Sto->Prop
 | [],S=>G S∧N S
 | x :: xs,S=>G S∧g x env S fun env2 S2=>t env2 S2 fun b S3=>match b with
  | true=>bd env2 (lcM g t bd G N env xs) S3
  | false=>lcM g t bd G N env xs S3
def bdI (m:EM) (p:Addr):Slo->(Sto->Prop)->Sto->Prop:=fun env Nx S=>m env S fun d S4=>match S4 p with
 | some (.lst ys)=>ys.length < sizeLine∧Nx (put S4 p (.lst (ys++[d])))
 | _=>False
def bdO (mi:IM) (g:GM) (t:TM) (vs:List Nat) (bd:Slo->(Sto->Prop)->Sto->Prop):Slo->(Sto->Prop)->Sto->Prop:=fun env Nx S=>mi env S fun xs G S1=>lcM g t bd G Nx (zcJ env vs) xs S1
def zCu (mi:IM) (g:GM) (t:TM) (mi1:IM) (g1:GM) (t1:TM) (mi2:IM) (g2:GM) (t2:TM) (m:EM) (vs vs1 vs2:List Nat):EM:=fun env S Q=>mi env S fun xs G S1=>∀ p,S1 p=none ->
 lcM g t (bdO mi1 g1 t1 vs1 (bdO mi2 g2 t2 vs2 (bdI m p))) G (Q (.ref p)) (zcJ env vs) xs (put S1 p (.lst []))
abbrev zEq (bd:Slo->(Sto->Prop)->Sto->Prop):Prop:=∀ env (N N':Sto->Prop) S,(∀ S,N S->N' S)->bd env N S->bd env N' S
section
variable {K:PySem.W.Frag} {P:Program} {w:World} {B:Hp}
def Ab (K:PySem.W.Frag) (P:Program) (w:World) (H0:Hp) (M:Sto->Prop):Hp->Prop:=fun H=>Le H0 H∧∃ S,Rp K P w S H∧M S
abbrev UpB (K:PySem.W.Frag) (P:Program) (w:World) (B:Hp) (bd:Slo->(Sto->Prop)->Sto->Prop) (Bq:L2.St->Hp->(Hp->Prop)->Prop):Prop:=
 ∀ env σ H H0 (Nx:Sto->Prop) S,Le B H->Le H0 H->zdy K H env σ->Rp K P w S H->bd env Nx S->Bq σ H (Ab K P w H0 Nx)
abbrev zDH (K:PySem.W.Frag) (P:Program) (w:World) (B:Hp) (mi:IM):TI:=fun σ H R=>Le B H∧∃ env S,zdy K H env σ∧Rp K P w S H∧mi env S fun xs G S1=>∀ J H1,Le H H1->Rp K P w S1 H1->WkD K P w H1 J xs G->R J H1
end
section
variable {X:Cx} {B:Hp} {elt tg iter tg1 iter1 tg2 iter2:Expr} {ifs ifs1 ifs2:List Expr} {scope:Scope} {own:List (Str×Nat)} {pos:Pos} {mi mi1 mi2:IM} {g g1 g2:GM} {t t1 t2:TM} {m:EM} {vs1 vs2:List Nat}
end
section
variable {env:Slo} {S:Sto} {Q:DQ}
end
def zCt (m:Addr->List D->List (NestedKey×D)->EM):EM:=fun env S Q=>∃ a ks kvs,S a=some (.din ks kvs)∧∃ Q0:DQ,(∀ d S1,S1 a=none->Q0 d S1->Q d (put S1 a (.din ks kvs)))∧m a ks kvs env (zpd S a) Q0
section
variable {X:Cx} {B:Hp} {e:Expr} {m:Addr->List D->List (NestedKey×D)->EM}
end
def zCy (g:GM) (t:TM) (mi1:IM) (g1:GM) (t1:TM) (mi2:IM) (g2:GM) (t2:TM) (m:EM) (vs vs1 vs2:List Nat) (env:Slo) (Q:DQ):List D->(Sto->Prop)->Sto->Prop:=fun xs G S1=>∀ p,S1 p=none->lcM g t (bdO mi1 g1 t1 vs1 (bdO mi2 g2 t2 vs2 (bdI m p))) G (Q (.ref p)) (zcJ env vs) xs (put S1 p (.lst []))
instance zCW {env:Slo} {S:Sto} {Q:DQ} {mi mi1 mi2:IM} {g g1 g2:GM} {t t1 t2:TM} {m:EM} {vs vs1 vs2:List Nat}:St (zCu mi g t mi1 g1 t1 mi2 g2 t2 m vs vs1 vs2 env S Q) (mi env S (zCy g t mi1 g1 t1 mi2 g2 t2 m vs vs1 vs2 env Q)):=⟨fun h=>h⟩
section
variable {X:Cx} {B:Hp}
def zBX:BM:=fun d e S Q=>match d,e with
 | .tp _ xs,.tp _ ys=>xs≠[]∧ys≠[]∧xs.length+ys.length≤sizeLine∧Q (.tp true (xs++ys)) S
 | _,_=>False
end
section
variable {S:Sto} {Q:DQ} {xs ys:List D} {f f':Bool}
end
def zwe (zs:List Str) (g:Bool->Bool) (m:EM):EM:=fun env S Q=>m env S fun d S1=>∃ ds:List Str,d = .tup (ds.map D.str)∧Q (.bl (g (decide (zs=ds)))) S1
section
variable {X:Cx} {B:Hp} {e:Expr} {m:EM} {x:Str} {a:Addr} {zs:List Str} {p pos:Pos}
end
section
variable {env:Slo} {S:Sto} {Q:DQ} {zs ds:List Str} {g:Bool->Bool} {m:EM}
def zwz (zs:List Str) (g:Bool->Bool) (Q:DQ):DQ:=fun d S1=>∃ ds:List Str,d = .tup (ds.map D.str)∧Q (.bl (g (decide (zs=ds)))) S1
theorem zup (h:m env S (zwz zs g Q)):zwe zs g m env S Q:=h
instance zAI:St (zwe zs g m env S Q) (m env S (zwz zs g Q)):=⟨fun h=>zup h⟩
end
def zD1 (d:D) (_:Sto):Prop:=match d with
 | .str _=>True
 | _=>False
def zCl:MM:=fun d ds S Q=>match d,ds with
 | .str a,[.str b]=>∃ i rest,Builtin.Str.occurrences a b 0 a.length 1=i :: rest∧Q (.int (i:Nat)) S
 | _,_=>False
section
variable {X:Cx} {B:Hp}
def zDQ (x:V) (_:Hp):Prop:=∃ a,x = .str a
end
open PySem PySem.Spec PyProof.Rows L2 LamX NdefX
section
variable {X:Cx} {pins:List (Addr×Obj)} {σ:L2.St} {H:Hp} {s:Shared} {S:Sto}
theorem znP {P c:Addr} {ps more:Array Value} {h':Heap} {t':Nat} {oc:Obj} (I:Inv X pins σ H s) (hP:H P=some (.tbl ps)) (k:∀ b o,b≠P->s.heap.get? b=some o->h'.get? b=some o)
  (hm:h'.get? P=some { cls:=.none,data:=.fields (ps++more) }) (hc:s.heap.objs.size≤c) (ho:h'.get? c=some oc) :
  Inv X pins σ (upd (upd H P (.tbl (ps++more))) c (.frz oc (.own c))) { s with heap:=h',toks:=t' }:=by
 have nC:H c=none:=I.hok.fresh hc
 have nPc:P≠c:=ne_of_none hP nC
 have at_:∀ b,b≠P->b≠c->upd (upd H P (.tbl (ps++more))) c (.frz oc (.own c)) b=H b:=fun b h1 h2=>by rw [upd_ne h2,upd_ne h1]
 have atP:upd (upd H P (.tbl (ps++more))) c (.frz oc (.own c)) P=some (.tbl (ps++more)):=by rw [upd_ne nPc,upd_same]
 have nP:∀ b u,H b=some u->(∀ q,u≠.tbl q)->b≠P:=fun b u e q z=>by
  rw [z,hP] at e
  exact q ps (Option.some.inj e).symm
 have nN:∀ b,H b=none->b≠P:=fun b e z=>by
  rw [z,hP] at e
  cases e
 have lt':∀ b o,s.heap.get? b=some o->b≠c:=fun b o e z=>by
  rw [z] at e
  exact Nat.lt_irrefl _ (Nat.lt_of_lt_of_le (Heap.lt_size e) hc)
 have sm:∀ b u,H b=some u->b≠c:=fun b u e=>ne_of_none e nC
 refine I.step (g':=s.gens) (d':=s.drawn) (ch:=[]) (fun b hb=>absurd hb (by simp)) (fun b o _ _ _ e n=>k b o (nN b n) e) (fun b o _ _ _ e n=>⟨o.slots,k b o (nN b n) e⟩)
  (fun b o _ e n=>by rw [at_ b (nN b n) (lt' b o e)];exact n) (fun b o _ e=>?_) (fun b xs e=>by rw [at_ b (nP b _ e (fun q z=>by cases z)) (sm b _ e)];exact e) (fun b o u e=>by rw [at_ b (nP b _ e (fun q z=>by cases z)) (sm b _ e)];exact e) (fun b qs e=>?_) (fun m hn=>?_) (fun b u e=>?_) I.bare
 ·by_cases hb:b=P
  ·rw [hb]
   exact ⟨_,hm⟩
  ·exact ⟨o,k b o hb e⟩
 ·by_cases hb:b=P
  ·rw [hb,hP] at e
   cases e
   rw [hb,atP]
   exact ⟨more,rfl⟩
  ·rw [at_ b hb (sm b _ e),e]
   exact ⟨#[],by simp⟩
 ·obtain ⟨ob,es,ep,ho,r⟩:=hn
  exact ⟨ob,es,ep,k _ ob (nN _ I.free) ho,r⟩
 ·by_cases hb:b=c
  ·rw [hb,upd_same] at e
   cases e
   rw [hb]
   exact ⟨ho,⟨oc,ho⟩⟩
  ·by_cases hb2:b=P
   ·rw [hb2,atP] at e
    cases e
    rw [hb2]
    exact hm
   ·rw [at_ b hb2 hb] at e
    refine (I.hok b u e).stay (fun d v hd q=>k d v ?_ q) (fun d q=>by rw [at_ d (nP d _ q (fun q z=>by cases z)) (sm d _ q)];exact q) fun d xs q=>by rw [at_ d (nP d _ q (fun q z=>by cases z)) (sm d _ q)];exact q
    rcases hd with z | z
    ·rw [z]
     exact hb2
    ·exact nP d _ z (fun q z=>by cases z)
theorem zo0 {o:Obj} {t':Nat} (I:Inv X pins σ H s) (nf:o.isFreed=false):Inv X pins σ (upd H s.heap.objs.size (.frz o (.own s.heap.objs.size))) { s with heap:=s.heap.push o,toks:=t' }:=by
 refine I.laid (a:=s.heap.objs.size) (fun b u e=>Heap.get?_push_of_some _ e) (Nat.le_refl _) ?_
 have e:(s.heap.push o).get? s.heap.objs.size=some o:=Heap.get?_push_size _ nf
 exact ⟨e,⟨_,e⟩⟩
structure ztE (H:Hp) (q:Str) (params:Arguments) (body:Expr) (scope:Scope) (cl:List (Str×Addr)) (f:Addr):Prop where
 ex:∃ (c':Addr) (pm ctv:Value) (oc:Obj) (vs:Array Value) (t:Tok),H f=some (.frz (PySem.W.kla_obj "<lambda>" q params body scope cl pm c' ctv) (.own f))∧H c'=some (.frz oc (.own c'))∧oc.data = .fields vs∧vs[1]? = some (.str q t)
theorem ztE.le {H H':Hp} {q:Str} {params:Arguments} {body:Expr} {scope:Scope} {cl:List (Str×Addr)} {f:Addr} (h:ztE H q params body scope cl f) (l:Le H H'):ztE H' q params body scope cl f:=by
 obtain ⟨c',pm,ctv,oc,vs,t,e1,e2,e3⟩:=h.ex
 exact ⟨c',pm,ctv,oc,vs,t,l.frz _ _ _ e1,l.frz _ _ _ e2,e3⟩
theorem zoR {c P:Addr} {q:Str} {params:Arguments} {body:Expr} {scope:Scope} {pos:Pos} {E:Value->Shared->Prop} {Q:Value->Shared->Prop} (I:Inv X pins σ H s) (TB:TabB X.base X.mg c P) (hcode:X.env.code = .ref c) (r:Rp X.K X.prog X.w S H)
  (hq:X.env.qual ++ "<lambda>" = q) (eS:S P=some (.tbl q)) (hdef:defaultsOf params X.env=([],[])) (hfree:∀ y∈scope.names,y.2 = .free->∃ c,X.env.cells.lookup y.1=some c)
  (h:∀ (f:Addr) (H1:Hp) (s':Shared),Inv X pins σ H1 s'->Le H H1->Rp X.K X.prog X.w S H1->S f=none->ztE H1 q params body scope (cloFrom X.env.cells scope.names []) f->Q (.ref f) s') :
  wpAny (model X.prog X.w) X.A (eval (.Lambda params body scope pos) X.env) Q E s:=by
 obtain ⟨ps,hP,ht,ha⟩:=(show zBP H P q from r _ _ eS)
 refine PySem.W.kla_eval hdef ?_
 rw [hq]
 have bP:s.heap.BuiltinsAt X.mg P:=TB.bm.keeps I.bk
 have hP':s.heap.get? P=some { cls:=.none,data:=.fields ps }:=I.hok P _ hP
 cases hc:codeAmong pos ps.toList with
 | none=>
  refine PySem.W.kla_makeFunction (mg:=X.mg) (c:=c) (P:=P) (ps:=ps) (closure_ok hfree) I.ok.glob (I.mod.glob.keeps I.bk) hcode (TB.code.keeps I.bk) hP' ht hc TB.gP bP fun c' ctv h' tk hx hge hlt hrec htb=>?_
  obtain ⟨c2,oc,vs,t,e2,hoc,hd,hv⟩:=hrec
  cases e2
  have nC:H c'=none:=I.hok.fresh hge
  have I1:=znP (t':=tk) (more:=#[rawInt pos.line,rawInt pos.col,.ref c']) (h':=h') I hP (fun b o hb e=>hx b o hb e) htb hge hoc
  have le1:Le H (upd (upd H P (.tbl (ps++#[rawInt pos.line,rawInt pos.col,.ref c']))) c' (.frz oc (.own c'))):=by
   have at_:∀ b u,H b=some u->(∀ z,u≠.tbl z)->upd (upd H P (.tbl (ps++#[rawInt pos.line,rawInt pos.col,.ref c']))) c' (.frz oc (.own c')) b=some u:=fun b u e n=>by
    rw [upd_ne (ne_of_none e nC),upd_ne (fun z=>n ps (Option.some.inj (e.symm.trans (by rw [z];exact hP))))]
    exact e
   exact ⟨fun b xs e=>at_ b _ e (fun z=>by intro y;cases y),fun b o u e=>at_ b _ e (fun z=>by intro y;cases y),fun b u e=>at_ b _ e (fun z=>by intro y;cases y)⟩
  have eL:(ps++#[rawInt pos.line,rawInt pos.col,.ref c']).toList=ps.toList++[rawInt pos.line,rawInt pos.col,.ref c']:=by simp
  have r1:Rp X.K X.prog X.w S (upd (upd H P (.tbl (ps++#[rawInt pos.line,rawInt pos.col,.ref c']))) c' (.frz oc (.own c'))):=fun b o e=>by
   by_cases hb:b=P
   ·subst hb
    rw [eS] at e
    cases e
    refine ⟨_,by rw [upd_ne (ne_of_none hP nC),upd_same],by rw [eL];exact PySem.TriplesOk_snoc _ _ _ _ ht,fun p' cv hcv=>?_⟩
    rw [eL] at hcv
    rcases among_app _ ht hcv with z | z
    ·obtain ⟨c0,o0,e1,e2,e3⟩:=ha p' cv z
     exact ⟨c0,o0,e1,le1.frz _ _ _ e2,e3⟩
    ·exact ⟨c',oc,z,upd_same,vs,t,hd,hv⟩
   ·obtain ⟨u,eu,_⟩:=(r b o e).some
    exact (r b o e).at le1 (by rw [upd_ne (ne_of_none eu nC),upd_ne hb])
  have nF:=I1.hok.fresh (Nat.le_refl _)
  have I2:=zo0 (o:=PySem.W.kla_obj "<lambda>" q params body scope (cloFrom X.env.cells scope.names []) ((X.mg "__name__").getD .none) c' ctv) (t':=tk) I1 rfl
  have le2:=le1.trans (Le.new (o:=.frz (PySem.W.kla_obj "<lambda>" q params body scope (cloFrom X.env.cells scope.names []) ((X.mg "__name__").getD .none) c' ctv) (.own h'.objs.size)) nF)
  exact h h'.objs.size _ _ I2 le2 (r1.more nF) (r1.free nF) ⟨c',_,ctv,oc,vs,t,upd_same,(upd_ne (Nat.ne_of_lt hlt)).trans upd_same,hd,hv⟩
 | some cv=>
  obtain ⟨c',oc,e,hco,vs,t,hd,hv⟩:=ha pos cv hc
  subst e
  refine PySem.W.kla_makeFunctionHit (mg:=X.mg) (c:=c) (P:=P) (ps:=ps) (closure_ok hfree) I.ok.glob (I.mod.glob.keeps I.bk) hcode (TB.code.keeps I.bk) hP' ht hc bP fun ctv h' tk hx hsz=>?_
  have I1:Inv X pins σ H { s with heap:=h',toks:=tk }:=I.kept hx
  have nF:H h'.objs.size=none:=I1.hok.fresh (Nat.le_refl _)
  have I2:=zo0 (o:=PySem.W.kla_obj "<lambda>" q params body scope (cloFrom X.env.cells scope.names []) ((X.mg "__name__").getD .none) c' ctv) (t':=tk) I1 rfl
  exact h h'.objs.size _ _ I2 (Le.new nF) (r.more nF) (r.free nF) ⟨c',_,ctv,oc,vs,t,upd_same,(upd_ne (ne_of_none hco nF)).trans hco,hd,hv⟩
end
section
variable {X:Cx} {B:Hp}
def zxY (K:PySem.W.Frag) (p:Program) (w:World) (P:Addr) (q:Str) (params:Arguments) (body:Expr) (scope:Scope) (cl:List (Str×Addr)):TE:=fun _ H Q=>
 ∃ S,Rp K p w S H∧S P=some (.tbl q)∧∀ f H1,Le H H1->Rp K p w S H1->S f=none->ztE H1 q params body scope cl f->Q (.ref f) H1
theorem zsB {c P:Addr} {q:Str} {params:Arguments} {body:Expr} {scope:Scope} {pos:Pos} (TB:TabB X.base X.mg c P) (hcode:X.env.code = .ref c) (hq:X.env.qual ++ "<lambda>" = q) (hdef:defaultsOf params X.env=([],[]))
  (hfree:∀ y∈scope.names,y.2 = .free->X.env.scope.names.lookup y.1=some .cell ∨ X.env.scope.names.lookup y.1=some .free) :
  PE X (.Lambda params body scope pos) (zxY X.K X.prog X.w P q params body scope (cloFrom X.env.cells scope.names [])):=by
 refine ⟨fun pins s σ H Q I h=>?_⟩
 obtain ⟨S,r,eS,h⟩:=h
 exact zoR I TB hcode r hq eS hdef (fun y hy e=>(hfree y hy e).elim (fun z=>I.ok.has _ (.inl z)) fun z=>I.ok.has _ (.inr z)) fun f H1 s' I1 l1 r1 n lo=>⟨.ref f,H1,I1,rfl,h f H1 l1 r1 n lo⟩
def zmj (n:Nat) (caps:Slo) (m:XW->EM):SpD:=fun ds S Q E=>∃ (Q0:DQ) (E0:XQ),(∀ d S,Q0 d S->Q d S)∧(∀ c f S,E0 c f S->E c f S)∧ds.length=n∧m (fun c fs _ S'=>E0 c fs S') (ds.map some++caps) S Q0
theorem zoC {n:Nat} {caps:Slo} {m:XW->EM}:zgo (zmj n caps m):=fun ds S Q Q' E E' i j h=>by
 obtain ⟨Q0,E0,h1,h2,h3,h4⟩:=h
 exact ⟨Q0,E0,fun d S q=>i _ _ (h1 d S q),fun c f S q=>j _ _ _ (h2 c f S q),h3,h4⟩
theorem zpF {n:Nat} {caps:Slo} {m:XW->EM} {ds:List D} {S:Sto} {Q:DQ} {E:XQ} (hl:ds.length=n) (h:m (fun c fs _ S'=>E c fs S') (ds.map some++caps) S Q):zmj n caps m ds S Q E:=
 ⟨Q,E,fun _ _ q=>q,fun _ _ _ q=>q,hl,h⟩
def zwk (i:Nat) (f:Addr) (sp:SpD) (W:XW) (ma:AM):EM:=fun env S Q=>env[i]? = some (some (.ref f))∧ma env S fun ds S1=>sp ds S1 Q fun c fs S'=>W c fs env S'
theorem zsX {i:Nat} {f:Addr} {sp:SpD} {W:XW} {ma:AM} (hs:zgo sp) (hm:znY ma):zdx (zwk i f sp W ma):=fun env S Q Q' j h=>⟨h.1,hm env S _ _ (fun ds S1 q=>hs _ _ _ _ _ _ j (fun _ _ _ h=>h) q) h.2⟩
theorem zqE {cl:List (Str×Addr)} {fr:List Str} {ws:List (Option V)} {h h':Heap} {H H':Hp} {fs:List Addr} (C:CellsAt cl fr ws h H) (u:Un fs [] H H' h h'):CellsAt cl fr ws h' H':=by
 have kp:∀ c v,H c=none->h.IsCell c v->h'.IsCell c v:=fun c v n ⟨o,ho,hd⟩=>by
  obtain ⟨sl,q⟩:=u.any ho n (by simp)
  exact ⟨_,q,hd⟩
 refine ⟨C.len,fun y c e=>?_,C.inj,fun i y e=>?_⟩
 ·obtain ⟨n,v,z⟩:=C.all y c e
  refine ⟨?_,v,kp c v n z⟩
  obtain ⟨o,ho,_⟩:=z
  exact u.free c o ho n (by simp)
 ·obtain ⟨c,hc,hv⟩:=C.has i y e
  refine ⟨c,hc,fun v ev=>?_⟩
  obtain ⟨x,r,z⟩:=hv v ev
  exact ⟨x,r,kp c _ (C.all y c hc).1 z⟩
structure zqM (K:PySem.W.Frag) (H:Hp) (caps:Slo) (ws:List (Option V)):Prop where
 len:caps.length=ws.length
 at_:∀ (i:Nat) (d:D),caps[i]? = some (some d)->∃ v:V,ws[i]? = some (some v)∧DV K H d v
theorem zqM.env {K:PySem.W.Frag} {H H':Hp} {caps:Slo} {ws:List (Option V)} {ds:List D} {vs:List V} {ps fr:List Str} (c:zqM K H caps ws) (l:Le H H') (h:DVs K H' ds vs) (hp:ds.length=ps.length) (hf:ws.length=fr.length) :
  zdy K H' (ds.map some++caps) (startF (ps++fr) vs ws):=by
 have hl:=h.length
 have cl:=c.len
 refine ⟨by simp [startF];omega,fun i d e=>?_⟩
 unfold startF
 by_cases hi:i < ds.length
 ·rw [List.getElem?_append_left (by simpa using hi),List.getElem?_map] at e
  cases q:ds[i]? with
  | none=>rw [q] at e;cases e
  | some x=>
   rw [q] at e
   cases e
   obtain ⟨v,e1,e2⟩:=h.get q
   refine ⟨v,?_,e2⟩
   rw [List.getElem?_append_left (by rw [hl] at hi;simpa using hi),List.getElem?_map,e1]
   rfl
 ·rw [List.getElem?_append_right (by simp;omega),List.length_map] at e
  obtain ⟨v,e1,e2⟩:=c.at_ _ _ e
  refine ⟨v,?_,e2.le l⟩
  have hj:=(List.getElem?_eq_some_iff.mp e1).1
  rw [List.getElem?_append_right (by simp;omega),List.length_map,List.getElem?_append_left (by omega),← hl]
  exact e1
theorem zv8 {P:Program} {w:World} {K:PySem.W.Frag} {mg:Str->Option Value} {base:Heap} {Ng:List Str} {qg:Str} {sg:Scope} {g:Addr} {cdg:Value} {A:Around} {outer:List Env} {s1:Shared} {H1:Hp} {E:XK} {Z:Cx} (eZ:Z=cxOf (L2.CX P w) P w K mg base Ng qg sg g cdg A outer s1 H1 E)
  {q:Str} {params:Arguments} {lb:Expr} {scope:Scope} {cl:List (Str×Addr)} {f:Addr} (lo:ztE H1 q params lb scope cl f) {ps fr:List Str} {ws:List (Option V)} {caps:Slo} (C:CellsAt cl fr ws s1.heap H1) (cd:zqM K H1 caps ws) (SN:NScope (ps++fr) ps fr scope)
  (hb:∀ (pm cv ctv:Value) (us:List Value),us.length=ps.length->bindArgs (PySem.W.kla_fn "<lambda>" q params lb scope cl pm cv ctv) ⟨us,[]⟩=pure (ps.zip us)) {k:Nat} (hr:Room (k+1) Z.A) {W:XW} (tk:Tk Z H1 W) {m:XW->EM}
  (hbody:∀ (c':Addr) (A':Around) (outer':List Env) (s:Shared) (H:Hp) (E:XK),Room k (A'.deeper (envF ⟨"<lambda>", q,params,[],scope,cl,c'⟩ f s.heap.objs.size))->∀ Y,Y=ncx (L2.CX P w) P w K mg base (ps++fr) ⟨"<lambda>", q,params,[],scope,cl,c'⟩ f A' outer' s H E->∀ W',Tk Y H W'->PassesOwn (model Y.prog Y.w) Y.A Y.env Y.xe->ME Y H lb (m W'))
  {i:Nat} {a:Str} {e:Expr} {es:List Expr} {p1 p2:Pos} {ma:AM} (hN:Ng[i]? = some a) (hv:Vis sg a) (ha:MA Z H1 (e :: es) ma)
  (he:starEach (e :: es) Z.env=(false,eval e Z.env) :: starEach es Z.env) (hpl:(backTo p2 (starEach es Z.env)).any (·.1)=false) (hd:(a == ("__debug__" : Str))=false:=by decide) (hcd:(a == ("__classdict__" : Str))=false:=by decide) :
  ME Z H1 (.Call (.Name a p1) (e :: es) [] p2) (zwk i f (zmj ps.length caps m) W ma):=by
 refine ⟨⟨fun pins s σ H Q I h=>?_⟩,zsX zoC ha.mono⟩
 obtain ⟨lB,env,S0,r0,z0,hfi,q0⟩:=h
 obtain ⟨v0,ev0,dv0⟩:=r0.at_ i _ hfi
 cases dv0
 have hN':Z.N[i]? = some a:=by rw [eZ];exact hN
 have hv':Vis Z.env.scope a:=by rw [eZ];exact hv
 refine wpAny_Call_Name_kw (thn ((pe_var (pos:=p1) hN' hv' hd hcd).run pins s σ H (fun v H1=>v = .ref f∧H1=H) I ⟨.ref f,ev0,rfl,rfl⟩) fun u sa ⟨v,Ha,Ia,ra,qa⟩=>?_)
 obtain ⟨ev,eH⟩:=qa
 subst ev
 rw [eH] at Ia
 obtain rfl:u=Value.ref f:=ra
 obtain ⟨c',pm,ctv,oc,vcs,t,f1,f2,f3,f4⟩:=(lo.le lB).ex
 have ho:=(Ia.hok f _ f1).1
 refine PySem.W.callWith_F (first:=[]) ⟨_,_,_,_,ho⟩ (thn (ha.pa.run p2 pins sa σ H (fun vs H2=>∃ ds S2,Le H H2∧Rp Z.K Z.prog Z.w S2 H2∧DVs Z.K H2 ds vs∧zmj ps.length caps m ds S2 (dnE Z.K Z.prog Z.w H Q) fun c fs S'=>W c fs env S') Ia ⟨lB,env,S0,r0,z0,ha.mono _ _ _ _ (fun ds S2 q vs H2 l2 z2 d2=>⟨ds,S2,l2,z2,d2,q⟩) q0⟩) fun us s2 ⟨vs,H2,I2,r,ds,S2,l2,z2,d2,q2⟩=>?_) he hpl
 have o2:=(I2.hok f _ (l2.frz _ _ _ f1)).1
 have o3:=(I2.hok c' _ (l2.frz _ _ _ f2)).1
 refine ⟨⟨_,_,_,_,o2⟩,?_⟩
 show wpAny _ _ (call (.ref f) us) _ _ _
 obtain ⟨Q0,E0,i1,i2,h3,h4⟩:=q2
 have lus:us.length=ps.length:=by rw [← r.length,← d2.length,h3]
 have hx:=passAt tk σ
 have Cz:CellsAt cl fr ws s2.heap H2:=by
  have b:=I2.base
  rw [eZ] at b
  exact zqE C b
 have rc:codeAny (model Z.prog Z.w) Z.A (.call (.ref f) ⟨us,[]⟩) (CR (L2.CX Z.prog Z.w) Z.stack Z.prog Z.w H2 s2 Q (WE (upW Z.K Z.prog Z.w H1 W) σ)) s2:=by
  refine PySem.W.kla_callFunE hr.depth o2 rfl SN.co SN.gen rfl ⟨c',oc,vcs,t,rfl,o3,f3,f4⟩ ?_
  rw [hb pm (.ref c') ctv us lus]
  refine wpAny_pure (wpAny_newFunctionEnv SN.nocell (fun ⟨n,_⟩ hy=>SN.par n (List.of_mem_zip hy).1) (fun h₁ hns hsb=>⟨I2.nolimit.fresh _ hsb,?_⟩) SN.kind)
  show codeAny _ _ (.expr lb (envF ⟨"<lambda>", q,params,[],scope,cl,c'⟩ f s2.heap.objs.size)) _ _
  have kp:∀ b o,s2.heap.get? b=some o->h₁.get? b=some o:=fun b o e=>hsb.extBut b o (Nat.ne_of_lt (Heap.lt_size e)) (Heap.get?_push_of_some _ e)
  have J:Inv (ncx (L2.CX P w) P w K mg base (ps++fr) ⟨"<lambda>", q,params,[],scope,cl,c'⟩ f Z.A Z.stack s2 H2 (WE (upW Z.K Z.prog Z.w H1 W) σ)) [] (startF (ps++fr) vs ws) H2 { s2 with heap:=h₁,toks:=s2.toks+(ps.zip us).length }:=by
   have e0:Env0 P w K mg base Z.A Z.stack s2 H2:=by
    have e0:=I2.env0
    rw [eZ] at e0 ⊢
    exact e0
   exact inv_startN SN hr.hd e0 (by rw [r.length,lus]) r Cz hns kp
  have tk0:Takes (ncx (L2.CX P w) P w K mg base (ps++fr) ⟨"<lambda>", q,params,[],scope,cl,c'⟩ f Z.A Z.stack s2 H2 (WE (upW Z.K Z.prog Z.w H1 W) σ)) (fun cls d _ H=>WE (upW Z.K Z.prog Z.w H1 W) σ cls d H):=takes_of rfl rfl rfl rfl
  have tk2:Tk (ncx (L2.CX P w) P w K mg base (ps++fr) ⟨"<lambda>", q,params,[],scope,cl,c'⟩ f Z.A Z.stack s2 H2 (WE (upW Z.K Z.prog Z.w H1 W) σ)) H2 (fun c fs _ S'=>E0 c fs S'):=tk0.imp fun c d σ' H' z=>by
   obtain ⟨l,env',S',fs,_,z1,z2,z3⟩:=z
   subst eZ
   exact ⟨lB.trans (l2.trans l),env,S',fs,r0.le (l2.trans l),z1,z2,i2 _ _ _ z3⟩
  have M:=hbody c' Z.A Z.stack s2 H2 _ (hr.deeper _) _ rfl _ tk2 (passes_of rfl)
  have up0:up K P w H2 (m fun c fs _ S'=>E0 c fs S') (startF (ps++fr) vs ws) H2 Q:=by
   subst eZ
   exact ⟨Le.refl H2,_,S2,cd.env (lB.trans l2) d2 h3 C.len,z2,M.mono _ _ _ _ (fun d S' q v H' l z dv=>i1 _ _ q v H' (l2.trans l) z dv) h4⟩
  have run:=M.pe.run [] _ _ H2 Q J up0
  subst eZ
  exact PySem.W.kla_codeExpr (wpAny_mono run (fun v s' ⟨w',H',J',rv,q⟩=>⟨w',H',J'.os,J'.bare,J'.base,J'.hok,rv,q⟩) fun e s' hq=>hq)
 refine wpAny_call (codeAny_mono rc fun r s' hq=>?_)
 cases r with
 | error e=>exact hx pins H2 s2 e s' I2 hq
 | ok fl=>
  cases fl with
  | ret u=>exact I2.after hq
  | next=>exact False.elim hq
  | brk=>exact False.elim hq
  | cont=>exact False.elim hq
end
def znx (env:Slo) (j:Nat):Option D:=(env[j]?).getD none
theorem znw {env:Slo} {j:Nat} {d:D} (h:znx env j=some d):env[j]? = some (some d):=by
 unfold znx at h
 cases e:env[j]? with
 | none=>rw [e] at h;cases h
 | some o=>rw [e] at h;exact congrArg some h
theorem zty {K:PySem.W.Frag} {H H':Hp} {env:Slo} {σ:L2.St} {js:List Nat} (r:zdy K H env σ) (l:Le H H'):zqM K H' (js.map (znx env)) (js.map (slotAt σ)):=by
 refine ⟨by simp,fun i d e=>?_⟩
 rw [List.getElem?_map] at e
 cases q:js[i]? with
 | none=>rw [q] at e;cases e
 | some j=>
  rw [q] at e
  obtain ⟨v,e1,e2⟩:=r.at_ j d (znw (Option.some.inj e))
  refine ⟨v,?_,e2.le l⟩
  rw [List.getElem?_map,q]
  exact congrArg some (slotAt_of e1)
def zzj (P:Addr) (q:Str) (n:Nat) (bG:Addr->SpD->XW->SM) (js:List Nat) (m:XW->EM) (W:XW) (m1 m2:EM):EM:=fun env S Q=>
 m1 env S fun d1 S1=>m2 env S1 fun d2 S2=>S2 P=some (.tbl q)∧∀ f,S2 f=none->spB 3 n (bG f (zmj 1 (js.map (znx env)) m)) [d1,d2,.ref f] S2 Q fun c fs S'=>W c fs env S'
section
variable {X:Cx} {B:Hp}
theorem zsS {P:Addr} {q:Str} {n:Nat} {bG:Addr->SpD->XW->SM} {js:List Nat} {m:XW->EM} {W:XW} {m1 m2:EM} (h1:zdx m1) (h2:zdx m2):zdx (zzj P q n bG js m W m1 m2):=fun env S Q Q' i h=>
 h1 env S _ _ (fun d1 S1 h=>h2 env S1 _ _ (fun d2 S2 h=>⟨h.1,fun f hf=>zln _ _ _ _ _ _ i (fun _ _ _ z=>z) (h.2 f hf)⟩) h) h
theorem znH {x qg q:Str} {g c P:Addr} {k n:Nat} {fd:FuncData} {pg:Arguments} {bg:List Stmt} {sg:Scope} {Ng ps3:List Str} {a:Str} {bG:Addr->SpD->XW->SM} {kws:List (Str×V)} {dvs:List V} (FD:FunD X.K x qg pg bg sg dvs kws g fd) (SG:FnScope Ng ps3 sg) (bi:Binds X.K fd ps3 []) (hp3:ps3.length=3) (hNg:Ng.length=3+n)
  (hG:∀ (cdv:Value) (A:Around) (outer:List Env) (s:Shared) (H:Hp) (E:XK),Room (k+1) (A.deeper (envOfC qg sg s.heap.objs.size g cdv))->∀ Z,Z=cxOf (L2.CX X.prog X.w) X.prog X.w X.K X.mg X.base Ng qg sg g cdv A outer s H E->∀ W,Tk Z H W->PassesOwn (model Z.prog Z.w) Z.A Z.env Z.xe->∀ (f:Addr) (sp:SpD),
   (∀ (e:Expr) (p1 p2:Pos) (ma:AM),starEach [e] Z.env=(false,eval e Z.env) :: starEach [] Z.env->MA Z H [e] ma->ME Z H (.Call (.Name a p1) [e] [] p2) (zwk 2 f sp W ma))->MSs Z H bg (bG f sp W))
  (hNa:Ng[2]? = some a) (hva:Vis sg a) (hda:(a == ("__debug__" : Str))=false:=by decide) (hca:(a == ("__classdict__" : Str))=false:=by decide)
  (hr:Room (k+2) X.A) {W:XW} (tk:Tk X B W) (hg:Gl X x) (hm:X.mg x=some (.ref g))
  {e1 e2:Expr} {m1 m2:EM} (h1:ME X B e1 m1) (h2:ME X B e2 m2)
  (TB:TabB X.base X.mg c P) (hcode:X.env.code = .ref c) (hq:X.env.qual ++ "<lambda>" = q) {params:Arguments} {lb:Expr} {scope:Scope} {p lpos pos:Pos} (hdef:defaultsOf params X.env=([],[]))
  {pl fr:List Str} (hpl1:pl.length=1) (SN:NScope (pl++fr) pl fr scope) (hfree:∀ y∈scope.names,y.2 = .free->X.env.scope.names.lookup y.1=some .cell ∨ X.env.scope.names.lookup y.1=some .free) (hfr:∀ y∈fr,(y,NameKind.free)∈scope.names) {js:List Nat} (hjs:js.map (fun j=>X.N[j]?)=fr.map some)
  (hb:∀ (cl:List (Str×Addr)) (pm cv ctv:Value) (us:List Value),us.length=pl.length->bindArgs (PySem.W.kla_fn "<lambda>" q params lb scope cl pm cv ctv) ⟨us,[]⟩=pure (pl.zip us)) {m:XW->EM}
  (hbody:∀ (cl:List (Str×Addr)) (f c':Addr) (A':Around) (outer':List Env) (s:Shared) (H:Hp) (E:XK),Room k (A'.deeper (envF ⟨"<lambda>", q,params,[],scope,cl,c'⟩ f s.heap.objs.size))->∀ Y,Y=ncx (L2.CX X.prog X.w) X.prog X.w X.K X.mg X.base (pl++fr) ⟨"<lambda>", q,params,[],scope,cl,c'⟩ f A' outer' s H E->∀ W',Tk Y H W'->PassesOwn (model Y.prog Y.w) Y.A Y.env Y.xe->ME Y H lb (m W'))
  (hdb:(x == ("__debug__" : Str))=false:=by decide)
  (hs1:starEach [e1,e2,.Lambda params lb scope lpos] X.env=(false,eval e1 X.env) :: starEach [e2,.Lambda params lb scope lpos] X.env:=by rfl) (hs2:starEach [e2,.Lambda params lb scope lpos] X.env=(false,eval e2 X.env) :: starEach [.Lambda params lb scope lpos] X.env:=by rfl)
  (hpl:(backTo pos (starEach [e2,.Lambda params lb scope lpos] X.env)).any (·.1)=false:=by rfl) :
  ME X B (.Call (.Name x p) [e1,e2,.Lambda params lb scope lpos] [] pos) (zzj P q n bG js m W m1 m2):=by
 refine ⟨⟨fun pins s σ H Q I h=>?_⟩,zsS h1.mono h2.mono⟩
 obtain ⟨lB,env,S0,r0,z0,q0⟩:=h
 obtain ⟨oc,od,dV,kV,doc,pm,an,cdv,ct,osl,efd,lk,hcd,_,_⟩:=FD.ex
 have hlam:=zsB (pos:=lpos) TB hcode hq hdef hfree (body:=lb)
 refine wpAny_Call_Name_kw (ld_glob I hg hm ?_ hdb)
 refine PySem.W.callWith_K (first:=[]) (h₀:=X.base) I.ok.mod.kin FD.kp (thn ((pa_cons h1.pe (pa_cons h2.pe (pa_cons hlam pa_nil) hs2) hs1).run pos pins s σ H (fun vs H2=>∃ ds f S2,Le H H2∧Rp X.K X.prog X.w S2 H2∧DVs X.K H2 ds vs∧ztE H2 q params lb scope (cloFrom X.env.cells scope.names []) f∧spB 3 n (bG f (zmj 1 (js.map (znx env)) m)) ds S2 (dnE X.K X.prog X.w H Q) fun c fs S'=>W c fs env S') I
  ⟨lB,env,S0,r0,z0,h1.mono _ _ _ _ (fun d1 S1 q1 v1 H1 l1 z1 d1'=>⟨lB.trans l1,env,S1,r0.le l1,z1,h2.mono _ _ _ _ (fun d2 S2 q2 v2 H2 l2 z2 d2'=>⟨S2,z2,q2.1,fun f H3 l3 z3 nf lo=>⟨[d1,d2,.ref f],f,S2,l1.trans (l2.trans l3),z3,.cons (d1'.le (l2.trans l3)) (.cons (d2'.le l3) (.cons (.ref f) .nil)),lo,q2.2 f nf⟩⟩) q1⟩) q0⟩) fun us s2 ⟨vs,H2,I2,r,ds,f,S2,l2,z2,d2,lo,q2⟩=>⟨I2.kIn,?_⟩) hs1 hpl
 show wpAny _ _ (call (.ref g) us) _ _ _
 obtain ⟨Q0,E0,i1,i2,h3,h4⟩:=q2
 have lus:us.length=ps3.length:=by rw [← r.length,← d2.length,h3,hp3]
 have bnd:=bi s2 us I2.kIn (by rw [List.append_nil];exact lus)
 rw [List.append_nil] at bnd
 subst efd
 have hx:=passAt tk σ
 have rc:codeAny (model X.prog X.w) X.A (.call (.ref g) ⟨us,[]⟩) (CR (L2.CX X.prog X.w) X.stack X.prog X.w H2 s2 Q (WE (upW X.K X.prog X.w B W) σ)) s2:=by
  refine run_ofS (CX:=L2.CX X.prog X.w) (N:=Ng) (ps:=ps3) lk hcd SG hr I2.env0 bnd r (by rw [r.length,lus]) fun hr'=>?_
  have tk0:Takes (cxOf (L2.CX X.prog X.w) X.prog X.w X.K X.mg X.base Ng qg sg g cdv X.A X.stack s2 H2 (WE (upW X.K X.prog X.w B W) σ)) (fun cls d _ H=>WE (upW X.K X.prog X.w B W) σ cls d H):=takes_of rfl rfl rfl rfl
  have tk2:Tk (cxOf (L2.CX X.prog X.w) X.prog X.w X.K X.mg X.base Ng qg sg g cdv X.A X.stack s2 H2 (WE (upW X.K X.prog X.w B W) σ)) H2 (fun c fs _ S'=>E0 c fs S'):=tk0.imp fun c d σ' H' z=>by
   obtain ⟨l,env',S',fs,_,z1,z2',z3⟩:=z
   exact ⟨lB.trans (l2.trans l),env,S',fs,r0.le (l2.trans l),z1,z2',i2 _ _ _ z3⟩
  have M:=hG cdv X.A X.stack s2 H2 _ hr' _ rfl _ tk2 (passes_of rfl) f (zmj 1 (js.map (znx env)) m) fun e p1 p2 ma he hma=>by
   have a1:=zv8 (p1:=p1) (p2:=p2) (m:=m) (i:=2) rfl lo (cells_of I2 (Caps.made I2.ok hfree hfr hjs)) (zty (js:=js) r0 l2) SN (fun pm cv ctv us hu=>hb _ pm cv ctv us hu) hr' tk2 (fun c' A' outer' s H E hr Y eY W' tk' po=>hbody _ f c' A' outer' s H E hr Y eY W' tk' po) hNa hva hma he rfl hda hca
   rw [hpl1] at a1
   exact a1
  refine ⟨_,M.ps,Le.refl H2,_,S2,zgG d2 (by rw [h3];exact hNg),z2,M.mono.go h4 ⟨fun e S' q σ H' l r z=>?_,fun d S' q v H' l z dv=>i1 _ _ q v H' (l2.trans l) z dv,fun _ _ q=>q.elim,fun _ _ q=>q.elim⟩⟩
  exact i1 _ _ q _ H' (l2.trans l) z .non
 refine wpAny_call (codeAny_mono rc fun r s' hq=>?_)
 cases r with
 | error e=>exact hx pins H2 s2 e s' I2 hq
 | ok fl=>
  cases fl with
  | ret u=>exact I2.after hq
  | next=>exact False.elim hq
  | brk=>exact False.elim hq
  | cont=>exact False.elim hq
end
theorem zsE {P:Program} {w:World} {K:PySem.W.Frag} {mg:Str->Option Value} {base:Heap} {x qual:Str} {params:Arguments} {body:List Stmt} {scope:Scope} {dvs:List V} {kws:List (Str×V)} {at_:Str×Option Str} {fd:FuncData} {N ps:List Str} {k n m:Nat} {b:XW->SM} (F:FunD K x qual params body scope dvs kws (He.fAd K at_) fd) (S:FnScope N ps scope) (bi:Binds K fd ps [])
  (hn:ps.length=n) (hN:N.length=n+m)
  (hb:∀ (A:Around) (outer:List Env) (s:Shared) (H:Hp) (E:XK),Room k (A.deeper (envOfC qual scope s.heap.objs.size (He.fAd K at_) (.ref (He.codeOf K at_))))->∀ (X:Cx) (eX:X=cxOf (L2.CX P w) P w K mg base N qual scope (He.fAd K at_) (.ref (He.codeOf K at_)) A outer s H E) (W:XW),Tk X H W->PassesOwn (model X.prog X.w) X.A X.env X.xe->MSs X H body (b W)):Fd P w K mg base (k+1) (He.fAd K at_) (spB n m b):=by
 refine ⟨⟨fd,ps,?_,bi⟩,F.kp,zln⟩
 obtain ⟨oc,od,dV,kV,doc,pm,an,cdv,ct,osl,rfl,lk,hcd,_,_⟩:=F.ex
 obtain ⟨c,hc⟩:=He.codeIn_ref hcd
 have ec:cdv = .ref (He.codeOf K at_):=by
  rw [hc]
  exact congrArg Value.ref (He.codeOf_eq lk hc).symm
 subst ec
 refine fn_of lk hcd S (fun vs H Q E h=>?_) (fun A outer s H vs Q E hr h=>?_)
 ·obtain ⟨ds,S0,h1,h2,Q0,E0,_,_,h3,_⟩:=h
  rw [← h1.length,h3,hn]
 ·obtain ⟨ds,S0,h1,h2,Q0,E0,i1,i2,h3,h4⟩:=h
  have tk0:Takes (cxOf (L2.CX P w) P w K mg base N qual scope (He.fAd K at_) (.ref (He.codeOf K at_)) A outer s H E) (fun cls d _ H=>E cls d H):=takes_of rfl rfl rfl rfl
  have tk:Tk (cxOf (L2.CX P w) P w K mg base N qual scope (He.fAd K at_) (.ref (He.codeOf K at_)) A outer s H E) H (fun c fs _ S'=>E0 c fs S'):=tk0.imp fun c d σ H' z=>by
   obtain ⟨l,env,S',fs,_,z1,z2,z3⟩:=z
   exact i2 _ _ _ z3 d H' l z1 z2
  have Z:=hb A outer s H E hr _ rfl _ tk (passes_of rfl)
  refine ⟨_,Z.ps,Le.refl H,_,S0,zgG h1 (by rw [h3];exact hN),h2,Z.mono.go h4 ⟨fun e S' q σ H' l r z=>?_,fun d S' q v H' l z dv=>i1 _ _ q v H' l z dv,fun _ _ q=>q.elim,fun _ _ q=>q.elim⟩⟩
  exact i1 _ _ q _ H' l z .non
def zAh (g:Addr->Option Obj) (tf:List He.Defn) (K:PySem.W.Frag):Bool:=tf.all fun p=>PySem.W.codeHdIn K (He.cT K p).1 (He.cT K p).2 && ((match g (He.cT K p).2 with
 | some o=>He.emptyTab o
 | none=>false) && (K.lookup (He.cT K p).2).isNone)
theorem zrM {tf:List He.Defn} {h:Heap} {K:PySem.W.Frag} (e:zAh h.get? tf K=true):zw3 tf h K:=by
 have key:∀ p∈tf,PySem.W.codeHdIn K (He.cT K p).1 (He.cT K p).2=true∧K.lookup (He.cT K p).2=none∧h.get? (He.cT K p).2=some { cls:=.none,data:=.fields #[] }:=fun p hp=>by
  obtain ⟨h1,h2⟩:=He.ba (List.all_eq_true.mp e p hp)
  obtain ⟨h3,h4⟩:=He.ba h2
  refine ⟨h1,by simpa using h4,?_⟩
  split at h3
  ·rename_i o q
   rw [q,He.emptyTab_eq h3]
  ·cases h3
 exact ⟨fun p hp=>(key p hp).1,fun p hp=>(key p hp).2.1,fun p hp=>(key p hp).2.2⟩
def zDx {α:Type} (n:Nat) (ob:PySem.W.Frag->α) (vl:World->α) (tf:List He.Defn):PySem.W.Hook where
 α:=α×Bool
 obs:=fun s=>(ob (kFr n s.heap.get?),zAh s.heap.get? tf (kFr n s.heap.get?))
 val:=fun w=>(vl w,true)
 says:=fun w h=>∃ K:PySem.W.Frag,K.In h∧ob K=vl w∧zw3 tf h K
 of:=fun _ _ e=>⟨_,He.frG_in,congrArg Prod.fst e,zrM (congrArg Prod.snd e)⟩
 keeps:=fun _ _ _ ⟨K,hK,c,z⟩ k=>⟨K,hK.keeps k,c,z.hd,z.out,fun p hp=>k _ _ (z.empty p hp)⟩
def zz7 (ns:List Int) (d:D) (S:Sto):Prop:=d = .rol (ns.map D.int) ∨ ∃ a,d = .ref a∧S a=some (.lst (ns.map D.int))
theorem walk_ofL {l:PySem.W.OpenLaw} {n k:Nat} {q:Program} {loose:List Str} {XP:(Str->Option Value)->Heap->Prop} {YP:World->Heap->Prop} {d:DefRec} {x:Str} {tf:List (He.Defn)} {Tb:PySem.W.Frag->Addr->Option Str} (hn:l.most=some n) (hz:n≤sizeLine)
  (hdf:d.params.defaults=[]) (hr:Room k callerA)
  (F:∀ (w:World) (mg:Str->Option Value) (fa:Addr) (h:Heap),YP w h->h.Ns mainGlobals mg->mg d.name=some (.ref fa)->∃ (K:PySem.W.Frag) (fd:FuncData) (sp:SpD),K.In h∧zw3 tf h K∧(∀ (s:Shared) (u:Value),BindsTo s fd ⟨[u],[]⟩ [(x,u)])∧
   (∀ ns:List Int,ns.length≤n->∀ (d:D) (S:Sto) (Q:DQ) (E:XQ),zz7 ns d S->(∀ p∈tf,S (He.cT K p).2=(Tb K (He.cT K p).2).map O.tbl)->(∀ S',Q (.bl true) S')->sp [d] S Q E)∧∀ base:Heap,(∀ p∈tf,TabB base mg (He.cT K p).1 (He.cT K p).2)->FnOk l.prog w K mg base (L2.CX l.prog w) k fa fd [x] (zlF K l.prog w sp)) :
  PySem.W.WalkO q loose XP YP l.row.toRowW d [] (fun f vs=>PySem.call f vs):=by
 refine Att.attach_callB hn hdf ?_
 intro w t0 t1 mg mb fa ob pm cd doc a vs ns ground hY hob hdt hcode hname hlist hare hmost hbits hgens
 obtain ⟨K,fd,sp,kin,sl,hb,hsp,hf⟩:=F w mg fa _ hY ground.T.g hname
 refine law_callTs (cs:=tf.map fun p=>He.cT K p) (sp:=zlF K l.prog w sp) kin ground.T.g ground.T.b ground.T.builtins ground.T.nolimit hgens (fun p hp=>?_) (fun p hp=>?_) (fun p hp=>?_) ground.T.bmain hlist hare (Nat.le_trans hmost hz) hr (fun base _ _ tb=>hf base fun p hp=>tb _ (List.mem_map.mpr ⟨p,hp,rfl⟩)) hb (fun H hH hS=>?_) fun H e s' hc=>?_
 ·obtain ⟨p,hq,rfl⟩:=List.mem_map.mp hp
  exact sl.empty p hq
 ·obtain ⟨p,hq,rfl⟩:=List.mem_map.mp hp
  exact sl.out p hq
 ·obtain ⟨p,hq,rfl⟩:=List.mem_map.mp hp
  exact PySem.W.codeHd_of_K kin (sl.hd p hq)
 ·have hT:∀ b∈tf.map (fun p=>(He.cT K p).2),H b=some (.tbl #[]):=fun b hb=>by
   obtain ⟨p,hp,rfl⟩:=List.mem_map.mp hb
   exact hH _ (List.mem_map.mpr ⟨p,hp,rfl⟩)
  let S0:Sto:=fun b=>if b∈tf.map (fun p=>(He.cT K p).2) then (Tb K b).map O.tbl else none
  have r0:Rp K l.prog w S0 H:=fun b o e=>by
   by_cases hb:b∈tf.map (fun p=>(He.cT K p).2)
   ·have e:(Tb K b).map O.tbl=some o:=(if_pos hb).symm.trans e
    obtain ⟨q,_,rfl⟩:=Option.map_eq_some_iff.mp e
    refine ⟨#[],hT b hb,True.intro,fun pos cv hc=>?_⟩
    have z:codeAmong pos []=some cv:=hc
    simp [codeAmong] at z
   ·have e:none=some o:=(if_neg hb).symm.trans e
    cases e
  have s0:∀ p∈tf,S0 (He.cT K p).2=(Tb K (He.cT K p).2).map O.tbl:=fun p hp=>if_pos (List.mem_map.mpr ⟨p,hp,rfl⟩)
  have fin:∀ S':Sto,dnE K l.prog w H (fun v _=>v = .bl true) (.bl true) S':=fun S' v H' _ _ dv=>by
   cases dv
   rfl
  rcases hS with (h | ⟨o,h⟩) | h
  ·have na:∀ b∈tf.map (fun p=>(He.cT K p).2),b≠a:=fun b hb z=>by
    have:=hT b hb
    rw [z,h] at this
    cases this
   refine ⟨[.ref a],put S0 a (.lst (ns.map D.int)),.cons (.ref a) .nil,fun b o e=>?_,hsp ns hmost _ _ _ _ (.inr ⟨a,rfl,zah⟩) (fun p hp=>?_) fin⟩
   ·by_cases hb:b=a
    ·subst hb
     rw [zah] at e
     cases e
     exact ⟨_,h,zjz ns⟩
    ·rw [zaj hb] at e
     exact r0 b o e
   ·rw [zaj (na _ (List.mem_map.mpr ⟨p,hp,rfl⟩))]
    exact s0 p hp
  ·exact ⟨[.rol (ns.map D.int)],S0,.cons (.rol (.inl ⟨o,h⟩) (zjz ns)) .nil,r0,hsp ns hmost _ _ _ _ (.inl rfl) s0 fin⟩
  ·exact ⟨[.rol (ns.map D.int)],S0,.cons (.rol (.inr h) (zjz ns)) .nil,r0,hsp ns hmost _ _ _ _ (.inl rfl) s0 fin⟩
 ·obtain ⟨_,_,_,_,_,_,_,_,_,_,_,_,z⟩:=hc
  exact z
def zAq (i:Nat) (L:List (Addr×SpD)) (W:XW) (ma:AM):EM:=fun env S Q=>∃ f sp,(f,sp)∈L∧env[i]? = some (some (.ref f))∧ma env S fun ds S1=>sp ds S1 Q fun c fs S'=>W c fs env S'
section
variable {X:Cx} {B:Hp} {W:XW} {k i:Nat} {a:Str} {L:List (Addr×SpD)} {e:Expr} {es:List Expr} {p1 p2:Pos} {ma:AM}
end
theorem znG (l b:Addr) (items:Array Value) (n:Nat) (items2:Array Value) (hs0:¬(!items.isEmpty && Builtin.List.listTooLong (items.size+items2.size))=true) (hs1:items.size≤sizeLine) (hs2:items.size+items2.size≤sizeLine+1) :
  Meets (Builtin.«list.extend» ⟨[.ref l,.ref b],[]⟩) (fun _ R s=>s.heap.get? l=some { cls:=.type "list", data:=.seq items n }∧IsTup s.heap b items2∧R (.ok (.ret Value.none)) { s with heap:=s.heap.update l (Obj.mapSeq fun x=>x++items2) }):=
 .of_wp fun prog w A R s h=>by
  obtain ⟨hl,⟨o,ho,hc,n2,hd⟩,h⟩:=h
  have hz':(items++items2).size≤sizeLine+1:=by rw [Array.size_append];exact hs2
  show wpAny (model prog w) A.in1 (Builtin.List.listExtendWith (.ref l) (.ref b) .none) _ _ s
  unfold Builtin.List.listExtendWith
  refine wpAny_bind (wpAny_typeOf ⟨o,ho,hc⟩ ?_)
  have h1:(Builtin.List.listSameRef (.ref l) (.ref b) || Value.type "tuple" == Value.type "list" || Value.type "tuple" == Value.type "tuple")=true:=by simp
  simp only [h1,if_true]
  refine wpAny_bind ?_
  unfold Builtin.List.listItems
  refine wpAny_bind (wpAny_seqItems ho hd (wpAny_pure ?_))
  refine wpAny_bind ?_
  refine wpAny_bind (wpAny_seqItems hl rfl (wpAny_pure ?_))
  simp only [hs0,if_false]
  show wpAny _ A.in1 (updateSeq l (·++items2) >>= fun _=>ret .none) _ _ s
  refine wpAny_bind (wpAny_updateSeq hl rfl (hz:=hs1) (_hz':=hz') ?_)
  exact wpAny_pure ⟨_,rfl,h⟩
section
variable {X:Cx} {B:Hp}
def zpV (K:PySem.W.Frag):V->List V->Hp->VK->Prop:=fun x vs H Q=>∃ l b xs zs,x = .ref l∧vs=[.ref b]∧H l=some (.lst xs)∧SqT K H b zs∧xs.length+zs.length≤sizeLine∧Q .non (upd H l (.lst (xs++zs)))
theorem znF:MtR X "list.extend" (zpV X.K):=by
 intro pins s σ H x vs v us Q I rx rv h
 obtain ⟨l,b,xs,zs,rfl,rfl,hH,hB,hz,q⟩:=h
 cases rx
 obtain ⟨u,rfl,ru⟩:=rv.one
 cases ru
 obtain ⟨z,its,n,r,hl,e⟩:=I.lstM hH
 obtain ⟨its2,r2,e2,hl2⟩:=I.tuple hB
 have hl3:=r2.length
 have hsz:its.toArray.size+its2.toArray.size≤sizeLine:=by rw [List.size_toArray,List.size_toArray];omega
 have hlong:¬ (!its.toArray.isEmpty && Builtin.List.listTooLong (its.toArray.size+its2.toArray.size))=true:=by
  rw [notLongL hsz,Bool.and_false]
  exact Bool.false_ne_true
 refine call_meets F.slot_list_extend ⟨_,e,rfl⟩ F.entry_list_extend (F.args_list_extend_2 _ _)
  (znG l b its.toArray n its2.toArray hlong (by rw [List.size_toArray];omega) (by omega)) ⟨e,e2,?_⟩
 refine ⟨.non,_,I.lset (its':=its++its2) hH e (by simp) (r.append r2) ?_,rfl,q⟩
 rw [List.length_append]
 omega
def zmo:MM:=fun d ds S Q=>match d,ds with
 | .ref a,[.tp _ ys]=>match S a with
  | some (.lst xs)=>xs.length+ys.length≤sizeLine∧Q .non (put S a (.lst (xs++ys)))
  | _=>False
 | _,_=>False
theorem znK:zw5 X "list.extend" zmo:=by
 refine zzg _ znF (fun x xs H Q d ds S h1 h2 r q=>?_) (fun d ds S Q Q' i q=>?_)
 ·unfold zmo at q
  split at q
  ·rename_i a f ys
   obtain ⟨v,rfl,dv⟩:=zl9 h2
   cases h1
   cases dv with
   | tup sq dvs tf=>
    split at q
    ·rename_i zs e0
     obtain ⟨us,e,z⟩:=r _ _ e0
     exact ⟨_,_,us,_,rfl,rfl,e,sq,by rw [← z.length,← dvs.length];exact q.1,zn1 r e (z.append dvs) .non q.2⟩
    ·exact q.elim
  ·exact q.elim
 ·unfold zmo at q ⊢
  split at q
  ·split at q
   ·exact ⟨q.1,i _ _ q.2⟩
   ·exact q.elim
  ·exact q.elim
theorem znJ {o e:Expr} {apos cpos:Pos} {mo:EM} {ma:AM} (ho:ME X B o mo) (ha:MA X B [e] ma) (hbase:attributeBase o "extend" X.env (eval o X.env)=eval o X.env:=by rfl)
  (hfew:((backTo cpos (starEach [e] X.env)).all (fun x=>!x.1) && (backToKw cpos (keywordEach [] X.env)).all (fun x=>x.1.isSome)
   && decide ([e].length+([]:List Keyword).length+(if ([]:List Keyword).isEmpty then 0 else 1) < 30))=true:=by rfl)
  (hline:(apos.endLine == cpos.line)=true:=by rfl) (hs:starEach [e] X.env=(false,eval e X.env) :: starEach [] X.env:=by rfl) :
  ME X B (.Call (.Attribute o "extend" apos) [e] [] cpos) (ziB okL zmo mo ma):=zoH zxW zn6 F.plainAttrs_list F.slot_list_extend F.type_list_extend znK ho ha hbase hfew hline hs
theorem zvH {S:Sto} {Q:DQ} {a:Addr} {f:Bool} {xs ys:List D} (e1:S a=some (.lst xs)) (hl:xs.length+ys.length≤sizeLine) (h:Q .non (put S a (.lst (xs++ys)))):zmo (.ref a) [.tp f ys] S Q:=by
 unfold zmo
 simp only [e1]
 exact ⟨hl,h⟩
end
theorem snoc_ind {α:Type} {P:List α->Prop} (h0:P []) (h1:∀ l a,P l->P (l++[a])) (l:List α):P l:=by
 have:∀ m:List α,P m.reverse:=fun m=>by
  induction m with
  | nil=>exact h0
  | cons a m ih=>rw [List.reverse_cons];exact h1 _ _ ih
 have h:=this l.reverse
 rwa [List.reverse_reverse] at h
def zmi (a b:List Nat):Bool:=a.all fun i=>decide (i∈b)
theorem zmO {a b:List Nat}:zmi a b=true ↔ ∀ i∈a,i∈b:=by simp [zmi]
theorem zn9 (a:List Nat):zmi a a=true:=zmO.mpr fun _ h=>h
def zl1 (acc:List (List Nat)) (p:List Nat):List (List Nat):=if acc.any (fun l=>zmi l p) then acc else acc++[p]
def zbv (L:List (List Nat)):List (List Nat):=L.foldl zl1 []
def zwl (L:List (List Nat)) (p:List Nat):List (List Nat):=L.filter fun l=>!decide (l=p) && zmi l p
def zwn (L:List (List Nat)):List (List Nat):=L.filter fun p=>decide ((((zwl L p).length:Nat):Int)=0)
abbrev Ord (L:List (List Nat)):Prop:=L.Pairwise fun a b=>zmi b a=false
theorem ze5 (L:List (List Nat)) (p:List Nat):zbv (L++[p])=zl1 (zbv L) p:=by simp [zbv]
theorem zjZ {L:List (List Nat)}:∀ {p:List Nat},p∈zbv L->p∈L:=by
 induction L using snoc_ind with
 | h0=>intro p h;simp [zbv] at h
 | h1 L q ih=>
  intro p h
  rw [ze5] at h
  unfold zl1 at h
  split at h
  ·exact List.mem_append_left _ (ih h)
  ·rcases List.mem_append.mp h with h | h
   ·exact List.mem_append_left _ (ih h)
   ·exact List.mem_append_right _ h
theorem zls {L:List (List Nat)}:∀ {p:List Nat},p∈L->∃ q∈zbv L,zmi q p=true:=by
 induction L using snoc_ind with
 | h0=>intro p h;cases h
 | h1 L q ih=>
  intro p h
  rw [ze5]
  unfold zl1
  rcases List.mem_append.mp h with h | h
  ·obtain ⟨r,hr,hs⟩:=ih h
   split
   ·exact ⟨r,hr,hs⟩
   ·exact ⟨r,List.mem_append_left _ hr,hs⟩
  ·cases List.mem_singleton.mp h
   split
   ·rename_i e
    obtain ⟨r,hr,hs⟩:=List.any_eq_true.mp e
    exact ⟨r,hr,hs⟩
   ·exact ⟨q,List.mem_append_right _ (List.mem_singleton.mpr rfl),zn9 q⟩
def zgp:Nat->List (List Nat)
 | 0=>[[]]
 | 1=>[[],[0]]
 | 2=>[[],[0],[1],[0,1]]
 | 3=>[[],[0],[1],[2],[0,1],[0,2],[1,2],[0,1,2]]
 | 4=>[[],[0],[1],[2],[3],[0,1],[0,2],[0,3],[1,2],[1,3],[2,3],[0,1,2],[0,1,3],[0,2,3],[1,2,3],[0,1,2,3]]
 | _=>[]
def zp1 (n:Nat) (ps:List Nat):List Nat:=(List.range n).filter fun i=>!decide (i∈ps)
theorem zn5 {P:Nat->Prop} (h0:P 0) (h1:P 1) (h2:P 2) (h3:P 3) (h4:P 4) {n:Nat} (h:n≤4):P n:=by
 match n,h with
 | 0,_=>exact h0
 | 1,_=>exact h1
 | 2,_=>exact h2
 | 3,_=>exact h3
 | 4,_=>exact h4
theorem zqI {n:Nat} (h:n≤4):∀ ps∈zgp n,zp1 n ps∈zgp n∧zp1 n (zp1 n ps)=ps∧(∀ i∈ps,i < n)∧(∀ k,k < 4->ps.filter (fun i=>decide (i≠k))∈zgp n):=by
 refine zn5 (P:=fun n=>∀ ps∈zgp n,zp1 n ps∈zgp n∧zp1 n (zp1 n ps)=ps∧(∀ i∈ps,i < n)∧(∀ k,k < 4->ps.filter (fun i=>decide (i≠k))∈zgp n)) ?_ ?_ ?_ ?_ ?_ h <;> decide +kernel
def zEp (f:List Nat->Bool):Prop:=∀ a b,zmi a b=true->f a=true->f b=true
theorem Ord.filter {L:List (List Nat)} (o:Ord L) (f:List Nat->Bool):Ord (L.filter f):=List.Pairwise.filter f o
def meets (fam:List (List Nat)) (ps:List Nat):Bool:=fam.all fun v=>!decide ((((ps.filter fun i=>decide (i∈v)).length:Nat):Int)=0)
section
variable {n:Nat} {f:List Nat->Bool}
def zCq (n:Nat) (f:List Nat->Bool) (ps:List Nat):Bool:=!f (zp1 n ps)
def zDU (n:Nat) (f:List Nat->Bool):List (List Nat):=zwn ((zgp n).filter f)
end
def znR (ps:List Nat):Nat:=match ps.getLast? with
 | none=>0
 | some m=>m+1
def zwT (n:Nat) (ps:List Nat):List (List Nat):=(List.range (n - znR ps)).map fun k=>ps++[znR ps+k]
def bfS (n:Nat):Nat->List (List Nat)
 | 0=>[[]]
 | a+1=>bfS n a++(match (bfS n a)[a]? with
  | some ps=>zwT n ps
  | none=>[])
def extI (n i:Nat) (ps:List Nat):List (List Nat):=if ps.length=i then zwT n ps else []
def zAs (n:Nat):Nat->List (List Nat)
 | 0=>[[]]
 | i+1=>zAs n i++(zAs n i).flatMap (extI n i)
theorem zqG {n:Nat} (h:n≤4):∀ a,a < 2 ^ n+1->(decide (a < (bfS n a).length)=decide (a < 2 ^ n))∧(bfS n a).length≤16∧∀ ps∈bfS n a,ps.length≤4∧znR ps≤4:=by
 refine zn5 (P:=fun n=>∀ a,a < 2 ^ n+1->(decide (a < (bfS n a).length)=decide (a < 2 ^ n))∧(bfS n a).length≤16∧∀ ps∈bfS n a,ps.length≤4∧znR ps≤4) ?_ ?_ ?_ ?_ ?_ h <;> decide +kernel
theorem zw0 {n:Nat} (h:n≤4):bfS n (2 ^ n)=zgp n:=by
 refine zn5 (P:=fun n=>bfS n (2 ^ n)=zgp n) ?_ ?_ ?_ ?_ ?_ h <;> decide +kernel
theorem zfa {n:Nat} (h:n≤4):(zgp n).length≤16∧∀ ps∈zgp n,ps.length≤4:=by
 refine zn5 (P:=fun n=>(zgp n).length≤16∧∀ ps∈zgp n,ps.length≤4) ?_ ?_ ?_ ?_ ?_ h <;> decide +kernel
theorem zmJ {n:Nat} (h:n≤4) {ps:List Nat} (hp:ps∈zgp n):∀ i∈ps,i < n:=(zqI h ps hp).2.2.1
theorem zj0 (L:List (List Nat)):(zbv L).length≤L.length:=by
 induction L using snoc_ind with
 | h0=>exact Nat.le_refl _
 | h1 L q ih=>
  rw [ze5]
  unfold zl1
  split <;> simp <;> omega
theorem ziX {L:List (List Nat)} {i:Nat} {p:List Nat} (h:L[i]? = some p):zbv (L.take (i+1))=zl1 (zbv (L.take i)) p:=by
 rw [List.take_succ,h]
 exact ze5 _ _
theorem zth {n:Nat} (h:n≤4) (f:Nat->Bool):(List.range n).filter f∈zgp n:=by
 refine zn5 (P:=fun n=>(List.range n).filter f∈zgp n) ?_ ?_ ?_ ?_ ?_ h
 ·show List.filter f []∈_
  simp [zgp]
 ·show List.filter f [0]∈_
  cases h0:f 0 <;> simp [h0,zgp]
 ·show List.filter f [0,1]∈_
  cases h0:f 0 <;> cases h1:f 1 <;> simp [h0,h1,zgp]
 ·show List.filter f [0,1,2]∈_
  cases h0:f 0 <;> cases h1:f 1 <;> cases h2:f 2 <;> simp [h0,h1,h2,zgp]
 ·show List.filter f [0,1,2,3]∈_
  cases h0:f 0 <;> cases h1:f 1 <;> cases h2:f 2 <;> cases h3:f 3 <;> simp [h0,h1,h2,h3,zgp]
def shI (a i:Nat):Nat:=if i < a then i else i+1
def shL (a:Nat) (p:List Nat):List Nat:=p.map (shI a)
def unL (a:Nat) (p:List Nat):List Nat:=(p.filter fun i=>decide (i≠a)).map fun i=>if i < a then i else i - 1
def ShF (n a:Nat):Prop:=(zgp n).map (shL a)=(zgp (n+1)).filter (fun p=>!decide (a∈p))
 ∧ (∀ q∈zgp n,unL a (shL a q)=q∧shL a q∈zgp (n+1)∧a∉shL a q)
 ∧ (∀ p∈zgp (n+1),unL a p∈zgp n∧shL a (unL a p)=p.filter (fun i=>decide (i≠a))∧unL a (zp1 (n+1) p)=zp1 n (unL a p))
instance (n a:Nat):Decidable (ShF n a):=by unfold ShF;infer_instance
open PySem PySem.Spec PyProof.Rows
end DL
namespace K06
open PySem PySem.Spec PyProof.Rows L2 DL
local macro_rules | `(tactic| walk_at "dp") => `(tactic| (first | with_reducible assumption | with_reducible exact zah | (with_reducible refine (zaj (by first | with_reducible assumption | exact Ne.symm (by with_reducible assumption))).trans ?_; first | with_reducible assumption | with_reducible exact zah | (with_reducible refine (zaj (by first | with_reducible assumption | exact Ne.symm (by with_reducible assumption))).trans ?_; first | with_reducible assumption | with_reducible exact zah | (with_reducible refine (zaj (by first | with_reducible assumption | exact Ne.symm (by with_reducible assumption))).trans ?_; first | with_reducible assumption | with_reducible exact zah | (with_reducible refine (zaj (by first | with_reducible assumption | exact Ne.symm (by with_reducible assumption))).trans ?_; first | with_reducible assumption | with_reducible exact zah))))))
local macro_rules | `(tactic| walk_at "q") => `(tactic| (first | exact .inl rfl | exact .inr rfl))
local macro_rules | `(tactic| nofun) => `(tactic| walk_at "q")
open LamX NdefX
section
variable {w:World} {K:PySem.W.Frag} {mg:Str->Option Value} {base:Heap}
theorem zgi:FnScope ["self", "words"] ["self", "words"] (defScope zbn):=⟨rfl,rfl,rfl,by decide +kernel,rfl,by decide +kernel,by decide +kernel⟩
theorem zj4 (T:TLm w K mg base):ExOk PG_ w K mg base "InvalidStart" "words" := by
 obtain ⟨fd,F⟩:=T.df 67 (d:=zdk)
 have bi:Binds K fd ["self", "words"] []:=FunD.bindsN F fun _ _ _ _ _ _ us hl=>match us,hl with | [_,_],_=>by kernel_rfl
 refine T.exc 0 92 93 94 rfl rfl rfl rfl ⟨fd,_,zrr F zgi rfl (fun X h1 h2=>⟨pe_var (by rw [h1];rfl) (.inl (by rw [h2];rfl)),pe_var (by rw [h1];rfl) (.inl (by rw [h2];rfl)),rfl⟩),bi⟩
theorem zgu:FnScope ["self", "name"] ["self", "name"] (defScope zbt):=⟨rfl,rfl,rfl,by decide +kernel,rfl,by decide +kernel,by decide +kernel⟩
theorem zhl (T:TLm w K mg base):ExOk PG_ w K mg base "UnknownCell" "name" := by
 obtain ⟨fd,F⟩:=T.df 68 (d:=zdL)
 have bi:Binds K fd ["self", "name"] []:=FunD.bindsN F fun _ _ _ _ _ _ us hl=>match us,hl with | [_,_],_=>by kernel_rfl
 refine T.exc 1 95 96 97 rfl rfl rfl rfl ⟨fd,_,zrr F zgu rfl (fun X h1 h2=>⟨pe_var (by rw [h1];rfl) (.inl (by rw [h2];rfl)),pe_var (by rw [h1];rfl) (.inl (by rw [h2];rfl)),rfl⟩),bi⟩
def zg0 (K:PySem.W.Frag) (W:XW):SM:=
 (zav (zcw K (zag 0) (zag 1) "name") (zav (zcw K (zag 0) (zag 2) "default") (zav (zcw K (zag 0) zl0 "slots") (zav (zcw K (zag 0) (mC .non) "given") (zcw K (zag 0) (mC (.bl false)) "over")))))
theorem zkY:FnScope ["self", "name", "default"] ["self", "name", "default"] (defScope zen):=⟨rfl,rfl,rfl,by decide +kernel,rfl,by decide +kernel,by decide +kernel⟩
def zfS (K:PySem.W.Frag):SpD:=spB 3 0 (zg0 K)
theorem zlh (T:TLm w K mg base):Fd PG_ w K mg base 2 (He.ma K (He.ga K "Run") "__init__") (zfS K):=by
 obtain ⟨fd,F⟩:=T.df 0 (d:=zie)
 have bi:Binds K fd ["self", "name", "default"] []:=FunD.bindsN F fun _ _ _ _ _ _ us hl=>match us,hl with | [_,_,_],_=>by kernel_rfl
 refine zaB (k:=1) F zkY bi rfl rfl fun cdv A outer s H E hr X eX W tk po=>?_
 subst eX
 unfold zg0
 exact (zad (zb5 (zaa 0 (pv 0)) (zaa 1 (pv 1)))
  (zad (zb5 (zaa 0 (pv 0)) (zaa 2 (pv 2)))
  (zad (zb5 (zaa 0 (pv 0)) ziA)
  (zad (zb5 (zaa 0 (pv 0)) zgE)
  (zai (zb5 (zaa 0 (pv 0)) zcn))))))
def zgh (K:PySem.W.Frag) (W:XW):SM:=
 (zav (zbQ (zs1 (He.ga K "TrueRun") (zfS K) W (zac (zag 1) (zac (zag 2) zal)))) (zav (zcw K (zag 0) (zag 3) "told_words") (zav (zcw K (zag 0) (zf2 zal) "notes") (zav (zcw K (zag 0) (zf2 zal) "peeks") (zav (zcw K (zag 0) (zf2 zal) "says") (zcw K (zag 0) (zf2 zal) "written"))))))
theorem zio:zjC ["self", "name", "default", "told"] ["self", "name", "default", "told"] (defScope zaW):=⟨rfl,rfl,rfl,by decide +kernel,rfl,by decide +kernel,by decide +kernel,by decide +kernel,by decide +kernel,by decide +kernel⟩
def zcg (K:PySem.W.Frag):SpD:=spB 4 0 (zgh K)
theorem zfo (T:TLm w K mg base):Fd PG_ w K mg base 4 (He.ma K (He.ga K "TrueRun") "__init__") (zcg K):=by
 have U:=T.su 0 (d:=zfl)
 obtain ⟨oc,od,kV,doc,pm,an,ct,osl,cda,cc,c1,c2,c3,x1,x2,x3,fvs,tf,cd,lk,hcd,kcode,hvs,kcell,kC⟩:=U.ex
 refine zvV (k:=3) (mr:=fun W=>(zav (zcw K (zag 0) (zag 3) "told_words") (zav (zcw K (zag 0) (zf2 zal) "notes") (zav (zcw K (zag 0) (zf2 zal) "peeks") (zav (zcw K (zag 0) (zf2 zal) "says") (zcw K (zag 0) (zf2 zal) "written")))))) (ma:=(zac (zag 1) (zac (zag 2) zal))) (P:=PG_) lk U.kp hcd zio (Binds.all fun us hl=>match us,hl with | [_,_,_,_],_=>rfl) rfl rfl rfl rfl kcode hvs kcell kC U.sub U.st U.hm U.ht U.hf (T.free 0) (by decide +kernel) (by rfl) ((zlh T).more (by decide)) (fun L=>⟨rfl,rfl,rfl,rfl,rfl⟩) fun A outer s H E hr X eX W tk=>?_
 subst eX
 exact ⟨(zab (zaa 1 (pv 1)) (zab (zaa 2 (pv 2)) zae)),
  (zad (zb5 (zaa 0 (pv 0)) (zaa 3 (pv 3)))
  (zad (zb5 (zaa 0 (pv 0)) (zbi zae))
  (zad (zb5 (zaa 0 (pv 0)) (zbi zae))
  (zad (zb5 (zaa 0 (pv 0)) (zbi zae))
  (zai (zb5 (zaa 0 (pv 0)) (zbi zae)))))))⟩
def zkg (K:PySem.W.Frag) (W:XW):SM:=
 mNx
theorem zny:FnScope ["self", "path"] ["self", "path"] (defScope zg4):=⟨rfl,rfl,rfl,by decide +kernel,rfl,by decide +kernel,by decide +kernel⟩
def zil (K:PySem.W.Frag):SpD:=spB 2 0 (zkg K)
theorem znD (T:TLm w K mg base):Fd PG_ w K mg base 2 (He.ma K (He.ga K "TrueRun") "did") (zil K):=by
 obtain ⟨fd,F⟩:=T.df 1 (d:=zkN)
 have bi:Binds K fd ["self", "path"] []:=FunD.bindsN F fun _ _ _ _ _ _ us hl=>match us,hl with | [_,_],_=>by kernel_rfl
 refine zaB (k:=1) F zny bi rfl rfl fun cdv A outer s H E hr X eX W tk po=>?_
 subst eX
 unfold zkg
 exact (zai zsM)
def zeJ (K:PySem.W.Frag) (W:XW):SM:=
 (za9 (zlZ (zd6 K (zag 0) "slots") (zag 1) (zd6 K (zag 0) "default")))
theorem zjh:FnScope ["self", "slot"] ["self", "slot"] (defScope zcD):=⟨rfl,rfl,rfl,by decide +kernel,rfl,by decide +kernel,by decide +kernel⟩
def zbq (K:PySem.W.Frag):SpD:=spB 2 0 (zeJ K)
theorem zcI (T:TLm w K mg base):Fd PG_ w K mg base 2 (He.ma K (He.ga K "TrueRun") "slot_word") (zbq K):=by
 obtain ⟨fd,F⟩:=T.df 2 (d:=zge)
 have bi:Binds K fd ["self", "slot"] []:=FunD.bindsN F fun _ _ _ _ _ _ us hl=>match us,hl with | [_,_],_=>by kernel_rfl
 refine zaB (k:=1) F zjh bi rfl rfl fun cdv A outer s H E hr X eX W tk po=>?_
 subst eX
 unfold zeJ
 exact (zai (zar (zjT (hu1 hr) (zaP (zaa 0 (pv 0))) (zaa 1 (pv 1)) (zaP (zaa 0 (pv 0))))))
def zeK (K:PySem.W.Frag) (W:XW):SM:=
 (zav (mIf (mB (mOp vIs (zd6 K (zag 0) "given") (mC .non)))
  (za9 (zd6 K (zag 0) "default"))
  mNx) (za9 (zd6 K (zag 0) "given")))
theorem zji:FnScope ["self"] ["self"] (defScope zcE):=⟨rfl,rfl,rfl,by decide +kernel,rfl,by decide +kernel,by decide +kernel⟩
def zcF (K:PySem.W.Frag):SpD:=spB 1 0 (zeK K)
theorem zf8 (T:TLm w K mg base):Fd PG_ w K mg base 2 (He.ma K (He.ga K "TrueRun") "held_word") (zcF K):=by
 obtain ⟨fd,F⟩:=T.df 3 (d:=zgf)
 have bi:Binds K fd ["self"] []:=FunD.bindsN F fun _ _ _ _ _ _ us hl=>match us,hl with | [_],_=>by kernel_rfl
 refine zaB (k:=1) F zji bi rfl rfl fun cdv A outer s H E hr X eX W tk po=>?_
 subst eX
 unfold zeK
 exact (zad (zaH (zat zsH (zaP (zaa 0 (pv 0))) zgE)
  (zai (zar (zaP (zaa 0 (pv 0)))))
  zau)
  (zai (zar (zaP (zaa 0 (pv 0))))))
def ziK (K:PySem.W.Frag) (W:XW):SM:=
 (zav (zgn (zdY (zag 0)) (gNm 2)
  (mIf (mB (mOp vEq (mOp vIx (zag 2) (mC (.int 0))) (zag 1)))
  (za9 (mC (.bl true)))
  mNx)) (za9 (mC (.bl false))))
theorem zjH:FnScope ["pairs", "cell", "pair"] ["pairs", "cell"] (defScope zfF):=⟨rfl,rfl,rfl,by decide +kernel,rfl,by decide +kernel,by decide +kernel⟩
def zfJ (K:PySem.W.Frag):SpD:=spB 2 1 (ziK K)
theorem zjO (T:TLm w K mg base):Fd PG_ w K mg base 2 (He.ga K "has_cell") (zfJ K):=by
 obtain ⟨fd,F⟩:=T.df 4 (d:=zj8)
 have bi:Binds K fd ["pairs", "cell"] []:=FunD.bindsN F fun _ _ _ _ _ _ us hl=>match us,hl with | [_,_],_=>by kernel_rfl
 refine zaB (k:=1) F zjH bi rfl rfl fun cdv A outer s H E hr X eX W tk po=>?_
 subst eX
 unfold ziK
 exact (zad (za8 po rfl (zaR (zaa 0 (pv 0))) (zaE (pg_name zjH.nd rfl (by nofun)))
  (zai (zaH (zat (za3 (zcW hr)) (zak (hu1 hr) (zaa 2 (pv 2)) zaf) (zaa 1 (pv 1)))
  (zai (zar zcn))
  zau)) (fun h1 h2 h3=>ps_for po rfl h1 h2 h3))
  (zai (zar zcn)))
def zfe (K:PySem.W.Frag) (W:XW):SM:=
 (za9 (mOp vIx (zd6 K (zag 0) "told_words") (zag 1)))
theorem zjJ:FnScope ["self", "cell"] ["self", "cell"] (defScope zc0):=⟨rfl,rfl,rfl,by decide +kernel,rfl,by decide +kernel,by decide +kernel⟩
def zc4 (K:PySem.W.Frag):SpD:=spB 2 0 (zfe K)
theorem zgA (T:TLm w K mg base):Fd PG_ w K mg base 2 (He.ma K (He.ga K "TrueRun") "hear") (zc4 K):=by
 obtain ⟨fd,F⟩:=T.df 5 (d:=zgJ)
 have bi:Binds K fd ["self", "cell"] []:=FunD.bindsN F fun _ _ _ _ _ _ us hl=>match us,hl with | [_,_],_=>by kernel_rfl
 refine zaB (k:=1) F zjJ bi rfl rfl fun cdv A outer s H E hr X eX W tk po=>?_
 subst eX
 unfold zfe
 exact (zai (zar (zak (hu1 hr) (zaP (zaa 0 (pv 0))) (zaa 1 (pv 1)))))
def zeI (K:PySem.W.Frag) (W:XW):SM:=
 (mIf (zhC (zfr (zaw (zfJ K) W (zac (zd6 K (zag 0) "notes") (zac (zag 1) zal)))))
  (zbQ (ziB okL zjL (zd6 K (zag 0) "notes") (zac (zcV (zac (zag 1) (zac (zag 2) zal))) zal)))
  mNx)
theorem zjg:FnScope ["self", "cell", "word"] ["self", "cell", "word"] (defScope zcC):=⟨rfl,rfl,rfl,by decide +kernel,rfl,by decide +kernel,by decide +kernel⟩
def zdS (K:PySem.W.Frag):SpD:=spB 3 0 (zeI K)
theorem zjo (T:TLm w K mg base):Fd PG_ w K mg base 4 (He.ma K (He.ga K "TrueRun") "noted") (zdS K):=by
 obtain ⟨fd,F⟩:=T.df 6 (d:=zgd)
 have bi:Binds K fd ["self", "cell", "word"] []:=FunD.bindsN F fun _ _ _ _ _ _ us hl=>match us,hl with | [_,_,_],_=>by kernel_rfl
 refine zaB (k:=3) F zjg bi rfl rfl fun cdv A outer s H E hr X eX W tk po=>?_
 subst eX
 unfold zeI
 exact (zai (zaH (zbw (za7 (zaA (zjO T) (hr.mono (by omega)) tk (T.glo 1) (zab (zaP (zaa 0 (pv 0))) (zab (zaa 1 (pv 1)) zae)))))
  (zai (zaS (zbc (zaP (zaa 0 (pv 0))) (zab (zaL (zab (zaa 1 (pv 1)) (zab (zaa 2 (pv 2)) zae))) zae))))
  zau))
def zd1 (K:PySem.W.Frag) (W:XW):SM:=
 (mIf (zhC (zfr (zaw (zfJ K) W (zac (zd6 K (zag 0) "peeks") (zac (zag 1) zal)))))
  (zbQ (ziB okL zjL (zd6 K (zag 0) "peeks") (zac (zcV (zac (zag 1) (zac (zag 2) zal))) zal)))
  mNx)
theorem zin:FnScope ["self", "cell", "word"] ["self", "cell", "word"] (defScope zcc):=⟨rfl,rfl,rfl,by decide +kernel,rfl,by decide +kernel,by decide +kernel⟩
def zdn (K:PySem.W.Frag):SpD:=spB 3 0 (zd1 K)
theorem zix (T:TLm w K mg base):Fd PG_ w K mg base 4 (He.ma K (He.ga K "TrueRun") "peeked") (zdn K):=by
 obtain ⟨fd,F⟩:=T.df 7 (d:=zfx)
 have bi:Binds K fd ["self", "cell", "word"] []:=FunD.bindsN F fun _ _ _ _ _ _ us hl=>match us,hl with | [_,_,_],_=>by kernel_rfl
 refine zaB (k:=3) F zin bi rfl rfl fun cdv A outer s H E hr X eX W tk po=>?_
 subst eX
 unfold zd1
 exact (zai (zaH (zbw (za7 (zaA (zjO T) (hr.mono (by omega)) tk (T.glo 1) (zab (zaP (zaa 0 (pv 0))) (zab (zaa 1 (pv 1)) zae)))))
  (zai (zaS (zbc (zaP (zaa 0 (pv 0))) (zab (zaL (zab (zaa 1 (pv 1)) (zab (zaa 2 (pv 2)) zae))) zae))))
  zau))
def zeH (K:PySem.W.Frag) (W:XW):SM:=
 (zbQ (ziB okL zjL (zd6 K (zag 0) "says") (zac (zag 1) zal)))
theorem zjf:FnScope ["self", "word"] ["self", "word"] (defScope zcB):=⟨rfl,rfl,rfl,by decide +kernel,rfl,by decide +kernel,by decide +kernel⟩
def zdR (K:PySem.W.Frag):SpD:=spB 2 0 (zeH K)
theorem zjn (T:TLm w K mg base):Fd PG_ w K mg base 2 (He.ma K (He.ga K "TrueRun") "spoke") (zdR K):=by
 obtain ⟨fd,F⟩:=T.df 8 (d:=zgc)
 have bi:Binds K fd ["self", "word"] []:=FunD.bindsN F fun _ _ _ _ _ _ us hl=>match us,hl with | [_,_],_=>by kernel_rfl
 refine zaB (k:=1) F zjf bi rfl rfl fun cdv A outer s H E hr X eX W tk po=>?_
 subst eX
 unfold zeH
 exact (zai (zaS (zbc (zaP (zaa 0 (pv 0))) (zab (zaa 1 (pv 1)) zae))))
def zeG (K:PySem.W.Frag) (W:XW):SM:=
 (zbQ (ziB okL zjL (zd6 K (zag 0) "written") (zac (zcV (zac (zag 1) (zac (zag 2) zal))) zal)))
theorem zje:FnScope ["self", "source", "word"] ["self", "source", "word"] (defScope zcA):=⟨rfl,rfl,rfl,by decide +kernel,rfl,by decide +kernel,by decide +kernel⟩
def zdQ (K:PySem.W.Frag):SpD:=spB 3 0 (zeG K)
theorem zjm (T:TLm w K mg base):Fd PG_ w K mg base 2 (He.ma K (He.ga K "TrueRun") "wrote") (zdQ K):=by
 obtain ⟨fd,F⟩:=T.df 9 (d:=zgb)
 have bi:Binds K fd ["self", "source", "word"] []:=FunD.bindsN F fun _ _ _ _ _ _ us hl=>match us,hl with | [_,_,_],_=>by kernel_rfl
 refine zaB (k:=1) F zje bi rfl rfl fun cdv A outer s H E hr X eX W tk po=>?_
 subst eX
 unfold zeG
 exact (zai (zaS (zbc (zaP (zaa 0 (pv 0))) (zab (zaL (zab (zaa 1 (pv 1)) (zab (zaa 2 (pv 2)) zae))) zae))))
def zgZ (K:PySem.W.Frag) (W:XW):SM:=
 (mIf (mB (mOp vEq (mOp vIx (zag 1) (mC (.int 0))) (mC (.str "read"))))
  (zav (zaM (zbG (He.ga K "TrueRun") "hear" (zc4 K) W (zag 0) (zac (mOp vIx (zag 1) (mC (.int 1))) zal)) (gNm 2)) (zav (zbQ (zbG (He.ga K "TrueRun") "noted" (zdS K) W (zag 0) (zac (mOp vIx (zag 1) (mC (.int 1))) (zac (zag 2) zal)))) (zaM (zag 2) (gIx (zd6 K (zag 0) "slots") (mOp vIx (zag 1) (mC (.int 2)))))))
  (mIf (mB (mOp vEq (mOp vIx (zag 1) (mC (.int 0))) (mC (.str "peek"))))
  (zav (zaM (zbG (He.ga K "TrueRun") "hear" (zc4 K) W (zag 0) (zac (mOp vIx (zag 1) (mC (.int 1))) zal)) (gNm 2)) (zav (zbQ (zbG (He.ga K "TrueRun") "peeked" (zdn K) W (zag 0) (zac (mOp vIx (zag 1) (mC (.int 1))) (zac (zag 2) zal)))) (zaM (zag 2) (gIx (zd6 K (zag 0) "slots") (mOp vIx (zag 1) (mC (.int 2)))))))
  (mIf (mB (mOp vEq (mOp vIx (zag 1) (mC (.int 0))) (mC (.str "put"))))
  (zaM (mOp vIx (zag 1) (mC (.int 2))) (gIx (zd6 K (zag 0) "slots") (mOp vIx (zag 1) (mC (.int 1)))))
  (mIf (mB (mOp vEq (mOp vIx (zag 1) (mC (.int 0))) (mC (.str "give"))))
  (zav (zcw K (zag 0) (zbG (He.ga K "TrueRun") "slot_word" (zbq K) W (zag 0) (zac (mOp vIx (zag 1) (mC (.int 1))) zal)) "given") (zcw K (zag 0) (mC (.bl true)) "over"))
  (mIf (mB (mOp vEq (mOp vIx (zag 1) (mC (.int 0))) (mC (.str "say"))))
  (zbQ (zbG (He.ga K "TrueRun") "spoke" (zdR K) W (zag 0) (zac (zbG (He.ga K "TrueRun") "slot_word" (zbq K) W (zag 0) (zac (mOp vIx (zag 1) (mC (.int 1))) zal)) zal)))
  (zbQ (zbG (He.ga K "TrueRun") "wrote" (zdQ K) W (zag 0) (zac (mOp vIx (zag 1) (mC (.int 1))) (zac (zbG (He.ga K "TrueRun") "slot_word" (zbq K) W (zag 0) (zac (mOp vIx (zag 1) (mC (.int 2))) zal)) zal)))))))))
theorem zfX:FnScope ["self", "row", "word"] ["self", "row"] (defScope zem):=⟨rfl,rfl,rfl,by decide +kernel,rfl,by decide +kernel,by decide +kernel⟩
def zfR (K:PySem.W.Frag):SpD:=spB 2 1 (zgZ K)
theorem zlg (T:TLm w K mg base):Fd PG_ w K mg base 6 (He.ma K (He.ga K "TrueRun") "do_row") (zfR K):=by
 obtain ⟨fd,F⟩:=T.df 10 (d:=zid)
 have bi:Binds K fd ["self", "row"] []:=FunD.bindsN F fun _ _ _ _ _ _ us hl=>match us,hl with | [_,_],_=>by kernel_rfl
 refine zaB (k:=5) F zfX bi rfl rfl fun cdv A outer s H E hr X eX W tk po=>?_
 subst eX
 unfold zgZ
 exact (zai (zaH (zat (za3 (zcW hr)) (zak (hu1 hr) (zaa 1 (pv 1)) zaf) zap)
  (zad (zan (i:=2) (zde (zaa 0 (pv 0)) (T.cls 2) (T.meth 3) (zgA T) (hr.mono (by omega)) tk (zab (zak (hu1 hr) (zaa 1 (pv 1)) zaf) zae)) fun h=>ps_set zfX.nd rfl (by nofun) h)
  (zad (zaS (zde (zaa 0 (pv 0)) (T.cls 2) (T.meth 4) (zjo T) (hr.mono (by omega)) tk (zab (zak (hu1 hr) (zaa 1 (pv 1)) zaf) (zab (zaa 2 (pv 2)) zae))))
  (zai (zcu (zaa 2 (pv 2)) (zcU (hu1 hr) (zaP (zaa 0 (pv 0))) (zak (hu1 hr) (zaa 1 (pv 1)) zaf))))))
  (zai (zaH (zat (za3 (zcW hr)) (zak (hu1 hr) (zaa 1 (pv 1)) zaf) zap)
  (zad (zan (i:=2) (zde (zaa 0 (pv 0)) (T.cls 2) (T.meth 3) (zgA T) (hr.mono (by omega)) tk (zab (zak (hu1 hr) (zaa 1 (pv 1)) zaf) zae)) fun h=>ps_set zfX.nd rfl (by nofun) h)
  (zad (zaS (zde (zaa 0 (pv 0)) (T.cls 2) (T.meth 5) (zix T) (hr.mono (by omega)) tk (zab (zak (hu1 hr) (zaa 1 (pv 1)) zaf) (zab (zaa 2 (pv 2)) zae))))
  (zai (zcu (zaa 2 (pv 2)) (zcU (hu1 hr) (zaP (zaa 0 (pv 0))) (zak (hu1 hr) (zaa 1 (pv 1)) zaf))))))
  (zai (zaH (zat (za3 (zcW hr)) (zak (hu1 hr) (zaa 1 (pv 1)) zaf) zap)
  (zai (zcu (zak (hu1 hr) (zaa 1 (pv 1)) zaf) (zcU (hu1 hr) (zaP (zaa 0 (pv 0))) (zak (hu1 hr) (zaa 1 (pv 1)) zaf))))
  (zai (zaH (zat (za3 (zcW hr)) (zak (hu1 hr) (zaa 1 (pv 1)) zaf) zap)
  (zad (zb5 (zaa 0 (pv 0)) (zde (zaa 0 (pv 0)) (T.cls 2) (T.meth 6) (zcI T) (hr.mono (by omega)) tk (zab (zak (hu1 hr) (zaa 1 (pv 1)) zaf) zae)))
  (zai (zb5 (zaa 0 (pv 0)) zcn)))
  (zai (zaH (zat (za3 (zcW hr)) (zak (hu1 hr) (zaa 1 (pv 1)) zaf) zap)
  (zai (zaS (zde (zaa 0 (pv 0)) (T.cls 2) (T.meth 7) (zjn T) (hr.mono (by omega)) tk (zab (zde (zaa 0 (pv 0)) (T.cls 2) (T.meth 6) (zcI T) (hr.mono (by omega)) tk (zab (zak (hu1 hr) (zaa 1 (pv 1)) zaf) zae)) zae))))
  (zai (zaS (zde (zaa 0 (pv 0)) (T.cls 2) (T.meth 8) (zjm T) (hr.mono (by omega)) tk (zab (zak (hu1 hr) (zaa 1 (pv 1)) zaf) (zab (zde (zaa 0 (pv 0)) (T.cls 2) (T.meth 6) (zcI T) (hr.mono (by omega)) tk (zab (zak (hu1 hr) (zaa 1 (pv 1)) zaf) zae)) zae)))))))))))))))
def zf6 (K:PySem.W.Frag) (rec:SpD) (W:XW):SM:=
 (zgn (zhk (zac (zag 1) zal)) (gT 2 (gC (gNm 3) (gC (gNm 4) gN)))
  (zav (mIf (zfr (zd6 K (zag 0) "over"))
  zqe
  mNx) (zav (zaM (mOp zcp (zag 2) (zcV (zac (zag 3) zal))) (gNm 5)) (zav (zbQ (zbG (He.ga K "TrueRun") "did" (zil K) W (zag 0) (zac (zag 5) zal))) (mIf (mB (mOp vEq (mOp vIx (zag 4) (mC (.int 0))) (mC (.str "if"))))
  (zav (zaM (zqf (mB (mOp vEq (zbG (He.ga K "TrueRun") "slot_word" (zbq K) W (zag 0) (zac (mOp vIx (zag 4) (mC (.int 1))) zal)) (mOp vIx (zag 4) (mC (.int 2))))) (mC (.int 0)) (mC (.int 1))) (gNm 6)) (zbQ (zbG (He.ga K "TrueRun") "do_rows" rec W (zag 0) (zac (mOp vIx (zag 4) (mOp zcp (mC (.int 3)) (zag 6))) (zac (mOp zcp (zag 5) (zcV (zac (zag 6) zal))) zal)))))
  (zbQ (zbG (He.ga K "TrueRun") "do_row" (zfR K) W (zag 0) (zac (zag 4) zal))))))))
theorem zcs:FnScope ["self", "rows", "path", "place", "row", "here", "side"] ["self", "rows", "path"] (defScope zdB):=⟨rfl,rfl,rfl,by decide +kernel,rfl,by decide +kernel,by decide +kernel⟩
def zcr (K:PySem.W.Frag):Nat->SpD
 | 0=>fun _ _ _ _=>False
 | n+1=>spB 3 4 (zf6 K (zcr K n))
theorem zhg (T:TLm w K mg base):∀ n,Fd PG_ w K mg base (8+n) (He.ma K (He.ga K "TrueRun") "do_rows") (zcr K n):=by
 obtain ⟨fd,F⟩:=T.df 11 (d:=zhp)
 have bi:Binds K fd ["self", "rows", "path"] []:=FunD.bindsN F fun _ _ _ _ _ _ us hl=>match us,hl with | [_,_,_],_=>by kernel_rfl
 intro n
 induction n with
 | zero=>exact zmD bi F.kp
 | succ n RC=>
 refine zaB (k:=8+n) F zcs bi rfl rfl fun cdv A outer s H E hr X eX W tk po=>?_
 subst eX
 unfold zf6
 exact (zai (za8 po rfl (zhA (zab (zaa 1 (pv 1)) zae) (T.free 9)) (ziV rfl (zbC (zaE (pg_name zcs.nd rfl (by nofun))) (zbC (zaE (pg_name zcs.nd rfl (by nofun))) zgD)))
  (zad (zaH (za7 (zaP (zaa 0 (pv 0))))
  (zai zsL)
  zau)
  (zad (zan (i:=5) (zaF zaK (zaa 2 (pv 2)) (zaL (zab (zaa 3 (pv 3)) zae))) fun h=>ps_set zcs.nd rfl (by nofun) h)
  (zad (zaS (zde (zaa 0 (pv 0)) (T.cls 2) (T.meth 10) (znD T) (hr.mono (by omega)) tk (zab (zaa 5 (pv 5)) zae)))
  (zai (zaH (zat (za3 (zcW hr)) (zak (hu1 hr) (zaa 4 (pv 4)) zaf) zap)
  (zad (zan (i:=6) (znI (zat (za3 (zcW hr)) (zde (zaa 0 (pv 0)) (T.cls 2) (T.meth 6) (zcI T) (hr.mono (by omega)) tk (zab (zak (hu1 hr) (zaa 4 (pv 4)) zaf) zae)) (zak (hu1 hr) (zaa 4 (pv 4)) zaf)) zaf zaf) fun h=>ps_set zcs.nd rfl (by nofun) h)
  (zai (zaS (zde (zaa 0 (pv 0)) (T.cls 2) (T.meth 11) RC (hr.mono (by omega)) tk (zab (zak (hu1 hr) (zaa 4 (pv 4)) (zaF zaK zaf (zaa 6 (pv 6)))) (zab (zaF zaK (zaa 5 (pv 5)) (zaL (zab (zaa 6 (pv 6)) zae))) zae))))))
  (zai (zaS (zde (zaa 0 (pv 0)) (T.cls 2) (T.meth 12) (zlg T) (hr.mono (by omega)) tk (zab (zaa 4 (pv 4)) zae))))))))) (fun h1 h2 h3=>ps_for po rfl h1 h2 h3)))
def zdt (K:PySem.W.Frag) (W:XW):SM:=
 (zav (mIf (mOr (zhC (zfr (mCB zkk (zac (zag 1) (zac (mC (.ty "tuple")) zal))))) (mB (mOp vNe (mCB zdN (zac (zag 1) zal)) (mCB zdN (zac (zd6 K (zag 0) "sources") zal)))))
  (za9 (mC (.bl false)))
  mNx) (zav (zgn (zdY (zag 1)) (gNm 2)
  (mIf (mOr (zhC (zfr (mCB zkk (zac (zag 2) (zac (mC (.ty "str")) zal))))) (mB (mOp ziM (zag 2) (zd6 K (zag 0) "words"))))
  (za9 (mC (.bl false)))
  mNx)) (za9 (mC (.bl true)))))
theorem zeX:FnScope ["program", "words", "word"] ["program", "words"] (defScope zbY):=⟨rfl,rfl,rfl,by decide +kernel,rfl,by decide +kernel,by decide +kernel⟩
def zc2 (K:PySem.W.Frag):SpD:=spB 2 1 (zdt K)
theorem zhT (T:TLm w K mg base):Fd PG_ w K mg base 2 (He.ga K "are_start_words") (zc2 K):=by
 obtain ⟨fd,F⟩:=T.df 12 (d:=ze7)
 have bi:Binds K fd ["program", "words"] []:=FunD.bindsN F fun _ _ _ _ _ _ us hl=>match us,hl with | [_,_],_=>by kernel_rfl
 refine zaB (k:=1) F zeX bi rfl rfl fun cdv A outer s H E hr X eX W tk po=>?_
 subst eX
 unfold zdt
 exact (zad (zaH (MW.mt (zhz (zbw (za7 (zas zgg (zab (zaa 1 (pv 1)) (zab (zjp (T.free 14) boot_tuple) zae)) fun h1 h2=>pe_callB h1 rfl (T.free 15) boot_isinstance h2))) (ze3 (zat (zko (zcW hr)) (zas za2 (zab (zaa 1 (pv 1)) zae) fun h1 h2=>pe_callB h1 rfl (T.free 13) boot_len h2) (zas za2 (zab (zaP (zaa 0 (pv 0))) zae) fun h1 h2=>pe_callB h1 rfl (T.free 13) boot_len h2)))))
  (zai (zar zcn))
  zau)
  (zad (za8 po rfl (zaR (zaa 1 (pv 1))) (zaE (pg_name zeX.nd rfl (by nofun)))
  (zai (zaH (MW.mt (zhz (zbw (za7 (zas zgg (zab (zaa 2 (pv 2)) (zab (zjp (T.free 16) boot_str) zae)) fun h1 h2=>pe_callB h1 rfl (T.free 15) boot_isinstance h2))) (ze3 (zat (zf0 (zkI hr)) (zaa 2 (pv 2)) (zaP (zaa 0 (pv 0)))))))
  (zai (zar zcn))
  zau)) (fun h1 h2 h3=>ps_for po rfl h1 h2 h3))
  (zai (zar zcn))))
def zgN (K:PySem.W.Frag) (W:XW):SM:=
 (zav (mIf (zhC (zfr (zaw (zc2 K) W (zac (zag 0) (zac (zag 1) zal)))))
  (znb (He.ga K "InvalidStart") "words" W (zac (zag 1) zal))
  mNx) (zav (zaM zl0 (gNm 2)) (zav (zgn (zqr (zac (zd6 K (zag 0) "sources") (zac (zag 1) zal))) (gT 2 (gC (gNm 3) (gC (gNm 4) gN)))
  (zaM (zag 4) (gIx (zag 2) (zag 3)))) (zav (zgn (zhk (zac (zd6 K (zag 0) "derived") zal)) (gT 2 (gC (gNm 5) (gC (gNm 6) gN)))
  (zav (zaM (zjY (He.ga K "TrueRun") (zcg K) W (zac (mOp vIx (zag 6) (mC (.int 0))) (zac (mOp vIx (zd6 K (zag 0) "words") (mC (.int 0))) (zac (zag 2) zal)))) (gNm 7)) (zav (zbQ (zbG (He.ga K "TrueRun") "do_rows" (zcr K 6) W (zag 7) (zac (mOp vIx (zag 6) (mC (.int 1))) (zac (zcV (zac (mC (.str "derived")) (zac (zag 5) zal))) zal)))) (zaM (zbG (He.ga K "TrueRun") "held_word" (zcF K) W (zag 7) zal) (gIx (zag 2) (mOp vIx (zag 6) (mC (.int 0)))))))) (za9 (zag 2))))))
theorem zbM:FnScope ["program", "words", "table", "name", "word", "index", "pair", "run"] ["program", "words"] (defScope zea):=⟨rfl,rfl,rfl,by decide +kernel,rfl,by decide +kernel,by decide +kernel⟩
def zfH (K:PySem.W.Frag):SpD:=spB 2 6 (zgN K)
theorem zk7 (T:TLm w K mg base):Fd PG_ w K mg base 16 (He.ga K "true_table") (zfH K):=by
 obtain ⟨fd,F⟩:=T.df 13 (d:=zh0)
 have bi:Binds K fd ["program", "words"] []:=FunD.bindsN F fun _ _ _ _ _ _ us hl=>match us,hl with | [_,_],_=>by kernel_rfl
 refine zaB (k:=15) F zbM bi rfl rfl fun cdv A outer s H E hr X eX W tk po=>?_
 subst eX
 unfold zgN
 exact (zad (zaH (zbw (za7 (zaA (zhT T) (hr.mono (by omega)) tk (T.glo 17) (zab (zaa 0 (pv 0)) (zab (zaa 1 (pv 1)) zae)))))
  (zai (zlm rfl tk (hr.mono (by omega)) (zj4 T) (zab (zaa 1 (pv 1)) zae)))
  zau)
  (zad (zan (i:=2) ziA fun h=>ps_set zbM.nd rfl (by nofun) h)
  (zad (za8 po rfl (zv5 (zab (zaP (zaa 0 (pv 0))) (zab (zaa 1 (pv 1)) zae)) (T.free 18)) (ziV rfl (zbC (zaE (pg_name zbM.nd rfl (by nofun))) (zbC (zaE (pg_name zbM.nd rfl (by nofun))) zgD)))
  (zai (zcu (zaa 4 (pv 4)) (zcU (hu1 hr) (zaa 2 (pv 2)) (zaa 3 (pv 3))))) (fun h1 h2 h3=>ps_for po rfl h1 h2 h3))
  (zad (za8 po rfl (zhA (zab (zaP (zaa 0 (pv 0))) zae) (T.free 9)) (ziV rfl (zbC (zaE (pg_name zbM.nd rfl (by nofun))) (zbC (zaE (pg_name zbM.nd rfl (by nofun))) zgD)))
  (zad (zan (i:=7) (zhB (T.mkr 19) (zfo T) (hr.mono (by omega)) tk (T.glo 20) (zab (zak (hu1 hr) (zaa 6 (pv 6)) zaf) (zab (zak (hu1 hr) (zaP (zaa 0 (pv 0))) zaf) (zab (zaa 2 (pv 2)) zae)))) fun h=>ps_set zbM.nd rfl (by nofun) h)
  (zad (zaS (zde (zaa 7 (pv 7)) (T.cls 2) (T.meth 11) (zhg T 6) (hr.mono (by omega)) tk (zab (zak (hu1 hr) (zaa 6 (pv 6)) zaf) (zab (zaL (zab zap (zab (zaa 5 (pv 5)) zae))) zae))))
  (zai (zcu (zm9 (zaa 7 (pv 7)) (T.cls 2) (T.meth 21) (zf8 T) (hr.mono (by omega)) tk) (zcU (hu1 hr) (zaa 2 (pv 2)) (zak (hu1 hr) (zaa 6 (pv 6)) zaf)))))) (fun h1 h2 h3=>ps_for po rfl h1 h2 h3))
  (zai (zar (zaa 2 (pv 2))))))))
def zkf (K:PySem.W.Frag) (W:XW):SM:=
 (zav (mIf (mOr (zhC (zfr (mCB zkk (zac (zag 0) (zac (mC (.ty "str")) zal))))) (zhC (mB (ziW vLe vLe (mC (.int 1)) (mCB zdN (zac (zag 0) zal)) (mC (.int 8))))))
  (za9 (mC (.bl false)))
  mNx) (zav (zgn (zdY (zag 0)) (gNm 1)
  (mIf (zhC (mB (ziW vLe vLe (mC (.str "a")) (zag 1) (mC (.str "z")))))
  (za9 (mC (.bl false)))
  mNx)) (za9 (mC (.bl true)))))
theorem zkv:FnScope ["value", "letter"] ["value"] (defScope zg3):=⟨rfl,rfl,rfl,by decide +kernel,rfl,by decide +kernel,by decide +kernel⟩
def zcf (K:PySem.W.Frag):SpD:=spB 1 1 (zkf K)
theorem zdq (T:TLm w K mg base):Fd PG_ w K mg base 2 (He.ga K "is_name") (zcf K):=by
 obtain ⟨fd,F⟩:=T.df 14 (d:=zkM)
 have bi:Binds K fd ["value"] []:=FunD.bindsN F fun _ _ _ _ _ _ us hl=>match us,hl with | [_],_=>by kernel_rfl
 refine zaB (k:=1) F zkv bi rfl rfl fun cdv A outer s H E hr X eX W tk po=>?_
 subst eX
 unfold zkf
 exact (zad (zaH (MW.mt (zhz (zbw (za7 (zas zgg (zab (zaa 0 (pv 0)) (zab (zjp (T.free 16) boot_str) zae)) fun h1 h2=>pe_callB h1 rfl (T.free 15) boot_isinstance h2))) (ze3 (zbw (zll znE znE zaf (zas za2 (zab (zaa 0 (pv 0)) zae) fun h1 h2=>pe_callB h1 rfl (T.free 13) boot_len h2) zaf)))))
  (zai (zar zcn))
  zau)
  (zad (za8 po rfl (zaR (zaa 0 (pv 0))) (zaE (pg_name zkv.nd rfl (by nofun)))
  (zai (zaH (zbw (zll znE znE zap (zaa 1 (pv 1)) zap))
  (zai (zar zcn))
  zau)) (fun h1 h2 h3=>ps_for po rfl h1 h2 h3))
  (zai (zar zcn))))
def zhG (K:PySem.W.Frag) (W:XW):SM:=
 (zav (mIf (mOr (zhC (zfr (mCB zkk (zac (zag 0) (zac (mC (.ty "tuple")) zal))))) (zhC (mB (ziW vLe vLe (zag 1) (mCB zdN (zac (zag 0) zal)) (zag 2)))))
  (za9 (mC (.bl false)))
  mNx) (zav (zaM (mCB zrB zal) (gNm 3)) (zav (zgn (zdY (zag 0)) (gNm 4)
  (zav (mIf (mOr (zhC (zfr (zaw (zcf K) W (zac (zag 4) zal)))) (mB (mOp vIn (zag 4) (zag 3))))
  (za9 (mC (.bl false)))
  mNx) (zbQ (zxd (zag 3) (zac (zag 4) zal))))) (za9 (mC (.bl true))))))
theorem zgt:FnScope ["value", "least", "most", "seen", "name"] ["value", "least", "most"] (defScope zeN):=⟨rfl,rfl,rfl,by decide +kernel,rfl,by decide +kernel,by decide +kernel⟩
def zeU (K:PySem.W.Frag):SpD:=spB 3 2 (zhG K)
theorem ziQ (T:TLm w K mg base):Fd PG_ w K mg base 4 (He.ga K "are_names") (zeU K):=by
 obtain ⟨fd,F⟩:=T.df 15 (d:=zi4)
 have bi:Binds K fd ["value", "least", "most"] []:=FunD.bindsN F fun _ _ _ _ _ _ us hl=>match us,hl with | [_,_,_],_=>by kernel_rfl
 refine zaB (k:=3) F zgt bi rfl rfl fun cdv A outer s H E hr X eX W tk po=>?_
 subst eX
 unfold zhG
 exact (zad (zaH (MW.mt (zhz (zbw (za7 (zas zgg (zab (zaa 0 (pv 0)) (zab (zjp (T.free 14) boot_tuple) zae)) fun h1 h2=>pe_callB h1 rfl (T.free 15) boot_isinstance h2))) (ze3 (zbw (zll znE znE (zaa 1 (pv 1)) (zas za2 (zab (zaa 0 (pv 0)) zae) fun h1 h2=>pe_callB h1 rfl (T.free 13) boot_len h2) (zaa 2 (pv 2)))))))
  (zai (zar zcn))
  zau)
  (zad (zan (i:=3) (zoK ztw fun h1=>pe_callTy0 h1 rfl (T.free 22) boot_set) fun h=>ps_set zgt.nd rfl (by nofun) h)
  (zad (za8 po rfl (zaR (zaa 0 (pv 0))) (zaE (pg_name zgt.nd rfl (by nofun)))
  (zad (zaH (MW.mt (zhz (zbw (za7 (zaA (zdq T) (hr.mono (by omega)) tk (T.glo 23) (zab (zaa 4 (pv 4)) zae)))) (ze3 (zat (ziz (zkI hr)) (zaa 4 (pv 4)) (zaa 3 (pv 3))))))
  (zai (zar zcn))
  zau)
  (zai (zaS (zv7 (zaa 3 (pv 3)) (zab (zaa 4 (pv 4)) zae))))) (fun h1 h2 h3=>ps_for po rfl h1 h2 h3))
  (zai (zar zcn)))))
def zhF (K:PySem.W.Frag) (W:XW):SM:=
 (zav (mIf (mOr (zhC (zfr (mCB zkk (zac (zag 0) (zac (mC (.ty "tuple")) zal))))) (mB (mOp vGt (mCB zdN (zac (zag 0) zal)) (zag 1))))
  (za9 (mC (.bl false)))
  mNx) (zav (zaM (mCB znt (zac (zag 2) zal)) (gNm 3)) (zav (zgn (zdY (zag 0)) (gNm 4)
  (zav (mIf (mOr (zhC (zfr (mCB zkk (zac (zag 4) (zac (mC (.ty "tuple")) zal))))) (mB (mOp vNe (mCB zdN (zac (zag 4) zal)) (mC (.int 2)))))
  (za9 (mC (.bl false)))
  mNx) (zav (mIf (mOr (zhC (zfr (zaw (zcf K) W (zac (mOp vIx (zag 4) (mC (.int 0))) zal)))) (mB (mOp vIn (mOp vIx (zag 4) (mC (.int 0))) (zag 3))))
  (za9 (mC (.bl false)))
  mNx) (zaM (mC (.bl true)) (gIx (zag 3) (mOp vIx (zag 4) (mC (.int 0)))))))) (za9 (mC (.bl true))))))
theorem zgs:FnScope ["value", "most", "taken", "seen", "pair"] ["value", "most", "taken"] (defScope zeM):=⟨rfl,rfl,rfl,by decide +kernel,rfl,by decide +kernel,by decide +kernel⟩
def zeT (K:PySem.W.Frag):SpD:=spB 3 2 (zhF K)
theorem ziP (T:TLm w K mg base):Fd PG_ w K mg base 4 (He.ga K "are_pairs") (zeT K):=by
 obtain ⟨fd,F⟩:=T.df 16 (d:=zi3)
 have bi:Binds K fd ["value", "most", "taken"] []:=FunD.bindsN F fun _ _ _ _ _ _ us hl=>match us,hl with | [_,_,_],_=>by kernel_rfl
 refine zaB (k:=3) F zgs bi rfl rfl fun cdv A outer s H E hr X eX W tk po=>?_
 subst eX
 unfold zhF
 exact (zad (zaH (MW.mt (zhz (zbw (za7 (zas zgg (zab (zaa 0 (pv 0)) (zab (zjp (T.free 14) boot_tuple) zae)) fun h1 h2=>pe_callB h1 rfl (T.free 15) boot_isinstance h2))) (ze3 (zat zlW (zas za2 (zab (zaa 0 (pv 0)) zae) fun h1 h2=>pe_callB h1 rfl (T.free 13) boot_len h2) (zaa 1 (pv 1))))))
  (zai (zar zcn))
  zau)
  (zad (zan (i:=3) (zaN ztx (zab (zaa 2 (pv 2)) zae) fun h1 h2=>pe_callTy h1 rfl (T.free 24) boot_dict h2) fun h=>ps_set zgs.nd rfl (by nofun) h)
  (zad (za8 po rfl (zaR (zaa 0 (pv 0))) (zaE (pg_name zgs.nd rfl (by nofun)))
  (zad (zaH (MW.mt (zhz (zbw (za7 (zas zgg (zab (zaa 4 (pv 4)) (zab (zjp (T.free 14) boot_tuple) zae)) fun h1 h2=>pe_callB h1 rfl (T.free 15) boot_isinstance h2))) (ze3 (zat (zko (zcW hr)) (zas za2 (zab (zaa 4 (pv 4)) zae) fun h1 h2=>pe_callB h1 rfl (T.free 13) boot_len h2) zaf))))
  (zai (zar zcn))
  zau)
  (zad (zaH (MW.mt (zhz (zbw (za7 (zaA (zdq T) (hr.mono (by omega)) tk (T.glo 23) (zab (zak (hu1 hr) (zaa 4 (pv 4)) zaf) zae)))) (ze3 (zat (ziz (zkI hr)) (zak (hu1 hr) (zaa 4 (pv 4)) zaf) (zaa 3 (pv 3))))))
  (zai (zar zcn))
  zau)
  (zai (zcu zcn (zcU (hu1 hr) (zaa 3 (pv 3)) (zak (hu1 hr) (zaa 4 (pv 4)) zaf)))))) (fun h1 h2 h3=>ps_for po rfl h1 h2 h3))
  (zai (zar zcn)))))
def zgO (K:PySem.W.Frag) (rec:SpD) (W:XW):SM:=
 (zav (zaM (mCB zdN (zac (zag 0) zal)) (gNm 1)) (zav (zgn (zdY (zag 0)) (gNm 2)
  (mIf (mB (mOp vEq (mOp vIx (zag 2) (mC (.int 0))) (mC (.str "if"))))
  (zpo 1 (mOp zcp (zaw rec W (zac (mOp vIx (zag 2) (mC (.int 3))) zal)) (zaw rec W (zac (mOp vIx (zag 2) (mC (.int 4))) zal))) zkQ)
  mNx)) (za9 (zag 1))))
theorem zes:FnScope ["rows", "total", "row"] ["rows"] (defScope zeb):=⟨rfl,rfl,rfl,by decide +kernel,rfl,by decide +kernel,by decide +kernel⟩
def zeo (K:PySem.W.Frag):Nat->SpD
 | 0=>fun _ _ _ _=>False
 | n+1=>spB 1 2 (zgO K (zeo K n))
theorem zk8 (T:TLm w K mg base):∀ n,Fd PG_ w K mg base (2+n) (He.ga K "count_rows") (zeo K n):=by
 obtain ⟨fd,F⟩:=T.df 17 (d:=zh2)
 have bi:Binds K fd ["rows"] []:=FunD.bindsN F fun _ _ _ _ _ _ us hl=>match us,hl with | [_],_=>by kernel_rfl
 intro n
 induction n with
 | zero=>exact zmD bi F.kp
 | succ n RC=>
 refine zaB (k:=2+n) F zes bi rfl rfl fun cdv A outer s H E hr X eX W tk po=>?_
 subst eX
 unfold zgO
 exact (zad (zan (i:=1) (zas za2 (zab (zaa 0 (pv 0)) zae) fun h1 h2=>pe_callB h1 rfl (T.free 13) boot_len h2) fun h=>ps_set zes.nd rfl (by nofun) h)
  (zad (za8 po rfl (zaR (zaa 0 (pv 0))) (zaE (pg_name zes.nd rfl (by nofun)))
  (zai (zaH (zat (za3 (zcW hr)) (zak (hu1 hr) (zaa 2 (pv 2)) zaf) zap)
  (zai (zm4 (i:=1) (zaF zaK (zaA RC (hr.mono (by omega)) tk (T.glo 25) (zab (zak (hu1 hr) (zaa 2 (pv 2)) zaf) zae)) (zaA RC (hr.mono (by omega)) tk (T.glo 25) (zab (zak (hu1 hr) (zaa 2 (pv 2)) zaf) zae))) zkC fun h1 h2=>ps_aug zes.nd rfl (by nofun) h1 h2))
  zau)) (fun h1 h2 h3=>ps_for po rfl h1 h2 h3))
  (zai (zar (zaa 1 (pv 1))))))
def zdi (K:PySem.W.Frag) (W:XW):SM:=
 (zav (zcw K (zag 0) (zag 1) "kind") (zav (zcw K (zag 0) (zag 2) "words") (zav (zcw K (zag 0) (zag 3) "sources") (zcw K (zag 0) (zag 4) "readable"))))
theorem zhu:FnScope ["self", "kind", "words", "sources", "readable"] ["self", "kind", "words", "sources", "readable"] (defScope zbK):=⟨rfl,rfl,rfl,by decide +kernel,rfl,by decide +kernel,by decide +kernel⟩
def zbL (K:PySem.W.Frag):SpD:=spB 5 0 (zdi K)
theorem zeA (T:TLm w K mg base):Fd PG_ w K mg base 2 (He.ma K (He.ga K "BodyCheck") "__init__") (zbL K):=by
 obtain ⟨fd,F⟩:=T.df 18 (d:=zeD)
 have bi:Binds K fd ["self", "kind", "words", "sources", "readable"] []:=FunD.bindsN F fun _ _ _ _ _ _ us hl=>match us,hl with | [_,_,_,_,_],_=>by kernel_rfl
 refine zaB (k:=1) F zhu bi rfl rfl fun cdv A outer s H E hr X eX W tk po=>?_
 subst eX
 unfold zdi
 exact (zad (zb5 (zaa 0 (pv 0)) (zaa 1 (pv 1)))
  (zad (zb5 (zaa 0 (pv 0)) (zaa 2 (pv 2)))
  (zad (zb5 (zaa 0 (pv 0)) (zaa 3 (pv 3)))
  (zai (zb5 (zaa 0 (pv 0)) (zaa 4 (pv 4)))))))
def zcP (K:PySem.W.Frag) (W:XW):SM:=
 (za9 (zkq (mCB zkk (zac (zag 1) (zac (mC (.ty "str")) zal))) (mOp vIn (zag 1) (zd6 K (zag 0) "words"))))
theorem zg9:FnScope ["self", "value"] ["self", "value"] (defScope zbz):=⟨rfl,rfl,rfl,by decide +kernel,rfl,by decide +kernel,by decide +kernel⟩
def zbB (K:PySem.W.Frag):SpD:=spB 2 0 (zcP K)
theorem zd5 (T:TLm w K mg base):Fd PG_ w K mg base 2 (He.ma K (He.ga K "BodyCheck") "is_word") (zbB K):=by
 obtain ⟨fd,F⟩:=T.df 19 (d:=zd9)
 have bi:Binds K fd ["self", "value"] []:=FunD.bindsN F fun _ _ _ _ _ _ us hl=>match us,hl with | [_,_],_=>by kernel_rfl
 refine zaB (k:=1) F zg9 bi rfl rfl fun cdv A outer s H E hr X eX W tk po=>?_
 subst eX
 unfold zcP
 exact (zai (zar (zjW (zas zgg (zab (zaa 1 (pv 1)) (zab (zjp (T.free 16) boot_str) zae)) fun h1 h2=>pe_callB h1 rfl (T.free 15) boot_isinstance h2) (zkF (ze4 (ziz (zkI hr)) (zaa 1 (pv 1)) (zaP (zaa 0 (pv 0))))))))
def zb9 (K:PySem.W.Frag) (W:XW):SM:=
 (zav (mIf (mOr (mB (mOp vNe (mCB zdN (zac (zag 1) zal)) (mC (.int 5)))) (mB (mOp vGe (zag 2) (mC (.int 4)))))
  (za9 (mC (.bl false)))
  mNx) (zav (mIf (mOr (zhC (zfr (zaw (zcf K) W (zac (mOp vIx (zag 1) (mC (.int 1))) zal)))) (zhC (zfr (zbG (He.ga K "BodyCheck") "is_word" (zbB K) W (zag 0) (zac (mOp vIx (zag 1) (mC (.int 2))) zal)))))
  (za9 (mC (.bl false)))
  mNx) (za9 (zkq (mCB zkk (zac (mOp vIx (zag 1) (mC (.int 3))) (zac (mC (.ty "tuple")) zal))) (mCB zkk (zac (mOp vIx (zag 1) (mC (.int 4))) (zac (mC (.ty "tuple")) zal)))))))
theorem zgj:FnScope ["self", "row", "depth"] ["self", "row", "depth"] (defScope zbo):=⟨rfl,rfl,rfl,by decide +kernel,rfl,by decide +kernel,by decide +kernel⟩
def zbU (K:PySem.W.Frag):SpD:=spB 3 0 (zb9 K)
theorem zgm (T:TLm w K mg base):Fd PG_ w K mg base 4 (He.ma K (He.ga K "BodyCheck") "is_choice") (zbU K):=by
 obtain ⟨fd,F⟩:=T.df 20 (d:=zdl)
 have bi:Binds K fd ["self", "row", "depth"] []:=FunD.bindsN F fun _ _ _ _ _ _ us hl=>match us,hl with | [_,_,_],_=>by kernel_rfl
 refine zaB (k:=3) F zgj bi rfl rfl fun cdv A outer s H E hr X eX W tk po=>?_
 subst eX
 unfold zb9
 exact (zad (zaH (MW.mt (zhz (zat (zko (zcW hr)) (zas za2 (zab (zaa 1 (pv 1)) zae) fun h1 h2=>pe_callB h1 rfl (T.free 13) boot_len h2) zaf) (ze3 (zat zp3 (zaa 2 (pv 2)) (zoJ (T.int 26))))))
  (zai (zar zcn))
  zau)
  (zad (zaH (MW.mt (zhz (zbw (za7 (zaA (zdq T) (hr.mono (by omega)) tk (T.glo 23) (zab (zak (hu1 hr) (zaa 1 (pv 1)) zaf) zae)))) (ze3 (zbw (za7 (zde (zaa 0 (pv 0)) (T.cls 27) (T.meth 28) (zd5 T) (hr.mono (by omega)) tk (zab (zak (hu1 hr) (zaa 1 (pv 1)) zaf) zae)))))))
  (zai (zar zcn))
  zau)
  (zai (zar (zjW (zas zgg (zab (zak (hu1 hr) (zaa 1 (pv 1)) zaf) (zab (zjp (T.free 14) boot_tuple) zae)) fun h1 h2=>pe_callB h1 rfl (T.free 15) boot_isinstance h2) (zkF (zas zgg (zab (zak (hu1 hr) (zaa 1 (pv 1)) zaf) (zab (zjp (T.free 14) boot_tuple) zae)) fun h1 h2=>pe_callB h1 rfl (T.free 15) boot_isinstance h2)))))))
def zdh (K:PySem.W.Frag) (W:XW):SM:=
 (zav (mIf (mOr (zhC (zfr (mCB zkk (zac (zag 1) (zac (mC (.ty "tuple")) zal))))) (mOr (mB (mOp vLt (mCB zdN (zac (zag 1) zal)) (mC (.int 2)))) (zhC (zfr (mCB zkk (zac (mOp vIx (zag 1) (mC (.int 0))) (zac (mC (.ty "str")) zal)))))))
  (za9 (mC (.bl false)))
  mNx) (zav (mIf (mB (mOp vEq (mOp vIx (zag 1) (mC (.int 0))) (mC (.str "if"))))
  (za9 (zbG (He.ga K "BodyCheck") "is_choice" (zbU K) W (zag 0) (zac (zag 1) (zac (zag 2) zal))))
  mNx) (zav (mIf (mB (mOp vIn (mOp vIx (zag 1) (mC (.int 0))) (zcV (zac (mC (.str "give")) (zac (mC (.str "say")) zal)))))
  (zav (zaM (zqf (mB (mOp vEq (mOp vIx (zag 1) (mC (.int 0))) (mC (.str "give")))) (mC (.str "derived")) (mC (.str "effects"))) (gNm 3)) (za9 (zkq (mOp vEq (zd6 K (zag 0) "kind") (zag 3)) (zkq (mOp vEq (mCB zdN (zac (zag 1) zal)) (mC (.int 2))) (zaw (zcf K) W (zac (mOp vIx (zag 1) (mC (.int 1))) zal))))))
  mNx) (zav (mIf (mB (mOp vNe (mCB zdN (zac (zag 1) zal)) (mC (.int 3))))
  (za9 (mC (.bl false)))
  mNx) (zav (mIf (mB (mOp vEq (mOp vIx (zag 1) (mC (.int 0))) (mC (.str "put"))))
  (za9 (zkq (zaw (zcf K) W (zac (mOp vIx (zag 1) (mC (.int 1))) zal)) (zbG (He.ga K "BodyCheck") "is_word" (zbB K) W (zag 0) (zac (mOp vIx (zag 1) (mC (.int 2))) zal))))
  mNx) (zav (mIf (mOr (zhC (zfr (zaw (zcf K) W (zac (mOp vIx (zag 1) (mC (.int 1))) zal)))) (zhC (zfr (zaw (zcf K) W (zac (mOp vIx (zag 1) (mC (.int 2))) zal)))))
  (za9 (mC (.bl false)))
  mNx) (zav (mIf (mB (mOp vEq (mOp vIx (zag 1) (mC (.int 0))) (mC (.str "read"))))
  (za9 (mOp vIn (mOp vIx (zag 1) (mC (.int 1))) (zd6 K (zag 0) "readable")))
  mNx) (zav (mIf (mB (mOp vNe (zd6 K (zag 0) "kind") (mC (.str "effects"))))
  (za9 (mC (.bl false)))
  mNx) (zav (mIf (mB (mOp vEq (mOp vIx (zag 1) (mC (.int 0))) (mC (.str "peek"))))
  (za9 (mOp vIn (mOp vIx (zag 1) (mC (.int 1))) (zd6 K (zag 0) "readable")))
  mNx) (za9 (zkq (mOp vEq (mOp vIx (zag 1) (mC (.int 0))) (mC (.str "write"))) (mOp vIn (mOp vIx (zag 1) (mC (.int 1))) (zd6 K (zag 0) "sources")))))))))))))
theorem zez:FnScope ["self", "row", "depth", "wanted"] ["self", "row", "depth"] (defScope zbJ):=⟨rfl,rfl,rfl,by decide +kernel,rfl,by decide +kernel,by decide +kernel⟩
def zcL (K:PySem.W.Frag):SpD:=spB 3 1 (zdh K)
theorem zhx (T:TLm w K mg base):Fd PG_ w K mg base 6 (He.ma K (He.ga K "BodyCheck") "is_row") (zcL K):=by
 obtain ⟨fd,F⟩:=T.df 21 (d:=zeC)
 have bi:Binds K fd ["self", "row", "depth"] []:=FunD.bindsN F fun _ _ _ _ _ _ us hl=>match us,hl with | [_,_,_],_=>by kernel_rfl
 refine zaB (k:=5) F zez bi rfl rfl fun cdv A outer s H E hr X eX W tk po=>?_
 subst eX
 unfold zdh
 exact (zad (zaH (MW.mt (zhz (zbw (za7 (zas zgg (zab (zaa 1 (pv 1)) (zab (zjp (T.free 14) boot_tuple) zae)) fun h1 h2=>pe_callB h1 rfl (T.free 15) boot_isinstance h2))) (zhz (zat zoy (zas za2 (zab (zaa 1 (pv 1)) zae) fun h1 h2=>pe_callB h1 rfl (T.free 13) boot_len h2) zaf) (ze3 (zbw (za7 (zas zgg (zab (zak (hu1 hr) (zaa 1 (pv 1)) zaf) (zab (zjp (T.free 16) boot_str) zae)) fun h1 h2=>pe_callB h1 rfl (T.free 15) boot_isinstance h2)))))))
  (zai (zar zcn))
  zau)
  (zad (zaH (zat (za3 (zcW hr)) (zak (hu1 hr) (zaa 1 (pv 1)) zaf) zap)
  (zai (zar (zde (zaa 0 (pv 0)) (T.cls 27) (T.meth 29) (zgm T) (hr.mono (by omega)) tk (zab (zaa 1 (pv 1)) (zab (zaa 2 (pv 2)) zae)))))
  zau)
  (zad (zaH (zat (ziz (zkI hr)) (zak (hu1 hr) (zaa 1 (pv 1)) zaf) (zaL (zab zap (zab zap zae))))
  (zad (zan (i:=3) (znI (zat (za3 (zcW hr)) (zak (hu1 hr) (zaa 1 (pv 1)) zaf) zap) zap zap) fun h=>ps_set zez.nd rfl (by nofun) h)
  (zai (zar (zjW (ze4 (za3 (zcW hr)) (zaP (zaa 0 (pv 0))) (zaa 3 (pv 3))) (zjW (ze4 (za3 (zcW hr)) (zas za2 (zab (zaa 1 (pv 1)) zae) fun h1 h2=>pe_callB h1 rfl (T.free 13) boot_len h2) zaf) (zkF (zaA (zdq T) (hr.mono (by omega)) tk (T.glo 23) (zab (zak (hu1 hr) (zaa 1 (pv 1)) zaf) zae))))))))
  zau)
  (zad (zaH (zat (zko (zcW hr)) (zas za2 (zab (zaa 1 (pv 1)) zae) fun h1 h2=>pe_callB h1 rfl (T.free 13) boot_len h2) zaf)
  (zai (zar zcn))
  zau)
  (zad (zaH (zat (za3 (zcW hr)) (zak (hu1 hr) (zaa 1 (pv 1)) zaf) zap)
  (zai (zar (zjW (zaA (zdq T) (hr.mono (by omega)) tk (T.glo 23) (zab (zak (hu1 hr) (zaa 1 (pv 1)) zaf) zae)) (zkF (zde (zaa 0 (pv 0)) (T.cls 27) (T.meth 28) (zd5 T) (hr.mono (by omega)) tk (zab (zak (hu1 hr) (zaa 1 (pv 1)) zaf) zae))))))
  zau)
  (zad (zaH (MW.mt (zhz (zbw (za7 (zaA (zdq T) (hr.mono (by omega)) tk (T.glo 23) (zab (zak (hu1 hr) (zaa 1 (pv 1)) zaf) zae)))) (ze3 (zbw (za7 (zaA (zdq T) (hr.mono (by omega)) tk (T.glo 23) (zab (zak (hu1 hr) (zaa 1 (pv 1)) zaf) zae)))))))
  (zai (zar zcn))
  zau)
  (zad (zaH (zat (za3 (zcW hr)) (zak (hu1 hr) (zaa 1 (pv 1)) zaf) zap)
  (zai (zar (ze4 (ziz (zkI hr)) (zak (hu1 hr) (zaa 1 (pv 1)) zaf) (zaP (zaa 0 (pv 0))))))
  zau)
  (zad (zaH (zat (zko (zcW hr)) (zaP (zaa 0 (pv 0))) zap)
  (zai (zar zcn))
  zau)
  (zad (zaH (zat (za3 (zcW hr)) (zak (hu1 hr) (zaa 1 (pv 1)) zaf) zap)
  (zai (zar (ze4 (ziz (zkI hr)) (zak (hu1 hr) (zaa 1 (pv 1)) zaf) (zaP (zaa 0 (pv 0))))))
  zau)
  (zai (zar (zjW (ze4 (za3 (zcW hr)) (zak (hu1 hr) (zaa 1 (pv 1)) zaf) zap) (zkF (ze4 (ziz (zkI hr)) (zak (hu1 hr) (zaa 1 (pv 1)) zaf) (zaP (zaa 0 (pv 0)))))))))))))))))
def zbS (K:PySem.W.Frag) (rec:SpD) (W:XW):SM:=
 (zav (zgn (zhk (zac (zag 1) zal)) (gT 2 (gC (gNm 4) (gC (gNm 5) gN)))
  (zav (zaM (mOp zcp (zag 2) (zcV (zac (zag 4) zal))) (gNm 6)) (zav (mIf (zhC (zfr (zbG (He.ga K "BodyCheck") "is_row" (zcL K) W (zag 0) (zac (zag 5) (zac (zag 3) zal)))))
  (za9 (zag 6))
  mNx) (mIf (mB (mOp vEq (mOp vIx (zag 5) (mC (.int 0))) (mC (.str "if"))))
  (zgn (zdY (zcV (zac (mC (.int 0)) (zac (mC (.int 1)) zal)))) (gNm 7)
  (zav (zaM (zbG (He.ga K "BodyCheck") "first_wrong" rec W (zag 0) (zac (mOp vIx (zag 5) (mOp zcp (mC (.int 3)) (zag 7))) (zac (mOp zcp (zag 6) (zcV (zac (zag 7) zal))) (zac (mOp zcp (zag 3) (mC (.int 1))) zal)))) (gNm 8)) (mIf (mB (mOp zmL (zag 8) (mC .non)))
  (za9 (zag 8))
  mNx)))
  mNx)))) (za9 (mC .non)))
theorem zaO:FnScope ["self", "rows", "path", "depth", "place", "row", "here", "side", "found"] ["self", "rows", "path", "depth"] (defScope za4):=⟨rfl,rfl,rfl,by decide +kernel,rfl,by decide +kernel,by decide +kernel⟩
def za5 (K:PySem.W.Frag):Nat->SpD
 | 0=>fun _ _ _ _=>False
 | n+1=>spB 4 5 (zbS K (za5 K n))
theorem zfq (T:TLm w K mg base):∀ n,Fd PG_ w K mg base (8+n) (He.ma K (He.ga K "BodyCheck") "first_wrong") (za5 K n):=by
 obtain ⟨fd,F⟩:=T.df 22 (d:=zcX)
 have bi:Binds K fd ["self", "rows", "path", "depth"] []:=FunD.bindsN F fun _ _ _ _ _ _ us hl=>match us,hl with | [_,_,_,_],_=>by kernel_rfl
 intro n
 induction n with
 | zero=>exact zmD bi F.kp
 | succ n RC=>
 refine zaB (k:=8+n) F zaO bi rfl rfl fun cdv A outer s H E hr X eX W tk po=>?_
 subst eX
 unfold zbS
 exact (zad (za8 po rfl (zhA (zab (zaa 1 (pv 1)) zae) (T.free 9)) (ziV rfl (zbC (zaE (pg_name zaO.nd rfl (by nofun))) (zbC (zaE (pg_name zaO.nd rfl (by nofun))) zgD)))
  (zad (zan (i:=6) (zaF zaK (zaa 2 (pv 2)) (zaL (zab (zaa 4 (pv 4)) zae))) fun h=>ps_set zaO.nd rfl (by nofun) h)
  (zad (zaH (zbw (za7 (zde (zaa 0 (pv 0)) (T.cls 27) (T.meth 30) (zhx T) (hr.mono (by omega)) tk (zab (zaa 5 (pv 5)) (zab (zaa 3 (pv 3)) zae)))))
  (zai (zar (zaa 6 (pv 6))))
  zau)
  (zai (zaH (zat (za3 (zcW hr)) (zak (hu1 hr) (zaa 5 (pv 5)) zaf) zap)
  (zai (za8 po rfl (zaR (zaL (zab zaf (zab zaf zae)))) (zaE (pg_name zaO.nd rfl (by nofun)))
  (zad (zan (i:=8) (zde (zaa 0 (pv 0)) (T.cls 27) (T.meth 31) RC (hr.mono (by omega)) tk (zab (zak (hu1 hr) (zaa 5 (pv 5)) (zaF zaK zaf (zaa 7 (pv 7)))) (zab (zaF zaK (zaa 6 (pv 6)) (zaL (zab (zaa 7 (pv 7)) zae))) (zab (zaF zaK (zaa 3 (pv 3)) zaf) zae)))) fun h=>ps_set zaO.nd rfl (by nofun) h)
  (zai (zaH (zat zli (zaa 8 (pv 8)) zgE)
  (zai (zar (zaa 8 (pv 8))))
  zau))) (fun h1 h2 h3=>ps_for po rfl h1 h2 h3)))
  zau)))) (fun h1 h2 h3=>ps_for po rfl h1 h2 h3))
  (zai (zar zgE)))
def zdv (K:PySem.W.Frag) (W:XW):SM:=
 (zav (mIf (zhC (zfr (mCB zkk (zac (zag 1) (zac (mC (.ty "tuple")) zal)))))
  mNo
  mNx) (zav (zaM (zbG (He.ga K "BodyCheck") "first_wrong" (za5 K 6) W (zag 0) (zac (zag 1) (zac (zag 2) (zac (mC (.int 1)) zal)))) (gNm 3)) (zav (mIf (mB (mOp zmL (zag 3) (mC .non)))
  mNo
  mNx) (mIf (mB (mOp vGt (zaw (zeo K 6) W (zac (zag 1) zal)) (mC (.int 16))))
  mNo
  mNx))))
theorem zeZ:FnScope ["self", "rows", "path", "found"] ["self", "rows", "path"] (defScope zb0):=⟨rfl,rfl,rfl,by decide +kernel,rfl,by decide +kernel,by decide +kernel⟩
def zb2 (K:PySem.W.Frag):SpD:=spB 3 1 (zdv K)
theorem ze1 (T:TLm w K mg base):Fd PG_ w K mg base 16 (He.ma K (He.ga K "BodyCheck") "check") (zb2 K):=by
 obtain ⟨fd,F⟩:=T.df 23 (d:=ze9)
 have bi:Binds K fd ["self", "rows", "path"] []:=FunD.bindsN F fun _ _ _ _ _ _ us hl=>match us,hl with | [_,_,_],_=>by kernel_rfl
 refine zaB (k:=15) F zeZ bi rfl rfl fun cdv A outer s H E hr X eX W tk po=>?_
 subst eX
 unfold zdv
 exact (zad (zaH (zbw (za7 (zas zgg (zab (zaa 1 (pv 1)) (zab (zjp (T.free 14) boot_tuple) zae)) fun h1 h2=>pe_callB h1 rfl (T.free 15) boot_isinstance h2)))
  (zai zmv)
  zau)
  (zad (zan (i:=3) (zde (zaa 0 (pv 0)) (T.cls 27) (T.meth 31) (zfq T 6) (hr.mono (by omega)) tk (zab (zaa 1 (pv 1)) (zab (zaa 2 (pv 2)) (zab zaf zae)))) fun h=>ps_set zeZ.nd rfl (by nofun) h)
  (zad (zaH (zat zli (zaa 3 (pv 3)) zgE)
  (zai zmv)
  zau)
  (zai (zaH (zat zlW (zaA (zk8 T 6) (hr.mono (by omega)) tk (T.glo 25) (zab (zaa 1 (pv 1)) zae)) (zoJ (T.int 32)))
  (zai zmv)
  zau)))))
def zd3 (K:PySem.W.Frag) (W:XW):SM:=
 (zav (mIf (zhC (zfr (zaw (zeU K) W (zac (zag 1) (zac (mC (.int 2)) (zac (mC (.int 4)) zal))))))
  mNo
  mNx) (zav (mIf (zhC (zfr (zaw (zeU K) W (zac (zag 2) (zac (mC (.int 1)) (zac (mC (.int 4)) zal))))))
  mNo
  mNx) (zav (zaM (mDc (zdY (zag 2)) (gNm 6) zij (zag 6) (mC (.bl true)) [6]) (gNm 5)) (zav (mIf (zhC (zfr (zaw (zeT K) W (zac (zag 3) (zac (mC (.int 6)) (zac (zag 5) zal))))))
  mNo
  mNx) (zav (zgn (zdY (zag 3)) (gNm 7)
  (zaM (mC (.bl true)) (gIx (zag 5) (mOp vIx (zag 7) (mC (.int 0)))))) (zav (mIf (zhC (zfr (zaw (zeT K) W (zac (zag 4) (zac (mC (.int 4)) (zac (zag 5) zal))))))
  mNo
  mNx) (zav (zaM (mCB zjd (zac (zag 2) zal)) (gNm 8)) (zav (zgn (zhk (zac (zag 3) zal)) (gT 2 (gC (gNm 9) (gC (gNm 7) gN)))
  (zav (zbQ (zbG (He.ga K "BodyCheck") "check" (zb2 K) W (zjY (He.ga K "BodyCheck") (zbL K) W (zac (mC (.str "derived")) (zac (zag 1) (zac (zag 2) (zac (mCB zjd (zac (zag 8) zal)) zal))))) (zac (mOp vIx (zag 7) (mC (.int 1))) (zac (zcV (zac (mC (.str "derived")) (zac (zag 9) zal))) zal)))) (zbQ (ziB okL zjL (zag 8) (zac (mOp vIx (zag 7) (mC (.int 0))) zal))))) (zav (zgn (zhk (zac (zag 4) zal)) (gT 2 (gC (gNm 9) (gC (gNm 7) gN)))
  (zbQ (zbG (He.ga K "BodyCheck") "check" (zb2 K) W (zjY (He.ga K "BodyCheck") (zbL K) W (zac (mC (.str "effects")) (zac (zag 1) (zac (zag 2) (zac (zag 8) zal))))) (zac (mOp vIx (zag 7) (mC (.int 1))) (zac (zcV (zac (mC (.str "effects")) (zac (zag 9) zal))) zal))))) (zav (zcw K (zag 0) (zag 1) "words") (zav (zcw K (zag 0) (zag 2) "sources") (zav (zcw K (zag 0) (zag 3) "derived") (zcw K (zag 0) (zag 4) "effects")))))))))))))
theorem zaQ:FnScope ["self", "words", "sources", "derived", "effects", "taken", "name", "pair", "readable", "index"] ["self", "words", "sources", "derived", "effects"] (defScope zce):=⟨rfl,rfl,rfl,by decide +kernel,rfl,by decide +kernel,by decide +kernel⟩
def zdo (K:PySem.W.Frag):SpD:=spB 5 5 (zd3 K)
theorem ziy (T:TLm w K mg base):Fd PG_ w K mg base 18 (He.ma K (He.ga K "Program") "__init__") (zdo K):=by
 obtain ⟨fd,F⟩:=T.df 24 (d:=zfz)
 have bi:Binds K fd ["self", "words", "sources", "derived", "effects"] []:=FunD.bindsN F fun _ _ _ _ _ _ us hl=>match us,hl with | [_,_,_,_,_],_=>by kernel_rfl
 refine zaB (k:=17) F zaQ bi rfl rfl fun cdv A outer s H E hr X eX W tk po=>?_
 subst eX
 unfold zd3
 exact (zad (zaH (zbw (za7 (zaA (ziQ T) (hr.mono (by omega)) tk (T.glo 33) (zab (zaa 1 (pv 1)) (zab zaf (zab zaf zae))))))
  (zai zmv)
  zau)
  (zad (zaH (zbw (za7 (zaA (ziQ T) (hr.mono (by omega)) tk (T.glo 33) (zab (zaa 2 (pv 2)) (zab zaf (zab zaf zae))))))
  (zai zmv)
  zau)
  (zad (zp6 (i:=5) rfl zaQ.nd (zaR (zaa 2 (pv 2))) (own:=[("name", 6)]) (blkOk_by (by kernel_rfl)) zcN (fun _ _ _ _ _=>pg_name zaQ.nd rfl (by nofun)) (fun _ _ _ _ _=>zbV) (fun _ _ _ _ _=>(zaa 6 (pv 6))) (fun _ _ _ _ _=>zcn))
  (zad (zaH (zbw (za7 (zaA (ziP T) (hr.mono (by omega)) tk (T.glo 34) (zab (zaa 3 (pv 3)) (zab zaf (zab (zaa 5 (pv 5)) zae))))))
  (zai zmv)
  zau)
  (zad (za8 po rfl (zaR (zaa 3 (pv 3))) (zaE (pg_name zaQ.nd rfl (by nofun)))
  (zai (zcu zcn (zcU (hu1 hr) (zaa 5 (pv 5)) (zak (hu1 hr) (zaa 7 (pv 7)) zaf)))) (fun h1 h2 h3=>ps_for po rfl h1 h2 h3))
  (zad (zaH (zbw (za7 (zaA (ziP T) (hr.mono (by omega)) tk (T.glo 34) (zab (zaa 4 (pv 4)) (zab zaf (zab (zaa 5 (pv 5)) zae))))))
  (zai zmv)
  zau)
  (zad (zan (i:=8) (zaN zkc (zab (zaa 2 (pv 2)) zae) fun h1 h2=>pe_callTy h1 rfl (T.free 35) boot_list h2) fun h=>ps_set zaQ.nd rfl (by nofun) h)
  (zad (za8 po rfl (zhA (zab (zaa 3 (pv 3)) zae) (T.free 9)) (ziV rfl (zbC (zaE (pg_name zaQ.nd rfl (by nofun))) (zbC (zaE (pg_name zaQ.nd rfl (by nofun))) zgD)))
  (zad (zaS (zde (zhB (T.mkr 36) (zeA T) (hr.mono (by omega)) tk (T.glo 37) (zab zap (zab (zaa 1 (pv 1)) (zab (zaa 2 (pv 2)) (zab (zaN zkc (zab (zaa 8 (pv 8)) zae) fun h1 h2=>pe_callTy h1 rfl (T.free 35) boot_list h2) zae))))) (T.cls 27) (T.meth 38) (ze1 T) (hr.mono (by omega)) tk (zab (zak (hu1 hr) (zaa 7 (pv 7)) zaf) (zab (zaL (zab zap (zab (zaa 9 (pv 9)) zae))) zae))))
  (zai (zaS (zbc (zaa 8 (pv 8)) (zab (zak (hu1 hr) (zaa 7 (pv 7)) zaf) zae))))) (fun h1 h2 h3=>ps_for po rfl h1 h2 h3))
  (zad (za8 po rfl (zhA (zab (zaa 4 (pv 4)) zae) (T.free 9)) (ziV rfl (zbC (zaE (pg_name zaQ.nd rfl (by nofun))) (zbC (zaE (pg_name zaQ.nd rfl (by nofun))) zgD)))
  (zai (zaS (zde (zhB (T.mkr 36) (zeA T) (hr.mono (by omega)) tk (T.glo 37) (zab zap (zab (zaa 1 (pv 1)) (zab (zaa 2 (pv 2)) (zab (zaa 8 (pv 8)) zae))))) (T.cls 27) (T.meth 38) (ze1 T) (hr.mono (by omega)) tk (zab (zak (hu1 hr) (zaa 7 (pv 7)) zaf) (zab (zaL (zab zap (zab (zaa 9 (pv 9)) zae))) zae))))) (fun h1 h2 h3=>ps_for po rfl h1 h2 h3))
  (zad (zb5 (zaa 0 (pv 0)) (zaa 1 (pv 1)))
  (zad (zb5 (zaa 0 (pv 0)) (zaa 2 (pv 2)))
  (zad (zb5 (zaa 0 (pv 0)) (zaa 3 (pv 3)))
  (zai (zb5 (zaa 0 (pv 0)) (zaa 4 (pv 4))))))))))))))))
def zff (K:PySem.W.Frag) (W:XW):SM:=
 (zav (zgn (zdY (mOp zcp (zd6 K (zag 0) "derived") (zd6 K (zag 0) "effects"))) (gNm 2)
  (mIf (mB (mOp vEq (mOp vIx (zag 2) (mC (.int 0))) (zag 1)))
  (za9 (mOp vIx (zag 2) (mC (.int 1))))
  mNx)) (znb (He.ga K "UnknownCell") "name" W (zac (zag 1) zal)))
theorem zgv:FnScope ["self", "name", "pair"] ["self", "name"] (defScope zc1):=⟨rfl,rfl,rfl,by decide +kernel,rfl,by decide +kernel,by decide +kernel⟩
def zex (K:PySem.W.Frag):SpD:=spB 2 1 (zff K)
theorem zjQ (T:TLm w K mg base):Fd PG_ w K mg base 4 (He.ma K (He.ga K "Program") "body") (zex K):=by
 obtain ⟨fd,F⟩:=T.df 25 (d:=zgK)
 have bi:Binds K fd ["self", "name"] []:=FunD.bindsN F fun _ _ _ _ _ _ us hl=>match us,hl with | [_,_],_=>by kernel_rfl
 refine zaB (k:=3) F zgv bi rfl rfl fun cdv A outer s H E hr X eX W tk po=>?_
 subst eX
 unfold zff
 exact (zad (za8 po rfl (zaR (zaF zaK (zaP (zaa 0 (pv 0))) (zaP (zaa 0 (pv 0))))) (zaE (pg_name zgv.nd rfl (by nofun)))
  (zai (zaH (zat (za3 (zcW hr)) (zak (hu1 hr) (zaa 2 (pv 2)) zaf) (zaa 1 (pv 1)))
  (zai (zar (zak (hu1 hr) (zaa 2 (pv 2)) zaf)))
  zau)) (fun h1 h2 h3=>ps_for po rfl h1 h2 h3))
  (zai (zlm rfl tk (hr.mono (by omega)) (zhl T) (zab (zaa 1 (pv 1)) zae))))
def zbR (K:PySem.W.Frag) (W:XW):SM:=
 (zav (zgn (zhk (zac (zd6 K (zag 0) "derived") zal)) (gT 2 (gC (gNm 2) (gC (gNm 3) gN)))
  (mIf (mB (mOp vEq (mOp vIx (zag 3) (mC (.int 0))) (zag 1)))
  (za9 (zcV (zac (mC (.str "derived")) (zac (zag 2) zal))))
  mNx)) (zav (zgn (zhk (zac (zd6 K (zag 0) "effects") zal)) (gT 2 (gC (gNm 2) (gC (gNm 3) gN)))
  (mIf (mB (mOp vEq (mOp vIx (zag 3) (mC (.int 0))) (zag 1)))
  (za9 (zcV (zac (mC (.str "effects")) (zac (zag 2) zal))))
  mNx)) (znb (He.ga K "UnknownCell") "name" W (zac (zag 1) zal))))
theorem zba:FnScope ["self", "name", "index", "pair"] ["self", "name"] (defScope zby):=⟨rfl,rfl,rfl,by decide +kernel,rfl,by decide +kernel,by decide +kernel⟩
def zbA (K:PySem.W.Frag):SpD:=spB 2 2 (zbR K)
theorem zhc (T:TLm w K mg base):Fd PG_ w K mg base 4 (He.ma K (He.ga K "Program") "body_path") (zbA K):=by
 obtain ⟨fd,F⟩:=T.df 26 (d:=zd8)
 have bi:Binds K fd ["self", "name"] []:=FunD.bindsN F fun _ _ _ _ _ _ us hl=>match us,hl with | [_,_],_=>by kernel_rfl
 refine zaB (k:=3) F zba bi rfl rfl fun cdv A outer s H E hr X eX W tk po=>?_
 subst eX
 unfold zbR
 exact (zad (za8 po rfl (zhA (zab (zaP (zaa 0 (pv 0))) zae) (T.free 9)) (ziV rfl (zbC (zaE (pg_name zba.nd rfl (by nofun))) (zbC (zaE (pg_name zba.nd rfl (by nofun))) zgD)))
  (zai (zaH (zat (za3 (zcW hr)) (zak (hu1 hr) (zaa 3 (pv 3)) zaf) (zaa 1 (pv 1)))
  (zai (zar (zaL (zab zap (zab (zaa 2 (pv 2)) zae)))))
  zau)) (fun h1 h2 h3=>ps_for po rfl h1 h2 h3))
  (zad (za8 po rfl (zhA (zab (zaP (zaa 0 (pv 0))) zae) (T.free 9)) (ziV rfl (zbC (zaE (pg_name zba.nd rfl (by nofun))) (zbC (zaE (pg_name zba.nd rfl (by nofun))) zgD)))
  (zai (zaH (zat (za3 (zcW hr)) (zak (hu1 hr) (zaa 3 (pv 3)) zaf) (zaa 1 (pv 1)))
  (zai (zar (zaL (zab zap (zab (zaa 2 (pv 2)) zae)))))
  zau)) (fun h1 h2 h3=>ps_for po rfl h1 h2 h3))
  (zai (zlm rfl tk (hr.mono (by omega)) (zhl T) (zab (zaa 1 (pv 1)) zae)))))
def ziH (K:PySem.W.Frag) (W:XW):SM:=
 (zav (zaM (zaw (zfH K) W (zac (zag 0) (zac (zag 1) zal))) (gNm 3)) (zav (zaM (zbG (He.ga K "Program") "body" (zex K) W (zag 0) (zac (zag 2) zal)) (gNm 4)) (zav (zaM (zbG (He.ga K "Program") "body_path" (zbA K) W (zag 0) (zac (zag 2) zal)) (gNm 5)) (zav (zaM (zjY (He.ga K "TrueRun") (zcg K) W (zac (zag 2) (zac (mOp vIx (zd6 K (zag 0) "words") (mC (.int 0))) (zac (zag 3) zal)))) (gNm 6)) (zav (zbQ (zbG (He.ga K "TrueRun") "do_rows" (zcr K 6) W (zag 6) (zac (zag 4) (zac (zag 5) zal)))) (zav (zaM (mC .non) (gNm 7)) (zav (mIf (mB (mOp vEq (mOp vIx (zag 5) (mC (.int 0))) (mC (.str "derived"))))
  (zaM (zbG (He.ga K "TrueRun") "held_word" (zcF K) W (zag 6) zal) (gNm 7))
  mNx) (za9 (zmx [((mC (.str "notes")),(mCB zbX (zac (zd6 K (zag 6) "notes") zal))),((mC (.str "peeks")),(mCB zbX (zac (zd6 K (zag 6) "peeks") zal))),((mC (.str "says")),(mCB zbX (zac (zd6 K (zag 6) "says") zal))),((mC (.str "writes")),(mCB zbX (zac (zd6 K (zag 6) "written") zal))),((mC (.str "word")),(zag 7))])))))))))
theorem zcM:FnScope ["program", "words", "name", "table", "rows", "path", "run", "word"] ["program", "words", "name"] (defScope zfC):=⟨rfl,rfl,rfl,by decide +kernel,rfl,by decide +kernel,by decide +kernel⟩
def zfI (K:PySem.W.Frag):SpD:=spB 3 5 (ziH K)
theorem zjN (T:TLm w K mg base):Fd PG_ w K mg base 18 (He.ga K "true_run") (zfI K):=by
 obtain ⟨fd,F⟩:=T.df 27 (d:=zj5)
 have bi:Binds K fd ["program", "words", "name"] []:=FunD.bindsN F fun _ _ _ _ _ _ us hl=>match us,hl with | [_,_,_],_=>by kernel_rfl
 refine zaB (k:=17) F zcM bi rfl rfl fun cdv A outer s H E hr X eX W tk po=>?_
 subst eX
 unfold ziH
 exact (zad (zan (i:=3) (zaA (zk7 T) (hr.mono (by omega)) tk (T.glo 39) (zab (zaa 0 (pv 0)) (zab (zaa 1 (pv 1)) zae))) fun h=>ps_set zcM.nd rfl (by nofun) h)
  (zad (zan (i:=4) (zde (zaa 0 (pv 0)) (T.cls 40) (T.meth 41) (zjQ T) (hr.mono (by omega)) tk (zab (zaa 2 (pv 2)) zae)) fun h=>ps_set zcM.nd rfl (by nofun) h)
  (zad (zan (i:=5) (zde (zaa 0 (pv 0)) (T.cls 40) (T.meth 42) (zhc T) (hr.mono (by omega)) tk (zab (zaa 2 (pv 2)) zae)) fun h=>ps_set zcM.nd rfl (by nofun) h)
  (zad (zan (i:=6) (zhB (T.mkr 19) (zfo T) (hr.mono (by omega)) tk (T.glo 20) (zab (zaa 2 (pv 2)) (zab (zak (hu1 hr) (zaP (zaa 0 (pv 0))) zaf) (zab (zaa 3 (pv 3)) zae)))) fun h=>ps_set zcM.nd rfl (by nofun) h)
  (zad (zaS (zde (zaa 6 (pv 6)) (T.cls 2) (T.meth 11) (zhg T 6) (hr.mono (by omega)) tk (zab (zaa 4 (pv 4)) (zab (zaa 5 (pv 5)) zae))))
  (zad (zan (i:=7) zgE fun h=>ps_set zcM.nd rfl (by nofun) h)
  (zad (zaH (zat (za3 (zcW hr)) (zak (hu1 hr) (zaa 5 (pv 5)) zaf) zap)
  (zai (zan (i:=7) (zm9 (zaa 6 (pv 6)) (T.cls 2) (T.meth 21) (zf8 T) (hr.mono (by omega)) tk) fun h=>ps_set zcM.nd rfl (by nofun) h))
  zau)
  (zai (zar (zjV (zaV zap (zaN zb6 (zab (zaP (zaa 6 (pv 6))) zae) fun h1 h2=>pe_callTy h1 rfl (T.free 14) boot_tuple h2) (zaV zap (zaN zb6 (zab (zaP (zaa 6 (pv 6))) zae) fun h1 h2=>pe_callTy h1 rfl (T.free 14) boot_tuple h2) (zaV zap (zaN zb6 (zab (zaP (zaa 6 (pv 6))) zae) fun h1 h2=>pe_callTy h1 rfl (T.free 14) boot_tuple h2) (zaV zap (zaN zb6 (zab (zaP (zaa 6 (pv 6))) zae) fun h1 h2=>pe_callTy h1 rfl (T.free 14) boot_tuple h2) (zaV zap (zaa 7 (pv 7)) zjS)))))))))))))))
def zkd (K:PySem.W.Frag) (W:XW):SM:=
 (zav (zaM (zaw (zfI K) W (zac (zag 0) (zac (zag 1) (zac (zag 2) zal)))) (gNm 3)) (za9 (zcV (zac (mOp vIx (zag 3) (mC (.str "word"))) (zac (mOp vIx (zag 3) (mC (.str "says"))) (zac (mOp vIx (zag 3) (mC (.str "writes"))) zal))))))
theorem zkt:FnScope ["program", "words", "name", "found"] ["program", "words", "name"] (defScope zg1):=⟨rfl,rfl,rfl,by decide +kernel,rfl,by decide +kernel,by decide +kernel⟩
def zfi (K:PySem.W.Frag):SpD:=spB 3 1 (zkd K)
theorem ziu (T:TLm w K mg base):Fd PG_ w K mg base 20 (He.ga K "telling") (zfi K):=by
 obtain ⟨fd,F⟩:=T.df 28 (d:=zkJ)
 have bi:Binds K fd ["program", "words", "name"] []:=FunD.bindsN F fun _ _ _ _ _ _ us hl=>match us,hl with | [_,_,_],_=>by kernel_rfl
 refine zaB (k:=19) F zkt bi rfl rfl fun cdv A outer s H E hr X eX W tk po=>?_
 subst eX
 unfold zkd
 exact (zad (zan (i:=3) (zaA (zjN T) (hr.mono (by omega)) tk (T.glo 43) (zab (zaa 0 (pv 0)) (zab (zaa 1 (pv 1)) (zab (zaa 2 (pv 2)) zae)))) fun h=>ps_set zkt.nd rfl (by nofun) h)
  (zai (zar (zaL (zab (zak (hu1 hr) (zaa 3 (pv 3)) zap) (zab (zak (hu1 hr) (zaa 3 (pv 3)) zap) (zab (zak (hu1 hr) (zaa 3 (pv 3)) zap) zae)))))))
def zhE (K:PySem.W.Frag) (W:XW):SM:=
 (zav (zaM (zf2 (zac (zcV zal) zal)) (gNm 1)) (zav (zgn (zds (zac (mCB zdN (zac (zd6 K (zag 0) "sources") zal)) zal)) (gNm 2)
  (zaM (ztJ (zdY (zag 1)) (gNm 3) zij (zdY (zd6 K (zag 0) "words")) (gNm 4) zij (mOp zcp (zag 3) (zcV (zac (zag 4) zal))) [3,4] [4]) (gNm 1))) (za9 (zag 1))))
theorem zcR:FnScope ["program", "rows", "place", "row", "word"] ["program"] (defScope zeL):=⟨rfl,rfl,rfl,by decide +kernel,rfl,by decide +kernel,by decide +kernel⟩
def zgq (K:PySem.W.Frag):SpD:=spB 1 4 (zhE K)
theorem zlT (T:TLm w K mg base):Fd PG_ w K mg base 2 (He.ga K "word_rows") (zgq K):=by
 obtain ⟨fd,F⟩:=T.df 29 (d:=zi2)
 have bi:Binds K fd ["program"] []:=FunD.bindsN F fun _ _ _ _ _ _ us hl=>match us,hl with | [_],_=>by kernel_rfl
 refine zaB (k:=1) F zcR bi rfl rfl fun cdv A outer s H E hr X eX W tk po=>?_
 subst eX
 unfold zhE
 exact (zad (zan (i:=1) (zbi (zab (zaL zae) zae)) fun h=>ps_set zcR.nd rfl (by nofun) h)
  (zad (za8 po rfl (zcv (zab (zas za2 (zab (zaP (zaa 0 (pv 0))) zae) fun h1 h2=>pe_callB h1 rfl (T.free 13) boot_len h2) zae) fun h=>pi_range1 rfl (T.free 44) h) (zaE (pg_name zcR.nd rfl (by nofun)))
  (zai (zoA (i:=1) rfl zcR.nd (zaR (zaa 1 (pv 1))) (own:=[("row", 3),("word", 4)]) (vs1:=[4]) (blkOk_by (by kernel_rfl)) zcN zcN (fun _ _ _ _ _=>pg_name zcR.nd rfl (by nofun)) (fun _ _ _ _ _=>zbV) (fun _ _ _ _ _=>(zaR (zaP (zaa 0 (pv 0))))) (fun _ _ _ _ _=>pg_name zcR.nd rfl (by nofun)) (fun _ _ _ _ _=>zbV) (fun _ _ _ _ _=>(zaF zaK (zaa 3 (pv 3)) (zaL (zab (zaa 4 (pv 4)) zae)))))) (fun h1 h2 h3=>ps_for po rfl h1 h2 h3))
  (zai (zar (zaa 1 (pv 1))))))
def zmI (K:PySem.W.Frag) (W:XW):SM:=
 (za9 (mCB ztF (zac (mLc (zdY (zag 2)) (gNm 3) zij (mOp vEq (mOp vIx (zag 0) (zag 3)) (mOp vIx (zag 1) (zag 3))) [3]) zal)))
theorem zkV:FnScope ["words", "others", "places", "place"] ["words", "others", "places"] (defScope zjt):=⟨rfl,rfl,rfl,by decide +kernel,rfl,by decide +kernel,by decide +kernel⟩
def zkU (K:PySem.W.Frag):SpD:=spB 3 1 (zmI K)
theorem zp2 (T:TLm w K mg base):Fd PG_ w K mg base 2 (He.ga K "agree") (zkU K):=by
 obtain ⟨fd,F⟩:=T.df 30 (d:=zni)
 have bi:Binds K fd ["words", "others", "places"] []:=FunD.bindsN F fun _ _ _ _ _ _ us hl=>match us,hl with | [_,_,_],_=>by kernel_rfl
 refine zaB (k:=1) F zkV bi rfl rfl fun cdv A outer s H E hr X eX W tk po=>?_
 subst eX
 unfold zmI
 exact (zai (zar (zas (zpf rfl) (zab (zdX rfl zkV.nd (zaR (zaa 2 (pv 2))) (own:=[("place", 3)]) (blkOk_by (by kernel_rfl)) zcN (fun _ _ _ _ _=>pg_name zkV.nd rfl (by nofun)) (fun _ _ _ _ _=>zbV) (fun _ _ _ _ _=>(ze4 (za3 (zcW hr)) (zak (hu1 hr) (zaa 0 (pv 0)) (zaa 3 (pv 3))) (zak (hu1 hr) (zaa 1 (pv 1)) (zaa 3 (pv 3)))))) zae) fun h1 h2=>pe_callB h1 rfl (T.free 45) (by decide +kernel) h2)))
def zih (K:PySem.W.Frag) (W:XW):SM:=
 (za9 (mCB ztF (zac (mLc (zdY (zag 0)) (gNm 2) zij (mOp vIn (zag 2) (zag 1)) [2]) zal)))
theorem zim:FnScope ["part", "whole", "item"] ["part", "whole"] (defScope zg2):=⟨rfl,rfl,rfl,by decide +kernel,rfl,by decide +kernel,by decide +kernel⟩
def zfk (K:PySem.W.Frag):SpD:=spB 2 1 (zih K)
theorem zkA (T:TLm w K mg base):Fd PG_ w K mg base 2 (He.ga K "lies_in") (zfk K):=by
 obtain ⟨fd,F⟩:=T.df 31 (d:=zkL)
 have bi:Binds K fd ["part", "whole"] []:=FunD.bindsN F fun _ _ _ _ _ _ us hl=>match us,hl with | [_,_],_=>by kernel_rfl
 refine zaB (k:=1) F zim bi rfl rfl fun cdv A outer s H E hr X eX W tk po=>?_
 subst eX
 unfold zih
 exact (zai (zar (zas (zpf rfl) (zab (zdX rfl zim.nd (zaR (zaa 0 (pv 0))) (own:=[("item", 2)]) (blkOk_by (by kernel_rfl)) zcN (fun _ _ _ _ _=>pg_name zim.nd rfl (by nofun)) (fun _ _ _ _ _=>zbV) (fun _ _ _ _ _=>(ze4 (ziz (zkI hr)) (zaa 2 (pv 2)) (zaa 1 (pv 1))))) zae) fun h1 h2=>pe_callB h1 rfl (T.free 45) (by decide +kernel) h2)))
def ziI (K:PySem.W.Frag) (W:XW):SM:=
 (zav (zaM (zf2 zal) (gNm 1)) (zav (zgn (zdY (zag 0)) (gNm 2)
  (mIf (zhC (zfr (mCB zw9 (zac (mLc (zdY (zag 1)) (gNm 3) zij (zaw (zfk K) WN (zac (zag 3) (zac (zag 2) zal))) [3]) zal))))
  (zbQ (ziB okL zjL (zag 1) (zac (zag 2) zal)))
  mNx)) (za9 (zag 1))))
theorem zey:FnScope ["kept_places", "found", "places", "less"] ["kept_places"] (defScope zfD):=⟨rfl,rfl,rfl,by decide +kernel,rfl,by decide +kernel,by decide +kernel⟩
def zhr (K:PySem.W.Frag):SpD:=spB 1 3 (ziI K)
theorem zmr (T:TLm w K mg base):Fd PG_ w K mg base 4 (He.ga K "least_of") (zhr K):=by
 obtain ⟨fd,F⟩:=T.df 32 (d:=zj6)
 have bi:Binds K fd ["kept_places"] []:=FunD.bindsN F fun _ _ _ _ _ _ us hl=>match us,hl with | [_],_=>by kernel_rfl
 refine zaB (k:=3) F zey bi rfl rfl fun cdv A outer s H E hr X eX W tk po=>?_
 subst eX
 unfold ziI
 exact (zad (zan (i:=1) (zbi zae) fun h=>ps_set zey.nd rfl (by nofun) h)
  (zad (za8 po rfl (zaR (zaa 0 (pv 0))) (zaE (pg_name zey.nd rfl (by nofun)))
  (zai (zaH (zbw (za7 (zas (zwY rfl) (zab (zdX rfl zey.nd (zaR (zaa 1 (pv 1))) (own:=[("less", 3)]) (blkOk_by (by kernel_rfl)) zcN (fun _ _ _ _ _=>pg_name zey.nd rfl (by nofun)) (fun _ _ _ _ _=>zbV) (fun _ _ _ _ _=>(zaA (zkA T) (hr.mono (by omega)) zfB (T.glo 46) (zab (zaa 3 (pv 3)) (zab (zaa 2 (pv 2)) zae))))) zae) fun h1 h2=>pe_callB h1 rfl (T.free 47) (by decide +kernel) h2)))
  (zai (zaS (zbc (zaa 1 (pv 1)) (zab (zaa 2 (pv 2)) zae))))
  zau)) (fun h1 h2 h3=>ps_for po rfl h1 h2 h3))
  (zai (zar (zaa 1 (pv 1))))))
def zgP (K:PySem.W.Frag) (W:XW):SM:=
 (zav (zaM (zf2 (zac (zcV zal) zal)) (gNm 1)) (zav (zaM (mC (.int 0)) (gNm 2)) (zav (zna (mB (mOp vLt (zag 2) (mCB zdN (zac (zag 1) zal))))
  (zav (zaM (zqf (zfr (mOp vIx (zag 1) (zag 2))) (mOp zcp (mOp vIx (mOp vIx (zag 1) (zag 2)) (zzi (mC (.int 1)))) (mC (.int 1))) (mC (.int 0))) (gNm 3)) (zav (zbQ (ziB okL zpW (zag 1) (zac (mLc (zlw (zac (zag 3) (zac (zag 0) zal))) (gNm 4) zij (mOp zcp (mOp vIx (zag 1) (zag 2)) (zcV (zac (zag 4) zal))) [4]) zal))) (zpo 2 (mC (.int 1)) zkQ)))) (za9 (zag 1)))))
theorem zbN:FnScope ["many", "found", "at", "first", "place"] ["many"] (defScope zec):=⟨rfl,rfl,rfl,by decide +kernel,rfl,by decide +kernel,by decide +kernel⟩
def zfK (K:PySem.W.Frag):SpD:=spB 1 4 (zgP K)
theorem zk9 (T:TLm w K mg base):Fd PG_ w K mg base 2 (He.ga K "all_places") (zfK K):=by
 obtain ⟨fd,F⟩:=T.df 33 (d:=zh3)
 have bi:Binds K fd ["many"] []:=FunD.bindsN F fun _ _ _ _ _ _ us hl=>match us,hl with | [_],_=>by kernel_rfl
 refine zaB (k:=1) F zbN bi rfl rfl fun cdv A outer s H E hr X eX W tk po=>?_
 subst eX
 unfold zgP
 exact (zad (zan (i:=1) (zbi (zab (zaL zae) zae)) fun h=>ps_set zbN.nd rfl (by nofun) h)
  (zad (zan (i:=2) zaf fun h=>ps_set zbN.nd rfl (by nofun) h)
  (zad (zm3 po (zat zoy (zaa 2 (pv 2)) (zas za2 (zab (zaa 1 (pv 1)) zae) fun h1 h2=>pe_callB h1 rfl (T.free 13) boot_len h2))
  (zad (zan (i:=3) (znI (za7 (zak (hu1 hr) (zaa 1 (pv 1)) (zaa 2 (pv 2)))) (zaF zaK (zak (hu1 hr) (zak (hu1 hr) (zaa 1 (pv 1)) (zaa 2 (pv 2))) (zv6 zaf)) zaf) zaf) fun h=>ps_set zbN.nd rfl (by nofun) h)
  (zad (zaS (zjU (zaa 1 (pv 1)) (zab (zdX rfl zbN.nd (zoG (zab (zaa 3 (pv 3)) (zab (zaa 0 (pv 0)) zae)) fun h=>pi_range2 rfl (T.free 44) h) (own:=[("place", 4)]) (blkOk_by (by kernel_rfl)) zcN (fun _ _ _ _ _=>pg_name zbN.nd rfl (by nofun)) (fun _ _ _ _ _=>zbV) (fun _ _ _ _ _=>(zaF zaK (zak (hu1 hr) (zaa 1 (pv 1)) (zaa 2 (pv 2))) (zaL (zab (zaa 4 (pv 4)) zae))))) zae)))
  (zai (zm4 (i:=2) zaf zkC fun h1 h2=>ps_aug zbN.nd rfl (by nofun) h1 h2)))))
  (zai (zar (zaa 1 (pv 1)))))))
def zdu (K:PySem.W.Frag) (W:XW):SM:=
 (zav (zcw K (zag 0) (zaw (zfi K) W (zac (zag 1) (zac (zag 2) (zac (zag 3) zal)))) "own") (zav (zcw K (zag 0) (zag 2) "words") (zav (zcw K (zag 0) (zd6 K (zag 1) "sources") "sources") (zcw K (zag 0) (mLc (zdY (zaw (zgq K) W (zac (zag 1) zal))) (gNm 4) zij (zcV (zac (zag 4) (zac (zaw (zfi K) WN (zac (zag 1) (zac (zag 4) (zac (zag 3) zal)))) zal))) [4]) "table"))))
theorem zc6:FnScope ["self", "program", "words", "name", "row"] ["self", "program", "words", "name"] (defScope zbZ):=⟨rfl,rfl,rfl,by decide +kernel,rfl,by decide +kernel,by decide +kernel⟩
def zb1 (K:PySem.W.Frag):SpD:=spB 4 1 (zdu K)
theorem ze0 (T:TLm w K mg base):Fd PG_ w K mg base 22 (He.ma K (He.ga K "Tellings") "__init__") (zb1 K):=by
 obtain ⟨fd,F⟩:=T.df 34 (d:=ze8)
 have bi:Binds K fd ["self", "program", "words", "name"] []:=FunD.bindsN F fun _ _ _ _ _ _ us hl=>match us,hl with | [_,_,_,_],_=>by kernel_rfl
 refine zaB (k:=21) F zc6 bi rfl rfl fun cdv A outer s H E hr X eX W tk po=>?_
 subst eX
 unfold zdu
 exact (zad (zb5 (zaa 0 (pv 0)) (zaA (ziu T) (hr.mono (by omega)) tk (T.glo 48) (zab (zaa 1 (pv 1)) (zab (zaa 2 (pv 2)) (zab (zaa 3 (pv 3)) zae)))))
  (zad (zb5 (zaa 0 (pv 0)) (zaa 2 (pv 2)))
  (zad (zb5 (zaa 0 (pv 0)) (zaP (zaa 1 (pv 1))))
  (zai (zb5 (zaa 0 (pv 0)) (zdX rfl zc6.nd (zaR (zaA (zlT T) (hr.mono (by omega)) tk (T.glo 49) (zab (zaa 1 (pv 1)) zae))) (own:=[("row", 4)]) (blkOk_by (by kernel_rfl)) zcN (fun _ _ _ _ _=>pg_name zc6.nd rfl (by nofun)) (fun _ _ _ _ _=>zbV) (fun _ _ _ _ _=>(zaL (zab (zaa 4 (pv 4)) (zab (zaA (ziu T) (hr.mono (by omega)) zfB (T.glo 48) (zab (zaa 1 (pv 1)) (zab (zaa 4 (pv 4)) (zab (zaa 3 (pv 3)) zae)))) zae))))))))))
def zb8 (K:PySem.W.Frag) (W:XW):SM:=
 (za9 (mLc (zdY (zd6 K (zag 0) "table")) (gT 2 (gC (gNm 2) (gC (gNm 3) gN))) (zfr (zaw (zkU K) WN (zac (zag 2) (zac (zd6 K (zag 0) "words") (zac (zag 1) zal))))) (zag 3) [2,3]))
theorem zbp:FnScope ["self", "places", "row", "told"] ["self", "places"] (defScope zbm):=⟨rfl,rfl,rfl,by decide +kernel,rfl,by decide +kernel,by decide +kernel⟩
def zbT (K:PySem.W.Frag):SpD:=spB 2 2 (zb8 K)
theorem zgl (T:TLm w K mg base):Fd PG_ w K mg base 4 (He.ma K (He.ga K "Tellings") "told_where") (zbT K):=by
 obtain ⟨fd,F⟩:=T.df 35 (d:=zdj)
 have bi:Binds K fd ["self", "places"] []:=FunD.bindsN F fun _ _ _ _ _ _ us hl=>match us,hl with | [_,_],_=>by kernel_rfl
 refine zaB (k:=3) F zbp bi rfl rfl fun cdv A outer s H E hr X eX W tk po=>?_
 subst eX
 unfold zb8
 exact (zai (zar (zdX rfl zbp.nd (zaR (zaP (zaa 0 (pv 0)))) (own:=[("row", 2),("told", 3)]) (blkOk_by (by kernel_rfl)) (zwZ (znn (znn ztz))) (fun _ _ _ _ _=>pg_tup rfl (pgs_cons (pg_name zbp.nd rfl (by nofun)) (pgs_cons (pg_name zbp.nd rfl (by nofun)) pgs_nil))) (fun _ _ _ _ _=>zdd (za7 (zaA (zp2 T) (hr.mono (by omega)) zfB (T.glo 50) (zab (zaa 2 (pv 2)) (zab (zaP (zaa 0 (pv 0))) (zab (zaa 1 (pv 1)) zae)))))) (fun _ _ _ _ _=>(zaa 3 (pv 3))))))
def zcO (K:PySem.W.Frag) (W:XW):SM:=
 (za9 (mCB ztF (zac (mLc (zdY (zbG (He.ga K "Tellings") "told_where" (zbT K) W (zag 0) (zac (zag 1) zal))) (gNm 2) zij (mOp vEq (zag 2) (zd6 K (zag 0) "own")) [2]) zal)))
theorem zck:FnScope ["self", "places", "told"] ["self", "places"] (defScope zbx):=⟨rfl,rfl,rfl,by decide +kernel,rfl,by decide +kernel,by decide +kernel⟩
def zcj (K:PySem.W.Frag):SpD:=spB 2 1 (zcO K)
theorem zhb (T:TLm w K mg base):Fd PG_ w K mg base 6 (He.ma K (He.ga K "Tellings") "is_fixed") (zcj K):=by
 obtain ⟨fd,F⟩:=T.df 36 (d:=zd7)
 have bi:Binds K fd ["self", "places"] []:=FunD.bindsN F fun _ _ _ _ _ _ us hl=>match us,hl with | [_,_],_=>by kernel_rfl
 refine zaB (k:=5) F zck bi rfl rfl fun cdv A outer s H E hr X eX W tk po=>?_
 subst eX
 unfold zcO
 exact (zai (zar (zas (zpf rfl) (zab (zdX rfl zck.nd (zaR (zde (zaa 0 (pv 0)) (T.cls 51) (T.meth 52) (zgl T) (hr.mono (by omega)) tk (zab (zaa 1 (pv 1)) zae))) (own:=[("told", 2)]) (blkOk_by (by kernel_rfl)) zcN (fun _ _ _ _ _=>pg_name zck.nd rfl (by nofun)) (fun _ _ _ _ _=>zbV) (fun _ _ _ _ _=>(ze4 (za3 (zcW hr)) (zaa 2 (pv 2)) (zaP (zaa 0 (pv 0)))))) zae) fun h1 h2=>pe_callB h1 rfl (T.free 45) (by decide +kernel) h2)))
def zd2 (K:PySem.W.Frag) (W:XW):SM:=
 (za9 (mCB zbX (zac (mLc (zdY (zag 1)) (gNm 2) zij (mOp vIx (zd6 K (zag 0) "sources") (zag 2)) [2]) zal)))
theorem zdp:FnScope ["self", "places", "place"] ["self", "places"] (defScope zcd):=⟨rfl,rfl,rfl,by decide +kernel,rfl,by decide +kernel,by decide +kernel⟩
def zch (K:PySem.W.Frag):SpD:=spB 2 1 (zd2 K)
theorem zfp (T:TLm w K mg base):Fd PG_ w K mg base 2 (He.ma K (He.ga K "Tellings") "named") (zch K):=by
 obtain ⟨fd,F⟩:=T.df 37 (d:=zfy)
 have bi:Binds K fd ["self", "places"] []:=FunD.bindsN F fun _ _ _ _ _ _ us hl=>match us,hl with | [_,_],_=>by kernel_rfl
 refine zaB (k:=1) F zdp bi rfl rfl fun cdv A outer s H E hr X eX W tk po=>?_
 subst eX
 unfold zd2
 exact (zai (zar (zaN zb6 (zab (zdX rfl zdp.nd (zaR (zaa 1 (pv 1))) (own:=[("place", 2)]) (blkOk_by (by kernel_rfl)) zcN (fun _ _ _ _ _=>pg_name zdp.nd rfl (by nofun)) (fun _ _ _ _ _=>zbV) (fun _ _ _ _ _=>(zak (hu1 hr) (zaP (zaa 0 (pv 0))) (zaa 2 (pv 2))))) zae) fun h1 h2=>pe_callTy h1 rfl (T.free 14) boot_tuple h2)))
def zbW (K:PySem.W.Frag) (W:XW):SM:=
 (za9 (zaw (zhr K) W (zac (mLc (zdY (zaw (zfK K) W (zac (mCB zdN (zac (zd6 K (zag 0) "sources") zal)) zal))) (gNm 1) (zfr (zbG (He.ga K "Tellings") "is_fixed" (zcj K) WN (zag 0) (zac (zag 1) zal))) (zag 1) [1]) zal)))
theorem zbO:FnScope ["self", "places"] ["self"] (defScope zbd):=⟨rfl,rfl,rfl,by decide +kernel,rfl,by decide +kernel,by decide +kernel⟩
def zbe (K:PySem.W.Frag):SpD:=spB 1 1 (zbW K)
theorem zdc (T:TLm w K mg base):Fd PG_ w K mg base 8 (He.ma K (He.ga K "Tellings") "least_fixed") (zbe K):=by
 obtain ⟨fd,F⟩:=T.df 38 (d:=zdf)
 have bi:Binds K fd ["self"] []:=FunD.bindsN F fun _ _ _ _ _ _ us hl=>match us,hl with | [_],_=>by kernel_rfl
 refine zaB (k:=7) F zbO bi rfl rfl fun cdv A outer s H E hr X eX W tk po=>?_
 subst eX
 unfold zbW
 exact (zai (zar (zaA (zmr T) (hr.mono (by omega)) tk (T.glo 55) (zab (zdX rfl zbO.nd (zaR (zaA (zk9 T) (hr.mono (by omega)) tk (T.glo 53) (zab (zas za2 (zab (zaP (zaa 0 (pv 0))) zae) fun h1 h2=>pe_callB h1 rfl (T.free 13) boot_len h2) zae))) (own:=[("places", 1)]) (blkOk_by (by kernel_rfl)) zcN (fun _ _ _ _ _=>pg_name zbO.nd rfl (by nofun)) (fun _ _ _ _ _=>zdd (za7 (zde (zaa 0 (pv 0)) (T.cls 51) (T.meth 54) (zhb T) (hr.mono (by omega)) zfB (zab (zaa 1 (pv 1)) zae)))) (fun _ _ _ _ _=>(zaa 1 (pv 1)))) zae))))
def zeE (K:PySem.W.Frag) (W:XW):SM:=
 (zav (zaM (zjY (He.ga K "Tellings") (zb1 K) W (zac (zag 0) (zac (zag 1) (zac (zag 2) zal)))) (gNm 3)) (za9 (mLc (zdY (zbG (He.ga K "Tellings") "least_fixed" (zbe K) W (zag 3) zal)) (gNm 4) zij (zbG (He.ga K "Tellings") "named" (zch K) WN (zag 3) (zac (zag 4) zal)) [4])))
theorem zcG:FnScope ["program", "words", "name", "tellings", "places"] ["program", "words", "name"] (defScope zcy):=⟨rfl,rfl,rfl,by decide +kernel,rfl,by decide +kernel,by decide +kernel⟩
def zdO (K:PySem.W.Frag):SpD:=spB 3 2 (zeE K)
theorem zjk (T:TLm w K mg base):Fd PG_ w K mg base 24 (He.ga K "least_reasons") (zdO K):=by
 obtain ⟨fd,F⟩:=T.df 39 (d:=zf9)
 have bi:Binds K fd ["program", "words", "name"] []:=FunD.bindsN F fun _ _ _ _ _ _ us hl=>match us,hl with | [_,_,_],_=>by kernel_rfl
 refine zaB (k:=23) F zcG bi rfl rfl fun cdv A outer s H E hr X eX W tk po=>?_
 subst eX
 unfold zeE
 exact (zad (zan (i:=3) (zhB (T.mkr 56) (ze0 T) (hr.mono (by omega)) tk (T.glo 57) (zab (zaa 0 (pv 0)) (zab (zaa 1 (pv 1)) (zab (zaa 2 (pv 2)) zae)))) fun h=>ps_set zcG.nd rfl (by nofun) h)
  (zai (zar (zdX rfl zcG.nd (zaR (zm9 (zaa 3 (pv 3)) (T.cls 51) (T.meth 58) (zdc T) (hr.mono (by omega)) tk)) (own:=[("places", 4)]) (blkOk_by (by kernel_rfl)) zcN (fun _ _ _ _ _=>pg_name zcG.nd rfl (by nofun)) (fun _ _ _ _ _=>zbV) (fun _ _ _ _ _=>(zde (zaa 3 (pv 3)) (T.cls 51) (T.meth 59) (zfp T) (hr.mono (by omega)) zfB (zab (zaa 4 (pv 4)) zae)))))))
def zf4 (K:PySem.W.Frag) (W:XW):SM:=
 (zav (zaM (zaw (zfI K) W (zac (zag 0) (zac (zag 1) (zac (zag 2) zal)))) (gNm 3)) (za9 (mLc (zdY (mOp zcp (mOp vIx (zag 3) (mC (.str "notes"))) (mOp vIx (zag 3) (mC (.str "peeks"))))) (gNm 4) zij (mOp vIx (zag 4) (mC (.int 0))) [4])))
theorem zdC:FnScope ["program", "words", "name", "found", "pair"] ["program", "words", "name"] (defScope zdz):=⟨rfl,rfl,rfl,by decide +kernel,rfl,by decide +kernel,by decide +kernel⟩
def zcq (K:PySem.W.Frag):SpD:=spB 3 2 (zf4 K)
theorem zhf (T:TLm w K mg base):Fd PG_ w K mg base 20 (He.ga K "cells_heard") (zcq K):=by
 obtain ⟨fd,F⟩:=T.df 40 (d:=zhn)
 have bi:Binds K fd ["program", "words", "name"] []:=FunD.bindsN F fun _ _ _ _ _ _ us hl=>match us,hl with | [_,_,_],_=>by kernel_rfl
 refine zaB (k:=19) F zdC bi rfl rfl fun cdv A outer s H E hr X eX W tk po=>?_
 subst eX
 unfold zf4
 exact (zad (zan (i:=3) (zaA (zjN T) (hr.mono (by omega)) tk (T.glo 43) (zab (zaa 0 (pv 0)) (zab (zaa 1 (pv 1)) (zab (zaa 2 (pv 2)) zae)))) fun h=>ps_set zdC.nd rfl (by nofun) h)
  (zai (zar (zdX rfl zdC.nd (zaR (zaF zaK (zak (hu1 hr) (zaa 3 (pv 3)) zap) (zak (hu1 hr) (zaa 3 (pv 3)) zap))) (own:=[("pair", 4)]) (blkOk_by (by kernel_rfl)) zcN (fun _ _ _ _ _=>pg_name zdC.nd rfl (by nofun)) (fun _ _ _ _ _=>zbV) (fun _ _ _ _ _=>(zak (hu1 hr) (zaa 4 (pv 4)) zaf))))))
def ziJ (K:PySem.W.Frag) (W:XW):SM:=
 (za9 (mCB zbX (zac (mLc (zdY (zd6 K (zag 0) "sources")) (gNm 2) (mB (mOp vIn (zag 2) (zag 1))) (zag 2) [2]) zal)))
theorem zht:FnScope ["program", "found", "source"] ["program", "found"] (defScope zfE):=⟨rfl,rfl,rfl,by decide +kernel,rfl,by decide +kernel,by decide +kernel⟩
def zhs (K:PySem.W.Frag):SpD:=spB 2 1 (ziJ K)
theorem zms (T:TLm w K mg base):Fd PG_ w K mg base 2 (He.ga K "in_order") (zhs K):=by
 obtain ⟨fd,F⟩:=T.df 41 (d:=zj7)
 have bi:Binds K fd ["program", "found"] []:=FunD.bindsN F fun _ _ _ _ _ _ us hl=>match us,hl with | [_,_],_=>by kernel_rfl
 refine zaB (k:=1) F zht bi rfl rfl fun cdv A outer s H E hr X eX W tk po=>?_
 subst eX
 unfold ziJ
 exact (zai (zar (zaN zb6 (zab (zdX rfl zht.nd (zaR (zaP (zaa 0 (pv 0)))) (own:=[("source", 2)]) (blkOk_by (by kernel_rfl)) zcN (fun _ _ _ _ _=>pg_name zht.nd rfl (by nofun)) (fun _ _ _ _ _=>zdd (zat (ziz (zkI hr)) (zaa 2 (pv 2)) (zaa 1 (pv 1)))) (fun _ _ _ _ _=>(zaa 2 (pv 2)))) zae) fun h1 h2=>pe_callTy h1 rfl (T.free 14) boot_tuple h2)))
def zdM (K:PySem.W.Frag) (f:Addr) (sp:SpD) (W:XW):SM:=
 (zav (zaM (mCB zjd (zac (zag 1) zal)) (gNm 3)) (zav (zaM (mC (.int 0)) (gNm 4)) (zav (zna (mB (mOp vLt (zag 4) (mCB zdN (zac (zag 3) zal))))
  (zav (mIf (mB (mOp ziM (mOp vIx (zag 3) (zag 4)) (zd6 K (zag 0) "sources")))
  (zbQ (ziB okL zpW (zag 3) (zac (mLc (zdY (zwk 2 f sp W (zac (mOp vIx (zag 3) (zag 4)) zal))) (gNm 5) (mB (mOp ziM (zag 5) (zag 3))) (zag 5) [5]) zal)))
  mNx) (zpo 4 (mC (.int 1)) zkQ))) (za9 (zaw (zhs K) W (zac (zag 0) (zac (zag 3) zal)))))))
theorem zci:FnScope ["program", "cells", "cells_of", "queue", "at", "cell"] ["program", "cells", "cells_of"] (defScope zbH):=⟨rfl,rfl,rfl,by decide +kernel,rfl,by decide +kernel,by decide +kernel⟩
theorem zkn (T:TLm w K mg base) {k:Nat} (hk:3≤k+1):∀ (cdv:Value) (A:Around) (outer:List Env) (s:Shared) (H:Hp) (E:XK),Room (k+1) (A.deeper (envOfC "reached_by" (defScope zbH) s.heap.objs.size (He.ga K "reached_by") cdv))->∀ Z,Z=cxOf (L2.CX PG_ w) PG_ w K mg base ["program", "cells", "cells_of", "queue", "at", "cell"] "reached_by" (defScope zbH) (He.ga K "reached_by") cdv A outer s H E->∀ W,Tk Z H W->PassesOwn (model Z.prog Z.w) Z.A Z.env Z.xe->∀ (f:Addr) (sp:SpD),
  (∀ (e:Expr) (p1 p2:Pos) (ma:AM),starEach [e] Z.env=(false,eval e Z.env) :: starEach [] Z.env->MA Z H [e] ma->ME Z H (.Call (.Name "cells_of" p1) [e] [] p2) (zwk 2 f sp W ma))->MSs Z H (defBody zbH) (zdM K f sp W):=by
 intro cdv A outer s H E hr0 Z eX W tk po f sp hL
 have hr:=hr0.mono hk
 subst eX
 unfold zdM
 exact (zad (zan (i:=3) (zaN zkc (zab (zaa 1 (pv 1)) zae) fun h1 h2=>pe_callTy h1 rfl (T.free 35) boot_list h2) fun h=>ps_set zci.nd rfl (by nofun) h)
  (zad (zan (i:=4) zaf fun h=>ps_set zci.nd rfl (by nofun) h)
  (zad (zm3 po (zat zoy (zaa 4 (pv 4)) (zas za2 (zab (zaa 3 (pv 3)) zae) fun h1 h2=>pe_callB h1 rfl (T.free 13) boot_len h2))
  (zad (zaH (zat (zf0 (zkI hr)) (zak (hu1 hr) (zaa 3 (pv 3)) (zaa 4 (pv 4))) (zaP (zaa 0 (pv 0))))
  (zai (zaS (zjU (zaa 3 (pv 3)) (zab (zdX rfl zci.nd (zaR (hL _ _ _ _ rfl (zab (zak (hu1 hr) (zaa 3 (pv 3)) (zaa 4 (pv 4))) zae))) (own:=[("cell", 5)]) (blkOk_by (by kernel_rfl)) zcN (fun _ _ _ _ _=>pg_name zci.nd rfl (by nofun)) (fun _ _ _ _ _=>zdd (zat (zf0 (zkI hr)) (zaa 5 (pv 5)) (zaa 3 (pv 3)))) (fun _ _ _ _ _=>(zaa 5 (pv 5)))) zae))))
  zau)
  (zai (zm4 (i:=4) zaf zkC fun h1 h2=>ps_aug zci.nd rfl (by nofun) h1 h2))))
  (zai (zar (zaA (zms T) (hr.mono (by omega)) tk (T.glo 60) (zab (zaa 0 (pv 0)) (zab (zaa 3 (pv 3)) zae))))))))
def zke (K:PySem.W.Frag) (W:XW):SM:=
 (zav (zaM (zaw (zcq K) W (zac (zag 0) (zac (zag 1) (zac (zag 2) zal)))) (gNm 3)) (za9 (zzj (He.cT K ("reached", none)).2 "reached.<locals>.<lambda>" 3 (zdM K) [0,1] (fun W=>(zaw (zcq K) W (zac (zag 1) (zac (zag 2) (zac (zag 0) zal))))) W (zag 0) (zag 3))))
theorem zku:FnScope ["program", "words", "name", "first"] ["program", "words", "name"] (defScope zev):=⟨rfl,rfl,rfl,by decide +kernel,rfl,by decide +kernel,by decide +kernel⟩
def zfj (K:PySem.W.Frag):SpD:=spB 3 1 (zke K)
theorem ziw (T:TLm w K mg base):Fd PG_ w K mg base 26 (He.ga K "reached") (zfj K):=by
 obtain ⟨fd,F⟩:=T.df 43 (d:=zkK)
 have bi:Binds K fd ["program", "words", "name"] []:=FunD.bindsN F fun _ _ _ _ _ _ us hl=>match us,hl with | [_,_,_],_=>by kernel_rfl
 obtain ⟨fd2,F2⟩:=T.df 42 (d:=zh1)
 have bi2:Binds K fd2 ["program", "cells", "cells_of"] []:=FunD.bindsN F2 fun _ _ _ _ _ _ us hl=>match us,hl with | [_,_,_],_=>by kernel_rfl
 refine zsE (k:=25) (at_:=("reached", none)) F zku bi rfl rfl fun A outer s H E hr X eX W tk po=>?_
 subst eX
 unfold zke
 exact (zad (zan (i:=3) (zaA (zhf T) (hr.mono (by omega)) tk (T.glo 61) (zab (zaa 0 (pv 0)) (zab (zaa 1 (pv 1)) (zab (zaa 2 (pv 2)) zae)))) fun h=>ps_set zku.nd rfl (by nofun) h)
  (zai (zar (znH (k:=23) (a := "cells_of") (pl:=["cell"]) (fr:=["program", "words"]) F2 zci bi2 rfl rfl (zkn T (by omega)) rfl (by first | exact .inl rfl | exact .inr (.inl rfl) | exact .inr (.inr rfl)) (hr:=hr.mono (by omega)) (tk:=tk) (hg:=by rfl) (hm:=T.glo 62) (h1:=(zaa 0 (pv 0))) (h2:=(zaa 3 (pv 3))) (TB:=T.tb ("reached", none) List.mem_cons_self) (hcode:=rfl) (hq:=rfl) (hdef:=rfl) (hpl1:=rfl) (SN:=nscope_by (by decide +kernel)) (hfree:=ndef_free (sc:=defScope zev) (fr:=["program", "words"]) (by decide +kernel)) (hfr:=ndef_fr (sc:=defScope zev) (by decide +kernel)) (hjs:=rfl) (hb:=fun _ _ _ _ us hl=>match us,hl with | [_],_=>by kernel_rfl) (hbody:=fun _ _ _ _ _ _ _ _ hr Y eY W tk po=>by subst eY;exact (zaA (zhf T) (hr.mono (by omega)) tk (T.glo 61) (zab (zaa 1 (pv 1)) (zab (zaa 2 (pv 2)) (zab (zaa 0 (pv 0)) zae)))))))))
def zdZ (K:PySem.W.Frag) (W:XW):SM:=
 (zav (zaM (zjY (He.ga K "Tellings") (zb1 K) W (zac (zag 0) (zac (zag 1) (zac (zag 2) zal)))) (gNm 3)) (zav (zaM (zaw (zfj K) W (zac (zag 0) (zac (zag 1) (zac (zag 2) zal)))) (gNm 4)) (zav (zaM (mLc (zdY (zbG (He.ga K "Tellings") "least_fixed" (zbe K) W (zag 3) zal)) (gNm 6) zij (zbG (He.ga K "Tellings") "named" (zch K) WN (zag 3) (zac (zag 6) zal)) [6]) (gNm 5)) (za9 (mLc (zdY (zag 5)) (gNm 7) (zfr (zaw (zfk K) WN (zac (zag 7) (zac (zag 4) zal)))) (zag 7) [7])))))
theorem zaX:FnScope ["program", "words", "name", "tellings", "sources", "found", "places", "reason"] ["program", "words", "name"] (defScope zca):=⟨rfl,rfl,rfl,by decide +kernel,rfl,by decide +kernel,by decide +kernel⟩
def zdm (K:PySem.W.Frag):SpD:=spB 3 5 (zdZ K)
theorem ziv (T:TLm w K mg base):Fd PG_ w K mg base 28 (He.ga K "reasons_within") (zdm K):=by
 obtain ⟨fd,F⟩:=T.df 44 (d:=zfv)
 have bi:Binds K fd ["program", "words", "name"] []:=FunD.bindsN F fun _ _ _ _ _ _ us hl=>match us,hl with | [_,_,_],_=>by kernel_rfl
 refine zaB (k:=27) F zaX bi rfl rfl fun cdv A outer s H E hr X eX W tk po=>?_
 subst eX
 unfold zdZ
 exact (zad (zan (i:=3) (zhB (T.mkr 56) (ze0 T) (hr.mono (by omega)) tk (T.glo 57) (zab (zaa 0 (pv 0)) (zab (zaa 1 (pv 1)) (zab (zaa 2 (pv 2)) zae)))) fun h=>ps_set zaX.nd rfl (by nofun) h)
  (zad (zan (i:=4) (zaA (ziw T) (hr.mono (by omega)) tk (T.glo 63) (zab (zaa 0 (pv 0)) (zab (zaa 1 (pv 1)) (zab (zaa 2 (pv 2)) zae)))) fun h=>ps_set zaX.nd rfl (by nofun) h)
  (zad (zjx (i:=5) rfl zaX.nd (zaR (zm9 (zaa 3 (pv 3)) (T.cls 51) (T.meth 58) (zdc T) (hr.mono (by omega)) tk)) (own:=[("places", 6)]) (blkOk_by (by kernel_rfl)) zcN (fun _ _ _ _ _=>pg_name zaX.nd rfl (by nofun)) (fun _ _ _ _ _=>zbV) (fun _ _ _ _ _=>(zde (zaa 3 (pv 3)) (T.cls 51) (T.meth 59) (zfp T) (hr.mono (by omega)) zfB (zab (zaa 6 (pv 6)) zae))))
  (zai (zar (zdX rfl zaX.nd (zaR (zaa 5 (pv 5))) (own:=[("reason", 7)]) (blkOk_by (by kernel_rfl)) zcN (fun _ _ _ _ _=>pg_name zaX.nd rfl (by nofun)) (fun _ _ _ _ _=>zdd (za7 (zaA (zkA T) (hr.mono (by omega)) zfB (T.glo 46) (zab (zaa 7 (pv 7)) (zab (zaa 4 (pv 4)) zae))))) (fun _ _ _ _ _=>(zaa 7 (pv 7)))))))))
def zhK (K:PySem.W.Frag) (W:XW):SM:=
 (zav (znL (zag 0) (mC (.int 3)) (mC (.int 1)) zkQ) (zav (mIf (zmd (mB (mOp vEq (mOp vIx (zag 0) (mC (.int 2))) (mC (.int 0)))) (mB (mOp vLt (mOp vIx (zag 0) (mC (.int 1))) (mCB zdN (zac (mOp vIx (zag 0) (mC (.int 0))) zal)))))
  (zav (zaM (mOp vIx (mOp vIx (zag 0) (mC (.int 0))) (mOp vIx (zag 0) (mC (.int 1)))) (gNm 2)) (zav (znL (zag 0) (mC (.int 1)) (mC (.int 1)) zkQ) (mIf (mB (mOp vGe (mCB zxa (zac (zag 2) zal)) (mOp zt0 (mC (.int 10)) (mC (.int 18)))))
  (zaM (mCB zxa (zac (zag 2) zal)) (gIx (zag 0) (mC (.int 2))))
  (zaM (mOp zpl (mCB vInt (zac (mOp zcp (mOp zcp (mOp zns (mOp vIx (zag 0) (mC (.int 4))) (mC (.int 69621))) (zag 2)) (mC (.int 7919))) zal)) (mC (.int 2147483647))) (gIx (zag 0) (mC (.int 4)))))))
  mNx) (zav (mIf (mB (mOp vGt (mOp vIx (zag 0) (mC (.int 2))) (mC (.int 0))))
  (zav (zaM (mOp zpl (mCB vInt (zac (mOp vIx (zag 0) (mC (.int 2))) zal)) (zag 1)) (gNm 3)) (zav (zaM (mOp zkR (mOp vIx (zag 0) (mC (.int 2))) (zag 1)) (gIx (zag 0) (mC (.int 2)))) (za9 (zag 3))))
  mNx) (zav (zaM (mOp zpl (mCB vInt (zac (mOp zns (mOp zcp (mOp zcp (mOp vIx (zag 0) (mC (.int 4))) (mOp zns (mC (.int 7919)) (mOp vIx (zag 0) (mC (.int 3))))) (mC (.int 1))) (mC (.int 48271))) zal)) (mC (.int 2147483647))) (gNm 4)) (zav (zaM (mOp zpl (mCB vInt (zac (mOp zns (zag 4) (mOp zcp (mOp zkR (zag 4) (mC (.int 1009))) (mC (.int 69621)))) zal)) (mC (.int 2147483647))) (gNm 5)) (zav (zaM (mOp zpl (mCB vInt (zac (mOp zns (zag 5) (mOp zcp (mOp zkR (zag 5) (mC (.int 2003))) (mC (.int 40692)))) zal)) (mC (.int 2147483399))) (gNm 6)) (za9 (mOp zpl (mCB vInt (zac (mOp zkR (zag 6) (mC (.int 16))) zal)) (zag 1)))))))))
theorem zcT:FnScope ["_law_state_here", "_law_many_here", "_law_cell", "_law_digit", "_law_one", "_law_two", "_law_three"] ["_law_state_here", "_law_many_here"] (defScope zeR):=⟨rfl,rfl,rfl,by decide +kernel,rfl,by decide +kernel,by decide +kernel⟩
def zao (K:PySem.W.Frag):SpD:=spB 2 5 (zhK K)
theorem zaq (T:TLm w K mg base):Fd PG_ w K mg base 2 (He.ga K "_law_draw") (zao K):=by
 obtain ⟨fd,F⟩:=T.df 45 (d:=zi8)
 have bi:Binds K fd ["_law_state_here", "_law_many_here"] []:=FunD.bindsN F fun _ _ _ _ _ _ us hl=>match us,hl with | [_,_],_=>by kernel_rfl
 refine zaB (k:=1) F zcT bi rfl rfl fun cdv A outer s H E hr X eX W tk po=>?_
 subst eX
 unfold zhK
 exact (zad (zoB (hu1 hr) (zaa 0 (pv 0)) zaf zaf zkC)
  (zad (zaH (MW.mt (zhh (zat (za3 (zcW hr)) (zak (hu1 hr) (zaa 0 (pv 0)) zaf) zaf) (zf1 (zat zoy (zak (hu1 hr) (zaa 0 (pv 0)) zaf) (zas za2 (zab (zak (hu1 hr) (zaa 0 (pv 0)) zaf) zae) fun h1 h2=>pe_callB h1 rfl (T.free 13) boot_len h2)))))
  (zad (zan (i:=2) (zak (hu1 hr) (zak (hu1 hr) (zaa 0 (pv 0)) zaf) (zak (hu1 hr) (zaa 0 (pv 0)) zaf)) fun h=>ps_set zcT.nd rfl (by nofun) h)
  (zad (zoB (hu1 hr) (zaa 0 (pv 0)) zaf zaf zkC)
  (zai (zaH (zat zp3 (zas zrx (zab (zaa 2 (pv 2)) zae) fun h1 h2=>pe_callB h1 rfl (T.free 64) boot_abs h2) (zaF zox zaf zaf))
  (zai (zcu (zas zrx (zab (zaa 2 (pv 2)) zae) fun h1 h2=>pe_callB h1 rfl (T.free 64) boot_abs h2) (zcU (hu1 hr) (zaa 0 (pv 0)) zaf)))
  (zai (zcu (zaF ziU (zaN zja (zab (zaF zaK (zaF zaK (zaF zkB (zak (hu1 hr) (zaa 0 (pv 0)) zaf) zaf) (zaa 2 (pv 2))) zaf) zae) fun h1 h2=>pe_callTy h1 rfl (T.free 65) boot_int h2) zaf) (zcU (hu1 hr) (zaa 0 (pv 0)) zaf)))))))
  zau)
  (zad (zaH (zat zlW (zak (hu1 hr) (zaa 0 (pv 0)) zaf) zaf)
  (zad (zan (i:=3) (zaF ziU (zaN zja (zab (zak (hu1 hr) (zaa 0 (pv 0)) zaf) zae) fun h1 h2=>pe_callTy h1 rfl (T.free 65) boot_int h2) (zaa 1 (pv 1))) fun h=>ps_set zcT.nd rfl (by nofun) h)
  (zad (zcu (zaF zhy (zak (hu1 hr) (zaa 0 (pv 0)) zaf) (zaa 1 (pv 1))) (zcU (hu1 hr) (zaa 0 (pv 0)) zaf))
  (zai (zar (zaa 3 (pv 3))))))
  zau)
  (zad (zan (i:=4) (zaF ziU (zaN zja (zab (zaF zkB (zaF zaK (zaF zaK (zak (hu1 hr) (zaa 0 (pv 0)) zaf) (zaF zkB zaf (zak (hu1 hr) (zaa 0 (pv 0)) zaf))) zaf) zaf) zae) fun h1 h2=>pe_callTy h1 rfl (T.free 65) boot_int h2) zaf) fun h=>ps_set zcT.nd rfl (by nofun) h)
  (zad (zan (i:=5) (zaF ziU (zaN zja (zab (zaF zkB (zaa 4 (pv 4)) (zaF zaK (zaF zhy (zaa 4 (pv 4)) zaf) zaf)) zae) fun h1 h2=>pe_callTy h1 rfl (T.free 65) boot_int h2) zaf) fun h=>ps_set zcT.nd rfl (by nofun) h)
  (zad (zan (i:=6) (zaF ziU (zaN zja (zab (zaF zkB (zaa 5 (pv 5)) (zaF zaK (zaF zhy (zaa 5 (pv 5)) zaf) zaf)) zae) fun h1 h2=>pe_callTy h1 rfl (T.free 65) boot_int h2) zaf) fun h=>ps_set zcT.nd rfl (by nofun) h)
  (zai (zar (zaF ziU (zaN zja (zab (zaF zhy (zaa 6 (pv 6)) zaf) zae) fun h1 h2=>pe_callTy h1 rfl (T.free 65) boot_int h2) (zaa 1 (pv 1)))))))))))
def zgR (K:PySem.W.Frag) (W:XW):SM:=
 (za9 (zf2 (zac (mCB zjd (zac (mSl (zag 0) zs2 (mP (mC (.int 63)))) zal)) (zac (mC (.int 0)) (zac (mC (.int 0)) (zac (mC (.int 0)) (zac (mC (.int 1)) zal)))))))
theorem zkW:FnScope ["_law_script"] ["_law_script"] (defScope zee):=⟨rfl,rfl,rfl,by decide +kernel,rfl,by decide +kernel,by decide +kernel⟩
def zfM (K:PySem.W.Frag):SpD:=spB 1 0 (zgR K)
theorem zlb (T:TLm w K mg base):Fd PG_ w K mg base 2 (He.ga K "_law_state") (zfM K):=by
 obtain ⟨fd,F⟩:=T.df 46 (d:=zh5)
 have bi:Binds K fd ["_law_script"] []:=FunD.bindsN F fun _ _ _ _ _ _ us hl=>match us,hl with | [_],_=>by kernel_rfl
 refine zaB (k:=1) F zkW bi rfl rfl fun cdv A outer s H E hr X eX W tk po=>?_
 subst eX
 unfold zgR
 exact (zai (zar (zbi (zab (zaN zkc (zab (zqb (zaa 0 (pv 0)) zlp (zlo zaf)) zae) fun h1 h2=>pe_callTy h1 rfl (T.free 35) boot_list h2) (zab zaf (zab zaf (zab zaf (zab zaf zae))))))))
def zgV (K:PySem.W.Frag) (W:XW):SM:=
 (zav (zaM (zaw (zao K) W (zac (zag 0) (zac (mC (.int 8)) zal))) (gNm 2)) (zav (zaM (zaw (zao K) W (zac (zag 0) (zac (mC (.int 26)) zal))) (gNm 3)) (zav (zaM (zaw (zao K) W (zac (zag 0) (zac (mC (.int 2)) zal))) (gNm 4)) (zav (zaM (zaw (zao K) W (zac (zag 0) (zac (mOp zt0 (mC (.int 26)) (mC (.int 7))) zal))) (gNm 5)) (zav (zaM (mC (.str "abcdefghijklmnopqrstuvwxyz")) (gNm 6)) (zav (zaM (zf2 zal) (gNm 7)) (zav (zgn (zds (zac (zag 1) zal)) (gNm 8)
  (zav (zaM (zag 5) (gNm 9)) (zav (zaM (mOp zcp (zag 2) (mC (.int 1))) (gNm 10)) (zav (mIf (mB (mOp vEq (zag 4) (mC (.int 0))))
  (zav (zaM (zaw (zao K) W (zac (zag 0) (zac (mOp zt0 (mC (.int 26)) (mC (.int 7))) zal))) (gNm 9)) (zaM (mOp zcp (mOp zcp (zag 2) (mC (.int 1))) (zaw (zao K) W (zac (zag 0) (zac (mOp zpk (mC (.int 8)) (zag 2)) zal)))) (gNm 10)))
  mNx) (zav (zaM (mC (.str "")) (gNm 11)) (zav (zgn (zds (zac (zag 10) zal)) (gNm 12)
  (mIf (mB (mOp vEq (zag 12) (zag 2)))
  (zaM (mOp zcp (zag 11) (mOp vIx (zag 6) (mOp zpl (mCB vInt (zac (mOp zcp (zag 3) (mOp zns (mC (.int 7)) (zag 8))) zal)) (mC (.int 26))))) (gNm 11))
  (zav (zaM (mOp zcp (zag 11) (mOp vIx (zag 6) (mOp zpl (mCB vInt (zac (zag 9) zal)) (mC (.int 26))))) (gNm 11)) (zaM (mOp zkR (zag 9) (mC (.int 26))) (gNm 9))))) (zbQ (ziB okL zjL (zag 7) (zac (zag 11) zal))))))))) (za9 (zag 7)))))))))
theorem zaD:FnScope ["_law_state_here", "_law_many_here", "_law_place", "_law_first", "_law_same_size", "_law_base", "_law_letters", "_law_names_here", "_law_k", "_law_other", "_law_size", "_law_name", "_law_at"] ["_law_state_here", "_law_many_here"] (defScope zei):=⟨rfl,rfl,rfl,by decide +kernel,rfl,by decide +kernel,by decide +kernel⟩
def zc3 (K:PySem.W.Frag):SpD:=spB 2 11 (zgV K)
theorem zfZ (T:TLm w K mg base):Fd PG_ w K mg base 4 (He.ga K "_law_names") (zc3 K):=by
 obtain ⟨fd,F⟩:=T.df 47 (d:=zh9)
 have bi:Binds K fd ["_law_state_here", "_law_many_here"] []:=FunD.bindsN F fun _ _ _ _ _ _ us hl=>match us,hl with | [_,_],_=>by kernel_rfl
 refine zaB (k:=3) F zaD bi rfl rfl fun cdv A outer s H E hr X eX W tk po=>?_
 subst eX
 unfold zgV
 exact (zad (zan (i:=2) (zaA (zaq T) (hr.mono (by omega)) tk (T.glo 66) (zab (zaa 0 (pv 0)) (zab zaf zae))) fun h=>ps_set zaD.nd rfl (by nofun) h)
  (zad (zan (i:=3) (zaA (zaq T) (hr.mono (by omega)) tk (T.glo 66) (zab (zaa 0 (pv 0)) (zab zaf zae))) fun h=>ps_set zaD.nd rfl (by nofun) h)
  (zad (zan (i:=4) (zaA (zaq T) (hr.mono (by omega)) tk (T.glo 66) (zab (zaa 0 (pv 0)) (zab zaf zae))) fun h=>ps_set zaD.nd rfl (by nofun) h)
  (zad (zan (i:=5) (zaA (zaq T) (hr.mono (by omega)) tk (T.glo 66) (zab (zaa 0 (pv 0)) (zab (zaF zox zaf zaf) zae))) fun h=>ps_set zaD.nd rfl (by nofun) h)
  (zad (zan (i:=6) zap fun h=>ps_set zaD.nd rfl (by nofun) h)
  (zad (zan (i:=7) (zbi zae) fun h=>ps_set zaD.nd rfl (by nofun) h)
  (zad (za8 po rfl (zcv (zab (zaa 1 (pv 1)) zae) fun h=>pi_range1 rfl (T.free 44) h) (zaE (pg_name zaD.nd rfl (by nofun)))
  (zad (zan (i:=9) (zaa 5 (pv 5)) fun h=>ps_set zaD.nd rfl (by nofun) h)
  (zad (zan (i:=10) (zaF zaK (zaa 2 (pv 2)) zaf) fun h=>ps_set zaD.nd rfl (by nofun) h)
  (zad (zaH (zat (za3 (zcW hr)) (zaa 4 (pv 4)) zaf)
  (zad (zan (i:=9) (zaA (zaq T) (hr.mono (by omega)) tk (T.glo 66) (zab (zaa 0 (pv 0)) (zab (zaF zox zaf zaf) zae))) fun h=>ps_set zaD.nd rfl (by nofun) h)
  (zai (zan (i:=10) (zaF zaK (zaF zaK (zaa 2 (pv 2)) zaf) (zaA (zaq T) (hr.mono (by omega)) tk (T.glo 66) (zab (zaa 0 (pv 0)) (zab (zaF zjR zaf (zaa 2 (pv 2))) zae)))) fun h=>ps_set zaD.nd rfl (by nofun) h)))
  zau)
  (zad (zan (i:=11) zap fun h=>ps_set zaD.nd rfl (by nofun) h)
  (zad (za8 po rfl (zcv (zab (zaa 10 (pv 10)) zae) fun h=>pi_range1 rfl (T.free 44) h) (zaE (pg_name zaD.nd rfl (by nofun)))
  (zai (zaH (zat (za3 (zcW hr)) (zaa 12 (pv 12)) (zaa 2 (pv 2)))
  (zai (zan (i:=11) (zaF zaK (zaa 11 (pv 11)) (zak (hu1 hr) (zaa 6 (pv 6)) (zaF ziU (zaN zja (zab (zaF zaK (zaa 3 (pv 3)) (zaF zkB zaf (zaa 8 (pv 8)))) zae) fun h1 h2=>pe_callTy h1 rfl (T.free 65) boot_int h2) zaf))) fun h=>ps_set zaD.nd rfl (by nofun) h))
  (zad (zan (i:=11) (zaF zaK (zaa 11 (pv 11)) (zak (hu1 hr) (zaa 6 (pv 6)) (zaF ziU (zaN zja (zab (zaa 9 (pv 9)) zae) fun h1 h2=>pe_callTy h1 rfl (T.free 65) boot_int h2) zaf))) fun h=>ps_set zaD.nd rfl (by nofun) h)
  (zai (zan (i:=9) (zaF zhy (zaa 9 (pv 9)) zaf) fun h=>ps_set zaD.nd rfl (by nofun) h))))) (fun h1 h2 h3=>ps_for po rfl h1 h2 h3))
  (zai (zaS (zbc (zaa 7 (pv 7)) (zab (zaa 11 (pv 11)) zae))))))))) (fun h1 h2 h3=>ps_for po rfl h1 h2 h3))
  (zai (zar (zaa 7 (pv 7)))))))))))
def zhJ (K:PySem.W.Frag) (rec:SpD) (W:XW):SM:=
 (zav (zaM (mCB zdN (zac (zag 0) zal)) (gNm 1)) (zav (zgn (zdY (zag 0)) (gNm 2)
  (mIf (mB (mOp vEq (mOp vIx (zag 2) (mC (.int 0))) (mC (.str "if"))))
  (zpo 1 (mOp zcp (zaw rec W (zac (mOp vIx (zag 2) (mC (.int 3))) zal)) (zaw rec W (zac (mOp vIx (zag 2) (mC (.int 4))) zal))) zkQ)
  mNx)) (za9 (zag 1))))
theorem zeY:FnScope ["_law_rows_here", "_law_total", "_law_row_here"] ["_law_rows_here"] (defScope zeQ):=⟨rfl,rfl,rfl,by decide +kernel,rfl,by decide +kernel,by decide +kernel⟩
def zdG (K:PySem.W.Frag):Nat->SpD
 | 0=>fun _ _ _ _=>False
 | n+1=>spB 1 2 (zhJ K (zdG K n))
theorem ziT (T:TLm w K mg base):∀ n,Fd PG_ w K mg base (2+n) (He.ga K "_law_many") (zdG K n):=by
 obtain ⟨fd,F⟩:=T.df 48 (d:=zi7)
 have bi:Binds K fd ["_law_rows_here"] []:=FunD.bindsN F fun _ _ _ _ _ _ us hl=>match us,hl with | [_],_=>by kernel_rfl
 intro n
 induction n with
 | zero=>exact zmD bi F.kp
 | succ n RC=>
 refine zaB (k:=2+n) F zeY bi rfl rfl fun cdv A outer s H E hr X eX W tk po=>?_
 subst eX
 unfold zhJ
 exact (zad (zan (i:=1) (zas za2 (zab (zaa 0 (pv 0)) zae) fun h1 h2=>pe_callB h1 rfl (T.free 13) boot_len h2) fun h=>ps_set zeY.nd rfl (by nofun) h)
  (zad (za8 po rfl (zaR (zaa 0 (pv 0))) (zaE (pg_name zeY.nd rfl (by nofun)))
  (zai (zaH (zat (za3 (zcW hr)) (zak (hu1 hr) (zaa 2 (pv 2)) zaf) zap)
  (zai (zm4 (i:=1) (zaF zaK (zaA RC (hr.mono (by omega)) tk (T.glo 67) (zab (zak (hu1 hr) (zaa 2 (pv 2)) zaf) zae)) (zaA RC (hr.mono (by omega)) tk (T.glo 67) (zab (zak (hu1 hr) (zaa 2 (pv 2)) zaf) zae))) zkC fun h1 h2=>ps_aug zeY.nd rfl (by nofun) h1 h2))
  zau)) (fun h1 h2 h3=>ps_for po rfl h1 h2 h3))
  (zai (zar (zaa 1 (pv 1))))))
def ziL (K:PySem.W.Frag) (W:XW):SM:=
 (zav (zaM (zaw (zao K) W (zac (zag 0) (zac (mC (.int 6)) zal))) (gNm 2)) (zav (zaM (mOp vIx (mOp vIx (zag 1) (mC (.str "slots"))) (zaw (zao K) W (zac (zag 0) (zac (mCB zdN (zac (mOp vIx (zag 1) (mC (.str "slots"))) zal)) zal)))) (gNm 3)) (zav (mIf (mB (mOp vEq (zag 2) (mC (.int 0))))
  (za9 (zcV (zac (mC (.str "put")) (zac (zag 3) (zac (mOp vIx (mOp vIx (zag 1) (mC (.str "words"))) (zaw (zao K) W (zac (zag 0) (zac (mCB zdN (zac (mOp vIx (zag 1) (mC (.str "words"))) zal)) zal)))) zal)))))
  mNx) (zav (mIf (zmd (mB (mOp vEq (zag 2) (mC (.int 1)))) (mB (mOp vEq (mOp vIx (zag 1) (mC (.str "kind"))) (mC (.str "derived")))))
  (za9 (zcV (zac (mC (.str "give")) (zac (zag 3) zal))))
  mNx) (zav (mIf (mB (mOp vEq (zag 2) (mC (.int 1))))
  (za9 (zcV (zac (mC (.str "say")) (zac (zag 3) zal))))
  mNx) (zav (mIf (zmd (mB (mOp vEq (zag 2) (mC (.int 2)))) (zfr (mOp vIx (zag 1) (mC (.str "writes")))))
  (za9 (zcV (zac (mC (.str "write")) (zac (mOp vIx (mOp vIx (zag 1) (mC (.str "sources"))) (zaw (zao K) W (zac (zag 0) (zac (mCB zdN (zac (mOp vIx (zag 1) (mC (.str "sources"))) zal)) zal)))) (zac (zag 3) zal)))))
  mNx) (zav (zaM (mOp vIx (mOp vIx (zag 1) (mC (.str "cells"))) (zaw (zao K) W (zac (zag 0) (zac (mCB zdN (zac (mOp vIx (zag 1) (mC (.str "cells"))) zal)) zal)))) (gNm 4)) (zav (mIf (zmd (mB (mOp vEq (zag 2) (mC (.int 3)))) (zfr (mOp vIx (zag 1) (mC (.str "peeks")))))
  (za9 (zcV (zac (mC (.str "peek")) (zac (zag 4) (zac (zag 3) zal)))))
  mNx) (za9 (zcV (zac (mC (.str "read")) (zac (zag 4) (zac (zag 3) zal)))))))))))))
theorem zfU:FnScope ["_law_state_here", "_law_shape", "_law_kind", "_law_slot", "_law_cell"] ["_law_state_here", "_law_shape"] (defScope zfG):=⟨rfl,rfl,rfl,by decide +kernel,rfl,by decide +kernel,by decide +kernel⟩
def zfO (K:PySem.W.Frag):SpD:=spB 2 3 (ziL K)
theorem zmt (T:TLm w K mg base):Fd PG_ w K mg base 4 (He.ga K "_law_row") (zfO K):=by
 obtain ⟨fd,F⟩:=T.df 49 (d:=zj9)
 have bi:Binds K fd ["_law_state_here", "_law_shape"] []:=FunD.bindsN F fun _ _ _ _ _ _ us hl=>match us,hl with | [_,_],_=>by kernel_rfl
 refine zaB (k:=3) F zfU bi rfl rfl fun cdv A outer s H E hr X eX W tk po=>?_
 subst eX
 unfold ziL
 exact (zad (zan (i:=2) (zaA (zaq T) (hr.mono (by omega)) tk (T.glo 66) (zab (zaa 0 (pv 0)) (zab zaf zae))) fun h=>ps_set zfU.nd rfl (by nofun) h)
  (zad (zan (i:=3) (zak (hu1 hr) (zak (hu1 hr) (zaa 1 (pv 1)) zap) (zaA (zaq T) (hr.mono (by omega)) tk (T.glo 66) (zab (zaa 0 (pv 0)) (zab (zas za2 (zab (zak (hu1 hr) (zaa 1 (pv 1)) zap) zae) fun h1 h2=>pe_callB h1 rfl (T.free 13) boot_len h2) zae)))) fun h=>ps_set zfU.nd rfl (by nofun) h)
  (zad (zaH (zat (za3 (zcW hr)) (zaa 2 (pv 2)) zaf)
  (zai (zar (zaL (zab zap (zab (zaa 3 (pv 3)) (zab (zak (hu1 hr) (zak (hu1 hr) (zaa 1 (pv 1)) zap) (zaA (zaq T) (hr.mono (by omega)) tk (T.glo 66) (zab (zaa 0 (pv 0)) (zab (zas za2 (zab (zak (hu1 hr) (zaa 1 (pv 1)) zap) zae) fun h1 h2=>pe_callB h1 rfl (T.free 13) boot_len h2) zae)))) zae))))))
  zau)
  (zad (zaH (MW.mt (zhh (zat (za3 (zcW hr)) (zaa 2 (pv 2)) zaf) (zf1 (zat (za3 (zcW hr)) (zak (hu1 hr) (zaa 1 (pv 1)) zap) zap))))
  (zai (zar (zaL (zab zap (zab (zaa 3 (pv 3)) zae)))))
  zau)
  (zad (zaH (zat (za3 (zcW hr)) (zaa 2 (pv 2)) zaf)
  (zai (zar (zaL (zab zap (zab (zaa 3 (pv 3)) zae)))))
  zau)
  (zad (zaH (MW.mt (zhh (zat (za3 (zcW hr)) (zaa 2 (pv 2)) zaf) (zf1 (za7 (zak (hu1 hr) (zaa 1 (pv 1)) zap)))))
  (zai (zar (zaL (zab zap (zab (zak (hu1 hr) (zak (hu1 hr) (zaa 1 (pv 1)) zap) (zaA (zaq T) (hr.mono (by omega)) tk (T.glo 66) (zab (zaa 0 (pv 0)) (zab (zas za2 (zab (zak (hu1 hr) (zaa 1 (pv 1)) zap) zae) fun h1 h2=>pe_callB h1 rfl (T.free 13) boot_len h2) zae)))) (zab (zaa 3 (pv 3)) zae))))))
  zau)
  (zad (zan (i:=4) (zak (hu1 hr) (zak (hu1 hr) (zaa 1 (pv 1)) zap) (zaA (zaq T) (hr.mono (by omega)) tk (T.glo 66) (zab (zaa 0 (pv 0)) (zab (zas za2 (zab (zak (hu1 hr) (zaa 1 (pv 1)) zap) zae) fun h1 h2=>pe_callB h1 rfl (T.free 13) boot_len h2) zae)))) fun h=>ps_set zfU.nd rfl (by nofun) h)
  (zad (zaH (MW.mt (zhh (zat (za3 (zcW hr)) (zaa 2 (pv 2)) zaf) (zf1 (za7 (zak (hu1 hr) (zaa 1 (pv 1)) zap)))))
  (zai (zar (zaL (zab zap (zab (zaa 4 (pv 4)) (zab (zaa 3 (pv 3)) zae))))))
  zau)
  (zai (zar (zaL (zab zap (zab (zaa 4 (pv 4)) (zab (zaa 3 (pv 3)) zae))))))))))))))
def zhI (K:PySem.W.Frag) (rec:SpD) (W:XW):SM:=
 (zav (zaM (zf2 zal) (gNm 4)) (zav (zaM (zag 3) (gNm 5)) (zav (zgn (zds (zac (mOp zcp (mC (.int 1)) (zaw (zao K) W (zac (zag 0) (zac (mC (.int 4)) zal)))) zal)) (gNm 6)
  (mIf (zmd (mB (mOp vGe (zag 5) (mC (.int 2)))) (zmd (mB (mOp vLt (zag 2) (mC (.int 4)))) (mB (mOp vEq (zaw (zao K) W (zac (zag 0) (zac (mC (.int 3)) zal))) (mC (.int 0))))))
  (zav (zaM (mOp vIx (mOp vIx (zag 1) (mC (.str "slots"))) (zaw (zao K) W (zac (zag 0) (zac (mCB zdN (zac (mOp vIx (zag 1) (mC (.str "slots"))) zal)) zal)))) (gNm 7)) (zav (zaM (mOp vIx (mOp vIx (zag 1) (mC (.str "cells"))) (zaw (zao K) W (zac (zag 0) (zac (mCB zdN (zac (mOp vIx (zag 1) (mC (.str "cells"))) zal)) zal)))) (gNm 8)) (zav (zaM (mOp vIx (mOp vIx (zag 1) (mC (.str "words"))) (zaw (zao K) W (zac (zag 0) (zac (mCB zdN (zac (mOp vIx (zag 1) (mC (.str "words"))) zal)) zal)))) (gNm 9)) (zav (zbQ (ziB okL zjL (zag 4) (zac (zcV (zac (mC (.str "read")) (zac (zag 8) (zac (zag 7) zal)))) zal))) (zav (zaM (zaw rec W (zac (zag 0) (zac (zag 1) (zac (mOp zcp (zag 2) (mC (.int 1))) (zac (mOp zkR (mOp zpk (zag 5) (mC (.int 2))) (mC (.int 2))) zal))))) (gNm 10)) (zav (zaM (zaw rec W (zac (zag 0) (zac (zag 1) (zac (mOp zcp (zag 2) (mC (.int 1))) (zac (mOp zkR (mOp zpk (zag 5) (mC (.int 2))) (mC (.int 2))) zal))))) (gNm 11)) (zav (zbQ (ziB okL zjL (zag 4) (zac (zcV (zac (mC (.str "if")) (zac (zag 7) (zac (zag 9) (zac (zag 10) (zac (zag 11) zal)))))) zal))) (zaM (mOp zpk (mOp zpk (mOp zpk (zag 5) (mC (.int 2))) (zaw (zdG K 6) W (zac (zag 10) zal))) (zaw (zdG K 6) W (zac (zag 11) zal))) (gNm 5)))))))))
  (mIf (mB (mOp vGe (zag 5) (mC (.int 1))))
  (zav (zbQ (ziB okL zjL (zag 4) (zac (zaw (zfO K) W (zac (zag 0) (zac (zag 1) zal))) zal))) (zaM (mOp zpk (zag 5) (mC (.int 1))) (gNm 5)))
  mNx))) (za9 (mCB zbX (zac (zag 4) zal))))))
theorem za1:FnScope ["_law_state_here", "_law_shape", "_law_depth", "_law_room", "_law_rows_here", "_law_left", "_law_turn", "_law_slot", "_law_cell", "_law_word", "_law_yes", "_law_no"] ["_law_state_here", "_law_shape", "_law_depth", "_law_room"] (defScope zeP):=⟨rfl,rfl,rfl,by decide +kernel,rfl,by decide +kernel,by decide +kernel⟩
def zdF (K:PySem.W.Frag):Nat->SpD
 | 0=>fun _ _ _ _=>False
 | n+1=>spB 4 8 (zhI K (zdF K n))
theorem ziS (T:TLm w K mg base):∀ n,Fd PG_ w K mg base (10+n) (He.ga K "_law_rows") (zdF K n):=by
 obtain ⟨fd,F⟩:=T.df 50 (d:=zi6)
 have bi:Binds K fd ["_law_state_here", "_law_shape", "_law_depth", "_law_room"] []:=FunD.bindsN F fun _ _ _ _ _ _ us hl=>match us,hl with | [_,_,_,_],_=>by kernel_rfl
 intro n
 induction n with
 | zero=>exact zmD bi F.kp
 | succ n RC=>
 refine zaB (k:=10+n) F za1 bi rfl rfl fun cdv A outer s H E hr X eX W tk po=>?_
 subst eX
 unfold zhI
 exact (zad (zan (i:=4) (zbi zae) fun h=>ps_set za1.nd rfl (by nofun) h)
  (zad (zan (i:=5) (zaa 3 (pv 3)) fun h=>ps_set za1.nd rfl (by nofun) h)
  (zad (za8 po rfl (zcv (zab (zaF zaK zaf (zaA (zaq T) (hr.mono (by omega)) tk (T.glo 66) (zab (zaa 0 (pv 0)) (zab zaf zae)))) zae) fun h=>pi_range1 rfl (T.free 44) h) (zaE (pg_name za1.nd rfl (by nofun)))
  (zai (zaH (MW.mt (zhh (zat zp3 (zaa 5 (pv 5)) zaf) (zhh (zat zoy (zaa 2 (pv 2)) zaf) (zf1 (zat (za3 (zcW hr)) (zaA (zaq T) (hr.mono (by omega)) tk (T.glo 66) (zab (zaa 0 (pv 0)) (zab zaf zae))) zaf)))))
  (zad (zan (i:=7) (zak (hu1 hr) (zak (hu1 hr) (zaa 1 (pv 1)) zap) (zaA (zaq T) (hr.mono (by omega)) tk (T.glo 66) (zab (zaa 0 (pv 0)) (zab (zas za2 (zab (zak (hu1 hr) (zaa 1 (pv 1)) zap) zae) fun h1 h2=>pe_callB h1 rfl (T.free 13) boot_len h2) zae)))) fun h=>ps_set za1.nd rfl (by nofun) h)
  (zad (zan (i:=8) (zak (hu1 hr) (zak (hu1 hr) (zaa 1 (pv 1)) zap) (zaA (zaq T) (hr.mono (by omega)) tk (T.glo 66) (zab (zaa 0 (pv 0)) (zab (zas za2 (zab (zak (hu1 hr) (zaa 1 (pv 1)) zap) zae) fun h1 h2=>pe_callB h1 rfl (T.free 13) boot_len h2) zae)))) fun h=>ps_set za1.nd rfl (by nofun) h)
  (zad (zan (i:=9) (zak (hu1 hr) (zak (hu1 hr) (zaa 1 (pv 1)) zap) (zaA (zaq T) (hr.mono (by omega)) tk (T.glo 66) (zab (zaa 0 (pv 0)) (zab (zas za2 (zab (zak (hu1 hr) (zaa 1 (pv 1)) zap) zae) fun h1 h2=>pe_callB h1 rfl (T.free 13) boot_len h2) zae)))) fun h=>ps_set za1.nd rfl (by nofun) h)
  (zad (zaS (zbc (zaa 4 (pv 4)) (zab (zaL (zab zap (zab (zaa 8 (pv 8)) (zab (zaa 7 (pv 7)) zae)))) zae)))
  (zad (zan (i:=10) (zaA RC (hr.mono (by omega)) tk (T.glo 68) (zab (zaa 0 (pv 0)) (zab (zaa 1 (pv 1)) (zab (zaF zaK (zaa 2 (pv 2)) zaf) (zab (zaF zhy (zaF zjR (zaa 5 (pv 5)) zaf) zaf) zae))))) fun h=>ps_set za1.nd rfl (by nofun) h)
  (zad (zan (i:=11) (zaA RC (hr.mono (by omega)) tk (T.glo 68) (zab (zaa 0 (pv 0)) (zab (zaa 1 (pv 1)) (zab (zaF zaK (zaa 2 (pv 2)) zaf) (zab (zaF zhy (zaF zjR (zaa 5 (pv 5)) zaf) zaf) zae))))) fun h=>ps_set za1.nd rfl (by nofun) h)
  (zad (zaS (zbc (zaa 4 (pv 4)) (zab (zaL (zab zap (zab (zaa 7 (pv 7)) (zab (zaa 9 (pv 9)) (zab (zaa 10 (pv 10)) (zab (zaa 11 (pv 11)) zae)))))) zae)))
  (zai (zan (i:=5) (zaF zjR (zaF zjR (zaF zjR (zaa 5 (pv 5)) zaf) (zaA (ziT T 6) (hr.mono (by omega)) tk (T.glo 67) (zab (zaa 10 (pv 10)) zae))) (zaA (ziT T 6) (hr.mono (by omega)) tk (T.glo 67) (zab (zaa 11 (pv 11)) zae))) fun h=>ps_set za1.nd rfl (by nofun) h)))))))))
  (zai (zaH (zat zp3 (zaa 5 (pv 5)) zaf)
  (zad (zaS (zbc (zaa 4 (pv 4)) (zab (zaA (zmt T) (hr.mono (by omega)) tk (T.glo 69) (zab (zaa 0 (pv 0)) (zab (zaa 1 (pv 1)) zae))) zae)))
  (zai (zan (i:=5) (zaF zjR (zaa 5 (pv 5)) zaf) fun h=>ps_set za1.nd rfl (by nofun) h)))
  zau)))) (fun h1 h2 h3=>ps_for po rfl h1 h2 h3))
  (zai (zar (zaN zb6 (zab (zaa 4 (pv 4)) zae) fun h1 h2=>pe_callTy h1 rfl (T.free 14) boot_tuple h2))))))
def zgU (K:PySem.W.Frag) (W:XW):SM:=
 (zav (zaM (mOp zcp (mC (.int 2)) (zaw (zao K) W (zac (zag 0) (zac (mOp vIx (zag 1) (mC (.int 0))) zal)))) (gNm 4)) (zav (zaM (mOp zcp (mC (.int 1)) (zaw (zao K) W (zac (zag 0) (zac (mOp vIx (zag 1) (mC (.int 1))) zal)))) (gNm 5)) (zav (zaM (mCB zw8 (zac (zaw (zao K) W (zac (zag 0) (zac (mOp zcp (mOp vIx (zag 1) (mC (.int 2))) (mC (.int 1))) zal))) (zac (zaw (zao K) W (zac (zag 0) (zac (mOp zcp (mOp vIx (zag 1) (mC (.int 2))) (mC (.int 1))) zal))) zal))) (gNm 6)) (zav (zaM (mCB zw8 (zac (zaw (zao K) W (zac (zag 0) (zac (mOp zcp (mOp vIx (zag 1) (mC (.int 3))) (mC (.int 1))) zal))) (zac (zaw (zao K) W (zac (zag 0) (zac (mOp zcp (mOp vIx (zag 1) (mC (.int 3))) (mC (.int 1))) zal))) zal))) (gNm 7)) (zav (zaM (mCB zbX (zac (zaw (zc3 K) W (zac (zag 0) (zac (zag 4) zal))) zal)) (gNm 8)) (zav (zaM (zaw (zc3 K) W (zac (zag 0) (zac (mOp zcp (mOp zcp (zag 5) (zag 6)) (zag 7)) zal))) (gNm 9)) (zav (mIf (zmd (mB (mOp vEq (zaw (zao K) W (zac (zag 0) (zac (mC (.int 4)) zal))) (mC (.int 0)))) (mB (mOp ziM (mOp vIx (zag 9) (mC (.int 0))) (zag 8))))
  (zaM (mOp zcp (mSl (zag 8) (mP (mC (.int 1))) zs2) (zcV (zac (mOp vIx (zag 9) (mC (.int 0))) zal))) (gNm 8))
  mNx) (zav (zaM (mOp zcp (zaw (zc3 K) W (zac (zag 0) (zac (mC (.int 2)) zal))) (zf2 (zac (mOp vIx (zag 9) (mC (.int 0))) zal))) (gNm 10)) (zav (zaM (mCB znr (zac (mSl (zag 9) zs2 (mP (zag 5))) zal)) (gNm 11)) (zav (zaM (zmx [((mC (.str "kind")),(mC (.str "derived"))),((mC (.str "cells")),(mCB zjd (zac (zag 11) zal))),((mC (.str "sources")),(zag 11)),((mC (.str "slots")),(zag 10)),((mC (.str "words")),(zag 8))]) (gNm 12)) (zav (zaM (mC (.bl false)) (gIx (zag 12) (mC (.str "peeks")))) (zav (zaM (mC (.bl false)) (gIx (zag 12) (mC (.str "writes")))) (zav (zaM (zf2 zal) (gNm 13)) (zav (zgn (zds (zac (zag 6) zal)) (gNm 14)
  (zav (zaM (mOp vIx (zag 9) (mOp zcp (zag 5) (zag 14))) (gNm 15)) (zav (zaM (zaw (zdF K 5) W (zac (zag 0) (zac (zag 12) (zac (mC (.int 1)) (zac (mOp vIx (zag 1) (mC (.int 4))) zal))))) (gNm 16)) (zav (mIf (mB (mOp vGt (zaw (zao K) W (zac (zag 0) (zac (mC (.int 4)) zal))) (mC (.int 0))))
  (zaM (mOp zcp (zag 16) (zcV (zac (zcV (zac (mC (.str "give")) (zac (mOp vIx (zag 10) (zaw (zao K) W (zac (zag 0) (zac (mC (.int 3)) zal)))) zal))) zal))) (gNm 16))
  mNx) (zav (zbQ (ziB okL zjL (zag 13) (zac (zcV (zac (zag 15) (zac (zag 16) zal))) zal))) (zaM (mOp zcp (mOp vIx (zag 12) (mC (.str "cells"))) (zf2 (zac (zag 15) zal))) (gIx (zag 12) (mC (.str "cells"))))))))) (zav (zaM (mC (.str "effects")) (gIx (zag 12) (mC (.str "kind")))) (zav (zaM (zag 2) (gIx (zag 12) (mC (.str "peeks")))) (zav (zaM (zag 3) (gIx (zag 12) (mC (.str "writes")))) (zav (zaM (zf2 zal) (gNm 17)) (zav (zgn (zds (zac (zag 7) zal)) (gNm 14)
  (zav (zaM (zaw (zdF K 5) W (zac (zag 0) (zac (zag 12) (zac (mC (.int 1)) (zac (mOp vIx (zag 1) (mC (.int 4))) zal))))) (gNm 16)) (zav (mIf (mB (mOp vGt (zaw (zao K) W (zac (zag 0) (zac (mC (.int 4)) zal))) (mC (.int 0))))
  (zaM (mOp zcp (zag 16) (zcV (zac (zcV (zac (mC (.str "say")) (zac (mOp vIx (zag 10) (zaw (zao K) W (zac (zag 0) (zac (mC (.int 3)) zal)))) zal))) zal))) (gNm 16))
  mNx) (zbQ (ziB okL zjL (zag 17) (zac (zcV (zac (mOp vIx (zag 9) (mOp zcp (mOp zcp (zag 5) (zag 6)) (zag 14))) (zac (zag 16) zal))) zal)))))) (za9 (zcV (zac (zag 8) (zac (zag 11) (zac (mCB zbX (zac (zag 13) zal)) (zac (mCB zbX (zac (zag 17) zal)) zal)))))))))))))))))))))))))
theorem zaz:FnScope ["_law_state_here", "_law_sizes_here", "_law_peeks", "_law_writes", "_law_many_words", "_law_many_sources", "_law_many_derived", "_law_many_effects", "_law_words_here", "_law_names_here", "_law_slots", "_law_sources", "_law_shape", "_law_derived", "_law_k", "_law_name", "_law_rows_here", "_law_effects"] ["_law_state_here", "_law_sizes_here", "_law_peeks", "_law_writes"] (defScope zeh):=⟨rfl,rfl,rfl,by decide +kernel,rfl,by decide +kernel,by decide +kernel⟩
def zeq (K:PySem.W.Frag):SpD:=spB 4 14 (zgU K)
theorem zhU (T:TLm w K mg base):Fd PG_ w K mg base 17 (He.ga K "_law_parts") (zeq K):=by
 obtain ⟨fd,F⟩:=T.df 51 (d:=zh8)
 have bi:Binds K fd ["_law_state_here", "_law_sizes_here", "_law_peeks", "_law_writes"] []:=FunD.bindsN F fun _ _ _ _ _ _ us hl=>match us,hl with | [_,_,_,_],_=>by kernel_rfl
 refine zaB (k:=16) F zaz bi rfl rfl fun cdv A outer s H E hr X eX W tk po=>?_
 subst eX
 unfold zgU
 exact (zad (zan (i:=4) (zaF zaK zaf (zaA (zaq T) (hr.mono (by omega)) tk (T.glo 66) (zab (zaa 0 (pv 0)) (zab (zak (hu1 hr) (zaa 1 (pv 1)) zaf) zae)))) fun h=>ps_set zaz.nd rfl (by nofun) h)
  (zad (zan (i:=5) (zaF zaK zaf (zaA (zaq T) (hr.mono (by omega)) tk (T.glo 66) (zab (zaa 0 (pv 0)) (zab (zak (hu1 hr) (zaa 1 (pv 1)) zaf) zae)))) fun h=>ps_set zaz.nd rfl (by nofun) h)
  (zad (zan (i:=6) (zas (zrw rfl) (zab (zaA (zaq T) (hr.mono (by omega)) tk (T.glo 66) (zab (zaa 0 (pv 0)) (zab (zaF zaK (zak (hu1 hr) (zaa 1 (pv 1)) zaf) zaf) zae))) (zab (zaA (zaq T) (hr.mono (by omega)) tk (T.glo 66) (zab (zaa 0 (pv 0)) (zab (zaF zaK (zak (hu1 hr) (zaa 1 (pv 1)) zaf) zaf) zae))) zae)) fun h1 h2=>pe_callB h1 rfl (T.free 70) boot_max h2) fun h=>ps_set zaz.nd rfl (by nofun) h)
  (zad (zan (i:=7) (zas (zrw rfl) (zab (zaA (zaq T) (hr.mono (by omega)) tk (T.glo 66) (zab (zaa 0 (pv 0)) (zab (zaF zaK (zak (hu1 hr) (zaa 1 (pv 1)) zaf) zaf) zae))) (zab (zaA (zaq T) (hr.mono (by omega)) tk (T.glo 66) (zab (zaa 0 (pv 0)) (zab (zaF zaK (zak (hu1 hr) (zaa 1 (pv 1)) zaf) zaf) zae))) zae)) fun h1 h2=>pe_callB h1 rfl (T.free 70) boot_max h2) fun h=>ps_set zaz.nd rfl (by nofun) h)
  (zad (zan (i:=8) (zaN zb6 (zab (zaA (zfZ T) (hr.mono (by omega)) tk (T.glo 71) (zab (zaa 0 (pv 0)) (zab (zaa 4 (pv 4)) zae))) zae) fun h1 h2=>pe_callTy h1 rfl (T.free 14) boot_tuple h2) fun h=>ps_set zaz.nd rfl (by nofun) h)
  (zad (zan (i:=9) (zaA (zfZ T) (hr.mono (by omega)) tk (T.glo 71) (zab (zaa 0 (pv 0)) (zab (zaF zaK (zaF zaK (zaa 5 (pv 5)) (zaa 6 (pv 6))) (zaa 7 (pv 7))) zae))) fun h=>ps_set zaz.nd rfl (by nofun) h)
  (zad (zaH (MW.mt (zhh (zat (za3 (zcW hr)) (zaA (zaq T) (hr.mono (by omega)) tk (T.glo 66) (zab (zaa 0 (pv 0)) (zab zaf zae))) zaf) (zf1 (zat (zf0 (zkI hr)) (zak (hu1 hr) (zaa 9 (pv 9)) zaf) (zaa 8 (pv 8))))))
  (zai (zan (i:=8) (zaF zaK (zqb (zaa 8 (pv 8)) (zlo zaf) zlp) (zaL (zab (zak (hu1 hr) (zaa 9 (pv 9)) zaf) zae))) fun h=>ps_set zaz.nd rfl (by nofun) h))
  zau)
  (zad (zan (i:=10) (zaF zaK (zaA (zfZ T) (hr.mono (by omega)) tk (T.glo 71) (zab (zaa 0 (pv 0)) (zab zaf zae))) (zbi (zab (zak (hu1 hr) (zaa 9 (pv 9)) zaf) zae))) fun h=>ps_set zaz.nd rfl (by nofun) h)
  (zad (zan (i:=11) (zaN ztv (zab (zqb (zaa 9 (pv 9)) zlp (zlo (zaa 5 (pv 5)))) zae) fun h1 h2=>pe_callTy h1 rfl (T.free 14) boot_tuple h2) fun h=>ps_set zaz.nd rfl (by nofun) h)
  (zad (zan (i:=12) (zjV (zaV zap zap (zaV zap (zaN zkc (zab (zaa 11 (pv 11)) zae) fun h1 h2=>pe_callTy h1 rfl (T.free 35) boot_list h2) (zaV zap (zaa 11 (pv 11)) (zaV zap (zaa 10 (pv 10)) (zaV zap (zaa 8 (pv 8)) zjS)))))) fun h=>ps_set zaz.nd rfl (by nofun) h)
  (zad (zcu zcn (zcU (hu1 hr) (zaa 12 (pv 12)) zap))
  (zad (zcu zcn (zcU (hu1 hr) (zaa 12 (pv 12)) zap))
  (zad (zan (i:=13) (zbi zae) fun h=>ps_set zaz.nd rfl (by nofun) h)
  (zad (za8 po rfl (zcv (zab (zaa 6 (pv 6)) zae) fun h=>pi_range1 rfl (T.free 44) h) (zaE (pg_name zaz.nd rfl (by nofun)))
  (zad (zan (i:=15) (zak (hu1 hr) (zaa 9 (pv 9)) (zaF zaK (zaa 5 (pv 5)) (zaa 14 (pv 14)))) fun h=>ps_set zaz.nd rfl (by nofun) h)
  (zad (zan (i:=16) (zaA (ziS T 5) (hr.mono (by omega)) tk (T.glo 68) (zab (zaa 0 (pv 0)) (zab (zaa 12 (pv 12)) (zab zaf (zab (zak (hu1 hr) (zaa 1 (pv 1)) zaf) zae))))) fun h=>ps_set zaz.nd rfl (by nofun) h)
  (zad (zaH (zat zlW (zaA (zaq T) (hr.mono (by omega)) tk (T.glo 66) (zab (zaa 0 (pv 0)) (zab zaf zae))) zaf)
  (zai (zan (i:=16) (zaF zaK (zaa 16 (pv 16)) (zaL (zab (zaL (zab zap (zab (zak (hu1 hr) (zaa 10 (pv 10)) (zaA (zaq T) (hr.mono (by omega)) tk (T.glo 66) (zab (zaa 0 (pv 0)) (zab zaf zae)))) zae))) zae))) fun h=>ps_set zaz.nd rfl (by nofun) h))
  zau)
  (zad (zaS (zbc (zaa 13 (pv 13)) (zab (zaL (zab (zaa 15 (pv 15)) (zab (zaa 16 (pv 16)) zae))) zae)))
  (zai (zcu (zaF zaK (zak (hu1 hr) (zaa 12 (pv 12)) zap) (zbi (zab (zaa 15 (pv 15)) zae))) (zcU (hu1 hr) (zaa 12 (pv 12)) zap))))))) (fun h1 h2 h3=>ps_for po rfl h1 h2 h3))
  (zad (zcu zap (zcU (hu1 hr) (zaa 12 (pv 12)) zap))
  (zad (zcu (zaa 2 (pv 2)) (zcU (hu1 hr) (zaa 12 (pv 12)) zap))
  (zad (zcu (zaa 3 (pv 3)) (zcU (hu1 hr) (zaa 12 (pv 12)) zap))
  (zad (zan (i:=17) (zbi zae) fun h=>ps_set zaz.nd rfl (by nofun) h)
  (zad (za8 po rfl (zcv (zab (zaa 7 (pv 7)) zae) fun h=>pi_range1 rfl (T.free 44) h) (zaE (pg_name zaz.nd rfl (by nofun)))
  (zad (zan (i:=16) (zaA (ziS T 5) (hr.mono (by omega)) tk (T.glo 68) (zab (zaa 0 (pv 0)) (zab (zaa 12 (pv 12)) (zab zaf (zab (zak (hu1 hr) (zaa 1 (pv 1)) zaf) zae))))) fun h=>ps_set zaz.nd rfl (by nofun) h)
  (zad (zaH (zat zlW (zaA (zaq T) (hr.mono (by omega)) tk (T.glo 66) (zab (zaa 0 (pv 0)) (zab zaf zae))) zaf)
  (zai (zan (i:=16) (zaF zaK (zaa 16 (pv 16)) (zaL (zab (zaL (zab zap (zab (zak (hu1 hr) (zaa 10 (pv 10)) (zaA (zaq T) (hr.mono (by omega)) tk (T.glo 66) (zab (zaa 0 (pv 0)) (zab zaf zae)))) zae))) zae))) fun h=>ps_set zaz.nd rfl (by nofun) h))
  zau)
  (zai (zaS (zbc (zaa 17 (pv 17)) (zab (zaL (zab (zak (hu1 hr) (zaa 9 (pv 9)) (zaF zaK (zaF zaK (zaa 5 (pv 5)) (zaa 6 (pv 6))) (zaa 14 (pv 14)))) (zab (zaa 16 (pv 16)) zae))) zae)))))) (fun h1 h2 h3=>ps_for po rfl h1 h2 h3))
  (zai (zar (zaL (zab (zaa 8 (pv 8)) (zab (zaa 11 (pv 11)) (zab (zaN zb6 (zab (zaa 13 (pv 13)) zae) fun h1 h2=>pe_callTy h1 rfl (T.free 14) boot_tuple h2) (zab (zaN zb6 (zab (zaa 17 (pv 17)) zae) fun h1 h2=>pe_callTy h1 rfl (T.free 14) boot_tuple h2) zae))))))))))))))))))))))))))
def zgS (K:PySem.W.Frag) (W:XW):SM:=
 (zav (mIf (mB (mOp vEq (zaw (zao K) W (zac (zag 0) (zac (mC (.int 4)) zal))) (mC (.int 0))))
  (za9 (zf2 (zac (mC (.int 3)) (zac (mC (.int 4)) (zac (mC (.int 6)) (zac (mC (.int 4)) (zac (mC (.int 4)) zal)))))))
  mNx) (za9 (zf2 (zac (mC (.int 2)) (zac (mC (.int 3)) (zac (mC (.int 3)) (zac (mC (.int 3)) (zac (mC (.int 7)) zal))))))))
theorem zkX:FnScope ["_law_state_here"] ["_law_state_here"] (defScope zef):=⟨rfl,rfl,rfl,by decide +kernel,rfl,by decide +kernel,by decide +kernel⟩
def zfN (K:PySem.W.Frag):SpD:=spB 1 0 (zgS K)
theorem zlc (T:TLm w K mg base):Fd PG_ w K mg base 4 (He.ga K "_law_sizes") (zfN K):=by
 obtain ⟨fd,F⟩:=T.df 52 (d:=zh6)
 have bi:Binds K fd ["_law_state_here"] []:=FunD.bindsN F fun _ _ _ _ _ _ us hl=>match us,hl with | [_],_=>by kernel_rfl
 refine zaB (k:=3) F zkX bi rfl rfl fun cdv A outer s H E hr X eX W tk po=>?_
 subst eX
 unfold zgS
 exact (zad (zaH (zat (za3 (zcW hr)) (zaA (zaq T) (hr.mono (by omega)) tk (T.glo 66) (zab (zaa 0 (pv 0)) (zab zaf zae))) zaf)
  (zai (zar (zbi (zab zaf (zab zaf (zab zaf (zab zaf (zab zaf zae))))))))
  zau)
  (zai (zar (zbi (zab zaf (zab zaf (zab zaf (zab zaf (zab zaf zae)))))))))
def zf5 (K:PySem.W.Frag) (W:XW):SM:=
 (zav (zgn (zds (zac (mC (.int 3)) zal)) (gNm 3)
  (zav (zaM (zaw (zeq K) W (zac (zag 0) (zac (zaw (zfN K) W (zac (zag 0) zal)) (zac (zag 1) (zac (zag 2) zal))))) (gNm 4)) (zav (mIf (zmd (mB (mOp vEq (mCB zdN (zac (mOp vIx (zag 4) (mC (.int 1))) zal)) (mC (.int 4)))) (mB (mOp vGt (mCB zdN (zac (mOp vIx (zag 4) (mC (.int 0))) zal)) (mC (.int 2)))))
  (zaM (zaw (zeq K) W (zac (zag 0) (zac (zf2 (zac (mC (.int 2)) (zac (mC (.int 3)) (zac (mC (.int 3)) (zac (mC (.int 3)) (zac (mC (.int 7)) zal)))))) (zac (zag 1) (zac (zag 2) zal))))) (gNm 4))
  mNx) (mIf (mB (mOp vGt (mCB zdN (zac (mOp zcp (mOp vIx (zag 4) (mC (.int 2))) (mOp vIx (zag 4) (mC (.int 3)))) zal)) (mC (.int 0))))
  (za9 (zag 4))
  mNx)))) (zav (zaM (zcV (zac (zcV (zac (mC (.str "read")) (zac (mOp vIx (mOp vIx (zag 4) (mC (.int 1))) (mC (.int 0))) (zac (mC (.str "x")) zal)))) (zac (zcV (zac (mC (.str "give")) (zac (mC (.str "x")) zal))) zal))) (gNm 5)) (zav (zaM (mC (.str "abcdefghijklmnopqrstuvwxyz")) (gNm 6)) (zav (zaM (mLc (zds (zac (mC (.int 26)) zal)) (gNm 8) (mB (mOp ziM (mOp vIx (zag 6) (zag 8)) (mOp vIx (zag 4) (mC (.int 1))))) (mOp vIx (zag 6) (zag 8)) [8]) (gNm 7)) (za9 (mOp zcp (mSl (zag 4) zs2 (mP (mC (.int 2)))) (zcV (zac (zcV (zac (zcV (zac (mOp vIx (zag 7) (mC (.int 0))) (zac (zag 5) zal))) zal)) (zac (zcV zal) zal)))))))))
theorem zbh:FnScope ["_law_state_here", "_law_peeks", "_law_writes", "_law_turn", "_law_parts_here", "_law_rows_here", "_law_letters", "_law_fresh", "_law_k"] ["_law_state_here", "_law_peeks", "_law_writes"] (defScope zdA):=⟨rfl,rfl,rfl,by decide +kernel,rfl,by decide +kernel,by decide +kernel⟩
def zfb (K:PySem.W.Frag):SpD:=spB 3 6 (zf5 K)
theorem zkm (T:TLm w K mg base):Fd PG_ w K mg base 19 (He.ga K "_law_bodied") (zfb K):=by
 obtain ⟨fd,F⟩:=T.df 53 (d:=zho)
 have bi:Binds K fd ["_law_state_here", "_law_peeks", "_law_writes"] []:=FunD.bindsN F fun _ _ _ _ _ _ us hl=>match us,hl with | [_,_,_],_=>by kernel_rfl
 refine zaB (k:=18) F zbh bi rfl rfl fun cdv A outer s H E hr X eX W tk po=>?_
 subst eX
 unfold zf5
 exact (zad (za8 po rfl (zcv (zab zaf zae) fun h=>pi_range1 rfl (T.free 44) h) (zaE (pg_name zbh.nd rfl (by nofun)))
  (zad (zan (i:=4) (zaA (zhU T) (hr.mono (by omega)) tk (T.glo 73) (zab (zaa 0 (pv 0)) (zab (zaA (zlc T) (hr.mono (by omega)) tk (T.glo 72) (zab (zaa 0 (pv 0)) zae)) (zab (zaa 1 (pv 1)) (zab (zaa 2 (pv 2)) zae))))) fun h=>ps_set zbh.nd rfl (by nofun) h)
  (zad (zaH (MW.mt (zhh (zat (za3 (zcW hr)) (zas za2 (zab (zak (hu1 hr) (zaa 4 (pv 4)) zaf) zae) fun h1 h2=>pe_callB h1 rfl (T.free 13) boot_len h2) zaf) (zf1 (zat zlW (zas za2 (zab (zak (hu1 hr) (zaa 4 (pv 4)) zaf) zae) fun h1 h2=>pe_callB h1 rfl (T.free 13) boot_len h2) zaf))))
  (zai (zan (i:=4) (zaA (zhU T) (hr.mono (by omega)) tk (T.glo 73) (zab (zaa 0 (pv 0)) (zab (zbi (zab zaf (zab zaf (zab zaf (zab zaf (zab zaf zae)))))) (zab (zaa 1 (pv 1)) (zab (zaa 2 (pv 2)) zae))))) fun h=>ps_set zbh.nd rfl (by nofun) h))
  zau)
  (zai (zaH (zat zlW (zas za2 (zab (zaF zaK (zak (hu1 hr) (zaa 4 (pv 4)) zaf) (zak (hu1 hr) (zaa 4 (pv 4)) zaf)) zae) fun h1 h2=>pe_callB h1 rfl (T.free 13) boot_len h2) zaf)
  (zai (zar (zaa 4 (pv 4))))
  zau)))) (fun h1 h2 h3=>ps_for po rfl h1 h2 h3))
  (zad (zan (i:=5) (zaL (zab (zaL (zab zap (zab (zak (hu1 hr) (zak (hu1 hr) (zaa 4 (pv 4)) zaf) zaf) (zab zap zae)))) (zab (zaL (zab zap (zab zap zae))) zae))) fun h=>ps_set zbh.nd rfl (by nofun) h)
  (zad (zan (i:=6) zap fun h=>ps_set zbh.nd rfl (by nofun) h)
  (zad (zjx (i:=7) rfl zbh.nd (zcv (zab zaf zae) fun h=>pi_range1 rfl (T.free 44) h) (own:=[("_law_k", 8)]) (blkOk_by (by kernel_rfl)) zcN (fun _ _ _ _ _=>pg_name zbh.nd rfl (by nofun)) (fun _ _ _ _ _=>zdd (zat (zf0 (zkI hr)) (zak (hu1 hr) (zaa 6 (pv 6)) (zaa 8 (pv 8))) (zak (hu1 hr) (zaa 4 (pv 4)) zaf))) (fun _ _ _ _ _=>(zak (hu1 hr) (zaa 6 (pv 6)) (zaa 8 (pv 8)))))
  (zai (zar (zaF zaK (zqb (zaa 4 (pv 4)) zlp (zlo zaf)) (zaL (zab (zaL (zab (zaL (zab (zak (hu1 hr) (zaa 7 (pv 7)) zaf) (zab (zaa 5 (pv 5)) zae))) zae)) (zab (zaL zae) zae))))))))))
def zhL (K:PySem.W.Frag) (W:XW):SM:=
 (zav (zaM (mOp zcp (mOp vIx (zag 1) (mC (.int 2))) (mOp vIx (zag 1) (mC (.int 3)))) (gNm 2)) (za9 (mOp vIx (mOp vIx (zag 2) (zaw (zao K) W (zac (zag 0) (zac (mCB zdN (zac (zag 2) zal)) zal)))) (mC (.int 0)))))
theorem ziO:FnScope ["_law_state_here", "_law_parts_here", "_law_bodies"] ["_law_state_here", "_law_parts_here"] (defScope zeS):=⟨rfl,rfl,rfl,by decide +kernel,rfl,by decide +kernel,by decide +kernel⟩
def zgr (K:PySem.W.Frag):SpD:=spB 2 1 (zhL K)
theorem zlV (T:TLm w K mg base):Fd PG_ w K mg base 4 (He.ga K "_law_body") (zgr K):=by
 obtain ⟨fd,F⟩:=T.df 54 (d:=zi9)
 have bi:Binds K fd ["_law_state_here", "_law_parts_here"] []:=FunD.bindsN F fun _ _ _ _ _ _ us hl=>match us,hl with | [_,_],_=>by kernel_rfl
 refine zaB (k:=3) F ziO bi rfl rfl fun cdv A outer s H E hr X eX W tk po=>?_
 subst eX
 unfold zhL
 exact (zad (zan (i:=2) (zaF zaK (zak (hu1 hr) (zaa 1 (pv 1)) zaf) (zak (hu1 hr) (zaa 1 (pv 1)) zaf)) fun h=>ps_set ziO.nd rfl (by nofun) h)
  (zai (zar (zak (hu1 hr) (zak (hu1 hr) (zaa 2 (pv 2)) (zaA (zaq T) (hr.mono (by omega)) tk (T.glo 66) (zab (zaa 0 (pv 0)) (zab (zas za2 (zab (zaa 2 (pv 2)) zae) fun h1 h2=>pe_callB h1 rfl (T.free 13) boot_len h2) zae)))) zaf))))
def zgQ (K:PySem.W.Frag) (W:XW):SM:=
 (za9 (mCB zbX (zac (mLc (zdY (mOp vIx (zag 1) (mC (.int 1)))) (gNm 2) zij (mOp vIx (mOp vIx (zag 1) (mC (.int 0))) (zaw (zao K) WN (zac (zag 0) (zac (mCB zdN (zac (mOp vIx (zag 1) (mC (.int 0))) zal)) zal)))) [2]) zal)))
theorem zfT:FnScope ["_law_state_here", "_law_parts_here", "_law_source"] ["_law_state_here", "_law_parts_here"] (defScope zed):=⟨rfl,rfl,rfl,by decide +kernel,rfl,by decide +kernel,by decide +kernel⟩
def zfL (K:PySem.W.Frag):SpD:=spB 2 1 (zgQ K)
theorem zla (T:TLm w K mg base):Fd PG_ w K mg base 4 (He.ga K "_law_words") (zfL K):=by
 obtain ⟨fd,F⟩:=T.df 55 (d:=zh4)
 have bi:Binds K fd ["_law_state_here", "_law_parts_here"] []:=FunD.bindsN F fun _ _ _ _ _ _ us hl=>match us,hl with | [_,_],_=>by kernel_rfl
 refine zaB (k:=3) F zfT bi rfl rfl fun cdv A outer s H E hr X eX W tk po=>?_
 subst eX
 unfold zgQ
 exact (zai (zar (zaN zb6 (zab (zdX rfl zfT.nd (zaR (zak (hu1 hr) (zaa 1 (pv 1)) zaf)) (own:=[("_law_source", 2)]) (blkOk_by (by kernel_rfl)) zcN (fun _ _ _ _ _=>pg_name zfT.nd rfl (by nofun)) (fun _ _ _ _ _=>zbV) (fun _ _ _ _ _=>(zak (hu1 hr) (zak (hu1 hr) (zaa 1 (pv 1)) zaf) (zaA (zaq T) (hr.mono (by omega)) zfB (T.glo 66) (zab (zaa 0 (pv 0)) (zab (zas za2 (zab (zak (hu1 hr) (zaa 1 (pv 1)) zaf) zae) fun h1 h2=>pe_callB h1 rfl (T.free 13) boot_len h2) zae)))))) zae) fun h1 h2=>pe_callTy h1 rfl (T.free 14) boot_tuple h2)))
def zfd (K:PySem.W.Frag) (W:XW):SM:=
 (za9 (zjY (He.ga K "Program") (zdo K) W (zac (mOp vIx (zag 0) (mC (.int 0))) (zac (mOp vIx (zag 0) (mC (.int 1))) (zac (mOp vIx (zag 0) (mC (.int 2))) (zac (mOp vIx (zag 0) (mC (.int 3))) zal))))))
theorem zjI:FnScope ["_law_parts_here"] ["_law_parts_here"] (defScope zcZ):=⟨rfl,rfl,rfl,by decide +kernel,rfl,by decide +kernel,by decide +kernel⟩
def zew (K:PySem.W.Frag):SpD:=spB 1 0 (zfd K)
theorem zjP (T:TLm w K mg base):Fd PG_ w K mg base 20 (He.ga K "_law_program") (zew K):=by
 obtain ⟨fd,F⟩:=T.df 56 (d:=zgI)
 have bi:Binds K fd ["_law_parts_here"] []:=FunD.bindsN F fun _ _ _ _ _ _ us hl=>match us,hl with | [_],_=>by kernel_rfl
 refine zaB (k:=19) F zjI bi rfl rfl fun cdv A outer s H E hr X eX W tk po=>?_
 subst eX
 unfold zfd
 exact (zai (zar (zhB (T.mkr 74) (ziy T) (hr.mono (by omega)) tk (T.glo 75) (zab (zak (hu1 hr) (zaa 0 (pv 0)) zaf) (zab (zak (hu1 hr) (zaa 0 (pv 0)) zaf) (zab (zak (hu1 hr) (zaa 0 (pv 0)) zaf) (zab (zak (hu1 hr) (zaa 0 (pv 0)) zaf) zae)))))))
def zco (K:PySem.W.Frag) (W:XW):SM:=
 (zav (zaM (zf2 (zac (zcV zal) zal)) (gNm 1)) (zav (zgn (zdY (mOp vIx (zag 0) (mC (.int 1)))) (gNm 2)
  (zav (zaM (zf2 zal) (gNm 3)) (zav (zgn (zdY (zag 1)) (gNm 4)
  (zbQ (ziB okL zpW (zag 3) (zac (mLc (zdY (mOp vIx (zag 0) (mC (.int 0)))) (gNm 5) zij (mOp zcp (zag 4) (zcV (zac (zag 5) zal))) [5]) zal)))) (zaM (zag 3) (gNm 1))))) (za9 (zag 1))))
theorem zaI:FnScope ["_law_parts_here", "_law_rows_here", "_law_source", "_law_longer", "_law_row_here", "_law_word"] ["_law_parts_here"] (defScope zbs):=⟨rfl,rfl,rfl,by decide +kernel,rfl,by decide +kernel,by decide +kernel⟩
def zb7 (K:PySem.W.Frag):SpD:=spB 1 5 (zco K)
theorem zgz (T:TLm w K mg base):Fd PG_ w K mg base 2 (He.ga K "_law_rows_of_words") (zb7 K):=by
 obtain ⟨fd,F⟩:=T.df 57 (d:=zdK)
 have bi:Binds K fd ["_law_parts_here"] []:=FunD.bindsN F fun _ _ _ _ _ _ us hl=>match us,hl with | [_],_=>by kernel_rfl
 refine zaB (k:=1) F zaI bi rfl rfl fun cdv A outer s H E hr X eX W tk po=>?_
 subst eX
 unfold zco
 exact (zad (zan (i:=1) (zbi (zab (zaL zae) zae)) fun h=>ps_set zaI.nd rfl (by nofun) h)
  (zad (za8 po rfl (zaR (zak (hu1 hr) (zaa 0 (pv 0)) zaf)) (zaE (pg_name zaI.nd rfl (by nofun)))
  (zad (zan (i:=3) (zbi zae) fun h=>ps_set zaI.nd rfl (by nofun) h)
  (zad (za8 po rfl (zaR (zaa 1 (pv 1))) (zaE (pg_name zaI.nd rfl (by nofun)))
  (zai (zaS (zjU (zaa 3 (pv 3)) (zab (zdX rfl zaI.nd (zaR (zak (hu1 hr) (zaa 0 (pv 0)) zaf)) (own:=[("_law_word", 5)]) (blkOk_by (by kernel_rfl)) zcN (fun _ _ _ _ _=>pg_name zaI.nd rfl (by nofun)) (fun _ _ _ _ _=>zbV) (fun _ _ _ _ _=>(zaF zaK (zaa 4 (pv 4)) (zaL (zab (zaa 5 (pv 5)) zae))))) zae)))) (fun h1 h2 h3=>ps_for po rfl h1 h2 h3))
  (zai (zan (i:=1) (zaa 3 (pv 3)) fun h=>ps_set zaI.nd rfl (by nofun) h)))) (fun h1 h2 h3=>ps_for po rfl h1 h2 h3))
  (zai (zar (zaa 1 (pv 1))))))
def zd0 (K:PySem.W.Frag) (rec:SpD) (W:XW):SM:=
 (zav (zgn (zdY (zag 0)) (gNm 5)
  (mIf (mOr (mB (mOp vEq (mOp vIx (zag 5) (mC (.int 0))) (mC (.str "read")))) (mB (mOp vEq (mOp vIx (zag 5) (mC (.int 0))) (mC (.str "peek")))))
  (zav (zaM (mOp vIx (zag 4) (mOp vIx (zag 5) (mC (.int 0)))) (gNm 6)) (zav (mIf (mB (mOp ziM (mOp vIx (zag 5) (mC (.int 1))) (mLc (zdY (zag 6)) (gNm 7) zij (mOp vIx (zag 7) (mC (.int 0))) [7])))
  (zbQ (ziB okL zjL (zag 6) (zac (zcV (zac (mOp vIx (zag 5) (mC (.int 1))) (zac (mOp vIx (zag 2) (mOp vIx (zag 5) (mC (.int 1)))) zal))) zal)))
  mNx) (zaM (mOp vIx (zag 2) (mOp vIx (zag 5) (mC (.int 1)))) (gIx (zag 1) (mOp vIx (zag 5) (mC (.int 2)))))))
  (mIf (mB (mOp vEq (mOp vIx (zag 5) (mC (.int 0))) (mC (.str "put"))))
  (zaM (mOp vIx (zag 5) (mC (.int 2))) (gIx (zag 1) (mOp vIx (zag 5) (mC (.int 1)))))
  (mIf (mB (mOp vEq (mOp vIx (zag 5) (mC (.int 0))) (mC (.str "give"))))
  (za9 (zlZ (zag 1) (mOp vIx (zag 5) (mC (.int 1))) (zag 3)))
  (mIf (mB (mOp vEq (mOp vIx (zag 5) (mC (.int 0))) (mC (.str "say"))))
  (zbQ (ziB okL zjL (mOp vIx (zag 4) (mC (.str "say"))) (zac (zlZ (zag 1) (mOp vIx (zag 5) (mC (.int 1))) (zag 3)) zal)))
  (mIf (mB (mOp vEq (mOp vIx (zag 5) (mC (.int 0))) (mC (.str "write"))))
  (zbQ (ziB okL zjL (mOp vIx (zag 4) (mC (.str "write"))) (zac (zcV (zac (mOp vIx (zag 5) (mC (.int 1))) (zac (zlZ (zag 1) (mOp vIx (zag 5) (mC (.int 2))) (zag 3)) zal))) zal)))
  (zav (zaM (zqf (mB (mOp vEq (zlZ (zag 1) (mOp vIx (zag 5) (mC (.int 1))) (zag 3)) (mOp vIx (zag 5) (mC (.int 2))))) (mOp vIx (zag 5) (mC (.int 3))) (mOp vIx (zag 5) (mC (.int 4)))) (gNm 8)) (zav (zaM (zaw rec W (zac (zag 8) (zac (zag 1) (zac (zag 2) (zac (zag 3) (zac (zag 4) zal)))))) (gNm 9)) (mIf (mB (mOp zmL (zag 9) (mC .non)))
  (za9 (zag 9))
  mNx))))))))) (za9 (mC .non)))
theorem zaY:FnScope ["_law_rows_here", "_law_slots", "_law_told", "_law_default", "_law_record", "_law_row_here", "_law_pairs", "_law_pair", "_law_inside", "_law_word"] ["_law_rows_here", "_law_slots", "_law_told", "_law_default", "_law_record"] (defScope zcb):=⟨rfl,rfl,rfl,by decide +kernel,rfl,by decide +kernel,by decide +kernel⟩
def zbj (K:PySem.W.Frag):Nat->SpD
 | 0=>fun _ _ _ _=>False
 | n+1=>spB 5 5 (zd0 K (zbj K n))
theorem zdr (T:TLm w K mg base):∀ n,Fd PG_ w K mg base (2+n) (He.ga K "_law_true_rows") (zbj K n):=by
 obtain ⟨fd,F⟩:=T.df 58 (d:=zfw)
 have bi:Binds K fd ["_law_rows_here", "_law_slots", "_law_told", "_law_default", "_law_record"] []:=FunD.bindsN F fun _ _ _ _ _ _ us hl=>match us,hl with | [_,_,_,_,_],_=>by kernel_rfl
 intro n
 induction n with
 | zero=>exact zmD bi F.kp
 | succ n RC=>
 refine zaB (k:=2+n) F zaY bi rfl rfl fun cdv A outer s H E hr X eX W tk po=>?_
 subst eX
 unfold zd0
 exact (zad (za8 po rfl (zaR (zaa 0 (pv 0))) (zaE (pg_name zaY.nd rfl (by nofun)))
  (zai (zaH (MW.mt (zhz (zat (za3 (zcW hr)) (zak (hu1 hr) (zaa 5 (pv 5)) zaf) zap) (ze3 (zat (za3 (zcW hr)) (zak (hu1 hr) (zaa 5 (pv 5)) zaf) zap))))
  (zad (zan (i:=6) (zak (hu1 hr) (zaa 4 (pv 4)) (zak (hu1 hr) (zaa 5 (pv 5)) zaf)) fun h=>ps_set zaY.nd rfl (by nofun) h)
  (zad (zaH (zat (zf0 (zkI hr)) (zak (hu1 hr) (zaa 5 (pv 5)) zaf) (zdX rfl zaY.nd (zaR (zaa 6 (pv 6))) (own:=[("_law_pair", 7)]) (blkOk_by (by kernel_rfl)) zcN (fun _ _ _ _ _=>pg_name zaY.nd rfl (by nofun)) (fun _ _ _ _ _=>zbV) (fun _ _ _ _ _=>(zak (hu1 hr) (zaa 7 (pv 7)) zaf))))
  (zai (zaS (zbc (zaa 6 (pv 6)) (zab (zaL (zab (zak (hu1 hr) (zaa 5 (pv 5)) zaf) (zab (zak (hu1 hr) (zaa 2 (pv 2)) (zak (hu1 hr) (zaa 5 (pv 5)) zaf)) zae))) zae))))
  zau)
  (zai (zcu (zak (hu1 hr) (zaa 2 (pv 2)) (zak (hu1 hr) (zaa 5 (pv 5)) zaf)) (zcU (hu1 hr) (zaa 1 (pv 1)) (zak (hu1 hr) (zaa 5 (pv 5)) zaf))))))
  (zai (zaH (zat (za3 (zcW hr)) (zak (hu1 hr) (zaa 5 (pv 5)) zaf) zap)
  (zai (zcu (zak (hu1 hr) (zaa 5 (pv 5)) zaf) (zcU (hu1 hr) (zaa 1 (pv 1)) (zak (hu1 hr) (zaa 5 (pv 5)) zaf))))
  (zai (zaH (zat (za3 (zcW hr)) (zak (hu1 hr) (zaa 5 (pv 5)) zaf) zap)
  (zai (zar (zjT (hu1 hr) (zaa 1 (pv 1)) (zak (hu1 hr) (zaa 5 (pv 5)) zaf) (zaa 3 (pv 3)))))
  (zai (zaH (zat (za3 (zcW hr)) (zak (hu1 hr) (zaa 5 (pv 5)) zaf) zap)
  (zai (zaS (zbc (zak (hu1 hr) (zaa 4 (pv 4)) zap) (zab (zjT (hu1 hr) (zaa 1 (pv 1)) (zak (hu1 hr) (zaa 5 (pv 5)) zaf) (zaa 3 (pv 3))) zae))))
  (zai (zaH (zat (za3 (zcW hr)) (zak (hu1 hr) (zaa 5 (pv 5)) zaf) zap)
  (zai (zaS (zbc (zak (hu1 hr) (zaa 4 (pv 4)) zap) (zab (zaL (zab (zak (hu1 hr) (zaa 5 (pv 5)) zaf) (zab (zjT (hu1 hr) (zaa 1 (pv 1)) (zak (hu1 hr) (zaa 5 (pv 5)) zaf) (zaa 3 (pv 3))) zae))) zae))))
  (zad (zan (i:=8) (znI (zat (za3 (zcW hr)) (zjT (hu1 hr) (zaa 1 (pv 1)) (zak (hu1 hr) (zaa 5 (pv 5)) zaf) (zaa 3 (pv 3))) (zak (hu1 hr) (zaa 5 (pv 5)) zaf)) (zak (hu1 hr) (zaa 5 (pv 5)) zaf) (zak (hu1 hr) (zaa 5 (pv 5)) zaf)) fun h=>ps_set zaY.nd rfl (by nofun) h)
  (zad (zan (i:=9) (zaA RC (hr.mono (by omega)) tk (T.glo 76) (zab (zaa 8 (pv 8)) (zab (zaa 1 (pv 1)) (zab (zaa 2 (pv 2)) (zab (zaa 3 (pv 3)) (zab (zaa 4 (pv 4)) zae)))))) fun h=>ps_set zaY.nd rfl (by nofun) h)
  (zai (zaH (zat zli (zaa 9 (pv 9)) zgE)
  (zai (zar (zaa 9 (pv 9))))
  zau)))))))))))))) (fun h1 h2 h3=>ps_for po rfl h1 h2 h3))
  (zai (zar zgE)))
def zhH (K:PySem.W.Frag) (W:XW):SM:=
 (zav (zaM zl0 (gNm 2)) (zav (zgn (zds (zac (mCB zdN (zac (mOp vIx (zag 0) (mC (.int 1))) zal)) zal)) (gNm 3)
  (zaM (mOp vIx (zag 1) (zag 3)) (gIx (zag 2) (mOp vIx (mOp vIx (zag 0) (mC (.int 1))) (zag 3))))) (zav (zgn (zdY (mOp vIx (zag 0) (mC (.int 2)))) (gNm 4)
  (zav (zaM (zmx [((mC (.str "read")),(zf2 zal)),((mC (.str "peek")),(zf2 zal)),((mC (.str "say")),(zf2 zal)),((mC (.str "write")),(zf2 zal))]) (gNm 5)) (zav (zaM (zaw (zbj K 6) W (zac (mOp vIx (zag 4) (mC (.int 1))) (zac zl0 (zac (zag 2) (zac (mOp vIx (mOp vIx (zag 0) (mC (.int 0))) (mC (.int 0))) (zac (zag 5) zal)))))) (gNm 6)) (zaM (zqf (mB (mOp vIs (zag 6) (mC .non))) (mOp vIx (mOp vIx (zag 0) (mC (.int 0))) (mC (.int 0))) (zag 6)) (gIx (zag 2) (mOp vIx (zag 4) (mC (.int 0)))))))) (za9 (zag 2)))))
theorem zcS:FnScope ["_law_parts_here", "_law_words_here", "_law_told", "_law_k", "_law_pair", "_law_record", "_law_word"] ["_law_parts_here", "_law_words_here"] (defScope zeO):=⟨rfl,rfl,rfl,by decide +kernel,rfl,by decide +kernel,by decide +kernel⟩
def zeV (K:PySem.W.Frag):SpD:=spB 2 5 (zhH K)
theorem ziR (T:TLm w K mg base):Fd PG_ w K mg base 10 (He.ga K "_law_true") (zeV K):=by
 obtain ⟨fd,F⟩:=T.df 59 (d:=zi5)
 have bi:Binds K fd ["_law_parts_here", "_law_words_here"] []:=FunD.bindsN F fun _ _ _ _ _ _ us hl=>match us,hl with | [_,_],_=>by kernel_rfl
 refine zaB (k:=9) F zcS bi rfl rfl fun cdv A outer s H E hr X eX W tk po=>?_
 subst eX
 unfold zhH
 exact (zad (zan (i:=2) ziA fun h=>ps_set zcS.nd rfl (by nofun) h)
  (zad (za8 po rfl (zcv (zab (zas za2 (zab (zak (hu1 hr) (zaa 0 (pv 0)) zaf) zae) fun h1 h2=>pe_callB h1 rfl (T.free 13) boot_len h2) zae) fun h=>pi_range1 rfl (T.free 44) h) (zaE (pg_name zcS.nd rfl (by nofun)))
  (zai (zcu (zak (hu1 hr) (zaa 1 (pv 1)) (zaa 3 (pv 3))) (zcU (hu1 hr) (zaa 2 (pv 2)) (zak (hu1 hr) (zak (hu1 hr) (zaa 0 (pv 0)) zaf) (zaa 3 (pv 3)))))) (fun h1 h2 h3=>ps_for po rfl h1 h2 h3))
  (zad (za8 po rfl (zaR (zak (hu1 hr) (zaa 0 (pv 0)) zaf)) (zaE (pg_name zcS.nd rfl (by nofun)))
  (zad (zan (i:=5) (zjV (zaV zap (zbi zae) (zaV zap (zbi zae) (zaV zap (zbi zae) (zaV zap (zbi zae) zjS))))) fun h=>ps_set zcS.nd rfl (by nofun) h)
  (zad (zan (i:=6) (zaA (zdr T 6) (hr.mono (by omega)) tk (T.glo 76) (zab (zak (hu1 hr) (zaa 4 (pv 4)) zaf) (zab ziA (zab (zaa 2 (pv 2)) (zab (zak (hu1 hr) (zak (hu1 hr) (zaa 0 (pv 0)) zaf) zaf) (zab (zaa 5 (pv 5)) zae)))))) fun h=>ps_set zcS.nd rfl (by nofun) h)
  (zai (zcu (znI (zat zsH (zaa 6 (pv 6)) zgE) (zak (hu1 hr) (zak (hu1 hr) (zaa 0 (pv 0)) zaf) zaf) (zaa 6 (pv 6))) (zcU (hu1 hr) (zaa 2 (pv 2)) (zak (hu1 hr) (zaa 4 (pv 4)) zaf)))))) (fun h1 h2 h3=>ps_for po rfl h1 h2 h3))
  (zai (zar (zaa 2 (pv 2)))))))
def zdg (K:PySem.W.Frag) (W:XW):SM:=
 (zav (zaM (zaw (zeV K) W (zac (zag 0) (zac (zag 1) zal))) (gNm 3)) (zav (zaM (zmx [((mC (.str "read")),(zf2 zal)),((mC (.str "peek")),(zf2 zal)),((mC (.str "say")),(zf2 zal)),((mC (.str "write")),(zf2 zal))]) (gNm 4)) (zav (zaM (mOp vIx (mLc (zdY (mOp zcp (mOp vIx (zag 0) (mC (.int 2))) (mOp vIx (zag 0) (mC (.int 3))))) (gNm 6) (mB (mOp vEq (mOp vIx (zag 6) (mC (.int 0))) (zag 2))) (mOp vIx (zag 6) (mC (.int 1))) [6]) (mC (.int 0))) (gNm 5)) (zav (zaM (zaw (zbj K 6) W (zac (zag 5) (zac zl0 (zac (zag 3) (zac (mOp vIx (mOp vIx (zag 0) (mC (.int 0))) (mC (.int 0))) (zac (zag 4) zal)))))) (gNm 7)) (zav (mIf (mB (mOp vIn (zag 2) (mLc (zdY (mOp vIx (zag 0) (mC (.int 3)))) (gNm 6) zij (mOp vIx (zag 6) (mC (.int 0))) [6])))
  (za9 (zcV (zac (mC .non) (zac (mCB zbX (zac (mOp vIx (zag 4) (mC (.str "say"))) zal)) (zac (mCB zbX (zac (mOp vIx (zag 4) (mC (.str "write"))) zal)) zal)))))
  mNx) (za9 (zcV (zac (zqf (mB (mOp vIs (zag 7) (mC .non))) (mOp vIx (mOp vIx (zag 0) (mC (.int 0))) (mC (.int 0))) (zag 7)) (zac (zcV zal) (zac (zcV zal) zal))))))))))
theorem zaJ:FnScope ["_law_parts_here", "_law_words_here", "_law_name", "_law_told", "_law_record", "_law_rows_here", "_law_pair", "_law_word"] ["_law_parts_here", "_law_words_here", "_law_name"] (defScope zbI):=⟨rfl,rfl,rfl,by decide +kernel,rfl,by decide +kernel,by decide +kernel⟩
def zcK (K:PySem.W.Frag):SpD:=spB 3 5 (zdg K)
theorem zhw (T:TLm w K mg base):Fd PG_ w K mg base 12 (He.ga K "_law_own_telling") (zcK K):=by
 obtain ⟨fd,F⟩:=T.df 60 (d:=zeB)
 have bi:Binds K fd ["_law_parts_here", "_law_words_here", "_law_name"] []:=FunD.bindsN F fun _ _ _ _ _ _ us hl=>match us,hl with | [_,_,_],_=>by kernel_rfl
 refine zaB (k:=11) F zaJ bi rfl rfl fun cdv A outer s H E hr X eX W tk po=>?_
 subst eX
 unfold zdg
 exact (zad (zan (i:=3) (zaA (ziR T) (hr.mono (by omega)) tk (T.glo 77) (zab (zaa 0 (pv 0)) (zab (zaa 1 (pv 1)) zae))) fun h=>ps_set zaJ.nd rfl (by nofun) h)
  (zad (zan (i:=4) (zjV (zaV zap (zbi zae) (zaV zap (zbi zae) (zaV zap (zbi zae) (zaV zap (zbi zae) zjS))))) fun h=>ps_set zaJ.nd rfl (by nofun) h)
  (zad (zan (i:=5) (zak (hu1 hr) (zdX rfl zaJ.nd (zaR (zaF zaK (zak (hu1 hr) (zaa 0 (pv 0)) zaf) (zak (hu1 hr) (zaa 0 (pv 0)) zaf))) (own:=[("_law_pair", 6)]) (blkOk_by (by kernel_rfl)) zcN (fun _ _ _ _ _=>pg_name zaJ.nd rfl (by nofun)) (fun _ _ _ _ _=>zdd (zat (za3 (zcW hr)) (zak (hu1 hr) (zaa 6 (pv 6)) zaf) (zaa 2 (pv 2)))) (fun _ _ _ _ _=>(zak (hu1 hr) (zaa 6 (pv 6)) zaf))) zaf) fun h=>ps_set zaJ.nd rfl (by nofun) h)
  (zad (zan (i:=7) (zaA (zdr T 6) (hr.mono (by omega)) tk (T.glo 76) (zab (zaa 5 (pv 5)) (zab ziA (zab (zaa 3 (pv 3)) (zab (zak (hu1 hr) (zak (hu1 hr) (zaa 0 (pv 0)) zaf) zaf) (zab (zaa 4 (pv 4)) zae)))))) fun h=>ps_set zaJ.nd rfl (by nofun) h)
  (zad (zaH (zat (ziz (zkI hr)) (zaa 2 (pv 2)) (zdX rfl zaJ.nd (zaR (zak (hu1 hr) (zaa 0 (pv 0)) zaf)) (own:=[("_law_pair", 6)]) (blkOk_by (by kernel_rfl)) zcN (fun _ _ _ _ _=>pg_name zaJ.nd rfl (by nofun)) (fun _ _ _ _ _=>zbV) (fun _ _ _ _ _=>(zak (hu1 hr) (zaa 6 (pv 6)) zaf))))
  (zai (zar (zaL (zab zgE (zab (zaN zb6 (zab (zak (hu1 hr) (zaa 4 (pv 4)) zap) zae) fun h1 h2=>pe_callTy h1 rfl (T.free 14) boot_tuple h2) (zab (zaN zb6 (zab (zak (hu1 hr) (zaa 4 (pv 4)) zap) zae) fun h1 h2=>pe_callTy h1 rfl (T.free 14) boot_tuple h2) zae))))))
  zau)
  (zai (zar (zaL (zab (znI (zat zsH (zaa 7 (pv 7)) zgE) (zak (hu1 hr) (zak (hu1 hr) (zaa 0 (pv 0)) zaf) zaf) (zaa 7 (pv 7))) (zab (zaL zae) (zab (zaL zae) zae)))))))))))
def zeF (K:PySem.W.Frag) (W:XW):SM:=
 (zav (zaM znc (gNm 2)) (zav (zgn (zdY (zaw (zb7 K) W (zac (zag 0) zal))) (gNm 3)
  (zaM (zaw (zcK K) W (zac (zag 0) (zac (zag 3) (zac (zag 1) zal)))) (zxN (zag 2) (zag 3)))) (za9 (zag 2))))
theorem zdT:FnScope ["_law_parts_here", "_law_name", "_law_table", "_law_row_here"] ["_law_parts_here", "_law_name"] (defScope zcz):=⟨rfl,rfl,rfl,by decide +kernel,rfl,by decide +kernel,by decide +kernel⟩
def zdP (K:PySem.W.Frag):SpD:=spB 2 2 (zeF K)
theorem zjl (T:TLm w K mg base):Fd PG_ w K mg base 14 (He.ga K "_law_table_of") (zdP K):=by
 obtain ⟨fd,F⟩:=T.df 61 (d:=zga)
 have bi:Binds K fd ["_law_parts_here", "_law_name"] []:=FunD.bindsN F fun _ _ _ _ _ _ us hl=>match us,hl with | [_,_],_=>by kernel_rfl
 refine zaB (k:=13) F zdT bi rfl rfl fun cdv A outer s H E hr X eX W tk po=>?_
 subst eX
 unfold zeF
 exact (zad (zan (i:=2) zqd fun h=>ps_set zdT.nd rfl (by nofun) h)
  (zad (za8 po rfl (zaR (zaA (zgz T) (hr.mono (by omega)) tk (T.glo 78) (zab (zaa 0 (pv 0)) zae))) (zaE (pg_name zdT.nd rfl (by nofun)))
  (zai (zcu (zaA (zhw T) (hr.mono (by omega)) tk (T.glo 79) (zab (zaa 0 (pv 0)) (zab (zaa 3 (pv 3)) (zab (zaa 1 (pv 1)) zae)))) (zsY (hu1 hr) (zaa 2 (pv 2)) (zaa 3 (pv 3))))) (fun h1 h2 h3=>ps_for po rfl h1 h2 h3))
  (zai (zar (zaa 2 (pv 2))))))
def zgX (K:PySem.W.Frag) (W:XW):SM:=
 (zav (zaM (zaw (zeV K) W (zac (zag 0) (zac (zag 1) zal))) (gNm 3)) (zav (zaM (zmx [((mC (.str "read")),(zf2 zal)),((mC (.str "peek")),(zf2 zal)),((mC (.str "say")),(zf2 zal)),((mC (.str "write")),(zf2 zal))]) (gNm 4)) (zav (zaM (mOp vIx (mLc (zdY (mOp zcp (mOp vIx (zag 0) (mC (.int 2))) (mOp vIx (zag 0) (mC (.int 3))))) (gNm 6) (mB (mOp vEq (mOp vIx (zag 6) (mC (.int 0))) (zag 2))) (mOp vIx (zag 6) (mC (.int 1))) [6]) (mC (.int 0))) (gNm 5)) (zav (zbQ (zaw (zbj K 6) W (zac (zag 5) (zac zl0 (zac (zag 3) (zac (mOp vIx (mOp vIx (zag 0) (mC (.int 0))) (mC (.int 0))) (zac (zag 4) zal))))))) (za9 (mLc (zdY (mOp zcp (mOp vIx (zag 4) (mC (.str "read"))) (mOp vIx (zag 4) (mC (.str "peek"))))) (gNm 6) zij (mOp vIx (zag 6) (mC (.int 0))) [6]))))))
theorem zbu:FnScope ["_law_parts_here", "_law_words_here", "_law_name", "_law_told", "_law_record", "_law_rows_here", "_law_pair"] ["_law_parts_here", "_law_words_here", "_law_name"] (defScope zek):=⟨rfl,rfl,rfl,by decide +kernel,rfl,by decide +kernel,by decide +kernel⟩
def zfP (K:PySem.W.Frag):SpD:=spB 3 4 (zgX K)
theorem zle (T:TLm w K mg base):Fd PG_ w K mg base 12 (He.ga K "_law_heard") (zfP K):=by
 obtain ⟨fd,F⟩:=T.df 62 (d:=zib)
 have bi:Binds K fd ["_law_parts_here", "_law_words_here", "_law_name"] []:=FunD.bindsN F fun _ _ _ _ _ _ us hl=>match us,hl with | [_,_,_],_=>by kernel_rfl
 refine zaB (k:=11) F zbu bi rfl rfl fun cdv A outer s H E hr X eX W tk po=>?_
 subst eX
 unfold zgX
 exact (zad (zan (i:=3) (zaA (ziR T) (hr.mono (by omega)) tk (T.glo 77) (zab (zaa 0 (pv 0)) (zab (zaa 1 (pv 1)) zae))) fun h=>ps_set zbu.nd rfl (by nofun) h)
  (zad (zan (i:=4) (zjV (zaV zap (zbi zae) (zaV zap (zbi zae) (zaV zap (zbi zae) (zaV zap (zbi zae) zjS))))) fun h=>ps_set zbu.nd rfl (by nofun) h)
  (zad (zan (i:=5) (zak (hu1 hr) (zdX rfl zbu.nd (zaR (zaF zaK (zak (hu1 hr) (zaa 0 (pv 0)) zaf) (zak (hu1 hr) (zaa 0 (pv 0)) zaf))) (own:=[("_law_pair", 6)]) (blkOk_by (by kernel_rfl)) zcN (fun _ _ _ _ _=>pg_name zbu.nd rfl (by nofun)) (fun _ _ _ _ _=>zdd (zat (za3 (zcW hr)) (zak (hu1 hr) (zaa 6 (pv 6)) zaf) (zaa 2 (pv 2)))) (fun _ _ _ _ _=>(zak (hu1 hr) (zaa 6 (pv 6)) zaf))) zaf) fun h=>ps_set zbu.nd rfl (by nofun) h)
  (zad (zaS (zaA (zdr T 6) (hr.mono (by omega)) tk (T.glo 76) (zab (zaa 5 (pv 5)) (zab ziA (zab (zaa 3 (pv 3)) (zab (zak (hu1 hr) (zak (hu1 hr) (zaa 0 (pv 0)) zaf) zaf) (zab (zaa 4 (pv 4)) zae)))))))
  (zai (zar (zdX rfl zbu.nd (zaR (zaF zaK (zak (hu1 hr) (zaa 4 (pv 4)) zap) (zak (hu1 hr) (zaa 4 (pv 4)) zap))) (own:=[("_law_pair", 6)]) (blkOk_by (by kernel_rfl)) zcN (fun _ _ _ _ _=>pg_name zbu.nd rfl (by nofun)) (fun _ _ _ _ _=>zbV) (fun _ _ _ _ _=>(zak (hu1 hr) (zaa 6 (pv 6)) zaf)))))))))
def zgT (K:PySem.W.Frag) (rec:SpD) (W:XW):SM:=
 (zav (zaM (zf2 zal) (gNm 3)) (zav (zgn (zdY (zaw (zfP K) W (zac (zag 0) (zac (zag 1) (zac (zag 2) zal))))) (gNm 4)
  (mIf (mB (mOp vIn (zag 4) (mOp vIx (zag 0) (mC (.int 1)))))
  (zbQ (ziB okL zjL (zag 3) (zac (zag 4) zal)))
  (zbQ (ziB okL zmo (zag 3) (zac (zaw rec W (zac (zag 0) (zac (zag 1) (zac (zag 4) zal)))) zal))))) (za9 (mCB zbX (zac (mLc (zdY (mOp vIx (zag 0) (mC (.int 1)))) (gNm 5) (mB (mOp vIn (zag 5) (zag 3))) (zag 5) [5]) zal)))))
theorem zc5:FnScope ["_law_parts_here", "_law_words_here", "_law_name", "_law_found", "_law_cell", "_law_source"] ["_law_parts_here", "_law_words_here", "_law_name"] (defScope zeg):=⟨rfl,rfl,rfl,by decide +kernel,rfl,by decide +kernel,by decide +kernel⟩
def zep (K:PySem.W.Frag):Nat->SpD
 | 0=>fun _ _ _ _=>False
 | n+1=>spB 3 3 (zgT K (zep K n))
theorem zld (T:TLm w K mg base):∀ n,Fd PG_ w K mg base (14+n) (He.ga K "_law_reach") (zep K n):=by
 obtain ⟨fd,F⟩:=T.df 63 (d:=zh7)
 have bi:Binds K fd ["_law_parts_here", "_law_words_here", "_law_name"] []:=FunD.bindsN F fun _ _ _ _ _ _ us hl=>match us,hl with | [_,_,_],_=>by kernel_rfl
 intro n
 induction n with
 | zero=>exact zmD bi F.kp
 | succ n RC=>
 refine zaB (k:=14+n) F zc5 bi rfl rfl fun cdv A outer s H E hr X eX W tk po=>?_
 subst eX
 unfold zgT
 exact (zad (zan (i:=3) (zbi zae) fun h=>ps_set zc5.nd rfl (by nofun) h)
  (zad (za8 po rfl (zaR (zaA (zle T) (hr.mono (by omega)) tk (T.glo 80) (zab (zaa 0 (pv 0)) (zab (zaa 1 (pv 1)) (zab (zaa 2 (pv 2)) zae))))) (zaE (pg_name zc5.nd rfl (by nofun)))
  (zai (zaH (zat (ziz (zkI hr)) (zaa 4 (pv 4)) (zak (hu1 hr) (zaa 0 (pv 0)) zaf))
  (zai (zaS (zbc (zaa 3 (pv 3)) (zab (zaa 4 (pv 4)) zae))))
  (zai (zaS (znJ (zaa 3 (pv 3)) (zab (zaA RC (hr.mono (by omega)) tk (T.glo 81) (zab (zaa 0 (pv 0)) (zab (zaa 1 (pv 1)) (zab (zaa 4 (pv 4)) zae)))) zae)))))) (fun h1 h2 h3=>ps_for po rfl h1 h2 h3))
  (zai (zar (zaN zb6 (zab (zdX rfl zc5.nd (zaR (zak (hu1 hr) (zaa 0 (pv 0)) zaf)) (own:=[("_law_source", 5)]) (blkOk_by (by kernel_rfl)) zcN (fun _ _ _ _ _=>pg_name zc5.nd rfl (by nofun)) (fun _ _ _ _ _=>zdd (zat (ziz (zkI hr)) (zaa 5 (pv 5)) (zaa 3 (pv 3)))) (fun _ _ _ _ _=>(zaa 5 (pv 5)))) zae) fun h1 h2=>pe_callTy h1 rfl (T.free 14) boot_tuple h2)))))
def zgW (K:PySem.W.Frag) (W:XW):SM:=
 (za9 (mOp vEq (mCB zdN (zac (mLc (zdY (zag 2)) (gNm 3) (mB (mOp vNe (mOp vIx (zag 0) (zag 3)) (mOp vIx (zag 1) (zag 3)))) (zag 3) [3]) zal)) (mC (.int 0))))
theorem zfV:FnScope ["_law_words_here", "_law_row_here", "_law_places", "_law_place"] ["_law_words_here", "_law_row_here", "_law_places"] (defScope zej):=⟨rfl,rfl,rfl,by decide +kernel,rfl,by decide +kernel,by decide +kernel⟩
def zer (K:PySem.W.Frag):SpD:=spB 3 1 (zgW K)
theorem zhV (T:TLm w K mg base):Fd PG_ w K mg base 2 (He.ga K "_law_keeps") (zer K):=by
 obtain ⟨fd,F⟩:=T.df 64 (d:=zia)
 have bi:Binds K fd ["_law_words_here", "_law_row_here", "_law_places"] []:=FunD.bindsN F fun _ _ _ _ _ _ us hl=>match us,hl with | [_,_,_],_=>by kernel_rfl
 refine zaB (k:=1) F zfV bi rfl rfl fun cdv A outer s H E hr X eX W tk po=>?_
 subst eX
 unfold zgW
 exact (zai (zar (ze4 (za3 (zcW hr)) (zas za2 (zab (zdX rfl zfV.nd (zaR (zaa 2 (pv 2))) (own:=[("_law_place", 3)]) (blkOk_by (by kernel_rfl)) zcN (fun _ _ _ _ _=>pg_name zfV.nd rfl (by nofun)) (fun _ _ _ _ _=>zdd (zat (zko (zcW hr)) (zak (hu1 hr) (zaa 0 (pv 0)) (zaa 3 (pv 3))) (zak (hu1 hr) (zaa 1 (pv 1)) (zaa 3 (pv 3))))) (fun _ _ _ _ _=>(zaa 3 (pv 3)))) zae) fun h1 h2=>pe_callB h1 rfl (T.free 13) boot_len h2) zaf)))
def zgY (K:PySem.W.Frag) (W:XW):SM:=
 (za9 (mOp vEq (mCB zdN (zac (mLc (zwJ (zag 0)) (gNm 3) (zmd (zfr (zaw (zer K) WN (zac (zag 1) (zac (zag 3) (zac (zag 2) zal))))) (mB (mOp vNe (mOp zn4 (zag 0) (zag 3)) (mOp zn4 (zag 0) (zag 1))))) (zag 3) [3]) zal)) (mC (.int 0))))
theorem zfW:FnScope ["_law_table", "_law_words_here", "_law_places", "_law_row_here"] ["_law_table", "_law_words_here", "_law_places"] (defScope zel):=⟨rfl,rfl,rfl,by decide +kernel,rfl,by decide +kernel,by decide +kernel⟩
def zfQ (K:PySem.W.Frag):SpD:=spB 3 1 (zgY K)
theorem zlf (T:TLm w K mg base):Fd PG_ w K mg base 4 (He.ga K "_law_fixed") (zfQ K):=by
 obtain ⟨fd,F⟩:=T.df 65 (d:=zic)
 have bi:Binds K fd ["_law_table", "_law_words_here", "_law_places"] []:=FunD.bindsN F fun _ _ _ _ _ _ us hl=>match us,hl with | [_,_,_],_=>by kernel_rfl
 refine zaB (k:=3) F zfW bi rfl rfl fun cdv A outer s H E hr X eX W tk po=>?_
 subst eX
 unfold zgY
 exact (zai (zar (ze4 (za3 (zcW hr)) (zas za2 (zab (zdX rfl zfW.nd (zq9 (zaa 0 (pv 0))) (own:=[("_law_row_here", 3)]) (blkOk_by (by kernel_rfl)) zcN (fun _ _ _ _ _=>pg_name zfW.nd rfl (by nofun)) (fun _ _ _ _ _=>zdd (MW.mt (zhh (za7 (zaA (zhV T) (hr.mono (by omega)) zfB (T.glo 82) (zab (zaa 1 (pv 1)) (zab (zaa 3 (pv 3)) (zab (zaa 2 (pv 2)) zae))))) (zf1 (zat (zko (zcW hr)) (zoI (hu1 hr) (zaa 0 (pv 0)) (zaa 3 (pv 3))) (zoI (hu1 hr) (zaa 0 (pv 0)) (zaa 1 (pv 1)))))))) (fun _ _ _ _ _=>(zaa 3 (pv 3)))) zae) fun h1 h2=>pe_callB h1 rfl (T.free 13) boot_len h2) zaf)))
def ztB (K:PySem.W.Frag) (W:XW):SM:=
 (zav (zaM (zaw (zfM K) W (zac (zag 0) zal)) (gNm 1)) (zav (zaM (zaw (zfb K) W (zac (zag 1) (zac (mC (.bl true)) (zac (mC (.bl true)) zal)))) (gNm 2)) (zav (zaM (zaw (zgr K) W (zac (zag 1) (zac (zag 2) zal))) (gNm 3)) (zav (zaM (zaw (zfL K) W (zac (zag 1) (zac (zag 2) zal))) (gNm 4)) (zav (zaM (zaw (zew K) W (zac (zag 2) zal)) (gNm 5)) (zav (zaM (zaw (zep K 8) W (zac (zag 2) (zac (zag 4) (zac (zag 3) zal)))) (gNm 6)) (zav (mIf (mB (mOp vNe (zaw (zfj K) W (zac (zag 5) (zac (zag 4) (zac (zag 3) zal)))) (zag 6)))
  (za9 (mC (.bl false)))
  mNx) (zav (zaM (mLc (zds (zac (mCB zdN (zac (zag 4) zal)) zal)) (gNm 8) (mB (mOp vIn (mOp vIx (mOp vIx (zag 2) (mC (.int 1))) (zag 8)) (zag 6))) (zag 8) [8]) (gNm 7)) (zav (zaM (mFz (zaw (zdP K) W (zac (zag 2) (zac (zag 3) zal)))) (gNm 9)) (zav (mIf (zhC (zfr (zaw (zfQ K) W (zac (zag 9) (zac (zag 4) (zac (zag 7) zal))))))
  (za9 (mC (.bl false)))
  mNx) (zav (zgn (zwJ (zag 9)) (gNm 10)
  (mIf (zmd (zfr (zaw (zer K) W (zac (zag 4) (zac (zag 10) (zac (zag 7) zal))))) (mB (mOp vEq (zaw (zao K) W (zac (zag 1) (zac (mC (.int 3)) zal))) (mC (.int 0)))))
  (mIf (mOr (mB (mOp vNe (zaw (zfj K) W (zac (zag 5) (zac (zag 10) (zac (zag 3) zal)))) (zag 6))) (mB (mOp vNe (zaw (zfi K) W (zac (zag 5) (zac (zag 10) (zac (zag 3) zal)))) (mOp zn4 (zag 9) (zag 4)))))
  (za9 (mC (.bl false)))
  mNx)
  mNx)) (zav (zaM (zaw (zdm K) W (zac (zag 5) (zac (zag 4) (zac (zag 3) zal)))) (gNm 11)) (zav (zaM (zaw (zdO K) W (zac (zag 5) (zac (zag 4) (zac (zag 3) zal)))) (gNm 12)) (zav (zaM (mLc (zdY (zag 12)) (gNm 14) (mB (mOp vEq (mCB zdN (zac (mLc (zdY (zag 14)) (gNm 15) (mB (mOp ziM (zag 15) (zag 6))) (zag 15) [15]) zal)) (mC (.int 0)))) (zag 14) [14]) (gNm 13)) (za9 (zkq (mOp vEq (zag 11) (zag 13)) (mOp vGt (mCB zdN (zac (zag 13) zal)) (mC (.int 0)))))))))))))))))))
theorem zdH:FnScope ["_law_script", "_law_state_here", "_law_parts_here", "_law_name", "_law_words_here", "_law_program_here", "_law_due", "_law_places", "_law_k", "_law_table", "_law_row_here", "_law_told", "_law_found", "_law_fitting", "_law_reason", "_law_source"] ["_law_script"] (defScope zmP):=⟨rfl,rfl,rfl,by decide +kernel,rfl,by decide +kernel,by decide +kernel⟩
def sp_law (K:PySem.W.Frag):SpD:=spB 1 15 (ztB K)
theorem zwP (T:TLm w K mg base) {fd:FuncData} (F:FunD K zhm.name zhm.qual zhm.params zhm.body zhm.scope (zhm.dvs K) (zhm.kws K) (He.fAd K zhm.at_) fd) :
  FnOk PG_ w K mg base (L2.CX PG_ w) 30 (He.ga K "law") fd ["_law_script"] (zlF K PG_ w (sp_law K)):=by
 refine zsF (k:=29) F zdH rfl rfl fun cdv A outer s H E hr X eX W tk po=>?_
 subst eX
 unfold ztB
 exact (zad (zan (i:=1) (zaA (zlb T) (hr.mono (by omega)) tk (T.glo 83) (zab (zaa 0 (pv 0)) zae)) fun h=>ps_set zdH.nd rfl (by nofun) h)
  (zad (zan (i:=2) (zaA (zkm T) (hr.mono (by omega)) tk (T.glo 84) (zab (zaa 1 (pv 1)) (zab zcn (zab zcn zae)))) fun h=>ps_set zdH.nd rfl (by nofun) h)
  (zad (zan (i:=3) (zaA (zlV T) (hr.mono (by omega)) tk (T.glo 85) (zab (zaa 1 (pv 1)) (zab (zaa 2 (pv 2)) zae))) fun h=>ps_set zdH.nd rfl (by nofun) h)
  (zad (zan (i:=4) (zaA (zla T) (hr.mono (by omega)) tk (T.glo 86) (zab (zaa 1 (pv 1)) (zab (zaa 2 (pv 2)) zae))) fun h=>ps_set zdH.nd rfl (by nofun) h)
  (zad (zan (i:=5) (zaA (zjP T) (hr.mono (by omega)) tk (T.glo 87) (zab (zaa 2 (pv 2)) zae)) fun h=>ps_set zdH.nd rfl (by nofun) h)
  (zad (zan (i:=6) (zaA (zld T 8) (hr.mono (by omega)) tk (T.glo 81) (zab (zaa 2 (pv 2)) (zab (zaa 4 (pv 4)) (zab (zaa 3 (pv 3)) zae)))) fun h=>ps_set zdH.nd rfl (by nofun) h)
  (zad (zaH (zat (zko (zcW hr)) (zaA (ziw T) (hr.mono (by omega)) tk (T.glo 63) (zab (zaa 5 (pv 5)) (zab (zaa 4 (pv 4)) (zab (zaa 3 (pv 3)) zae)))) (zaa 6 (pv 6)))
  (zai (zar zcn))
  zau)
  (zad (zjx (i:=7) rfl zdH.nd (zcv (zab (zas za2 (zab (zaa 4 (pv 4)) zae) fun h1 h2=>pe_callB h1 rfl (T.free 13) boot_len h2) zae) fun h=>pi_range1 rfl (T.free 44) h) (own:=[("_law_k", 8)]) (blkOk_by (by kernel_rfl)) zcN (fun _ _ _ _ _=>pg_name zdH.nd rfl (by nofun)) (fun _ _ _ _ _=>zdd (zat (ziz (zkI hr)) (zak (hu1 hr) (zak (hu1 hr) (zaa 2 (pv 2)) zaf) (zaa 8 (pv 8))) (zaa 6 (pv 6)))) (fun _ _ _ _ _=>(zaa 8 (pv 8))))
  (zad (zan (i:=9) (zzh (zaA (zjl T) (hr.mono (by omega)) tk (T.glo 88) (zab (zaa 2 (pv 2)) (zab (zaa 3 (pv 3)) zae)))) fun h=>ps_set zdH.nd rfl (by nofun) h)
  (zad (zaH (zbw (za7 (zaA (zlf T) (hr.mono (by omega)) tk (T.glo 89) (zab (zaa 9 (pv 9)) (zab (zaa 4 (pv 4)) (zab (zaa 7 (pv 7)) zae))))))
  (zai (zar zcn))
  zau)
  (zad (za8 po rfl (zq9 (zaa 9 (pv 9))) (zaE (pg_name zdH.nd rfl (by nofun)))
  (zai (zaH (MW.mt (zhh (za7 (zaA (zhV T) (hr.mono (by omega)) tk (T.glo 82) (zab (zaa 4 (pv 4)) (zab (zaa 10 (pv 10)) (zab (zaa 7 (pv 7)) zae))))) (zf1 (zat (za3 (zcW hr)) (zaA (zaq T) (hr.mono (by omega)) tk (T.glo 66) (zab (zaa 1 (pv 1)) (zab zaf zae))) zaf))))
  (zai (zaH (MW.mt (zhz (zat (zko (zcW hr)) (zaA (ziw T) (hr.mono (by omega)) tk (T.glo 63) (zab (zaa 5 (pv 5)) (zab (zaa 10 (pv 10)) (zab (zaa 3 (pv 3)) zae)))) (zaa 6 (pv 6))) (ze3 (zat (zko (zcW hr)) (zaA (ziu T) (hr.mono (by omega)) tk (T.glo 48) (zab (zaa 5 (pv 5)) (zab (zaa 10 (pv 10)) (zab (zaa 3 (pv 3)) zae)))) (zoI (hu1 hr) (zaa 9 (pv 9)) (zaa 4 (pv 4)))))))
  (zai (zar zcn))
  zau))
  zau)) (fun h1 h2 h3=>ps_for po rfl h1 h2 h3))
  (zad (zan (i:=11) (zaA (ziv T) (hr.mono (by omega)) tk (T.glo 90) (zab (zaa 5 (pv 5)) (zab (zaa 4 (pv 4)) (zab (zaa 3 (pv 3)) zae)))) fun h=>ps_set zdH.nd rfl (by nofun) h)
  (zad (zan (i:=12) (zaA (zjk T) (hr.mono (by omega)) tk (T.glo 91) (zab (zaa 5 (pv 5)) (zab (zaa 4 (pv 4)) (zab (zaa 3 (pv 3)) zae)))) fun h=>ps_set zdH.nd rfl (by nofun) h)
  (zad (zjx (i:=13) rfl zdH.nd (zaR (zaa 12 (pv 12))) (own:=[("_law_reason", 14)]) (blkOk_by (by kernel_rfl)) zcN (fun _ _ _ _ _=>pg_name zdH.nd rfl (by nofun)) (fun _ _ _ _ _=>zdd (zat (za3 (zcW hr)) (zas za2 (zab (zdX rfl zdH.nd (zaR (zaa 14 (pv 14))) (own:=[("_law_source", 15)]) (blkOk_by (by kernel_rfl)) zcN (fun _ _ _ _ _=>pg_name zdH.nd rfl (by nofun)) (fun _ _ _ _ _=>zdd (zat (zf0 (zkI hr)) (zaa 15 (pv 15)) (zaa 6 (pv 6)))) (fun _ _ _ _ _=>(zaa 15 (pv 15)))) zae) fun h1 h2=>pe_callB h1 rfl (T.free 13) boot_len h2) zaf)) (fun _ _ _ _ _=>(zaa 14 (pv 14))))
  (zai (zar (zjW (ze4 (za3 (zcW hr)) (zaa 11 (pv 11)) (zaa 13 (pv 13))) (zkF (ze4 zlW (zas za2 (zab (zaa 13 (pv 13)) zae) fun h1 h2=>pe_callB h1 rfl (T.free 13) boot_len h2) zaf)))))))))))))))))))
theorem facts {h:Heap} {f:Addr} (X:K.In h) (G:h.Ns mainGlobals mg) (hfa:mg ("law" : Str)=some (.ref f)) (c:obsX fac fns zpz PG_.main.file zti K=valX fns zpz) :
  Tz fac fns zpz PG_.main.file zti K mg∧∃ fd:FuncData,(∀ (s:Shared) (v:Value),BindsTo s fd ⟨[v],[]⟩ [("_law_script", v)])∧∀ base:Heap,(∀ p∈tfs,TabB base mg (He.cT K p).1 (He.cT K p).2)->FnOk PG_ w K mg base (L2.CX PG_ w) 30 f fd ["_law_script"] (zlF K PG_ w (sp_law K)):=by
 have T:Tz fac fns zpz PG_.main.file zti K mg:=Tz.mk' X G c
 obtain ⟨fd,F⟩:=T.df 66 (d:=zhm)
 have e:=hfa.symm.trans (T.glo 124 (x := "law"))
 cases e
 have b:=FunD.bindsA (ps:=["_law_script"]) F fun _ _ _ _ _ _ us hl=>match us,hl with | [_],_=>by kernel_rfl
 exact ⟨T,fd,fun s v=>b s [v] rfl,fun base tb=>zwP ⟨T,tb⟩ F⟩
end
set_option maxHeartbeats 1000000
local macro_rules | `(tactic| walk_at "dx") => `(tactic| (first | ((with_reducible refine zfs 0 ?_); first | ((with_reducible refine zsd (env' := ?_) ?_ ?_); rotate_left 1; (first | (simp only [zts, ztr, ztt, ztq, ztp, zto, ztn, ztm, ztl, ztk]; rfl) | rfl)) | ((with_reducible refine zvC (env' := ?_) ?_ ?_); rotate_left 1; (first | (simp only [zts, ztr, ztt, ztq, ztp, zto, ztn, ztm, ztl, ztk]; rfl) | rfl)) | ((with_reducible refine zpQ (env' := ?_) ?_ ?_); rotate_left 1; (first | (simp only [zts, ztr, ztt, ztq, ztp, zto, ztn, ztm, ztl, ztk]; rfl) | rfl)) | with_reducible refine zk0 ?_ | with_reducible refine zha ?_ | with_reducible refine zsb ?_) | ((with_reducible refine zfs 1 ?_); first | ((with_reducible refine zx1 (d := ?_) ?_ ?_); rotate_left 1; (first | with_reducible assumption | rfl)) | ((with_reducible refine zve (C := ?_) (fs := ?_) (d := ?_) ?_ ?_ ?_ ?_); rotate_left 3; (walk_at "dp"); (first | with_reducible assumption | rfl); (first | with_reducible assumption | (apply_assumption)))) | ((with_reducible refine zfs 2 ?_); first | ((with_reducible refine zsg (d := ?_) ?_ ?_); rotate_left 1; (first | with_reducible assumption | rfl)) | ((with_reducible refine zyE (xs := ?_) (d := ?_) ?_ ?_ ?_); rotate_left 2; (walk_at "dp"); (first | with_reducible assumption | rfl)) | ((with_reducible refine zyF (kvs := ?_) (kk := ?_) (d := ?_) ?_ ?_ ?_ ?_); rotate_left 3; (walk_at "dp"); (first | with_reducible assumption | rfl); (first | with_reducible assumption | rfl)) | ((with_reducible refine zyD (d := ?_) ?_ ?_); rotate_left 1; (first | with_reducible assumption | rfl)) | ((with_reducible refine zyC (c := ?_) ?_ ?_); rotate_left 1; (first | with_reducible assumption | rfl))) | ((with_reducible refine zfs 3 ?_); first | ((with_reducible refine zu5 (fs := ?_) ?_ ?_ ?_); rotate_left 1; (walk_at "dp"); (first | with_reducible assumption | rfl)) | ((with_reducible refine zuB (xs := ?_) (j := ?_) ?_ ?_ ?_); rotate_left 2; (walk_at "dp"); (first | with_reducible assumption | rfl)) | ((with_reducible refine s_aug (d := ?_) ?_ ?_); rotate_left 1; (first | with_reducible assumption | rfl)) | ((with_reducible refine zvb (kvs := ?_) ?_ ?_); rotate_left 1; (walk_at "dp")) | ((with_reducible refine zu9 (kvs := ?_) (kk := ?_) ?_ ?_ ?_); rotate_left 2; (walk_at "dp"); (first | with_reducible assumption | rfl))) | ((with_reducible refine zfs 4 ?_); first | ((with_reducible refine zuw (xs := ?_) ?_ ?_); rotate_left 1; (walk_at "dp")) | ((with_reducible refine zux (kvs := ?_) ?_ ?_); rotate_left 1; (walk_at "dp")) | ((with_reducible refine zvr (c := ?_) ?_ ?_); rotate_left 1; (first | with_reducible assumption | rfl)) | ((with_reducible refine zvs (c := ?_) ?_ ?_); rotate_left 1; (first | with_reducible assumption | rfl)) | ((with_reducible refine zvt (xs := ?_) (c := ?_) ?_ ?_ ?_); rotate_left 2; (walk_at "dp"); (first | with_reducible assumption | rfl))) | ((with_reducible refine zfs 5 ?_); first | ((with_reducible refine zr2 (xs := ?_) ?_ ?_); rotate_left 1; (walk_at "dp")) | ((with_reducible refine zCa ?_ ?_); (first | with_reducible assumption | rfl)) | ((with_reducible refine zvm (xs := ?_) (j := ?_) ?_ ?_ ?_); rotate_left 2; (walk_at "dp"); (first | with_reducible assumption | rfl)) | ((with_reducible refine zrW (xs := ?_) ?_ ?_); rotate_left 1; (walk_at "dp")) | with_reducible refine zvl ?_) | ((with_reducible refine zfs 6 ?_); first | ((with_reducible refine zyh ?_ ?_); (first | assumption | omega | exact .inr ⟨by decide, by decide⟩ | exact .inl ⟨by decide, by decide⟩ | exact .inr ⟨by omega, by omega⟩ | exact .inl ⟨by omega, by omega⟩ | exact ⟨by decide, by decide +kernel⟩ | exact ⟨by decide, by decide, by decide⟩ | exact ⟨by assumption, by assumption⟩)) | ((with_reducible refine zvG ?_ ?_); (first | assumption | omega | exact .inr ⟨by decide, by decide⟩ | exact .inl ⟨by decide, by decide⟩ | exact .inr ⟨by omega, by omega⟩ | exact .inl ⟨by omega, by omega⟩ | exact ⟨by decide, by decide +kernel⟩ | exact ⟨by decide, by decide, by decide⟩ | exact ⟨by assumption, by assumption⟩)) | ((with_reducible refine zyb ?_ ?_); (first | assumption | omega | exact .inr ⟨by decide, by decide⟩ | exact .inl ⟨by decide, by decide⟩ | exact .inr ⟨by omega, by omega⟩ | exact .inl ⟨by omega, by omega⟩ | exact ⟨by decide, by decide +kernel⟩ | exact ⟨by decide, by decide, by decide⟩ | exact ⟨by assumption, by assumption⟩)) | ((with_reducible refine zuq ?_ ?_); (first | assumption | omega | exact .inr ⟨by decide, by decide⟩ | exact .inl ⟨by decide, by decide⟩ | exact .inr ⟨by omega, by omega⟩ | exact .inl ⟨by omega, by omega⟩ | exact ⟨by decide, by decide +kernel⟩ | exact ⟨by decide, by decide, by decide⟩ | exact ⟨by assumption, by assumption⟩)) | ((with_reducible refine zsv (a := ?_) ?_ ?_ ?_); rotate_left 1; rfl; decide)) | ((with_reducible refine zfs 7 ?_); first | ((with_reducible refine zvg (xs := ?_) ?_ ?_); rotate_left 1; (walk_at "dp")) | ((with_reducible refine zvq (fu := ?_) (n := ?_) ?_ ?_); rotate_left 2; (walk_at "dp")) | ((with_reducible refine zpM (xs := ?_) ?_ ?_); rotate_left 1; (walk_at "dp")) | ((with_reducible refine zue (xs := ?_) ?_ ?_); rotate_left 1; (walk_at "dp")) | ((with_reducible refine zyr (xs := ?_) (ys := ?_) ?_ ?_ ?_); rotate_left 2; (walk_at "dp"); (walk_at "dp")))))
local macro_rules | `(tactic| walk_at "dl") => `(tactic| (repeat (first | with_reducible refine zpD ?_ | with_reducible refine zcY ?_ | walk_at "dx" | ((with_reducible refine zfs 8 ?_); first | with_reducible refine zdI (fun h => absurd h (by decide +kernel)) (fun _ => ?_) | with_reducible refine zdI (fun _ => ?_) (fun h => absurd h (by decide +kernel)) | with_reducible refine zc8 (fun h => absurd h (by decide +kernel)) (fun _ => ?_) | with_reducible refine zc8 (fun _ => ?_) (fun h => absurd h (by decide +kernel))) | ((with_reducible refine zfs 9 ?_); first | with_reducible refine zbD (fun h => absurd h (by decide +kernel)) (fun _ => ?_) | with_reducible refine zbD (fun _ => ?_) (fun h => absurd h (by decide +kernel)) | with_reducible refine zf7 (fun h => absurd h (by decide +kernel)) (fun _ => ?_) | with_reducible refine zf7 (fun _ => ?_) (fun h => absurd h (by decide +kernel))) | ((with_reducible refine zfs 10 ?_); first | with_reducible refine zcH (fun h => absurd h (by decide +kernel)) (fun _ => ?_) | with_reducible refine zcH (fun _ => ?_) (fun h => absurd h (by decide +kernel)) | with_reducible refine zdU (fun h => absurd h (by decide +kernel)) (fun _ => ?_) | with_reducible refine zdU (fun _ => ?_) (fun h => absurd h (by decide +kernel)) | with_reducible refine zdV (fun h => absurd h (by decide +kernel)) (fun _ => ?_) | with_reducible refine zdV (fun _ => ?_) (fun h => absurd h (by decide +kernel))))))
local macro_rules | `(tactic| walk_at "dln") => `(tactic| (repeat (first | with_reducible refine zpD ?_ | walk_at "dx" | ((with_reducible refine zfs 8 ?_); first | with_reducible refine zdI (fun h => absurd h (by decide +kernel)) (fun _ => ?_) | with_reducible refine zdI (fun _ => ?_) (fun h => absurd h (by decide +kernel)) | with_reducible refine zc8 (fun h => absurd h (by decide +kernel)) (fun _ => ?_) | with_reducible refine zc8 (fun _ => ?_) (fun h => absurd h (by decide +kernel))) | ((with_reducible refine zfs 9 ?_); first | with_reducible refine zbD (fun h => absurd h (by decide +kernel)) (fun _ => ?_) | with_reducible refine zbD (fun _ => ?_) (fun h => absurd h (by decide +kernel)) | with_reducible refine zf7 (fun h => absurd h (by decide +kernel)) (fun _ => ?_) | with_reducible refine zf7 (fun _ => ?_) (fun h => absurd h (by decide +kernel))) | ((with_reducible refine zfs 10 ?_); first | with_reducible refine zcH (fun h => absurd h (by decide +kernel)) (fun _ => ?_) | with_reducible refine zcH (fun _ => ?_) (fun h => absurd h (by decide +kernel)) | with_reducible refine zdU (fun h => absurd h (by decide +kernel)) (fun _ => ?_) | with_reducible refine zdU (fun _ => ?_) (fun h => absurd h (by decide +kernel)) | with_reducible refine zdV (fun h => absurd h (by decide +kernel)) (fun _ => ?_) | with_reducible refine zdV (fun _ => ?_) (fun h => absurd h (by decide +kernel))))))
local macro_rules | `(tactic| walk_at "dm") => `(tactic| (repeat (first | with_reducible refine zpD ?_ | with_reducible refine zcY ?_ | walk_at "dx" | ((with_reducible refine zfs 8 ?_); first | with_reducible refine zdI (fun h => absurd h (by decide +kernel)) (fun _ => ?_) | with_reducible refine zdI (fun _ => ?_) (fun h => absurd h (by decide +kernel)) | with_reducible refine zdI (fun h => absurd h (by first | (simp; done) | (simp; omega))) (fun _ => ?_) | with_reducible refine zdI (fun _ => ?_) (fun h => absurd h (by first | (simp; done) | (simp; omega))) | with_reducible refine zc8 (fun h => absurd h (by decide +kernel)) (fun _ => ?_) | with_reducible refine zc8 (fun _ => ?_) (fun h => absurd h (by decide +kernel)) | with_reducible refine zc8 (fun h => absurd h (by first | (simp; done) | (simp; omega))) (fun _ => ?_) | with_reducible refine zc8 (fun _ => ?_) (fun h => absurd h (by first | (simp; done) | (simp; omega)))) | ((with_reducible refine zfs 9 ?_); first | with_reducible refine zbD (fun h => absurd h (by decide +kernel)) (fun _ => ?_) | with_reducible refine zbD (fun _ => ?_) (fun h => absurd h (by decide +kernel)) | with_reducible refine zbD (fun h => absurd h (by first | (simp; done) | (simp; omega))) (fun _ => ?_) | with_reducible refine zbD (fun _ => ?_) (fun h => absurd h (by first | (simp; done) | (simp; omega))) | with_reducible refine zf7 (fun h => absurd h (by decide +kernel)) (fun _ => ?_) | with_reducible refine zf7 (fun _ => ?_) (fun h => absurd h (by decide +kernel)) | with_reducible refine zf7 (fun h => absurd h (by first | (simp; done) | (simp; omega))) (fun _ => ?_) | with_reducible refine zf7 (fun _ => ?_) (fun h => absurd h (by first | (simp; done) | (simp; omega)))) | ((with_reducible refine zfs 10 ?_); first | with_reducible refine zcH (fun h => absurd h (by decide +kernel)) (fun _ => ?_) | with_reducible refine zcH (fun _ => ?_) (fun h => absurd h (by decide +kernel)) | with_reducible refine zcH (fun h => absurd h (by first | (simp; done) | (simp; omega))) (fun _ => ?_) | with_reducible refine zcH (fun _ => ?_) (fun h => absurd h (by first | (simp; done) | (simp; omega))) | with_reducible refine zdU (fun h => absurd h (by decide +kernel)) (fun _ => ?_) | with_reducible refine zdU (fun _ => ?_) (fun h => absurd h (by decide +kernel)) | with_reducible refine zdU (fun h => absurd h (by first | (simp; done) | (simp; omega))) (fun _ => ?_) | with_reducible refine zdU (fun _ => ?_) (fun h => absurd h (by first | (simp; done) | (simp; omega))) | with_reducible refine zdV (fun h => absurd h (by decide +kernel)) (fun _ => ?_) | with_reducible refine zdV (fun _ => ?_) (fun h => absurd h (by decide +kernel)) | with_reducible refine zdV (fun h => absurd h (by first | (simp; done) | (simp; omega))) (fun _ => ?_) | with_reducible refine zdV (fun _ => ?_) (fun h => absurd h (by first | (simp; done) | (simp; omega)))))))
local macro_rules | `(tactic| ext) => `(tactic| walk_at "dm")
local macro_rules | `(tactic| walk_at "dmn") => `(tactic| (repeat (first | with_reducible refine zpD ?_ | walk_at "dx" | ((with_reducible refine zfs 8 ?_); first | with_reducible refine zdI (fun h => absurd h (by decide +kernel)) (fun _ => ?_) | with_reducible refine zdI (fun _ => ?_) (fun h => absurd h (by decide +kernel)) | with_reducible refine zdI (fun h => absurd h (by first | (simp; done) | (simp; omega))) (fun _ => ?_) | with_reducible refine zdI (fun _ => ?_) (fun h => absurd h (by first | (simp; done) | (simp; omega))) | with_reducible refine zc8 (fun h => absurd h (by decide +kernel)) (fun _ => ?_) | with_reducible refine zc8 (fun _ => ?_) (fun h => absurd h (by decide +kernel)) | with_reducible refine zc8 (fun h => absurd h (by first | (simp; done) | (simp; omega))) (fun _ => ?_) | with_reducible refine zc8 (fun _ => ?_) (fun h => absurd h (by first | (simp; done) | (simp; omega)))) | ((with_reducible refine zfs 9 ?_); first | with_reducible refine zbD (fun h => absurd h (by decide +kernel)) (fun _ => ?_) | with_reducible refine zbD (fun _ => ?_) (fun h => absurd h (by decide +kernel)) | with_reducible refine zbD (fun h => absurd h (by first | (simp; done) | (simp; omega))) (fun _ => ?_) | with_reducible refine zbD (fun _ => ?_) (fun h => absurd h (by first | (simp; done) | (simp; omega))) | with_reducible refine zf7 (fun h => absurd h (by decide +kernel)) (fun _ => ?_) | with_reducible refine zf7 (fun _ => ?_) (fun h => absurd h (by decide +kernel)) | with_reducible refine zf7 (fun h => absurd h (by first | (simp; done) | (simp; omega))) (fun _ => ?_) | with_reducible refine zf7 (fun _ => ?_) (fun h => absurd h (by first | (simp; done) | (simp; omega)))) | ((with_reducible refine zfs 10 ?_); first | with_reducible refine zcH (fun h => absurd h (by decide +kernel)) (fun _ => ?_) | with_reducible refine zcH (fun _ => ?_) (fun h => absurd h (by decide +kernel)) | with_reducible refine zcH (fun h => absurd h (by first | (simp; done) | (simp; omega))) (fun _ => ?_) | with_reducible refine zcH (fun _ => ?_) (fun h => absurd h (by first | (simp; done) | (simp; omega))) | with_reducible refine zdU (fun h => absurd h (by decide +kernel)) (fun _ => ?_) | with_reducible refine zdU (fun _ => ?_) (fun h => absurd h (by decide +kernel)) | with_reducible refine zdU (fun h => absurd h (by first | (simp; done) | (simp; omega))) (fun _ => ?_) | with_reducible refine zdU (fun _ => ?_) (fun h => absurd h (by first | (simp; done) | (simp; omega))) | with_reducible refine zdV (fun h => absurd h (by decide +kernel)) (fun _ => ?_) | with_reducible refine zdV (fun _ => ?_) (fun h => absurd h (by decide +kernel)) | with_reducible refine zdV (fun h => absurd h (by first | (simp; done) | (simp; omega))) (fun _ => ?_) | with_reducible refine zdV (fun _ => ?_) (fun h => absurd h (by first | (simp; done) | (simp; omega)))))))
theorem zcm {S:Sto} {a:Addr} {o o':O}:put (put S a o) a o'=put S a o':=by
 funext b
 unfold put
 by_cases h:b=a <;> simp [h]
theorem zjK {m n:SM} {A:DL.Fin} {env:Slo} {S:Sto} (I:Slo->Sto->Prop) (h2:∀ env S,I env S->n A env S) (h1:∀ nx:Slo->Sto->Prop,(∀ env S,I env S->nx env S)->m { A with nx:=nx } env S):zav m n A env S:=h1 (n A) h2
theorem za0 {g:GM} {m:SM} {G:Sto->Prop} {A:DL.Fin} (I:Nat->Slo->Sto->Prop):∀ (xs:List D) (i0:Nat) {env:Slo} {S:Sto},I i0 env S ->
  (∀ i x env S,xs[i]? = some x->I (i0+i) env S->∀ nx:Slo->Sto->Prop,(∀ e s,I (i0+i+1) e s->nx e s)->G S∧g x env S fun env2 S2=>m { A with nx:=nx,ct:=nx,bk:=A.nx } env2 S2) ->
  (∀ env S,I (i0+xs.length) env S->G S∧A.nx env S)->forL g m G A xs env S
 | [],i0,env,S,h0,_,done=>done env S h0
 | x :: xs,i0,env,S,h0,step,done=>by
  refine step 0 x env S rfl h0 (forL g m G A xs) fun e s h=>?_
  refine za0 I xs (i0+1) h (fun i y e s hy hi nx hnx=>step (i+1) y e s hy (by rw [show i0+(i+1)=i0+1+i by omega];exact hi) nx fun e s h=>hnx e s (by rw [show i0+1+i+1=i0+(i+1)+1 by omega];exact h)) fun e s h=>?_
  exact done e s (by rw [List.length_cons,show i0+(xs.length+1)=i0+1+xs.length by omega];exact h)
theorem zkx {n i:Nat} {x:D} (h:(zky 0 n)[i]? = some x):x = .int i∧i < n:=by
 unfold zky at h
 rw [List.getElem?_map] at h
 cases e:(List.range n)[i]? with
 | none=>rw [e] at h;cases h
 | some j=>
  rw [e] at h
  have hj:=List.getElem?_eq_some_iff.mp e
  obtain ⟨h1,h2⟩:=hj
  rw [List.getElem_range] at h2
  subst h2
  cases h
  exact ⟨by simp,by simpa using h1⟩
theorem zhv {lo:Int} {n:Nat}:(zky lo n).length=n:=by simp [zky]
theorem zs4 {g:GM} {t:TM} {m:EM} {G:Sto->Prop} {p:Addr} {Q:DQ} {env:Slo} (I:Nat->List D->Sto->Prop):∀ (xs:List D) (i0:Nat) {S:Sto} {ys:List D},S p=some (.lst ys)->I i0 ys S ->
  (∀ i x S ys,xs[i]? = some x->S p=some (.lst ys)->I (i0+i) ys S->∀ nx:Sto->Prop,(∀ s zs,s p=some (.lst zs)->I (i0+i+1) zs s->nx s)->G S∧g x env S fun env2 S2=>t env2 S2 fun b S3=>match b with
   | true=>m env2 S3 fun d S4=>match S4 p with
    | some (.lst ys)=>ys.length < sizeLine∧nx (DL.put S4 p (.lst (ys++[d])))
    | _=>False
   | false=>nx S3) ->
  (∀ S ys,S p=some (.lst ys)->I (i0+xs.length) ys S->G S∧Q (.ref p) S)->lcL g t m G p Q env xs S
 | [],i0,S,ys,hp,h0,_,done=>done S ys hp h0
 | x :: xs,i0,S,ys,hp,h0,step,done=>by
  refine step 0 x S ys rfl hp h0 (lcL g t m G p Q env xs) fun s zs hz h=>?_
  refine zs4 I xs (i0+1) hz h (fun i y s zs hy hz hi nx hnx=>step (i+1) y s zs hy hz (by rw [show i0+(i+1)=i0+1+i by omega];exact hi) nx fun s zs hz h=>hnx s zs hz (by rw [show i0+1+i+1=i0+(i+1)+1 by omega];exact h)) fun s zs hz h=>?_
  exact done s zs hz (by rw [List.length_cons,show i0+(xs.length+1)=i0+1+xs.length by omega];exact h)
theorem szl {n:Nat} (h:n≤1000):n≤sizeLine:=Nat.le_trans h (by decide)
theorem zfh {n:Nat} (h:n≤1000):n < sizeLine:=Nat.lt_of_le_of_lt h (by decide)
theorem zcx {n:Int} (h0:0≤n) (h:n < 9000):n.natAbs.log2 < 9000:=by
 have:=Nat.log2_le_self n.natAbs
 omega
def Fr (a:Addr) (S S':Sto):Prop:=∀ b o,b≠a->S b=some o->S' b=some o
theorem Fr.refl {a:Addr} {S:Sto}:Fr a S S:=fun _ _ _ h=>h
theorem Fr.trans {a:Addr} {S S1 S2:Sto} (h:Fr a S S1) (h':Fr a S1 S2):Fr a S S2:=fun b o hb e=>h' b o hb (h b o hb e)
theorem Fr.put {a:Addr} {S S':Sto} {o:O} (h:Fr a S S'):Fr a S (put S' a o):=fun b o' hb e=>by rw [zaj hb];exact h b o' hb e
theorem Fr.new {a p:Addr} {S S':Sto} {o:O} (h:Fr a S S') (hp:S' p=none):Fr a S (DL.put S' p o):=fun b o' hb e=>by
 have e':=h b o' hb e
 rw [zaj (fun z=>by subst z;rw [hp] at e';cases e')]
 exact e'
structure StA (ns:List Int) (a l:Addr) (S:Sto):Prop where
 ex:∃ (p:Nat) (big cnt seed:Int),S a=some (.lst [.ref l,.int p,.int big,.int cnt,.int seed])∧p≤ns.length∧0≤big
 sl:S l=some (.lst (ns.map D.int))
 ne:l≠a
theorem atI_nat {xs:List D} {p:Nat} {d:D} (h:xs[p]? = some d):L2.atI xs (p:Int)=some d:=by
 have hl:p < xs.length:=(List.getElem?_eq_some_iff.mp h).1
 unfold L2.atI
 rw [show L2.ixN xs.length (p:Int)=some p by unfold L2.ixN;rw [if_pos (by omega),if_pos (by omega)];simp]
 exact h
theorem zbf {K:PySem.W.Frag} {ns:List Int} {a l:Addr} {S:Sto} {n:Int} {Q:DQ} {E:XQ} (h:StA ns a l S) (hn:0 < n) (hb:n.natAbs.log2 < 9000)
  (hQ:∀ r S',0≤r->r < n->StA ns a l S'->Fr a S S'->Q (.int r) S'):zao K [.ref a,.int n] S Q E:=by
 refine zax rfl ?_
 obtain ⟨⟨p,big,cnt,seed,e1,hp,hbig⟩,e2,ne⟩:=h
 unfold zhK
 refine zcY ?_
 walk_at "dln"
 with_reducible refine zjK (fun env1 S1=>∃ (c:Option D) (p:Nat) (big cnt seed:Int),env1=[some (.ref a),some (.int n),c,none,none,none,none]∧S1 a=some (.lst [.ref l,.int p,.int big,.int cnt,.int seed])∧Fr a S S1∧p≤ns.length∧0≤big) ?_ ?_
 ·rintro _ S1 ⟨c,p,big,cnt,seed,rfl,e3,fr,hp,hbig⟩
  have e4:=fr l _ ne e2
  walk_at "dl"
  with_reducible refine zgk (fun hpos=>?_) (fun hneg=>?_)
  ·walk_at "dl"
   refine hQ _ _ (Int.emod_nonneg _ (by omega)) (Int.emod_lt_of_pos _ hn) ⟨⟨p,big / n,cnt,seed,zah,hp,Int.ediv_nonneg hbig (by omega)⟩,?_,ne⟩ fr.put
   rw [zaj ne]
   exact e4
  ·walk_at "dl"
   exact hQ _ _ (Int.emod_nonneg _ (by omega)) (Int.emod_lt_of_pos _ hn) ⟨⟨p,big,cnt,seed,e3,hp,hbig⟩,e4,ne⟩ fr
 ·intro nx hnx
  walk_at "dl"
  with_reducible refine zbD (fun hz=>?_) (fun hz=>?_)
  ·walk_at "dl"
   with_reducible refine zgk (fun hlt=>?_) (fun hge=>?_)
   ·have hp2:p < ns.length:=by simpa using hlt
    have hc:L2.atI (ns.map D.int) (p:Int)=some (.int ns[p]):=atI_nat (by simp [hp2])
    walk_at "dl"
    with_reducible refine zgk (fun hbg=>?_) (fun hsm=>?_)
    ·walk_at "dl"
     refine hnx _ _ ⟨_,p+1,_,_,_,rfl,zah,?_,hp2,?_⟩
     ·exact ((Fr.refl.put).put).put
     ·split <;> omega
    ·walk_at "dl"
     refine hnx _ _ ⟨_,p+1,big,_,_,rfl,zah,?_,hp2,hbig⟩
     exact ((Fr.refl.put).put).put
   ·walk_at "dl"
    exact hnx _ _ ⟨_,p,big,_,_,rfl,zah,Fr.refl.put,hp,hbig⟩
  ·walk_at "dl"
   exact hnx _ _ ⟨_,p,big,_,_,rfl,zah,Fr.refl.put,hp,hbig⟩
theorem zo9:(Str.ofString "").cps.toList=[]:=by decide +kernel
theorem len1 {c:Nat}:Str.length ⟨#[c]⟩=1:=by unfold Str.length;rfl
structure znX (z:Str):Prop where
 one:1≤z.cps.size
 eight:z.cps.size≤8
 az:∀ c∈z.cps.toList,97≤c∧c≤122
def Nms (zs:List Str):Prop:=(∀ z∈zs,znX z)∧zs.Nodup
theorem ziC {i:Int} (h0:0≤i) (h1:i < 26):L2.atI (Str.cps "abcdefghijklmnopqrstuvwxyz").toList i=some (97+i.toNat):=by
 have:∀ k:Fin 26,L2.atI (Str.cps "abcdefghijklmnopqrstuvwxyz").toList (k.val:Int)=some (97+k.val):=by decide +kernel
 have h:=this ⟨i.toNat,by omega⟩
 simp only [Int.toNat_of_nonneg h0] at h
 exact h
structure Way (n place x:Nat) (z:Str):Prop where
 len:z.cps.size=n
 az:∀ c∈z.cps.toList,97≤c∧c≤122
 at_:place < n->z.cps[place]? = some x
theorem Way.add {n place x y:Nat} {z:Str} (h:Way n place x z) (hy:97≤y∧y≤122) (hx:n=place->y=x):Way (n+1) place x (z++(⟨#[y]⟩:Str)) where
 len:=by
  show (z.cps++#[y]).size=n+1
  rw [Array.size_append,h.len]
  rfl
 az:=fun c hc=>by
  have hc':c∈(z.cps++#[y]).toList:=hc
  rw [Array.toList_append] at hc'
  rcases List.mem_append.mp hc' with q | q
  ·exact h.az c q
  ·have:c=y:=by simpa using q
   rw [this]
   exact hy
 at_:=fun hp=>by
  show (z.cps++#[y])[place]? = some x
  by_cases q:place < n
  ·rw [Array.getElem?_append_left (by rw [h.len];exact q)]
   exact h.at_ q
  ·have e:n=place:=by omega
   rw [Array.getElem?_append_right (by rw [h.len];omega),h.len,e,Nat.sub_self]
   simp [hx e]
theorem zlk {K:PySem.W.Frag} {ns:List Int} {a l:Addr} {S:Sto} {many:Nat} {Q:DQ} {E:XQ} (h:StA ns a l S) (hm:many≤26)
  (hQ:∀ p S' zs,zs.length=many->Nms zs->S' p=some (.lst (zs.map D.str))->S p=none->StA ns a l S'->Fr a S S'->Q (.ref p) S'):zc3 K [.ref a,.int many] S Q E:=by
 refine zax rfl ?_
 unfold zgV
 walk_at "dl"
 refine zbf h (by decide) (by decide +kernel) fun place S1 p0 p1 h1 f1=>?_
 walk_at "dl"
 refine zbf h1 (by decide) (by decide +kernel) fun first S2 q0 q1 h2 f2=>?_
 walk_at "dl"
 refine zbf h2 (by decide) (by decide +kernel) fun shared S3 _ _ h3 f3=>?_
 walk_at "dl"
 refine zbf h3 (by decide) (by decide +kernel) fun bas S4 b0 b1 h4 f4=>?_
 walk_at "dl"
 with_reducible refine zcl (szl (by simp)) fun p hp=>?_
 have fr4:Fr a S S4:=((f1.trans f2).trans f3).trans f4
 walk_at "dl"
 with_reducible refine zkl (by omega) (by omega) ?_
 walk_at "dl"
 have pa:p≠a:=fun z=>by
  obtain ⟨⟨_,_,_,_,e,_⟩,_,_⟩:=h4
  rw [← z,hp] at e
  cases e
 have pl:l≠p:=fun z=>by
  have e:=h4.sl
  rw [z,hp] at e
  cases e
 let Gd:List Str->Prop:=fun zs=>∀ (j:Nat) z,zs[j]? = some z->znX z∧z.cps[place.toNat]? = some (97+((first+7 * (j:Int)) % 26).toNat)
 refine za0 (fun i env S5=>∃ (k o sz nm at_:Option D) (zs:List Str),env=[some (.ref a),some (.int many),some (.int place),some (.int first),some (.int shared),some (.int bas),some (.str "abcdefghijklmnopqrstuvwxyz"),some (.ref p),k,o,sz,nm,at_]∧
   zs.length=i∧Gd zs∧S5 p=some (.lst (zs.map D.str))∧StA ns a l S5∧Fr a S4 S5) _ 0 ?_ ?_ ?_
 ·refine ⟨_,_,_,_,_,[],rfl,rfl,fun j z hz=>by simp at hz,zah,⟨?_,?_,h4.ne⟩,Fr.refl.new hp⟩
  ·obtain ⟨p',big,cnt,seed,e,r⟩:=h4.ex
   exact ⟨p',big,cnt,seed,by rw [zaj (Ne.symm pa)];exact e,r⟩
  ·rw [zaj pl];exact h4.sl
 ·rintro i x _ S5 hx ⟨k,o,sz,nm,at_,zs,rfl,hl,hg,ep,h5,f5⟩ nx hnx
  obtain ⟨rfl,hi⟩:=zkx hx
  rw [Nat.zero_add] at hl hnx
  have hi26:i < 26:=by omega
  refine ⟨trivial,?_⟩
  refine zha ?_
  with_reducible refine zcY ?_
  walk_at "dln"
  with_reducible refine zcY ?_
  walk_at "dln"
  with_reducible refine zjK (fun env S6=>∃ (ot sz:Int) (nm at_:Option D),env=[some (.ref a),some (.int many),some (.int place),some (.int first),some (.int shared),some (.int bas),some (.str "abcdefghijklmnopqrstuvwxyz"),some (.ref p),some (.int i),some (.int ot),some (.int sz),nm,at_]∧
   0≤ot∧place+1≤sz∧sz≤8∧S6 p=some (.lst (zs.map D.str))∧StA ns a l S6∧Fr a S4 S6) ?_ ?_
  ·rintro _ S6 ⟨ot,sz,nm,at_,rfl,ho,hs1,hs2,ep6,h6,f6⟩
   with_reducible refine zcY ?_
   walk_at "dln"
   with_reducible refine zcY ?_
   with_reducible refine zvF ?_
   walk_at "dln"
   with_reducible refine zkl (by omega) (by omega) ?_
   with_reducible refine zqS ?_
   refine za0 (fun t env S7=>∃ (ot:Int) (z:Str) (at_:Option D),env=[some (.ref a),some (.int many),some (.int place),some (.int first),some (.int shared),some (.int bas),some (.str "abcdefghijklmnopqrstuvwxyz"),some (.ref p),some (.int i),some (.int ot),some (.int sz),some (.str z),at_]∧
    0≤ot∧Way t place.toNat (97+((first+7 * (i:Int)) % 26).toNat) z∧S7=S6) _ 0 ?_ ?_ ?_
   ·exact ⟨ot,_,_,rfl,ho,⟨rfl,fun c hc=>(by rw [zo9] at hc;cases hc),fun hp=>by omega⟩,rfl⟩
   ·rintro t x _ S7 hx ⟨ot,z,at_,rfl,ho,hw,rfl⟩ nx2 hnx2
    obtain ⟨rfl,ht⟩:=zkx hx
    rw [Nat.zero_add] at hw hnx2
    refine ⟨trivial,?_⟩
    refine zha ?_
    have l1:=ziC (i:=(first+7 * (i:Int)) % 26) (Int.emod_nonneg _ (by decide)) (Int.emod_lt_of_pos _ (by decide))
    have l2:=ziC (i:=ot % 26) (Int.emod_nonneg _ (by decide)) (Int.emod_lt_of_pos _ (by decide))
    have zl:z.length=t:=hw.len
    walk_at "dl"
    with_reducible refine zgk (fun he=>?_) (fun hne=>?_)
    ·walk_at "dl"
     with_reducible refine zqU (by rw [zl,len1];exact szl (by omega)) ?_
     walk_at "dl"
     exact hnx2 _ _ ⟨ot,_,_,rfl,ho,hw.add (by omega) (fun _=>rfl),rfl⟩
    ·walk_at "dl"
     with_reducible refine zqU (by rw [zl,len1];exact szl (by omega)) ?_
     walk_at "dl"
     exact hnx2 _ _ ⟨ot / 26,_,_,rfl,Int.ediv_nonneg ho (by decide),hw.add (by omega) (fun e=>absurd (by omega) hne),rfl⟩
   ·rintro _ S7 ⟨ot,z,at_,rfl,ho,hw,rfl⟩
    refine ⟨trivial,?_⟩
    rw [Nat.zero_add,zhv] at hw
    have zl:zs.length≤26:=by omega
    walk_at "dl"
    with_reducible refine s_app ep6 (by rw [List.length_map];exact zfh (by omega)) ?_
    walk_at "dl"
    have nb:place.toNat < sz.toNat:=by omega
    refine hnx _ _ ⟨_,_,_,_,_,zs++[z],rfl,by simp [hl],?_,by rw [zah];simp,⟨?_,?_,h6.ne⟩,?_⟩
    ·intro j y hy
     by_cases hj:j < zs.length
     ·rw [List.getElem?_append_left hj] at hy
      exact hg j y hy
     ·rw [List.getElem?_append_right (by omega)] at hy
      have ej:j=i:=by
       have:=(List.getElem?_eq_some_iff.mp hy).1
       simp at this
       omega
      subst ej
      rw [hl,Nat.sub_self] at hy
      cases hy
      exact ⟨⟨by rw [hw.len];omega,by rw [hw.len];omega,hw.az⟩,hw.at_ nb⟩
    ·obtain ⟨p',big,cnt,seed,e,r⟩:=h6.ex
     exact ⟨p',big,cnt,seed,by rw [zaj (Ne.symm pa)];exact e,r⟩
    ·rw [zaj pl];exact h6.sl
    ·intro b o hb e
     have e':=f6 b o hb e
     rw [zaj (fun z=>by subst z;rw [hp] at e;cases e)]
     exact e'
  ·intro nx3 hnx3
   walk_at "dl"
   with_reducible refine zgk (fun he=>?_) (fun hne=>?_)
   ·walk_at "dl"
    refine zbf h5 (by decide) (by decide +kernel) fun ot S6 o0 o1 h6 g6=>?_
    walk_at "dl"
    refine zbf h6 (by omega) (zcx (by omega) (by omega)) fun more S7 m0 m1 h7 g7=>?_
    walk_at "dl"
    exact hnx3 _ _ ⟨ot,_,_,_,rfl,o0,by omega,by omega,g7 p _ pa (g6 p _ pa ep),h7,(f5.trans g6).trans g7⟩
   ·walk_at "dl"
    exact hnx3 _ _ ⟨bas,_,_,_,rfl,b0,by omega,by omega,ep,h5,f5⟩
 ·rintro _ S5 ⟨k,o,sz,nm,at_,zs,rfl,hl,hg,ep,h5,f5⟩
  rw [Nat.zero_add,zhv] at hl
  refine ⟨trivial,?_⟩
  walk_at "dl"
  have sp:S p=none:=by
   cases e:S p with
   | none=>rfl
   | some o'=>rw [fr4 p o' pa e] at hp;cases hp
  refine hQ p S5 zs (by simpa using hl) ⟨fun z hz=>?_,?_⟩ ep sp h5 (fr4.trans f5)
  ·obtain ⟨j,hj,e⟩:=List.getElem_of_mem hz
   exact (hg j z (by rw [List.getElem?_eq_getElem hj,e])).1
  ·refine List.pairwise_iff_getElem.mpr fun i j hi hj hij e=>?_
   have e1:=(hg i _ (List.getElem?_eq_getElem hi)).2
   have e2:=(hg j _ (List.getElem?_eq_getElem hj)).2
   rw [e,e2] at e1
   have e3:=Option.some.inj e1
   have:zs.length≤26:=by
    rw [hl]
    simpa using hm
   omega
inductive Row where
 | read (c s:Str) | peek (c s:Str) | put (s w:Str) | give (s:Str) | say (s:Str) | write (c s:Str)
 | ite (s w:Str) (y n:List Row)
mutual
def Row.d:Row->D
 | .read c s=>.tup [.str "read", .str c,.str s]
 | .peek c s=>.tup [.str "peek", .str c,.str s]
 | .put s w=>.tup [.str "put", .str s,.str w]
 | .give s=>.tup [.str "give", .str s]
 | .say s=>.tup [.str "say", .str s]
 | .write c s=>.tup [.str "write", .str c,.str s]
 | .ite s w y n=>.tup [.str "if", .str s,.str w,.tup (zaU y),.tup (zaU n)]
def zaU:List Row->List D
 | []=>[]
 | r :: rs=>r.d :: zaU rs
end
mutual
def Row.ex:Row->Nat
 | .ite _ _ y n=>zaG y+zaG n
 | .read _ _=>0
 | .peek _ _=>0
 | .put _ _=>0
 | .give _=>0
 | .say _=>0
 | .write _ _=>0
def zaG:List Row->Nat
 | []=>0
 | r :: rs=>1+r.ex+zaG rs
end
mutual
def Row.dep:Row->Nat
 | .ite _ _ y n=>1+max (zbk y) (zbk n)
 | .read _ _=>0
 | .peek _ _=>0
 | .put _ _=>0
 | .give _=>0
 | .say _=>0
 | .write _ _=>0
def zbk:List Row->Nat
 | []=>0
 | r :: rs=>max r.dep (zbk rs)
end
theorem zgx:∀ rs:List Row,zaU rs=rs.map Row.d
 | []=>by simp [zaU]
 | r :: rs=>by simp [zaU,zgx rs]
theorem zct {rs:List Row}:(zaU rs).length=rs.length:=by rw [zgx,List.length_map]
theorem zhR {rs:List Row} {i:Nat} {x:D} (h:(zaU rs)[i]? = some x):∃ r,rs[i]? = some r∧x=r.d:=by
 rw [zgx,List.getElem?_map] at h
 cases e:rs[i]? with
 | none=>rw [e] at h;cases h
 | some r=>rw [e] at h;exact ⟨r,rfl,(Option.some.inj h).symm⟩
theorem ziF:∀ {rs:List Row} {r:Row},r∈rs->r.dep≤zbk rs
 | x :: rs,r,h=>by
  rw [zbk]
  rcases List.mem_cons.mp h with e | h
  ·subst e;omega
  ·have:=ziF h;omega
def zft (rs:List Row):Nat:=(rs.map Row.ex).sum
theorem zgL:∀ rs:List Row,zaG rs=rs.length+zft rs
 | []=>rfl
 | r :: rs=>by
  rw [zaG,zgL rs]
  simp [zft]
  omega
theorem ziD {rs:List Row} {i:Nat} {r:Row} (h:rs[i]? = some r):zft (rs.take (i+1))=zft (rs.take i)+r.ex:=by
 obtain ⟨hi,e⟩:=List.getElem?_eq_some_iff.mp h
 rw [List.take_succ,h]
 simp [zft]
theorem zlq {K:PySem.W.Frag}:∀ (n:Nat) (rs:List Row) {S:Sto} {Q:DQ} {E:XQ},zbk rs < n->Q (.int (zaG rs)) S->zdG K n [.tup (zaU rs)] S Q E
 | 0,rs,S,Q,E,h,_=>absurd h (Nat.not_lt_zero _)
 | n+1,rs,S,Q,E,h,hQ=>by
  refine zax rfl ?_
  unfold zhJ
  walk_at "dl"
  refine za0 (fun i env S'=>∃ x:Option D,env=[some (.tup (zaU rs)),some (.int ((rs.length+zft (rs.take i):Nat):Int)),x]∧S'=S) _ 0 ?_ ?_ ?_
  ·have e0:((zaU rs).length:Int)=((rs.length+zft (rs.take 0):Nat):Int):=by
    rw [zct]
    simp [zft]
   rw [e0]
   exact ⟨_,rfl,rfl⟩
  ·rintro i x _ _ hx ⟨y,rfl,rfl⟩ nx hnx
   rw [Nat.zero_add] at hnx ⊢
   obtain ⟨r,hr,rfl⟩:=zhR hx
   have hd:=ziF (List.mem_of_getElem? hr)
   have et:=ziD hr
   refine ⟨trivial,?_⟩
   refine zha ?_
   cases r with
   | ite s w y n'=>
    rw [Row.d]
    rw [Row.dep] at hd
    rw [Row.ex] at et
    walk_at "dl"
    refine zlq n y (by omega) ?_
    walk_at "dl"
    refine zlq n n' (by omega) ?_
    walk_at "dl"
    have e1:((rs.length+zft (rs.take i):Nat):Int)+((zaG y:Int)+(zaG n':Int))=((rs.length+zft (rs.take (i+1)):Nat):Int):=by
     rw [et]
     omega
    rw [e1]
    exact hnx _ _ ⟨_,rfl,rfl⟩
   | _=>
    rw [Row.d]
    rw [Row.ex] at et
    walk_at "dl"
    replace et:zft (rs.take (i+1))=zft (rs.take i):=et
    rw [← et]
    exact hnx _ _ ⟨_,rfl,rfl⟩
  ·rintro _ _ ⟨y,rfl,rfl⟩
   refine ⟨trivial,?_⟩
   walk_at "dl"
   rw [zct,Nat.zero_add,List.take_length,← zgL]
   exact hQ
structure Shp where
 der:Bool
 pk:Bool
 wr:Bool
 words:List Str
 sources:List Str
 cells:List Str
 slots:List Str
mutual
def Row.ok (h:Shp):Row->Prop
 | .read c s=>c∈h.cells∧s∈h.slots
 | .peek c s=>(h.der=false∧h.pk=true)∧c∈h.cells∧s∈h.slots
 | .put s w=>s∈h.slots∧w∈h.words
 | .give s=>h.der=true∧s∈h.slots
 | .say s=>h.der=false∧s∈h.slots
 | .write c s=>(h.der=false∧h.wr=true)∧c∈h.sources∧s∈h.slots
 | .ite s w y n=>s∈h.slots∧w∈h.words∧zb4 h y∧zb4 h n
def zb4 (h:Shp):List Row->Prop
 | []=>True
 | r :: rs=>r.ok h∧zb4 h rs
end
theorem zfn {h:Shp}:∀ {rs:List Row},zb4 h rs ↔ ∀ r∈rs,r.ok h
 | []=>by simp [zb4]
 | r :: rs=>by rw [zb4,zfn];simp
def kindS (b:Bool):Str:=match b with
 | true => "derived"
 | false => "effects"
theorem zqh {b:Bool} (h:kindS b = "derived"):b=true:=by
 cases b
 ·exact absurd h (by decide +kernel)
 ·rfl
theorem zqg {b:Bool} (h:¬ kindS b = "derived"):b=false:=by
 cases b
 ·rfl
 ·exact absurd rfl h
structure ShD (h:Shp) (sl ce:Addr) (kvs:List (Key×D)):Prop where
 kind:valD kvs (.inr "kind")=some (.str (kindS h.der))
 cells:valD kvs (.inr "cells")=some (.ref ce)
 sources:valD kvs (.inr "sources")=some (.tp true (h.sources.map D.str))
 slots:valD kvs (.inr "slots")=some (.ref sl)
 words:valD kvs (.inr "words")=some (.tup (h.words.map D.str))
 peeks:valD kvs (.inr "peeks")=some (.bl h.pk)
 writes:valD kvs (.inr "writes")=some (.bl h.wr)
structure ShS (h:Shp) (a sh sl ce:Addr) (S:Sto):Prop where
 ex:∃ kvs,S sh=some (.dic kvs)∧ShD h sl ce kvs
 sl_:S sl=some (.lst (h.slots.map D.str))
 ce_:S ce=some (.lst (h.cells.map D.str))
 nsh:sh≠a
 nsl:sl≠a
 nce:ce≠a
theorem ShS.fr {h:Shp} {a sh sl ce:Addr} {S S':Sto} (x:ShS h a sh sl ce S) (f:Fr a S S'):ShS h a sh sl ce S':=by
 obtain ⟨⟨kvs,e,d⟩,e1,e2,n1,n2,n3⟩:=x
 exact ⟨⟨kvs,f _ _ n1 e,d⟩,f _ _ n2 e1,f _ _ n3 e2,n1,n2,n3⟩
structure ShW (h:Shp):Prop where
 w0:0 < h.words.length
 w1:h.words.length≤100
 s0:0 < h.sources.length
 s1:h.sources.length≤100
 c0:0 < h.cells.length
 c1:h.cells.length≤100
 l0:0 < h.slots.length
 l1:h.slots.length≤100
 flags:h.der=true->h.pk=false∧h.wr=false
theorem zpi {zs:List Str} {r:Int} (h0:0≤r) (h1:r < (zs.map D.str).length):∃ z∈zs,L2.atI (zs.map D.str) r=some (.str z):=by
 obtain ⟨n,rfl⟩:=Int.eq_ofNat_of_zero_le h0
 have hn:n < zs.length:=by simpa using h1
 exact ⟨zs[n],List.getElem_mem hn,atI_nat (by simp [hn])⟩
theorem zgH {K:PySem.W.Frag} {ns:List Int} {a l:Addr} {S:Sto} {zs:List Str} {Q:DQ} {E:XQ} (h:StA ns a l S) (h0:0 < zs.length) (h1:zs.length≤100)
  (hQ:∀ r S' z,z∈zs->L2.atI (zs.map D.str) r=some (.str z)->StA ns a l S'->Fr a S S'->Q (.int r) S'):zao K [.ref a,.int ((zs.map D.str).length:Nat)] S Q E:=by
 refine zbf h (by simpa using h0) (zcx (by omega) (by simp;omega)) fun r S' r0 r1 h' f'=>?_
 obtain ⟨z,hz,ez⟩:=zpi r0 r1
 exact hQ r S' z hz ez h' f'
theorem zvP {K:PySem.W.Frag} {ns:List Int} {a l sh sl ce:Addr} {S:Sto} {h:Shp} {Q:DQ} {E:XQ} (hS:StA ns a l S) (hh:ShS h a sh sl ce S) (hw:ShW h)
  (hQ:∀ (r:Row) S',r.ok h->r.dep=0->r.ex=0->StA ns a l S'->Fr a S S'->Q r.d S'):zfO K [.ref a,.ref sh] S Q E:=by
 refine zax rfl ?_
 unfold ziL
 walk_at "dl"
 refine zbf hS (by decide) (by decide +kernel) fun k S1 k0 k1 h1 f1=>?_
 obtain ⟨⟨kvs,e1,d⟩,e2,e3,_,_,_⟩:=hh.fr f1
 have dk:=d.kind
 have dc:=d.cells
 have ds:=d.sources
 have dl:=d.slots
 have dw:=d.words
 have dp:=d.peeks
 have dr:=d.writes
 walk_at "dl"
 refine zgH h1 hw.l0 hw.l1 fun r2 S2 s hs es h2 f2=>?_
 obtain ⟨⟨kvs',e1',d'⟩,e2',e3',n1,n2,n3⟩:=hh.fr (f1.trans f2)
 have ek:kvs'=kvs:=by
  have z:=f2 _ _ n1 e1
  rw [e1'] at z
  cases z
  rfl
 subst ek
 walk_at "dl"
 have rest:∀ (env:Slo),env=[some (.ref a),some (.ref sh),some (.int k),some (.str s),none]->¬ k=0->¬ k=1->(zav (mIf (zmd (mB (mOp vEq (zag 2) (mC (.int 2)))) (zfr (mOp vIx (zag 1) (mC (.str "writes")))))
   (za9 (zcV (zac (mC (.str "write")) (zac (mOp vIx (mOp vIx (zag 1) (mC (.str "sources"))) (zaw (zao K) (fun c fs _ S'=>E c fs S') (zac (zag 0) (zac (mCB zdN (zac (mOp vIx (zag 1) (mC (.str "sources"))) zal)) zal)))) (zac (zag 3) zal))))) mNx)
   (zav (zaM (mOp vIx (mOp vIx (zag 1) (mC (.str "cells"))) (zaw (zao K) (fun c fs _ S'=>E c fs S') (zac (zag 0) (zac (mCB zdN (zac (mOp vIx (zag 1) (mC (.str "cells"))) zal)) zal)))) (gNm 4))
    (zav (mIf (zmd (mB (mOp vEq (zag 2) (mC (.int 3)))) (zfr (mOp vIx (zag 1) (mC (.str "peeks"))))) (za9 (zcV (zac (mC (.str "peek")) (zac (zag 4) (zac (zag 3) zal))))) mNx)
     (za9 (zcV (zac (mC (.str "read")) (zac (zag 4) (zac (zag 3) zal)))))))) { nx:=fun _ S'=>Q .non S',rt:=Q } env S2:=by
  rintro _ rfl hk0 hk1
  have last:∀ (env:Slo),env=[some (.ref a),some (.ref sh),some (.int k),some (.str s),none]->(zav (zaM (mOp vIx (mOp vIx (zag 1) (mC (.str "cells"))) (zaw (zao K) (fun c fs _ S'=>E c fs S') (zac (zag 0) (zac (mCB zdN (zac (mOp vIx (zag 1) (mC (.str "cells"))) zal)) zal)))) (gNm 4))
    (zav (mIf (zmd (mB (mOp vEq (zag 2) (mC (.int 3)))) (zfr (mOp vIx (zag 1) (mC (.str "peeks"))))) (za9 (zcV (zac (mC (.str "peek")) (zac (zag 4) (zac (zag 3) zal))))) mNx)
     (za9 (zcV (zac (mC (.str "read")) (zac (zag 4) (zac (zag 3) zal))))))) { nx:=fun _ S'=>Q .non S',rt:=Q } env S2:=by
   rintro _ rfl
   walk_at "dl"
   refine zgH h2 hw.c0 hw.c1 fun r3 S3 c hc ec h3 f3=>?_
   have e1s:=f3 _ _ n1 e1'
   have e3s:=f3 _ _ n3 e3'
   have f03:Fr a S S3:=(f1.trans f2).trans f3
   walk_at "dl"
   with_reducible refine zbD (fun hk3=>?_) (fun hk3=>?_)
   ·walk_at "dl"
    with_reducible refine zdI (fun hp=>?_) (fun hp=>?_)
    ·walk_at "dl"
     with_reducible refine zaT (szl (by simp)) ?_
     refine hQ (.peek c s) S3 ⟨⟨?_,hp⟩,hc,hs⟩ rfl rfl h3 f03
     cases hd:h.der
     ·rfl
     ·rw [(hw.flags hd).1] at hp
      cases hp
    ·walk_at "dl"
     with_reducible refine zaT (szl (by simp)) ?_
     exact hQ (.read c s) S3 ⟨hc,hs⟩ rfl rfl h3 f03
   ·walk_at "dl"
    with_reducible refine zaT (szl (by simp)) ?_
    exact hQ (.read c s) S3 ⟨hc,hs⟩ rfl rfl h3 f03
  with_reducible refine zcY ?_
  walk_at "dln"
  with_reducible refine zbD (fun hk2=>?_) (fun hk2=>?_)
  ·walk_at "dln"
   with_reducible refine zdI (fun hp=>?_) (fun hp=>?_)
   ·walk_at "dln"
    refine zgH h2 hw.s0 hw.s1 fun r3 S3 c hc ec h3 f3=>?_
    walk_at "dln"
    with_reducible refine zaT (szl (by simp)) ?_
    refine hQ (.write c s) S3 ⟨⟨?_,hp⟩,hc,hs⟩ rfl rfl h3 ((f1.trans f2).trans f3)
    cases hd:h.der
    ·rfl
    ·rw [(hw.flags hd).2] at hp
     cases hp
   ·walk_at "dln"
    exact last _ rfl
  ·walk_at "dln"
   exact last _ rfl
 with_reducible refine zgk (fun hk=>?_) (fun hk=>?_)
 ·walk_at "dl"
  refine zgH h2 hw.w0 hw.w1 fun r3 S3 w hww ew h3 f3=>?_
  walk_at "dl"
  with_reducible refine zaT (szl (by simp)) ?_
  exact hQ (.put s w) S3 ⟨hs,hww⟩ rfl rfl h3 ((f1.trans f2).trans f3)
 ·with_reducible refine zAk ?_
  with_reducible refine zcY ?_
  walk_at "dln"
  with_reducible refine zbD (fun hk1=>?_) (fun hk1=>?_)
  ·walk_at "dln"
   with_reducible refine zgk (fun hd=>?_) (fun hd=>?_)
   ·walk_at "dln"
    with_reducible refine zaT (szl (by simp)) ?_
    exact hQ (.give s) S2 ⟨zqh hd,hs⟩ rfl rfl h2 (f1.trans f2)
   ·walk_at "dln"
    with_reducible refine zcY ?_
    walk_at "dln"
    with_reducible refine zgk (fun hk'=>?_) (fun hk'=>?_)
    ·walk_at "dln"
     with_reducible refine zaT (szl (by simp)) ?_
     exact hQ (.say s) S2 ⟨zqg hd,hs⟩ rfl rfl h2 (f1.trans f2)
    ·exact absurd (of_decide_eq_true hk1) hk'
  ·walk_at "dln"
   with_reducible refine zcY ?_
   walk_at "dln"
   with_reducible refine zgk (fun hk'=>?_) (fun hk'=>?_)
   ·rw [decide_eq_true hk'] at hk1
    cases hk1
   ·walk_at "dln"
    exact rest _ rfl hk hk'
theorem zgy (rs:List Row) (r:Row):zaU rs++[r.d]=zaU (rs++[r]):=by
 rw [zgx,zgx,List.map_append]
 rfl
theorem zkb (rs:List Row) (r:Row):zaG (rs++[r])=zaG rs+1+r.ex:=by
 rw [zgL,zgL]
 simp [zft]
 omega
theorem ziG:∀ (rs:List Row) (r:Row),zbk (rs++[r])=max (zbk rs) r.dep
 | [],r=>by simp [zbk]
 | x :: rs,r=>by
  rw [List.cons_append,zbk,zbk,ziG rs r]
  omega
theorem zlU {h:Shp} {rs:List Row} {r:Row} (h1:zb4 h rs) (h2:r.ok h):zb4 h (rs++[r]):=by
 rw [zfn] at h1 ⊢
 intro x hx
 rcases List.mem_append.mp hx with q | q
 ·exact h1 x q
 ·rw [List.mem_singleton.mp q];exact h2
theorem Fr.wr {a p:Addr} {S S':Sto} {o:O} (h:Fr a S S') (hp:S p=none):Fr a S (DL.put S' p o):=fun b o' hb e=>by
 rw [zaj (fun z=>by subst z;rw [hp] at e;cases e)]
 exact h b o' hb e
theorem StA.wr {ns:List Int} {a l p:Addr} {S:Sto} {o:O} (h:StA ns a l S) (pa:p≠a) (pl:l≠p):StA ns a l (DL.put S p o):=by
 obtain ⟨⟨p',big,cnt,seed,e,r⟩,e2,ne⟩:=h
 exact ⟨⟨p',big,cnt,seed,by rw [zaj (Ne.symm pa)];exact e,r⟩,by rw [zaj pl];exact e2,ne⟩
theorem StA.fresh {ns:List Int} {a l p:Addr} {S:Sto} (h:StA ns a l S) (hp:S p=none):p≠a∧l≠p:=by
 obtain ⟨⟨p',big,cnt,seed,e,r⟩,e2,ne⟩:=h
 refine ⟨fun z=>?_,fun z=>?_⟩
 ·rw [← z,hp] at e;cases e
 ·rw [z,hp] at e2;cases e2
theorem zk5 {K:PySem.W.Frag} {ns:List Int} {a l sh sl ce:Addr} {h:Shp} (hw:ShW h):∀ (n:Nat) {S:Sto} {d room:Int} {Q:DQ} {E:XQ},StA ns a l S->ShS h a sh sl ce S->1≤d->d≤4->4 - d < n->0≤room->room≤900 ->
  (∀ (rs:List Row) S',zb4 h rs->(zaG rs:Int)≤room->(zbk rs:Int)≤4 - d->StA ns a l S'->Fr a S S'->Q (.tup (zaU rs)) S')->zdF K n [.ref a,.ref sh,.int d,.int room] S Q E
 | 0,S,d,room,Q,E,hS,hh,d1,d4,hn,r0,r1,hQ=>by omega
 | n+1,S,d,room,Q,E,hS,hh,d1,d4,hn,r0,r1,hQ=>by
  refine zax rfl ?_
  unfold zhI
  walk_at "dl"
  with_reducible refine zcl (szl (by simp)) fun p hp=>?_
  obtain ⟨pa,pl⟩:=hS.fresh hp
  have f0:Fr a S (put S p (.lst [])):=Fr.refl.new hp
  have hS0:StA ns a l (put S p (.lst [])):=hS.wr pa pl
  walk_at "dl"
  refine zbf hS0 (by decide) (by decide +kernel) fun t S1 t0 t1 h1 f1=>?_
  have ep1:S1 p=some (.lst []):=f1 _ _ pa zah
  walk_at "dl"
  with_reducible refine zkl (by omega) (by omega) ?_
  walk_at "dl"
  refine za0 (fun i env S'=>∃ (rs:List Row) (left:Int) (x1 x2 x3 x4 x5 x6:Option D),env=[some (.ref a),some (.ref sh),some (.int d),some (.int room),some (.ref p),some (.int left),x1,x2,x3,x4,x5,x6]∧zb4 h rs∧(zaG rs:Int)+left=room∧0≤left∧
   (zbk rs:Int)≤4 - d∧S' p=some (.lst (zaU rs))∧StA ns a l S'∧Fr a S S') _ 0 ?_ ?_ ?_
  ·refine ⟨[],room,_,_,_,_,_,_,rfl,trivial,by simp [zaG],r0,by simp [zbk];omega,by rw [zaU];exact ep1,h1,f0.trans f1⟩
  ·rintro i x _ S2 hx ⟨rs,left,x1,x2,x3,x4,x5,x6,rfl,hok,hcnt,hl0,hdep,ep,h2,f2⟩ nx hnx
   have hlen:(zaU rs).length < sizeLine:=by
    rw [zct]
    have:=zgL rs
    exact zfh (by omega)
   have hlen':∀ r:Row,(zaU (rs++[r])).length < sizeLine:=fun r=>by
    rw [zct]
    have:=zgL rs
    exact zfh (by simp;omega)
   refine ⟨trivial,?_⟩
   refine zha ?_
   have other:∀ (x:Option D) (S3:Sto),StA ns a l S3->Fr a S2 S3->(mIf (mB (mOp vGe (zag 5) (mC (.int 1))))
     (zav (zbQ (ziB okL zjL (zag 4) (zac (zaw (zfO K) (fun c fs _ S'=>E c fs S') (zac (zag 0) (zac (zag 1) zal))) zal))) (zaM (mOp zpk (zag 5) (mC (.int 1))) (gNm 5)))
     mNx) { nx:=nx,rt:=Q,bk:=fun e s=>(za9 (mCB zbX (zac (zag 4) zal))) { nx:=fun _ S'=>Q .non S',rt:=Q } e s,ct:=nx } [some (.ref a),some (.ref sh),some (.int d),some (.int room),some (.ref p),some (.int left),x,x2,x3,x4,x5,x6] S3:=by
    intro x S3 h3 f3
    have ep3:=f3 _ _ pa ep
    walk_at "dl"
    with_reducible refine zgk (fun hl=>?_) (fun hl=>?_)
    ·walk_at "dl"
     refine zvP h3 (hh.fr (f2.trans f3)) hw fun r S4 rok rdep rex h4 f4=>?_
     have ep4:=f4 _ _ pa ep3
     walk_at "dl"
     with_reducible refine s_app ep4 hlen ?_
     walk_at "dl"
     rw [zgy]
     refine hnx _ _ ⟨rs++[r],left - 1,_,_,_,_,_,_,rfl,zlU hok rok,by rw [zkb,rex];omega,by omega,by rw [ziG,rdep];omega,zah,h4.wr pa pl,((f2.trans f3).trans f4).wr hp⟩
    ·walk_at "dl"
     exact hnx _ _ ⟨rs,left,_,_,_,_,_,_,rfl,hok,hcnt,hl0,hdep,ep3,h3,f2.trans f3⟩
   walk_at "dln"
   with_reducible refine zbD (fun hl2=>?_) (fun hl2=>?_)
   ·have hl2:=of_decide_eq_true hl2
    walk_at "dln"
    with_reducible refine zbD (fun hd4=>?_) (fun hd4=>?_)
    ·have hd4:=of_decide_eq_true hd4
     walk_at "dln"
     refine zbf h2 (by decide) (by decide +kernel) fun r S3 _ _ h3 f3=>?_
     walk_at "dln"
     with_reducible refine zgk (fun hr=>?_) (fun hr=>?_)
     ·obtain ⟨⟨kvs,e1,dd⟩,e2,e3,n1,n2,n3⟩:=hh.fr (f2.trans f3)
      have dc:=dd.cells
      have dl:=dd.slots
      have dw:=dd.words
      walk_at "dl"
      refine zgH h3 hw.l0 hw.l1 fun r4 S4 s hs es h4 f4=>?_
      have e14:=f4 _ _ n1 e1
      have e24:=f4 _ _ n2 e2
      have e34:=f4 _ _ n3 e3
      walk_at "dl"
      refine zgH h4 hw.c0 hw.c1 fun r5 S5 c hc ec h5 f5=>?_
      have e15:=f5 _ _ n1 e14
      have e35:=f5 _ _ n3 e34
      walk_at "dl"
      refine zgH h5 hw.w0 hw.w1 fun r6 S6 w hww ew h6 f6=>?_
      have ep6:=f6 _ _ pa (f5 _ _ pa (f4 _ _ pa (f3 _ _ pa ep)))
      have f06:Fr a S S6:=(((f2.trans f3).trans f4).trans f5).trans f6
      walk_at "dl"
      with_reducible refine zaT (szl (by simp)) ?_
      walk_at "dl"
      with_reducible refine s_app ep6 hlen ?_
      walk_at "dl"
      have h7:StA ns a l (put S6 p (.lst (zaU rs++[.tup [.str "read", .str c,.str s]]))):=h6.wr pa pl
      have f07:Fr a S (put S6 p (.lst (zaU rs++[.tup [.str "read", .str c,.str s]]))):=f06.wr hp
      refine zk5 hw n h7 (hh.fr f07) (by omega) (by omega) (by omega) (by omega) (by omega) fun ys S8 yok ycnt ydep h8 f8=>?_
      walk_at "dl"
      refine zk5 hw n h8 (hh.fr (f07.trans f8)) (by omega) (by omega) (by omega) (by omega) (by omega) fun zs S9 zok zcnt zdep h9 f9=>?_
      have ep9:=f9 _ _ pa (f8 _ _ pa zah)
      have f09:Fr a S S9:=(f07.trans f8).trans f9
      walk_at "dl"
      with_reducible refine zaT (szl (by simp)) ?_
      walk_at "dl"
      have e9:zaU rs++[.tup [.str "read", .str c,.str s]]=zaU (rs++[.read c s]):=by rw [← zgy,Row.d]
      rw [e9] at ep9
      with_reducible refine s_app ep9 (hlen' _) ?_
      walk_at "dl"
      refine zlq 6 ys (by omega) ?_
      walk_at "dl"
      refine zlq 6 zs (by omega) ?_
      walk_at "dl"
      have ea:zaU (rs++[.read c s])++[.tup [.str "if", .str s,.str w,.tup (zaU ys),.tup (zaU zs)]]=zaU (rs++[.read c s]++[.ite s w ys zs]):=by
       have z:=zgy (rs++[Row.read c s]) (Row.ite s w ys zs)
       rw [Row.d] at z
       exact z
      rw [ea]
      refine hnx _ _ ⟨rs++[.read c s]++[.ite s w ys zs],_,_,_,_,_,_,_,rfl,zlU (r:=.ite s w ys zs) (zlU (r:=.read c s) hok (by rw [Row.ok];exact ⟨hc,hs⟩)) (by rw [Row.ok];exact ⟨hs,hww,yok,zok⟩),?_,by omega,?_,zah,h9.wr pa pl,f09.wr hp⟩
      ·rw [zkb,zkb,Row.ex,Row.ex]
       omega
      ·rw [ziG,ziG,Row.dep,Row.dep]
       omega
     ·exact other _ S3 h3 f3
    ·with_reducible refine zyx ?_
     exact other _ S2 h2 Fr.refl
   ·with_reducible refine zyx ?_
    exact other _ S2 h2 Fr.refl
  ·rintro _ S2 ⟨rs,left,x1,x2,x3,x4,x5,x6,rfl,hok,hcnt,hl0,hdep,ep,h2,f2⟩
   refine ⟨trivial,?_⟩
   walk_at "dl"
   exact hQ rs S2 hok (by omega) hdep h2 f2
set_option maxHeartbeats 2000000
theorem zbl {κ:Type} [DecidableEq κ] {kvs:List (κ×D)} {k k':κ} {v:D}:valD (putD kvs k v) k'=if k'=k then some v else valD kvs k':=by
 unfold putD
 by_cases h:(kvs.any fun kv=>decide (kv.1=k))=true
 ·rw [if_pos h]
  induction kvs with
  | nil=>simp at h
  | cons p kvs ih=>
   obtain ⟨q,u⟩:=p
   unfold valD at ih ⊢
   by_cases e:q=k
   ·subst e
    by_cases e':k'=q
    ·subst e';simp
    ·have e2:¬ q=k':=fun z=>e' z.symm
     simp only [List.map_cons,if_true,List.find?_cons,decide_eq_false e2,if_neg e']
     clear ih h
     induction kvs with
     | nil=>rfl
     | cons p kvs ih2=>
      obtain ⟨q2,u2⟩:=p
      by_cases e3:q2=q
      ·subst e3
       simp only [List.map_cons,if_true,List.find?_cons,decide_eq_false e2]
       exact ih2
      ·by_cases e4:q2=k'
       ·subst e4
        simp [e3]
       ·simp only [List.map_cons,if_neg e3,List.find?_cons,decide_eq_false e4]
        exact ih2
   ·have h2:(kvs.any fun kv=>decide (kv.1=k))=true:=by simpa [e] using h
    by_cases e4:q=k'
    ·subst e4
     simp [e]
    ·simp only [List.map_cons,if_neg e,List.find?_cons,decide_eq_false e4]
     exact ih h2
 ·rw [if_neg h]
  unfold valD
  rw [List.find?_append]
  by_cases e:k'=k
  ·subst e
   have:kvs.find? (fun kv=>decide (kv.1=k'))=none:=by
    rw [List.find?_eq_none]
    intro x hx hd
    exact h (List.any_eq_true.mpr ⟨x,hx,hd⟩)
   rw [this]
   simp
  ·have e2:¬ k=k':=fun z=>e z.symm
   rw [if_neg e]
   cases q:kvs.find? (fun kv=>decide (kv.1=k')) with
   | none=>simp [e2]
   | some x=>simp
theorem Fr.none_ {a p:Addr} {S S':Sto} (f:Fr a S S') (h:S' p=none) (pa:p≠a):S p=none:=by
 cases e:S p with
 | none=>rfl
 | some o=>rw [f p o pa e] at h;cases h
theorem zmn {S:Sto} {n:Nat} (zs:List Str):(zs.map D.str).mapM (rs S n)=some (zs.map PyData.str):=by
 induction zs with
 | nil=>rfl
 | cons z zs ih=>
  rw [List.map_cons,List.mapM_cons,ih]
  cases n <;> rfl
theorem zir {S:Sto} {fl:Bool} (zs:List Str):rs S 40 (.tp fl (zs.map D.str))=some (.tuple (zs.map PyData.str)):=by
 show (List.mapM (rs S 39) (zs.map D.str)).map PyData.tuple=_
 rw [zmn]
 rfl
theorem zdw (zs:List Str) (x:Str):((zs.map PyData.str).any fun z=>PyData.eqv z (.str x))=decide (x∈zs):=by
 induction zs with
 | nil=>rfl
 | cons z zs ih=>
  rw [List.map_cons,List.any_cons,ih]
  have e:PyData.eqv (.str z) (.str x)=decide (z=x):=(zf3 z x).symm
  rw [e]
  by_cases h:z=x
  ·subst h;simp
  ·have h2:¬ x=z:=fun q=>h q.symm
   simp [h,h2]
structure Parts where
 words:List Str
 sources:List Str
 derived:List (Str×List Row)
 effects:List (Str×List Row)
 fl:Bool
def pairD (p:Str×List Row):D:=.tup [.str p.1,.tup (zaU p.2)]
def Parts.d (x:Parts):D:=.tup [.tup (x.words.map D.str),.tp x.fl (x.sources.map D.str),.tup (x.derived.map pairD),.tup (x.effects.map pairD)]
structure BodyOk (h:Shp) (rs:List Row):Prop where
 ok:zb4 h rs
 cnt:zaG rs≤16
 dep:zbk rs≤3
structure zay (x:Parts) (slots:List Str) (pk wr:Bool):Prop where
 ww:Nms x.words
 w2:2≤x.words.length
 w4:x.words.length≤4
 nn:Nms (x.sources++x.derived.map (·.1)++x.effects.map (·.1))
 s1:1≤x.sources.length
 s4:x.sources.length≤4
 d6:x.derived.length≤6
 e4:x.effects.length≤4
 sl:∀ z∈slots,znX z
 der:∀ i p,x.derived[i]? = some p->BodyOk ⟨true,false,false,x.words,x.sources,x.sources++(x.derived.take i).map (·.1),slots⟩ p.2
 eff:∀ p∈x.effects,BodyOk ⟨false,pk,wr,x.words,x.sources,x.sources++x.derived.map (·.1),slots⟩ p.2
theorem ze2 {ns:List Int} {a l p:Addr} {S S':Sto} {o:O} (h:StA ns a l S') (f:Fr a S S') (hp:S' p=none) :
  StA ns a l (DL.put S' p o)∧Fr a S (DL.put S' p o)∧p≠a∧S p=none∧(∀ b x,S' b=some x->DL.put S' p o b=some x)∧DL.put S' p o p=some o:=by
 obtain ⟨pa,pl⟩:=h.fresh hp
 refine ⟨h.wr pa pl,f.new hp,pa,f.none_ hp pa,fun b x e=>?_,zah⟩
 rw [zaj (fun z=>by subst z;rw [hp] at e;cases e)]
 exact e
theorem zn0 {ns:List Int} {a l p:Addr} {S S':Sto} {o o':O} (h:StA ns a l S') (f:Fr a S S') (pa:p≠a) (pl:l≠p) (hp:S p=none) :
  StA ns a l (DL.put S' p o)∧Fr a S (DL.put S' p o)∧(∀ b x,b≠p->S' b=some x->DL.put S' p o b=some x)∧DL.put S' p o p=some o:=
 ⟨h.wr pa pl,f.wr hp,fun b x hb e=>by rw [zaj hb];exact e,zah⟩
theorem zpe (zs:List Str):DL.cutD (zs.map D.str) (some 1) none=(zs.drop 1).map D.str:=by
 unfold DL.cutD
 have e1:HT.sIx (zs.map D.str).length 0 (some 1)=min 1 zs.length:=by rw [List.length_map];rfl
 have e2:HT.sIx (zs.map D.str).length (zs.map D.str).length none=zs.length:=by rw [List.length_map];rfl
 rw [e1,e2]
 cases zs with
 | nil=>rfl
 | cons z zs=>
  have:min 1 (z :: zs).length=1:=by simp
  rw [this,List.map_cons,List.drop_one,List.drop_one,List.tail_cons,List.tail_cons]
  rw [List.take_of_length_le (by simp)]
theorem zqC (zs:List Str) (k:Nat):DL.cutD (zs.map D.str) none (some (k:Int))=(zs.take k).map D.str:=by
 unfold DL.cutD
 have e1:HT.sIx (zs.map D.str).length 0 none=0:=rfl
 have e2:HT.sIx (zs.map D.str).length (zs.map D.str).length (some (k:Int))=min k zs.length:=by
  rw [List.length_map]
  exact HT.sIx_nat _ _ _
 rw [e1,e2,List.drop_zero,Nat.sub_zero,List.map_take]
 by_cases h:k≤zs.length
 ·rw [Nat.min_eq_left h]
 ·rw [Nat.min_eq_right (by omega),List.take_of_length_le (by simp),List.take_of_length_le (by simp;omega)]
theorem zp5 {ws:List Str} {n:Str} (h:Nms ws) (hn:znX n) (hx:n∉ws):Nms (ws.drop 1++[n]):=by
 refine ⟨fun z hz=>?_,?_⟩
 ·rcases List.mem_append.mp hz with q | q
  ·exact h.1 z (List.mem_of_mem_drop q)
  ·rw [List.mem_singleton.mp q];exact hn
 ·refine List.nodup_append.mpr ⟨h.2.sublist (List.drop_sublist _ _),by simp,fun x hx1 y hy=>?_⟩
  rw [List.mem_singleton.mp hy]
  intro e
  subst e
  exact hx (List.mem_of_mem_drop hx1)
theorem za6 {κ:Type} [DecidableEq κ] {kvs:List (κ×D)} {k:κ} {v:D}:(putD kvs k v).length≤kvs.length+1:=by
 unfold putD
 split
 ·simp
 ·simp
theorem zg5:∀ (more kvs:List (Key×D)),(zbb kvs more).length≤kvs.length+more.length
 | [],kvs=>by simp [zbb]
 | p :: more,kvs=>by
  have h:=zg5 more (putD kvs p.1 p.2)
  have h2:=za6 (kvs:=kvs) (k:=p.1) (v:=p.2)
  have e:zbb kvs (p :: more)=zbb (putD kvs p.1 p.2) more:=rfl
  rw [e,List.length_cons]
  omega
abbrev kv0 (ce sl:Addr) (so wo:List Str):List (Key×D):=[(.inr "kind", .str "derived"),(.inr "cells", .ref ce),(.inr "sources", .tp true (so.map D.str)),(.inr "slots", .ref sl),(.inr "words", .tup (wo.map D.str))]
abbrev kv1 (ce sl:Addr) (so wo:List Str):List (Key×D):=putD (putD (zbb [] (kv0 ce sl so wo)) (.inr "peeks") (.bl false)) (.inr "writes") (.bl false)
theorem zs5 {ce sl:Addr} {so wo:List Str}:(kv1 ce sl so wo).length≤7:=by
 have h:=zg5 (kv0 ce sl so wo) []
 have h1:=za6 (kvs:=zbb [] (kv0 ce sl so wo)) (k:=(.inr "peeks" : Key)) (v:=.bl false)
 have h2:=za6 (kvs:=putD (zbb [] (kv0 ce sl so wo)) (.inr "peeks") (.bl false)) (k:=(.inr "writes" : Key)) (v:=.bl false)
 simp at h
 show (putD (putD (zbb [] (kv0 ce sl so wo)) (.inr "peeks") (.bl false)) (.inr "writes") (.bl false)).length≤7
 omega
theorem zwo {ce sl:Addr} {so wo slots:List Str}:ShD ⟨true,false,false,wo,so,so,slots⟩ sl ce (kv1 ce sl so wo):=by
 refine ⟨?_,?_,?_,?_,?_,?_,?_⟩ <;> (simp only [kv1,kv0,zbb,List.foldl_cons,List.foldl_nil];repeat (first | rw [zbl,if_pos (by with_reducible rfl)] | rw [zbl,if_neg (by decide +kernel)])) <;> rfl
theorem ShD.cells_put {h:Shp} {sl ce ce':Addr} {kvs:List (Key×D)} {cs:List Str} (x:ShD h sl ce kvs):ShD { h with cells:=cs } sl ce' (putD kvs (.inr "cells") (.ref ce')):=by
 obtain ⟨k1,k2,k3,k4,k5,k6,k7⟩:=x
 refine ⟨?_,?_,?_,?_,?_,?_,?_⟩ <;> (first | rw [zbl,if_pos (by with_reducible rfl)] | rw [zbl,if_neg (by decide +kernel)]) <;> assumption
theorem ShD.eff_put {h:Shp} {sl ce:Addr} {kvs:List (Key×D)} {pk wr:Bool} (x:ShD h sl ce kvs):ShD { h with der:=false,pk:=pk,wr:=wr } sl ce (putD (putD (putD kvs (.inr "kind") (.str "effects")) (.inr "peeks") (.bl pk)) (.inr "writes") (.bl wr)):=by
 obtain ⟨k1,k2,k3,k4,k5,k6,k7⟩:=x
 refine ⟨?_,?_,?_,?_,?_,?_,?_⟩ <;> (repeat (first | rw [zbl,if_pos (by with_reducible rfl)] | rw [zbl,if_neg (by decide +kernel)])) <;> first | assumption | rfl
theorem zm0 {K:PySem.W.Frag} {ns:List Int} {a l z:Addr} {S:Sto} {w s d e r:Int} {pk wr:Bool} {Q:DQ} {E:XQ} (hS:StA ns a l S) (ez:S z=some (.lst [.int w,.int s,.int d,.int e,.int r])) (za:z≠a)
  (w0:0 < w) (w3:w≤3) (s0:0 < s) (s4:s≤4) (d0:0≤d) (d6:d≤6) (e0:0≤e) (e4:e≤4) (r0:0≤r) (r15:r≤15)
  (hQ:∀ x slots S',x.fl=true->zay x slots pk wr->StA ns a l S'->Fr a S S'->Q x.d S'):zeq K [.ref a,.ref z,.bl pk,.bl wr] S Q E:=by
 refine zax rfl ?_
 unfold zgU
 walk_at "dl"
 refine zbf hS w0 (zcx (by omega) (by omega)) fun mw S1 mw0 mw1 h1 f1=>?_
 have z1:=f1 _ _ za ez
 walk_at "dl"
 refine zbf h1 s0 (zcx (by omega) (by omega)) fun ms S2 ms0 ms1 h2 f2=>?_
 have z2:=f2 _ _ za z1
 walk_at "dl"
 refine zbf h2 (by omega) (zcx (by omega) (by omega)) fun md1 S3 a0 a1 h3 f3=>?_
 have z3:=f3 _ _ za z2
 walk_at "dl"
 refine zbf h3 (by omega) (zcx (by omega) (by omega)) fun md2 S4 b0 b1 h4 f4=>?_
 have z4:=f4 _ _ za z3
 walk_at "dl"
 refine zbf h4 (by omega) (zcx (by omega) (by omega)) fun me1 S5 c0 c1 h5 f5=>?_
 have z5:=f5 _ _ za z4
 walk_at "dl"
 refine zbf h5 (by omega) (zcx (by omega) (by omega)) fun me2 S6 g0 g1 h6 f6=>?_
 have z6:=f6 _ _ za z5
 walk_at "dl"
 obtain ⟨kw,ekw⟩:∃ k:Nat,2+mw=k:=⟨(2+mw).toNat,by omega⟩
 obtain ⟨ks,eks⟩:∃ k:Nat,1+ms=k:=⟨(1+ms).toNat,by omega⟩
 obtain ⟨kd,ekd⟩:∃ k:Nat,(if md2 > md1 then md2 else md1)=k:=⟨(if md2 > md1 then md2 else md1).toNat,by split <;> omega⟩
 obtain ⟨ke,eke⟩:∃ k:Nat,(if me2 > me1 then me2 else me1)=k:=⟨(if me2 > me1 then me2 else me1).toNat,by split <;> omega⟩
 have bd:kd≤6:=by
  have:(if md2 > md1 then md2 else md1)≤6:=by split <;> omega
  omega
 have be:ke≤4:=by
  have:(if me2 > me1 then me2 else me1)≤4:=by split <;> omega
  omega
 rw [ekw,eks,ekd,eke]
 refine zlk h6 (by omega) fun p1 S7 ws wl wok ep1 sp1 h7 f7=>?_
 have z7:=f7 _ _ za z6
 walk_at "dln"
 with_reducible refine zcY ?_
 walk_at "dln"
 have ekn:(ks:Int)+(kd:Int)+(ke:Int)=((ks+kd+ke:Nat):Int):=by omega
 rw [ekn]
 refine zlk h7 (by omega) fun nm S8 nms nl nok enm snm h8 f8=>?_
 have z8:=f8 _ _ za z7
 obtain ⟨nma,nml⟩:=h7.fresh snm
 have f08:Fr a S S8:=((((((f1.trans f2).trans f3).trans f4).trans f5).trans f6).trans f7).trans f8
 have n0:0 < nms.length:=by omega
 have en0:L2.atI (nms.map D.str) 0=some (.str nms[0]):=atI_nat (p:=0) (by simp [n0])
 walk_at "dln"
 with_reducible refine zjK (fun env S9=>∃ ws':List Str,env=[some (.ref a),some (.ref z),some (.bl pk),some (.bl wr),some (.int kw),some (.int ks),some (.int kd),some (.int ke),some (.tup (ws'.map D.str)),some (.ref nm),none,none,none,none,none,none,none,none]∧
  Nms ws'∧ws'.length=kw∧StA ns a l S9∧Fr a S8 S9) ?_ ?_
 rotate_left
 ·intro nx hnx
  walk_at "dln"
  refine zbf h8 (by decide) (by decide +kernel) fun r9 S9 _ _ h9 f9=>?_
  have en9:=f9 _ _ nma enm
  walk_at "dln"
  with_reducible refine zbD (fun hr=>?_) (fun hr=>?_)
  ·walk_at "dln"
   refine zjj (p:=.str nms[0]) rfl (zir ws) ?_
   rw [zdw]
   walk_at "dln"
   with_reducible refine zdI (fun hin=>?_) (fun hin=>?_)
   ·walk_at "dln"
    rw [zpe]
    with_reducible refine zaT (szl (by simp)) ?_
    walk_at "dln"
    with_reducible refine zc9 (szl (by simp;omega)) ?_
    walk_at "dln"
    have e:(ws.drop 1).map D.str++[.str nms[0]]=(ws.drop 1++[nms[0]]).map D.str:=by simp
    rw [e]
    refine hnx _ _ ⟨ws.drop 1++[nms[0]],rfl,zp5 wok (nok.1 _ (List.getElem_mem n0)) (by simpa using hin),by simp;omega,h9,f9⟩
   ·walk_at "dln"
    exact hnx _ _ ⟨ws,rfl,wok,wl,h9,f9⟩
  ·walk_at "dln"
   exact hnx _ _ ⟨ws,rfl,wok,wl,h9,f9⟩
 rintro _ S9 ⟨ws',rfl,wok',wl',h9,f9⟩
 have z9:=f9 _ _ za z8
 have en9:=f9 _ _ nma enm
 have f09:Fr a S S9:=f08.trans f9
 clear z1 z2 z3 z4 z5 z6 z7 z8 f08 ekn
 walk_at "dl"
 refine zlk (many:=2) h9 (by decide) fun p3 S10 zs zl zok ep3 sp3 h10 f10=>?_
 have z10:=f10 _ _ za z9
 have en10:=f10 _ _ nma en9
 have f010:Fr a S S10:=f09.trans f10
 walk_at "dl"
 with_reducible refine zcl (szl (by simp)) fun p4 hp4=>?_
 obtain ⟨h11,f11,p4a,p4S,k11,t11⟩:=ze2 (o:=.lst [.str nms[0]]) h10 f010 hp4
 have z11:=k11 _ _ z10
 have en11:=k11 _ _ en10
 have e311:=k11 _ _ ep3
 generalize DL.put S10 p4 (.lst [.str nms[0]])=S11 at h11 f11 k11 t11 z11 en11 e311 ⊢
 walk_at "dl"
 refine zog e311 t11 (szl (by simp;omega)) fun sl hsl=>?_
 have esl:zs.map D.str++[.str nms[0]]=(zs++[nms[0]]).map D.str:=by simp
 rw [esl]
 obtain ⟨h12,f12,sla,slS,k12,t12⟩:=ze2 (o:=.lst ((zs++[nms[0]]).map D.str)) h11 f11 hsl
 have z12:=k12 _ _ z11
 have en12:=k12 _ _ en11
 generalize DL.put S11 sl (.lst ((zs++[nms[0]]).map D.str))=S12 at h12 f12 k12 t12 z12 en12 ⊢
 walk_at "dl"
 refine zuh en12 fun q hq=>?_
 rw [zqC]
 obtain ⟨h13,f13,qa,qS,k13,t13⟩:=ze2 (o:=.lst ((nms.take ks).map D.str)) h12 f12 hq
 have z13:=k13 _ _ z12
 have en13:=k13 _ _ en12
 have t12_13:=k13 _ _ t12
 generalize DL.put S12 q (.lst ((nms.take ks).map D.str))=S13 at h13 f13 k13 t13 z13 en13 t12_13 ⊢
 walk_at "dl"
 refine zlP fun sh hsh=>?_
 obtain ⟨h14,f14,sha,shS,k14,t14⟩:=ze2 (o:=.dic []) h13 f13 hsh
 have shl:=(h13.fresh hsh).2
 have z14:=k14 _ _ z13
 have en14:=k14 _ _ en13
 have t12_14:=k14 _ _ t12_13
 have nsl:sl≠sh:=fun x=>by rw [x,hsh] at t12_13;cases t12_13
 have nnm:nm≠sh:=fun x=>by rw [x,hsh] at en13;cases en13
 have nz:z≠sh:=fun x=>by rw [x,hsh] at z13;cases z13
 generalize DL.put S13 sh (.dic [])=S14 at h14 f14 k14 t14 z14 en14 t12_14 ⊢
 walk_at "dl"
 refine zoe fun ce hce=>?_
 obtain ⟨h15,f15,cea,ceS,k15,t15⟩:=ze2 (o:=.lst ((nms.take ks).map D.str)) h14 f14 hce
 have z15:=k15 _ _ z14
 have en15:=k15 _ _ en14
 have t12_15:=k15 _ _ t12_14
 have t14_15:=k15 _ _ t14
 have nce:ce≠sh:=fun x=>by rw [x,t14] at hce;cases hce
 generalize DL.put S14 ce (.lst ((nms.take ks).map D.str))=S15 at h15 f15 k15 t15 z15 en15 t12_15 t14_15 ⊢
 walk_at "dl"
 refine zof (kvs:=kv0 ce sl (nms.take ks) ws') rfl t14_15 (by simp) ?_
 walk_at "dl"
 refine zc7 zah rfl (Nat.lt_of_le_of_lt (zg5 _ _) (by simp;exact zfh (by decide))) ?_
 walk_at "dl"
 refine zc7 zah rfl (Nat.lt_of_le_of_lt za6 (Nat.lt_of_le_of_lt (Nat.succ_le_succ (zg5 _ _)) (by simp;exact zfh (by decide)))) ?_
 rw [zcm,zcm]
 obtain ⟨h16,f16,k16,t16⟩:=zn0 (o:=.dic (kv1 ce sl (nms.take ks) ws')) (o':=.dic []) h15 f15 sha shl shS
 have z16:=k16 _ _ nz z15
 have en16:=k16 _ _ nnm en15
 have t12_16:=k16 _ _ nsl t12_15
 have t15_16:=k16 _ _ nce t15
 have shd:=zwo (ce:=ce) (sl:=sl) (so:=nms.take ks) (wo:=ws') (slots:=zs++[nms[0]])
 have shn:=zs5 (ce:=ce) (sl:=sl) (so:=nms.take ks) (wo:=ws')
 generalize DL.put S15 sh (.dic (kv1 ce sl (nms.take ks) ws'))=S16 at h16 f16 k16 t16 z16 en16 t12_16 t15_16 ⊢
 generalize kv1 ce sl (nms.take ks) ws'=kvs1 at shd shn t16
 clear k11 k12 k13 k14 k15 k16 f15 h15 z15 en15 t12_15 t14_15 h14 f14 z14 en14 t12_14 t14 h13 f13 z13 en13 t12_13 t13 h12 f12 z12 en12 t12 h11 f11 z11 en11 e311 t11 h10 f10 f010 z10 en10 ep3 h9 f9 f09 z9 en9
 walk_at "dl"
 with_reducible refine zcl (szl (by simp)) fun dl hdl=>?_
 obtain ⟨h17,f17,dla,dlS,k17,t17⟩:=ze2 (o:=.lst []) h16 f16 hdl
 have dll:=(h16.fresh hdl).2
 have z17:=k17 _ _ z16
 have en17:=k17 _ _ en16
 have t12_17:=k17 _ _ t12_16
 have t15_17:=k17 _ _ t15_16
 have t16_17:=k17 _ _ t16
 have ndz:z≠dl:=fun x=>by rw [x,hdl] at z16;cases z16
 have ndnm:nm≠dl:=fun x=>by rw [x,hdl] at en16;cases en16
 have ndsl:sl≠dl:=fun x=>by rw [x,hdl] at t12_16;cases t12_16
 have ndce:ce≠dl:=fun x=>by rw [x,hdl] at t15_16;cases t15_16
 have ndsh:sh≠dl:=fun x=>by rw [x,hdl] at t16;cases t16
 generalize DL.put S16 dl (.lst [])=S17 at h17 f17 k17 t17 z17 en17 t12_17 t15_17 t16_17 ⊢
 walk_at "dl"
 with_reducible refine zkl (by omega) (by omega) ?_
 walk_at "dl"
 have sll:∀ y∈zs++[nms[0]],znX y:=fun y hy=>by
  rcases List.mem_append.mp hy with q | q
  ·exact zok.1 y q
  ·rw [List.mem_singleton.mp q];exact nok.1 _ (List.getElem_mem n0)
 have ksb:1≤ks∧ks≤4:=by omega
 have kwb:2≤kw∧kw≤4:=by omega
 have sl3:(zs++[nms[0]]).length=3:=by simp [zl]
 refine za0 (fun i env S'=>∃ (x14 x15 x16:Option D) (ce':Addr) (kvs:List (Key×D)) (dv:List (Str×List Row)),env=[some (.ref a),some (.ref z),some (.bl pk),some (.bl wr),some (.int kw),some (.int ks),some (.int kd),some (.int ke),some (.tup (ws'.map D.str)),some (.ref nm),some (.ref sl),some (.tp true ((nms.take ks).map D.str)),some (.ref sh),some (.ref dl),x14,x15,x16,none]∧
  dv.map (·.1)=(nms.drop ks).take i∧dv.length=i∧(∀ j p,dv[j]? = some p->BodyOk ⟨true,false,false,ws',nms.take ks,nms.take (ks+j),zs++[nms[0]]⟩ p.2)∧
  S' z=some (.lst [.int w,.int s,.int d,.int e,.int r])∧S' nm=some (.lst (nms.map D.str))∧S' sl=some (.lst ((zs++[nms[0]]).map D.str))∧S' sh=some (.dic kvs)∧kvs.length≤7+i∧
  ShD ⟨true,false,false,ws',nms.take ks,nms.take (ks+i),zs++[nms[0]]⟩ sl ce' kvs∧S' ce'=some (.lst ((nms.take (ks+i)).map D.str))∧ce'≠a∧ce'≠dl∧S' dl=some (.lst (dv.map pairD))∧StA ns a l S'∧Fr a S S') _ 0 ?_ ?_ ?_
 ·exact ⟨_,_,_,ce,kvs1,[],rfl,by simp,rfl,fun j p hj=>by simp at hj,z17,en17,t12_17,t16_17,shn,shd,t15_17,cea,ndce,t17,h17,f17⟩
 ·rintro i x _ S2 hx ⟨x14,x15,x16,ce',kvs,dv,rfl,dn,dlen,dok,ez2,en2,es2,eh2,hl2,shd2,ec2,ca2,ndc,ed2,hS2,f2'⟩ nx hnx
  obtain ⟨rfl,hi⟩:=zkx hx
  rw [Nat.zero_add] at dlen shd2 ec2 dn hl2 hnx
  refine ⟨trivial,?_⟩
  refine zha ?_
  have hik:i < kd:=by simpa using hi
  have hnm:L2.atI (nms.map D.str) ((ks:Int)+(i:Int))=some (.str nms[ks+i]):=by
   have e:(ks:Int)+(i:Int)=((ks+i:Nat):Int):=by omega
   rw [e]
   exact atI_nat (by simp [show ks+i < nms.length by omega])
  have hw2:ShW ⟨true,false,false,ws',nms.take ks,nms.take (ks+i),zs++[nms[0]]⟩:=⟨by show 0 < ws'.length;omega,by show ws'.length≤100;omega,by simp;omega,by simp;omega,by simp;omega,by simp;omega,by simp,by show (zs++[nms[0]]).length≤100;omega,fun _=>⟨rfl,rfl⟩⟩
  walk_at "dl"
  refine zk5 hw2 5 hS2 ⟨⟨kvs,eh2,shd2⟩,es2,ec2,sha,sla,ca2⟩ (by decide) (by decide) (by decide) r0 (by omega) fun rs S3 rok rcnt rdep h3 f3=>?_
  have ez3:=f3 _ _ za ez2
  have en3:=f3 _ _ nma en2
  have es3:=f3 _ _ sla es2
  have eh3:=f3 _ _ sha eh2
  have ec3:=f3 _ _ ca2 ec2
  have ed3:=f3 _ _ dla ed2
  have rl:rs.length≤900:=by
   have:=zgL rs
   omega
  walk_at "dln"
  with_reducible refine zjK (fun env S4=>∃ rs':List Row,env=[some (.ref a),some (.ref z),some (.bl pk),some (.bl wr),some (.int kw),some (.int ks),some (.int kd),some (.int ke),some (.tup (ws'.map D.str)),some (.ref nm),some (.ref sl),some (.tp true ((nms.take ks).map D.str)),some (.ref sh),some (.ref dl),some (.int i),some (.str nms[ks+i]),some (.tup (zaU rs')),none]∧BodyOk ⟨true,false,false,ws',nms.take ks,nms.take (ks+i),zs++[nms[0]]⟩ rs'∧StA ns a l S4∧Fr a S3 S4) ?_ ?_
  rotate_left
  ·intro nx2 hnx2
   walk_at "dln"
   refine zbf h3 (by decide) (by decide +kernel) fun t S4 _ _ h4 f4=>?_
   have es4:=f4 _ _ sla es3
   walk_at "dln"
   with_reducible refine zgk (fun ht=>?_) (fun ht=>?_)
   ·walk_at "dln"
    refine zbf h4 (by decide) (by decide +kernel) fun t2 S5 t20 t21 h5 f5=>?_
    have es5:=f5 _ _ sla es4
    obtain ⟨sv,hsv,esv⟩:=zpi (zs:=zs++[nms[0]]) t20 (by rw [List.length_map,sl3];omega)
    walk_at "dln"
    with_reducible refine zaT (szl (by simp)) ?_
    walk_at "dln"
    with_reducible refine zaT (szl (by simp)) ?_
    walk_at "dln"
    with_reducible refine zc9 (szl (by rw [zct];simp;omega)) ?_
    walk_at "dln"
    have e:zaU rs++[.tup [.str "give", .str sv]]=zaU (rs++[.give sv]):=by
     have q:=zgy rs (Row.give sv)
     rw [Row.d] at q
     exact q
    rw [e]
    exact hnx2 _ _ ⟨rs++[.give sv],rfl,⟨zlU (r:=.give sv) rok (by rw [Row.ok];exact ⟨rfl,hsv⟩),by rw [zkb,Row.ex];omega,by rw [ziG,Row.dep];omega⟩,h5,f4.trans f5⟩
   ·walk_at "dln"
    exact hnx2 _ _ ⟨rs,rfl,⟨rok,by omega,by omega⟩,h4,f4⟩
  rintro _ S4 ⟨rs',rfl,bok,h4,f4⟩
  have ez4:=f4 _ _ za ez3
  have en4:=f4 _ _ nma en3
  have es4:=f4 _ _ sla es3
  have eh4:=f4 _ _ sha eh3
  have ec4:=f4 _ _ ca2 ec3
  have ed4:=f4 _ _ dla ed3
  have f04:Fr a S S4:=(f2'.trans f3).trans f4
  walk_at "dl"
  with_reducible refine zaT (szl (by simp)) ?_
  walk_at "dl"
  with_reducible refine s_app ed4 (zfh (by rw [List.length_map];omega)) ?_
  obtain ⟨h5,f5,k5,t5⟩:=zn0 (o:=.lst (dv.map pairD++[.tup [.str nms[ks+i],.tup (zaU rs')]])) (o':=.lst []) h4 f04 dla dll dlS
  have ez5:=k5 _ _ ndz ez4
  have en5:=k5 _ _ ndnm en4
  have es5:=k5 _ _ ndsl es4
  have eh5:=k5 _ _ ndsh eh4
  have ec5:=k5 _ _ ndc ec4
  generalize DL.put S4 dl (.lst (dv.map pairD++[.tup [.str nms[ks+i],.tup (zaU rs')]]))=S5 at h5 f5 k5 t5 ez5 en5 es5 eh5 ec5 ⊢
  have dcs:=shd2.cells
  walk_at "dl"
  with_reducible refine zcl (szl (by simp)) fun p6 hp6=>?_
  obtain ⟨h6',f6',p6a,p6S,k6,t6⟩:=ze2 (o:=.lst [.str nms[ks+i]]) h5 f5 hp6
  have ez6:=k6 _ _ ez5
  have en6:=k6 _ _ en5
  have es6:=k6 _ _ es5
  have eh6:=k6 _ _ eh5
  have ec6:=k6 _ _ ec5
  have ed6:=k6 _ _ t5
  generalize DL.put S5 p6 (.lst [.str nms[ks+i]])=S6' at h6' f6' k6 t6 ez6 en6 es6 eh6 ec6 ed6 ⊢
  walk_at "dl"
  refine zog ec6 t6 (szl (by simp;omega)) fun ce2 hce2=>?_
  have ecs:(nms.take (ks+i)).map D.str++[.str nms[ks+i]]=(nms.take (ks+(i+1))).map D.str:=by
   rw [show ks+(i+1)=(ks+i)+1 by omega,List.take_succ,List.getElem?_eq_getElem (show ks+i < nms.length by omega),List.map_append]
   rfl
  rw [ecs]
  obtain ⟨h7',f7',ce2a,ce2S,k7,t7⟩:=ze2 (o:=.lst ((nms.take (ks+(i+1))).map D.str)) h6' f6' hce2
  have ez7:=k7 _ _ ez6
  have en7:=k7 _ _ en6
  have es7:=k7 _ _ es6
  have eh7:=k7 _ _ eh6
  have ed7:=k7 _ _ ed6
  have ncd2:ce2≠dl:=fun x=>by rw [x,ed6] at hce2;cases hce2
  have nce2:ce2≠sh:=fun x=>by rw [x,eh6] at hce2;cases hce2
  generalize DL.put S6' ce2 (.lst ((nms.take (ks+(i+1))).map D.str))=S7' at h7' f7' k7 t7 ez7 en7 es7 eh7 ed7 ⊢
  walk_at "dl"
  refine zc7 eh7 rfl (zfh (by omega)) ?_
  obtain ⟨h8',f8',k8,t8⟩:=zn0 (o:=.dic (putD kvs (.inr "cells") (.ref ce2))) (o':=.lst []) h7' f7' sha shl shS
  have pl:=za6 (kvs:=kvs) (k:=(.inr "cells" : Key)) (v:=.ref ce2)
  refine hnx _ _ ⟨_,_,_,ce2,_,dv++[(nms[ks+i],rs')],rfl,?_,by simp [dlen],?_,k8 _ _ nz ez7,k8 _ _ nnm en7,k8 _ _ nsl es7,t8,by omega,shd2.cells_put,k8 _ _ nce2 t7,ce2a,ncd2,?_,h8',f8'⟩
  ·rw [List.map_append,dn,List.take_succ,List.getElem?_drop,List.getElem?_eq_getElem (show ks+i < nms.length by omega)]
   rfl
  ·intro j p hj
   by_cases hji:j < dv.length
   ·rw [List.getElem?_append_left hji] at hj
    exact dok j p hj
   ·rw [List.getElem?_append_right (by omega)] at hj
    have ej:j=i:=by
     have:=(List.getElem?_eq_some_iff.mp hj).1
     simp at this
     omega
    subst ej
    rw [dlen,Nat.sub_self] at hj
    cases hj
    exact bok
  ·have e:=k8 _ _ ndsh.symm ed7
   rw [List.map_append]
   exact e
 ·rintro _ S2 ⟨x14,x15,x16,ce',kvs,dv,rfl,dn,dlen,dok,ez2,en2,es2,eh2,hl2,shd2,ec2,ca2,ndc,ed2,hS2,f2'⟩
  rw [Nat.zero_add,zhv,Int.toNat_natCast] at dlen shd2 ec2 dn hl2
  refine ⟨trivial,?_⟩
  walk_at "dl"
  refine zc7 eh2 rfl (zfh (by omega)) ?_
  walk_at "dl"
  have pl1:=za6 (kvs:=kvs) (k:=(.inr "kind" : Key)) (v:=.str "effects")
  refine zc7 zah rfl (zfh (by omega)) ?_
  walk_at "dl"
  have pl2:=za6 (kvs:=putD kvs (.inr "kind") (.str "effects")) (k:=(.inr "peeks" : Key)) (v:=.bl pk)
  refine zc7 zah rfl (zfh (by omega)) ?_
  rw [zcm,zcm]
  have shd3:=shd2.eff_put (pk:=pk) (wr:=wr)
  obtain ⟨h3,f3,k3,t3⟩:=zn0 (o:=.dic (putD (putD (putD kvs (.inr "kind") (.str "effects")) (.inr "peeks") (.bl pk)) (.inr "writes") (.bl wr))) (o':=.lst []) hS2 f2' sha shl shS
  have nch:ce'≠sh:=fun x=>by rw [x,eh2] at ec2;cases ec2
  have ez3:=k3 _ _ nz ez2
  have en3:=k3 _ _ nnm en2
  have es3:=k3 _ _ nsl es2
  have ec3:=k3 _ _ nch ec2
  have ed3:=k3 _ _ ndsh.symm ed2
  generalize putD (putD (putD kvs (.inr "kind") (.str "effects")) (.inr "peeks") (.bl pk)) (.inr "writes") (.bl wr)=kvs3 at shd3 t3 h3 f3 k3 ez3 en3 es3 ec3 ed3 ⊢
  generalize DL.put S2 sh (.dic kvs3)=S3 at t3 h3 f3 k3 ez3 en3 es3 ec3 ed3 ⊢
  walk_at "dl"
  with_reducible refine zcl (szl (by simp)) fun el hel=>?_
  obtain ⟨h4,f4,ela,elS,k4,t4⟩:=ze2 (o:=.lst []) h3 f3 hel
  have ell:=(h3.fresh hel).2
  have ez4:=k4 _ _ ez3
  have en4:=k4 _ _ en3
  have es4:=k4 _ _ es3
  have ec4:=k4 _ _ ec3
  have ed4:=k4 _ _ ed3
  have eh4:=k4 _ _ t3
  have nez:z≠el:=fun x=>by rw [x,hel] at ez3;cases ez3
  have nenm:nm≠el:=fun x=>by rw [x,hel] at en3;cases en3
  have nesl:sl≠el:=fun x=>by rw [x,hel] at es3;cases es3
  have nece:ce'≠el:=fun x=>by rw [x,hel] at ec3;cases ec3
  have nedl:dl≠el:=fun x=>by rw [x,hel] at ed3;cases ed3
  have nesh:sh≠el:=fun x=>by rw [x,hel] at t3;cases t3
  generalize DL.put S3 el (.lst [])=S4 at h4 f4 k4 t4 ez4 en4 es4 ec4 ed4 eh4 ⊢
  walk_at "dl"
  with_reducible refine zkl (by omega) (by omega) ?_
  walk_at "dl"
  refine za0 (fun i env S'=>∃ (x14 x15 x16:Option D) (ev:List (Str×List Row)),env=[some (.ref a),some (.ref z),some (.bl pk),some (.bl wr),some (.int kw),some (.int ks),some (.int kd),some (.int ke),some (.tup (ws'.map D.str)),some (.ref nm),some (.ref sl),some (.tp true ((nms.take ks).map D.str)),some (.ref sh),some (.ref dl),x14,x15,x16,some (.ref el)]∧
   ev.map (·.1)=(nms.drop (ks+kd)).take i∧ev.length=i∧(∀ p∈ev,BodyOk ⟨false,pk,wr,ws',nms.take ks,nms.take (ks+kd),zs++[nms[0]]⟩ p.2)∧
   S' z=some (.lst [.int w,.int s,.int d,.int e,.int r])∧S' nm=some (.lst (nms.map D.str))∧S' sl=some (.lst ((zs++[nms[0]]).map D.str))∧S' sh=some (.dic kvs3)∧
   S' ce'=some (.lst ((nms.take (ks+kd)).map D.str))∧S' dl=some (.lst (dv.map pairD))∧S' el=some (.lst (ev.map pairD))∧StA ns a l S'∧Fr a S S') _ 0 ?_ ?_ ?_
  ·exact ⟨_,_,_,[],rfl,by simp,rfl,fun p hp=>by simp at hp,ez4,en4,es4,eh4,ec4,ed4,t4,h4,f4⟩
  ·rintro i x _ S5 hx ⟨y14,y15,y16,ev,rfl,en',elen,eok,ez5,en5,es5,eh5,ec5,ed5,ee5,h5,f5⟩ nx hnx
   obtain ⟨rfl,hi⟩:=zkx hx
   rw [Nat.zero_add] at elen en' hnx
   refine ⟨trivial,?_⟩
   refine zha ?_
   have hik:i < ke:=by simpa using hi
   have hnm:L2.atI (nms.map D.str) ((ks:Int)+(kd:Int)+(i:Int))=some (.str nms[ks+kd+i]):=by
    have e:(ks:Int)+(kd:Int)+(i:Int)=((ks+kd+i:Nat):Int):=by omega
    rw [e]
    exact atI_nat (by simp [show ks+kd+i < nms.length by omega])
   have hw2:ShW ⟨false,pk,wr,ws',nms.take ks,nms.take (ks+kd),zs++[nms[0]]⟩:=⟨by show 0 < ws'.length;omega,by show ws'.length≤100;omega,by simp;omega,by simp;omega,by simp;omega,by simp;omega,by simp,by show (zs++[nms[0]]).length≤100;omega,fun q=>by cases q⟩
   walk_at "dl"
   refine zk5 hw2 5 h5 ⟨⟨kvs3,eh5,shd3⟩,es5,ec5,sha,sla,ca2⟩ (by decide) (by decide) (by decide) r0 (by omega) fun rs S6' rok rcnt rdep h6' f6'=>?_
   have ez6:=f6' _ _ za ez5
   have en6:=f6' _ _ nma en5
   have es6:=f6' _ _ sla es5
   have eh6:=f6' _ _ sha eh5
   have ec6:=f6' _ _ ca2 ec5
   have ed6:=f6' _ _ dla ed5
   have ee6:=f6' _ _ ela ee5
   have rl:rs.length≤900:=by
    have:=zgL rs
    omega
   walk_at "dln"
   with_reducible refine zjK (fun env S7'=>∃ rs':List Row,env=[some (.ref a),some (.ref z),some (.bl pk),some (.bl wr),some (.int kw),some (.int ks),some (.int kd),some (.int ke),some (.tup (ws'.map D.str)),some (.ref nm),some (.ref sl),some (.tp true ((nms.take ks).map D.str)),some (.ref sh),some (.ref dl),some (.int i),y15,some (.tup (zaU rs')),some (.ref el)]∧BodyOk ⟨false,pk,wr,ws',nms.take ks,nms.take (ks+kd),zs++[nms[0]]⟩ rs'∧StA ns a l S7'∧Fr a S6' S7') ?_ ?_
   rotate_left
   ·intro nx2 hnx2
    walk_at "dln"
    refine zbf h6' (by decide) (by decide +kernel) fun t S7' _ _ h7' f7'=>?_
    have es7:=f7' _ _ sla es6
    walk_at "dln"
    with_reducible refine zgk (fun ht=>?_) (fun ht=>?_)
    ·walk_at "dln"
     refine zbf h7' (by decide) (by decide +kernel) fun t2 S8' t20 t21 h8' f8'=>?_
     have es8:=f8' _ _ sla es7
     obtain ⟨sv,hsv,esv⟩:=zpi (zs:=zs++[nms[0]]) t20 (by rw [List.length_map,sl3];omega)
     walk_at "dln"
     with_reducible refine zaT (szl (by simp)) ?_
     walk_at "dln"
     with_reducible refine zaT (szl (by simp)) ?_
     walk_at "dln"
     with_reducible refine zc9 (szl (by rw [zct];simp;omega)) ?_
     walk_at "dln"
     have e:zaU rs++[.tup [.str "say", .str sv]]=zaU (rs++[.say sv]):=by
      have q:=zgy rs (Row.say sv)
      rw [Row.d] at q
      exact q
     rw [e]
     exact hnx2 _ _ ⟨rs++[.say sv],rfl,⟨zlU (r:=.say sv) rok (by rw [Row.ok];exact ⟨rfl,hsv⟩),by rw [zkb,Row.ex];omega,by rw [ziG,Row.dep];omega⟩,h8',f7'.trans f8'⟩
    ·walk_at "dln"
     exact hnx2 _ _ ⟨rs,rfl,⟨rok,by omega,by omega⟩,h7',f7'⟩
   rintro _ S7' ⟨rs',rfl,bok,h7',f7'⟩
   have ez7:=f7' _ _ za ez6
   have en7:=f7' _ _ nma en6
   have es7:=f7' _ _ sla es6
   have eh7:=f7' _ _ sha eh6
   have ec7:=f7' _ _ ca2 ec6
   have ed7:=f7' _ _ dla ed6
   have ee7:=f7' _ _ ela ee6
   walk_at "dl"
   with_reducible refine zaT (szl (by simp)) ?_
   walk_at "dl"
   with_reducible refine s_app ee7 (zfh (by rw [List.length_map];omega)) ?_
   obtain ⟨h8',f8',k8,t8⟩:=zn0 (o:=.lst (ev.map pairD++[.tup [.str nms[ks+kd+i],.tup (zaU rs')]])) (o':=.lst []) h7' ((f5.trans f6').trans f7') ela ell elS
   walk_at "dl"
   refine hnx _ _ ⟨_,_,_,ev++[(nms[ks+kd+i],rs')],rfl,?_,by simp [elen],?_,k8 _ _ nez ez7,k8 _ _ nenm en7,k8 _ _ nesl es7,k8 _ _ nesh eh7,k8 _ _ nece ec7,k8 _ _ nedl ed7,?_,h8',f8'⟩
   ·rw [List.map_append,en',List.take_succ,List.getElem?_drop,List.getElem?_eq_getElem (show ks+kd+i < nms.length by omega)]
    rfl
   ·intro p hp
    rcases List.mem_append.mp hp with q | q
    ·exact eok p q
    ·rw [List.mem_singleton.mp q];exact bok
   ·rw [List.map_append]
    exact t8
  ·rintro _ S5 ⟨y14,y15,y16,ev,rfl,en',elen,eok,ez5,en5,es5,eh5,ec5,ed5,ee5,h5,f5⟩
   rw [Nat.zero_add,zhv,Int.toNat_natCast] at elen en'
   refine ⟨trivial,?_⟩
   walk_at "dl"
   with_reducible refine zaT (szl (by simp)) ?_
   have ed:dv.map (·.1)=(nms.drop ks).take kd:=dn
   have tl:nms.take ks++dv.map (·.1)=nms.take (ks+kd):=by rw [ed,List.take_add]
   have tl2:nms.take ks++dv.map (·.1)++ev.map (·.1)=nms:=by
    rw [tl,en',List.take_of_length_le (l:=nms.drop (ks+kd)) (by rw [List.length_drop];omega),List.take_append_drop]
   refine hQ ⟨ws',nms.take ks,dv,ev,true⟩ (zs++[nms[0]]) S5 rfl ⟨wok',by show 2≤ws'.length;omega,by show ws'.length≤4;omega,by show Nms (nms.take ks++dv.map (·.1)++ev.map (·.1));rw [tl2];exact nok,by simp;omega,by simp;omega,by show dv.length≤6;omega,by show ev.length≤4;omega,sll,fun i p hp=>?_,fun p hp=>?_⟩ h5 f5
   ·have q:=dok i p hp
    have hi:i≤kd:=by
     have hh:i < dv.length:=(List.getElem?_eq_some_iff.mp hp).1
     omega
    have e2:nms.take ks++(dv.take i).map (·.1)=nms.take (ks+i):=by
     rw [List.map_take,ed,List.take_take,Nat.min_eq_left hi,List.take_add]
    show BodyOk ⟨true,false,false,ws',nms.take ks,nms.take ks++(dv.take i).map (·.1),zs++[nms[0]]⟩ p.2
    rw [e2]
    exact q
   ·have q:=eok p hp
    show BodyOk ⟨false,pk,wr,ws',nms.take ks,nms.take ks++dv.map (·.1),zs++[nms[0]]⟩ p.2
    rw [tl]
    exact q
def zrm (p:Addr) (nx:Sto->Prop):DQ:=fun d S4=>match S4 p with
 | some (.lst ys)=>ys.length < sizeLine∧nx (DL.put S4 p (.lst (ys++[d])))
 | _=>False
theorem zmR {p:Addr} {nx:Sto->Prop} {ys:List D} {d:D} {S:Sto} (e0:S p=some (.lst ys)) (hl:ys.length < sizeLine) (h:nx (DL.put S p (.lst (ys++[d])))):zrm p nx d S:=by
 unfold zrm
 simp only [e0]
 exact ⟨hl,h⟩
theorem zoQ {g:GM} {m:EM} {G:Sto->Prop} {p:Addr} {Q:DQ} {env:Slo} (I:Nat->List D->Sto->Prop) (xs:List D) {S:Sto} (hp:S p=some (.lst [])) (h0:I 0 [] S)
  (step:∀ i x S ys,xs[i]? = some x->S p=some (.lst ys)->I i ys S->∀ nx:Sto->Prop,(∀ s zs,s p=some (.lst zs)->I (i+1) zs s->nx s)->G S∧g x env S fun env2 S2=>m env2 S2 (zrm p nx))
  (done:∀ S ys,S p=some (.lst ys)->I xs.length ys S->G S∧Q (.ref p) S):lcL g zij m G p Q env xs S:=by
 refine zs4 I xs 0 hp h0 (fun i x S ys hx hp hi nx hnx=>?_) (fun S ys hp hi=>done S ys hp (by rw [Nat.zero_add] at hi;exact hi))
 rw [Nat.zero_add] at hi hnx
 obtain ⟨q1,q2⟩:=step i x S ys hx hp hi nx hnx
 exact ⟨q1,q2⟩
theorem zpr {K:PySem.W.Frag} {ns:List Int} {a l:Addr} {S:Sto} {x:Parts} {Q:DQ} {E:XQ} (hS:StA ns a l S) (w0:0 < x.words.length) (w1:x.words.length≤100) (s1:x.sources.length≤100)
  (hQ:∀ (us:List Str) S',us.length=x.sources.length->(∀ u∈us,u∈x.words)->StA ns a l S'->Fr a S S'->Q (.tup (us.map D.str)) S'):zfL K [.ref a,x.d] S Q E:=by
 refine zax rfl ?_
 unfold zgQ
 unfold Parts.d
 walk_at "dl"
 intro p hp
 obtain ⟨h1,f1,pa,pS,k1,t1⟩:=ze2 (o:=.lst []) hS (Fr.refl (S:=S)) hp
 have pl:=(hS.fresh hp).2
 refine zoQ (fun i ys S'=>∃ us:List Str,ys=us.map D.str∧us.length=i∧(∀ u∈us,u∈x.words)∧StA ns a l S'∧Fr a S S') _ t1 ⟨[],rfl,rfl,fun u hu=>by simp at hu,h1,f1⟩ ?_ ?_
 ·rintro i y S2 ys hy hp2 ⟨us,rfl,ul,uo,h2,f2⟩ nx hnx
  refine ⟨trivial,?_⟩
  refine zha ?_
  walk_at "dl"
  refine zgH h2 w0 w1 fun r S3 u hu eu h3 f3=>?_
  have ep3:=f3 _ _ pa hp2
  have hi:i < x.sources.length:=by
   have:=(List.getElem?_eq_some_iff.mp hy).1
   simpa using this
  walk_at "dl"
  refine zmR ep3 (zfh (by simp;omega)) ?_
  refine hnx _ _ zah ⟨us++[u],by simp,by simp [ul],fun v hv=>?_,h3.wr pa pl,(f2.trans f3).wr pS⟩
  rcases List.mem_append.mp hv with q | q
  ·exact uo v q
  ·rw [List.mem_singleton.mp q];exact hu
 ·rintro S2 ys hp2 ⟨us,rfl,ul,uo,h2,f2⟩
  refine ⟨trivial,?_⟩
  walk_at "dl"
  exact hQ us S2 (by simpa using ul) uo h2 f2
theorem zz6:(Str.ofString "a").cps.toList=[97]:=by decide +kernel
theorem zz5:(Str.ofString "z").cps.toList=[122]:=by decide +kernel
theorem zCx {c:Nat} (h:97≤c):(!decide ((⟨#[c]⟩:Str).cps.toList < (Str.ofString "a").cps.toList))=true:=by
 rw [zz6]
 have:¬ ([c] < [97]):=by
  intro q
  rw [List.cons_lt_cons_iff] at q
  rcases q with q | ⟨_,q⟩
  ·omega
  ·exact absurd q (List.not_lt_nil _)
 simp only [Bool.not_eq_true',decide_eq_false_iff_not]
 exact this
theorem zCw {c:Nat} (h:c≤122):(!decide ((Str.ofString "z").cps.toList < (⟨#[c]⟩:Str).cps.toList))=true:=by
 rw [zz5]
 have:¬ ([122] < [c]):=by
  intro q
  rw [List.cons_lt_cons_iff] at q
  rcases q with q | ⟨_,q⟩
  ·omega
  ·exact absurd q (List.not_lt_nil _)
 simp only [Bool.not_eq_true',decide_eq_false_iff_not]
 exact this
theorem zuc {z:Str} {i:Nat} {x:D} (h:(znV z)[i]? = some x):∃ c,c∈z.cps.toList∧x = .str ⟨#[c]⟩:=by
 unfold znV at h
 rw [List.getElem?_map] at h
 cases e:z.cps.toList[i]? with
 | none=>rw [e] at h;cases h
 | some c=>rw [e] at h;exact ⟨c,List.mem_of_getElem? e,(Option.some.inj h).symm⟩
theorem zbr {K:PySem.W.Frag} {S:Sto} {z:Str} {Q:DQ} {E:XQ} (hz:znX z) (hQ:Q (.bl true) S):zcf K [.str z] S Q E:=by
 refine zax rfl ?_
 unfold zkf
 have hl:z.length=z.cps.size:=by unfold Str.length;rfl
 have h1:=hz.one
 have h8:=hz.eight
 walk_at "dl"
 rw [decide_eq_true (show (1:Int)≤z.length by omega)]
 walk_at "dl"
 rw [decide_eq_true (show (z.length:Int)≤8 by omega)]
 walk_at "dl"
 refine za0 (fun i env S'=>∃ x1:Option D,env=[some (.str z),x1]∧S'=S) _ 0 ⟨_,rfl,rfl⟩ ?_ ?_
 ·rintro i x _ _ hx ⟨x1,rfl,rfl⟩ nx hnx
  obtain ⟨c,hc,rfl⟩:=zuc hx
  obtain ⟨c1,c2⟩:=hz.az c hc
  refine ⟨trivial,?_⟩
  refine zha ?_
  walk_at "dl"
  rw [zCx c1]
  walk_at "dl"
  rw [zCw c2]
  walk_at "dl"
  exact hnx _ _ ⟨_,rfl,rfl⟩
 ·rintro _ _ ⟨x1,rfl,rfl⟩
  refine ⟨trivial,?_⟩
  walk_at "dl"
  exact hQ
theorem zjc {K:PySem.W.Frag} {fl:Bool} {S:Sto} {zs:List Str} {lo hi:Int} {Q:DQ} {E:XQ} (hz:Nms zs) (h1:lo≤zs.length) (h2:(zs.length:Int)≤hi) (hb:zs.length≤50) (hQ:∀ S',(∀ b o,S b=some o->S' b=some o)->Q (.bl true) S'):zeU K [.tp fl (zs.map D.str),.int lo,.int hi] S Q E:=by
 refine zax rfl ?_
 unfold zhG
 walk_at "dl"
 rw [decide_eq_true (show lo≤((zs.map D.str).length:Int) by simpa using h1)]
 walk_at "dl"
 rw [decide_eq_true (show ((zs.map D.str).length:Int)≤hi by simpa using h2)]
 walk_at "dl"
 refine zuj fun p hp=>?_
 walk_at "dl"
 refine za0 (fun i env S'=>∃ (x4:Option D) (f:Key->Bool) (n:Nat),env=[some (.tp fl (zs.map D.str)),some (.int lo),some (.int hi),some (.ref p),x4]∧S' p=some (.set f n)∧n≤i∧(∀ z,f (.inr z)=true->z∈zs.take i)∧∀ b o,S b=some o->S' b=some o) _ 0 ?_ ?_ ?_
 ·refine ⟨_,_,_,rfl,zah,Nat.le_refl _,fun z h=>(by cases h),fun b o e=>?_⟩
  rw [zaj (fun q=>by subst q;rw [hp] at e;cases e)]
  exact e
 ·rintro i x _ S2 hx ⟨x4,f,n,rfl,ep,hn,hf,hk⟩ nx hnx
  rw [Nat.zero_add] at hn hf hnx
  refine ⟨trivial,?_⟩
  refine zha ?_
  have hi:i < zs.length:=by
   have:=(List.getElem?_eq_some_iff.mp hx).1
   simpa using this
  have ex:x = .str zs[i]:=by
   rw [List.getElem?_map,List.getElem?_eq_getElem hi] at hx
   exact (Option.some.inj hx).symm
  subst ex
  walk_at "dl"
  refine zbr (hz.1 _ (List.getElem_mem hi)) ?_
  walk_at "dl"
  refine zsj ep rfl ?_
  have hnew:f (.inr zs[i])=false:=by
   cases q:f (.inr zs[i]) with
   | false=>rfl
   | true=>
    have hm:=hf _ q
    have hnd:=hz.2
    rw [← List.take_append_drop i zs,List.nodup_append] at hnd
    exact absurd rfl (hnd.2.2 _ hm _ (by rw [List.drop_eq_getElem_cons hi];exact List.mem_cons_self))
  rw [hnew]
  walk_at "dl"
  have hsb:n+1 < scanBound:=by
   have q:scanBound=4096:=rfl
   omega
  with_reducible refine zvp ep rfl hsb ?_
  walk_at "dl"
  refine hnx _ _ ⟨_,_,_,rfl,zah,?_,fun z h=>?_,fun b o e=>?_⟩
  ·split <;> omega
  ·rw [List.take_succ,List.getElem?_eq_getElem hi]
   rcases Bool.or_eq_true_iff.mp h with q | q
   ·exact List.mem_append_left _ (hf z q)
   ·have:=of_decide_eq_true q
    cases this
    exact List.mem_append_right _ (List.mem_cons_self ..)
  ·rw [zaj (fun q=>by subst q;rw [hp] at e;cases e)]
   exact hk b o e
 ·rintro _ S2 ⟨x4,f,n,rfl,ep,hn,hf,hk⟩
  refine ⟨trivial,?_⟩
  walk_at "dl"
  exact hQ S2 hk
theorem zlD {K:PySem.W.Frag}:∀ (n:Nat) (rs:List Row) {S:Sto} {Q:DQ} {E:XQ},zbk rs < n->Q (.int (zaG rs)) S->zeo K n [.tup (zaU rs)] S Q E
 | 0,rs,S,Q,E,h,_=>absurd h (Nat.not_lt_zero _)
 | n+1,rs,S,Q,E,h,hQ=>by
  refine zax rfl ?_
  unfold zgO
  walk_at "dl"
  refine za0 (fun i env S'=>∃ x:Option D,env=[some (.tup (zaU rs)),some (.int ((rs.length+zft (rs.take i):Nat):Int)),x]∧S'=S) _ 0 ?_ ?_ ?_
  ·have e0:((zaU rs).length:Int)=((rs.length+zft (rs.take 0):Nat):Int):=by
    rw [zct]
    simp [zft]
   rw [e0]
   exact ⟨_,rfl,rfl⟩
  ·rintro i x _ _ hx ⟨y,rfl,rfl⟩ nx hnx
   rw [Nat.zero_add] at hnx ⊢
   obtain ⟨r,hr,rfl⟩:=zhR hx
   have hd:=ziF (List.mem_of_getElem? hr)
   have et:=ziD hr
   refine ⟨trivial,?_⟩
   refine zha ?_
   cases r with
   | ite s w y n'=>
    rw [Row.d]
    rw [Row.dep] at hd
    rw [Row.ex] at et
    walk_at "dl"
    refine zlD n y (by omega) ?_
    walk_at "dl"
    refine zlD n n' (by omega) ?_
    walk_at "dl"
    have e1:((rs.length+zft (rs.take i):Nat):Int)+((zaG y:Int)+(zaG n':Int))=((rs.length+zft (rs.take (i+1)):Nat):Int):=by
     rw [et]
     omega
    rw [e1]
    exact hnx _ _ ⟨_,rfl,rfl⟩
   | _=>
    rw [Row.d]
    rw [Row.ex] at et
    walk_at "dl"
    replace et:zft (rs.take (i+1))=zft (rs.take i):=et
    rw [← et]
    exact hnx _ _ ⟨_,rfl,rfl⟩
  ·rintro _ _ ⟨y,rfl,rfl⟩
   refine ⟨trivial,?_⟩
   walk_at "dl"
   rw [zct,Nat.zero_add,List.take_length,← zgL]
   exact hQ
def Kp (S S':Sto):Prop:=∀ b o,S b=some o->S' b=some o
theorem Kp.refl {S:Sto}:Kp S S:=fun _ _ e=>e
theorem Kp.trans {S S1 S2:Sto} (h:Kp S S1) (h':Kp S1 S2):Kp S S2:=fun b o e=>h' b o (h b o e)
theorem Kp.wr {S S':Sto} {p:Addr} {o:O} (h:Kp S S') (hp:S p=none):Kp S (DL.put S' p o):=fun b o' e=>by
 rw [zaj (fun q=>by subst q;rw [hp] at e;cases e)]
 exact h b o' e
theorem zjb {K:PySem.W.Frag} {S:Sto} {ps:List (Str×List Row)} {most:Int} {tk:Addr} {kvs:List (Key×D)} {tn:List Str} {Q:DQ} {E:XQ} (et:S tk=some (.dic kvs)) (hk:∀ z,(valD kvs (.inr z)).isSome=true->z∈tn) (hl:kvs.length≤100)
  (hz:Nms (tn++ps.map (·.1))) (hm:(ps.length:Int)≤most) (hb:ps.length≤50) (hQ:∀ S',Kp S S'->Q (.bl true) S'):zeT K [.tup (ps.map pairD),.int most,.ref tk] S Q E:=by
 refine zax rfl ?_
 unfold zhF
 walk_at "dl"
 rw [decide_eq_false (show ¬ most < ((ps.map pairD).length:Int) by simp;omega)]
 walk_at "dl"
 refine zvI et fun p hp=>?_
 walk_at "dl"
 refine za0 (fun i env S'=>∃ (x4:Option D) (kv:List (Key×D)),env=[some (.tup (ps.map pairD)),some (.int most),some (.ref tk),some (.ref p),x4]∧S' p=some (.dic kv)∧kv.length≤100+i∧(∀ z,(valD kv (.inr z)).isSome=true->z∈tn++(ps.map (·.1)).take i)∧Kp S S') _ 0 ?_ ?_ ?_
 ·exact ⟨_,_,rfl,zah,by omega,fun z h=>by simpa using hk z h,Kp.refl.wr hp⟩
 ·rintro i x _ S2 hx ⟨x4,kv,rfl,ep,hn,hf,hkp⟩ nx hnx
  rw [Nat.zero_add] at hn hf hnx
  refine ⟨trivial,?_⟩
  refine zha ?_
  have hi:i < ps.length:=by
   have:=(List.getElem?_eq_some_iff.mp hx).1
   simpa using this
  have ex:x = .tup [.str ps[i].1,.tup (zaU ps[i].2)]:=by
   rw [List.getElem?_map,List.getElem?_eq_getElem hi] at hx
   exact (Option.some.inj hx).symm
  subst ex
  have hmem:ps[i].1∈ps.map (·.1):=List.mem_map.mpr ⟨ps[i],List.getElem_mem hi,rfl⟩
  walk_at "dl"
  with_reducible refine zdI (fun h=>absurd h (by simp)) (fun _=>?_)
  walk_at "dl"
  refine zbr (hz.1 _ (List.mem_append_right _ hmem)) ?_
  walk_at "dl"
  refine zyI ep rfl ?_
  have hnew:(valD kv (.inr ps[i].1)).isSome=false:=by
   cases q:(valD kv (.inr ps[i].1)).isSome with
   | false=>rfl
   | true=>
    have hm2:=hf _ q
    have hnd:=hz.2
    have hi2:i < (ps.map (·.1)).length:=by simpa using hi
    rw [← List.take_append_drop i (ps.map (·.1)),← List.append_assoc,List.nodup_append] at hnd
    exact absurd rfl (hnd.2.2 _ hm2 _ (by rw [List.drop_eq_getElem_cons hi2];simp))
  rw [hnew]
  walk_at "dl"
  refine zc7 ep rfl (zfh (by omega)) ?_
  have pl:=za6 (kvs:=kv) (k:=(.inr ps[i].1:Key)) (v:=.bl true)
  refine hnx _ _ ⟨_,_,rfl,zah,by omega,fun z h=>?_,hkp.wr hp⟩
  rw [zbl] at h
  have e1:(ps.map (·.1)).take (i+1)=(ps.map (·.1)).take i++[ps[i].1]:=by
   rw [List.take_succ,List.getElem?_map,List.getElem?_eq_getElem hi]
   rfl
  rw [e1,← List.append_assoc]
  by_cases q:(Sum.inr z:Key) = .inr ps[i].1
  ·cases q
   exact List.mem_append_right _ (List.mem_cons_self ..)
  ·rw [if_neg q] at h
   exact List.mem_append_left _ (hf z h)
 ·rintro _ S2 ⟨x4,kv,rfl,ep,hn,hf,hkp⟩
  refine ⟨trivial,?_⟩
  walk_at "dl"
  exact hQ S2 hkp
structure FBc (K:PySem.W.Frag):Prop where
 kind:FOk K (He.ga K "BodyCheck") "kind"
 words:FOk K (He.ga K "BodyCheck") "words"
 sources:FOk K (He.ga K "BodyCheck") "sources"
 readable:FOk K (He.ga K "BodyCheck") "readable"
structure Bc (K:PySem.W.Frag) (h:Shp) (b rd:Addr) (S:Sto):Prop where
 ob:∃ fl,S b=some (.ins (He.ga K "BodyCheck") [("kind", .str (kindS h.der)),("words", .tup (h.words.map D.str)),("sources", .tp fl (h.sources.map D.str)),("readable", .ref rd)])
 rd_:S rd=some (.lst (h.cells.map D.str))
structure ShN (h:Shp):Prop where
 sl:∀ z∈h.slots,znX z
 ce:∀ z∈h.cells,znX z
 so:∀ z∈h.sources,znX z
theorem zgw {S:Sto} {a:Addr} {zs:List Str} (h:S a=some (.lst (zs.map D.str))):rs S 40 (.ref a)=some (.list (zs.map PyData.str)):=by
 unfold rs
 simp only [h]
 rw [zmn]
 rfl
theorem zjM {n:Nat} {f:Str} {v:D}:∀ {l:List (Str×D)},l.length≤n->(zbE f v l).length≤n+1
 | [],h=>by simp [zbE]
 | (g,u) :: r,h=>by
  unfold zbE
  split
  ·simp at h ⊢; omega
  ·cases n with
   | zero=>simp at h
   | succ n=>
    have:=zjM (n:=n) (f:=f) (v:=v) (l:=r) (by simpa using h)
    simp
    omega
theorem zkO {K:PySem.W.Frag} {S:Sto} {q:Addr} {k w s r:D} {Q:DQ} {E:XQ} (F:FBc K) (e:S q=some (.ins (He.ga K "BodyCheck") [])) (hQ:Q .non (DL.put S q (.ins (He.ga K "BodyCheck") [("kind", k),("words", w),("sources", s),("readable", r)]))) :
  zbL K [.ref q,k,w,s,r] S Q E:=by
 obtain ⟨f1,f2,f3,f4⟩:=F
 refine zax rfl ?_
 unfold zdi
 ext
 with_reducible refine zb3 e f1 (by simp) ?_
 ext
 with_reducible refine zb3 zah f2 (by refine Nat.lt_of_le_of_lt (?_:_≤20) (by decide);repeat (first | refine zjM ?_ | (simp;done))) ?_
 ext
 with_reducible refine zb3 zah f3 (by refine Nat.lt_of_le_of_lt (?_:_≤20) (by decide);repeat (first | refine zjM ?_ | (simp;done))) ?_
 ext
 with_reducible refine zb3 zah f4 (by refine Nat.lt_of_le_of_lt (?_:_≤20) (by decide);repeat (first | refine zjM ?_ | (simp;done))) ?_
 rw [zcm,zcm,zcm]
 exact hQ
theorem zkG {K:PySem.W.Frag} {S:Sto} {h:Shp} {b rd:Addr} {w:Str} {Q:DQ} {E:XQ} (F:FBc K) (B:Bc K h b rd S) (hw:w∈h.words) (hQ:Q (.bl true) S):zbB K [.ref b,.str w] S Q E:=by
 obtain ⟨f1,f2,f3,f4⟩:=F
 obtain ⟨flb,e⟩:=B.ob
 refine zax rfl ?_
 unfold zcP
 ext
 refine zjj (p:=.str w) rfl (zir h.words) ?_
 rw [zdw,decide_eq_true hw]
 exact hQ
theorem zl7 {K:PySem.W.Frag} {S:Sto} {h:Shp} {b rd:Addr} {s w:Str} {y n:List Row} {d:Int} {Q:DQ} {E:XQ} (F:FBc K) (B:Bc K h b rd S) (N:ShN h) (hs:s∈h.slots) (hw:w∈h.words) (hd:d < 4) (hQ:Q (.bl true) S) :
  zbU K [.ref b,(Row.ite s w y n).d,.int d] S Q E:=by
 obtain ⟨flb,e⟩:=B.ob
 refine zax rfl ?_
 unfold zb9
 rw [Row.d]
 ext
 refine zbr (N.sl _ hs) ?_
 ext
 refine zkG F B hw ?_
 ext
 exact hQ
theorem zoZ {K:PySem.W.Frag} {S:Sto} {h:Shp} {b rd:Addr} {r:Row} {d:Int} {Q:DQ} {E:XQ} (F:FBc K) (B:Bc K h b rd S) (N:ShN h) (hr:r.ok h) (hd:r.dep≠0->d < 4) (hQ:Q (.bl true) S) :
  zcL K [.ref b,r.d,.int d] S Q E:=by
 have F':=F
 obtain ⟨f1,f2,f3,f4⟩:=F
 obtain ⟨flb,e⟩:=B.ob
 have e2:=B.rd_
 have gs:rs S 40 (.tup [.str "give", .str "say"])=some (.tuple [.str "give", .str "say"]):=zir ["give", "say"]
 refine zax rfl ?_
 unfold zdh
 cases r with
 | read c s=>
  rw [Row.ok] at hr
  rw [Row.d]
  ext
  with_reducible refine zaT (szl (by simp)) ?_
  ext
  refine zjj (p:=.str "read") rfl gs ?_
  ext
  refine zbr (N.ce _ hr.1) ?_
  ext
  refine zbr (N.sl _ hr.2) ?_
  ext
  refine zlO (p:=.str c) e2 rfl (zgw e2) ?_
  rw [zdw,decide_eq_true hr.1]
  exact hQ
 | peek c s=>
  rw [Row.ok] at hr
  rw [hr.1.1] at e
  rw [Row.d]
  ext
  with_reducible refine zaT (szl (by simp)) ?_
  ext
  refine zjj (p:=.str "peek") rfl gs ?_
  ext
  refine zbr (N.ce _ hr.2.1) ?_
  ext
  refine zbr (N.sl _ hr.2.2) ?_
  ext
  refine zlO (p:=.str c) e2 rfl (zgw e2) ?_
  rw [zdw,decide_eq_true hr.2.1]
  exact hQ
 | put s w=>
  rw [Row.ok] at hr
  rw [Row.d]
  ext
  with_reducible refine zaT (szl (by simp)) ?_
  ext
  refine zjj (p:=.str "put") rfl gs ?_
  ext
  refine zbr (N.sl _ hr.1) ?_
  ext
  refine zkG F' B hr.2 ?_
  exact hQ
 | give s=>
  rw [Row.ok] at hr
  rw [hr.1] at e
  rw [Row.d]
  ext
  with_reducible refine zaT (szl (by simp)) ?_
  ext
  refine zjj (p:=.str "give") rfl gs ?_
  ext
  refine zbr (N.sl _ hr.2) ?_
  exact hQ
 | say s=>
  rw [Row.ok] at hr
  rw [hr.1] at e
  rw [Row.d]
  ext
  with_reducible refine zaT (szl (by simp)) ?_
  ext
  refine zjj (p:=.str "say") rfl gs ?_
  ext
  refine zbr (N.sl _ hr.2) ?_
  exact hQ
 | write c s=>
  rw [Row.ok] at hr
  rw [hr.1.1] at e
  rw [Row.d]
  ext
  with_reducible refine zaT (szl (by simp)) ?_
  ext
  refine zjj (p:=.str "write") rfl gs ?_
  ext
  refine zbr (N.so _ hr.2.1) ?_
  ext
  refine zbr (N.sl _ hr.2.2) ?_
  ext
  refine zjj (p:=.str c) rfl (zir h.sources) ?_
  rw [zdw,decide_eq_true hr.2.1]
  exact hQ
 | ite s w y n=>
  rw [Row.ok] at hr
  have hd4:d < 4:=hd (by rw [Row.dep];omega)
  have ed:(Row.ite s w y n).d = .tup [.str "if", .str s,.str w,.tup (zaU y),.tup (zaU n)]:=by rw [Row.d]
  rw [ed]
  ext
  rw [← ed]
  exact zl7 F' B N hr.1 hr.2.1 hd4 hQ
theorem zgB {xs:List D} {i:Nat} {y:D} (h:(zkD 0 xs)[i]? = some y):∃ x,xs[i]? = some x∧y = .tup [.int i,x]:=by
 rw [zhW] at h
 cases e:xs[i]? with
 | none=>rw [e] at h;cases h
 | some x=>rw [e] at h;exact ⟨x,rfl,by simpa using (Option.some.inj h).symm⟩
theorem zlN {g:Bool->Bool} {x:Str} {S:Sto} {Q:DQ} (h:Q (.bl (g false)) S):zqP g (.str x) .non S Q:=h
theorem zfc {K:PySem.W.Frag} {h:Shp} {b rd:Addr} (F:FBc K) (N:ShN h):∀ (n:Nat) (rs:List Row) {S:Sto} {pth:List D} {d:Int} {Q:DQ} {E:XQ},Bc K h b rd S->zb4 h rs->zbk rs < n->d+zbk rs≤4->pth.length+3 * n≤500->Q .non S->za5 K n [.ref b,.tup (zaU rs),.tup pth,.int d] S Q E
 | 0,rs,S,pth,d,Q,E,_,_,hn,_,_,_=>absurd hn (Nat.not_lt_zero _)
 | n+1,rs,S,pth,d,Q,E,B,ok,hn,hd,hp,hQ=>by
  refine zax rfl ?_
  obtain ⟨flb,e⟩:=B.ob
  unfold zbS
  ext
  refine za0 (fun i env S'=>∃ x4 x5 x6 x7 x8:Option D,env=[some (.ref b),some (.tup (zaU rs)),some (.tup pth),some (.int d),x4,x5,x6,x7,x8]∧S'=S) _ 0 ⟨_,_,_,_,_,rfl,rfl⟩ ?_ ?_
  ·rintro i y _ S1 hy ⟨x4,x5,x6,x7,x8,rfl,rfl⟩ nx hnx
   obtain ⟨x,hx,rfl⟩:=zgB hy
   obtain ⟨r,hr,rfl⟩:=zhR hx
   have hm:=List.mem_of_getElem? hr
   have hrd:=ziF hm
   have hok:=zfn.mp ok r hm
   refine ⟨trivial,?_⟩
   ext
   with_reducible refine zaT (szl (by simp)) ?_
   ext
   with_reducible refine zc9 (szl (by simp;omega)) ?_
   ext
   refine zoZ F B N hok (by omega) ?_
   cases r with
   | ite s w yy nn=>
    rw [Row.ok] at hok
    rw [Row.dep] at hrd
    rw [Row.d]
    ext
    with_reducible refine zaT (szl (by simp)) ?_
    ext
    refine za0 (fun j env S'=>∃ x7 x8:Option D,env=[some (.ref b),some (.tup (zaU rs)),some (.tup pth),some (.int d),some (.int i),some (.tup [.str "if", .str s,.str w,.tup (zaU yy),.tup (zaU nn)]),some (.tup (pth++[.int i])),x7,x8]∧S'=S1) _ 0 ⟨_,_,rfl,rfl⟩ ?_ ?_
    ·rintro j z _ _ hz ⟨x7,x8,rfl,rfl⟩ nx2 hnx2
     refine ⟨trivial,?_⟩
     rcases j with _ | _ | j
     ·cases hz
      ext
      with_reducible refine zaT (szl (by simp)) ?_
      ext
      with_reducible refine zc9 (szl (by simp;omega)) ?_
      ext
      refine zfc F N n yy B hok.2.2.1 (by omega) (by omega) (by simp;omega) ?_
      ext
      exact hnx2 _ _ ⟨_,_,rfl,rfl⟩
     ·cases hz
      ext
      with_reducible refine zaT (szl (by simp)) ?_
      ext
      with_reducible refine zc9 (szl (by simp;omega)) ?_
      ext
      refine zfc F N n nn B hok.2.2.2 (by omega) (by omega) (by simp;omega) ?_
      ext
      exact hnx2 _ _ ⟨_,_,rfl,rfl⟩
     ·cases hz
    ·rintro _ _ ⟨x7,x8,rfl,rfl⟩
     exact ⟨trivial,hnx _ _ ⟨_,_,_,_,_,rfl,rfl⟩⟩
   | _=>
    rw [Row.d]
    ext
    exact hnx _ _ ⟨_,_,_,_,_,rfl,rfl⟩
  ·rintro _ _ ⟨x4,x5,x6,x7,x8,rfl,rfl⟩
   refine ⟨trivial,?_⟩
   ext
   exact hQ
theorem znm {K:PySem.W.Frag} {h:Shp} {b rd:Addr} {rs:List Row} {S:Sto} {pth:List D} {Q:DQ} {E:XQ} (F:FBc K) (N:ShN h) (B:Bc K h b rd S) (ok:BodyOk h rs) (hp:pth.length≤100) (hQ:Q .non S):zb2 K [.ref b,.tup (zaU rs),.tup pth] S Q E:=by
 refine zax rfl ?_
 obtain ⟨flb,e⟩:=B.ob
 have h1:=ok.dep
 have h2:=ok.cnt
 unfold zdv
 ext
 refine zfc F N 6 rs B ok.ok (by omega) (by omega) (by omega) ?_
 ext
 refine zlD 6 rs (by omega) ?_
 ext
 exact hQ
def zxp (p:Addr) (y:D) (nx:Sto->Prop):DQ:=fun z S5=>match S5 p,keyD y with
 | some (.dic kvs),some k=>kvs.length < sizeLine∧nx (DL.put S5 p (.dic (putD kvs k z)))
 | _,_=>False
def zwv (p:Addr) (mv:EM) (env:Slo) (nx:Sto->Prop):DQ:=fun y S4=>mv env S4 (zxp p y nx)
theorem zuQ {p:Addr} {y z:D} {nx:Sto->Prop} {S:Sto} {kvs:List (Key×D)} {k:Key} (e0:S p=some (.dic kvs)) (ek:keyD y=some k) (hl:kvs.length < sizeLine) (h:nx (DL.put S p (.dic (putD kvs k z)))):zxp p y nx z S:=by
 unfold zxp
 simp only [e0,ek]
 exact ⟨hl,h⟩
theorem zrY {p:Addr} {mv:EM} {env:Slo} {nx:Sto->Prop} {y:D} {S:Sto} (h:mv env S (zxp p y nx)):zwv p mv env nx y S:=h
theorem zwW {g:GM} {mk mv:EM} {G:Sto->Prop} {p:Addr} {Q:DQ} {env:Slo} (I:Nat->List (Key×D)->Sto->Prop):∀ (xs:List D) (i0:Nat) {S:Sto} {kvs:List (Key×D)},S p=some (.dic kvs)->I i0 kvs S ->
  (∀ i x S kvs,xs[i]? = some x->S p=some (.dic kvs)->I (i0+i) kvs S->∀ nx:Sto->Prop,(∀ s kv,s p=some (.dic kv)->I (i0+i+1) kv s->nx s)->G S∧g x env S fun env2 S2=>mk env2 S2 (zwv p mv env2 nx)) ->
  (∀ S kvs,S p=some (.dic kvs)->I (i0+xs.length) kvs S->G S∧Q (.ref p) S)->dcL g zij mk mv G p Q env xs S
 | [],i0,S,kvs,hp,h0,_,done=>done S kvs hp h0
 | x :: xs,i0,S,kvs,hp,h0,step,done=>by
  have hh:=step 0 x S kvs rfl hp h0 (dcL g zij mk mv G p Q env xs) fun s kv hz h=>?_
  ·exact hh
  refine zwW I xs (i0+1) hz h (fun i y s kv hy hz hi nx hnx=>step (i+1) y s kv hy hz (by rw [show i0+(i+1)=i0+1+i by omega];exact hi) nx fun s kv hz h=>hnx s kv hz (by rw [show i0+1+i+1=i0+(i+1)+1 by omega];exact h)) fun s kv hz h=>?_
  exact done s kv hz (by rw [List.length_cons,show i0+(xs.length+1)=i0+1+xs.length by omega];exact h)
structure FPr (K:PySem.W.Frag):Prop where
 words:FOk K (He.ga K "Program") "words"
 sources:FOk K (He.ga K "Program") "sources"
 derived:FOk K (He.ga K "Program") "derived"
 effects:FOk K (He.ga K "Program") "effects"
def zdb (K:PySem.W.Frag) (x:Parts):O:=.ins (He.ga K "Program") [("words", .tup (x.words.map D.str)),("sources", .tp x.fl (x.sources.map D.str)),("derived", .tup (x.derived.map pairD)),("effects", .tup (x.effects.map pairD))]
theorem Kp.new {S S':Sto} {p:Addr} {o:O} (h:Kp S S') (hp:S' p=none):Kp S (DL.put S' p o):=fun b o' e=>by
 have e2:=h b o' e
 rw [zaj (fun q=>by subst q;rw [hp] at e2;cases e2)]
 exact e2
theorem Kp.none_ {S S':Sto} {p:Addr} (h:Kp S S') (hp:S' p=none):S p=none:=by
 cases e:S p with
 | none=>rfl
 | some o=>rw [h p o e] at hp;cases hp
theorem Kp.fr {S S':Sto} {p:Addr} (h:Kp S S'):Fr p S S':=fun b o _ e=>h b o e
theorem Nms.left {xs ys:List Str} (h:Nms (xs++ys)):Nms xs:=⟨fun z hz=>h.1 z (List.mem_append_left _ hz),(List.nodup_append.mp h.2).1⟩
theorem zfg {ps:List (Str×List Row)} {i:Nat} {p:Str×List Row} (h:ps[i]? = some p):(ps.take (i+1)).map (·.1)=(ps.take i).map (·.1)++[p.1]:=by
 rw [List.take_succ,h]
 simp
theorem pair_at {ps:List (Str×List Row)} {i:Nat} {y:D} (h:(ps.map pairD)[i]? = some y):∃ p,ps[i]? = some p∧y = .tup [.str p.1,.tup (zaU p.2)]:=by
 rw [List.getElem?_map] at h
 cases e:ps[i]? with
 | none=>rw [e] at h;cases h
 | some p=>rw [e] at h;exact ⟨p,rfl,(Option.some.inj h).symm⟩
theorem zlS {K:PySem.W.Frag} {S:Sto} {o:Addr} {x:Parts} {slots:List Str} {pk wr:Bool} {Q:DQ} {E:XQ} (F:FBc K) (G:FPr K) (P:zay x slots pk wr) (eo:S o=some (.ins (He.ga K "Program") []))
  (hQ:∀ S',Fr o S S'->S' o=some (zdb K x)->Q .non S'):zdo K [.ref o,.tup (x.words.map D.str),.tp x.fl (x.sources.map D.str),.tup (x.derived.map pairD),.tup (x.effects.map pairD)] S Q E:=by
 have P2:=P
 obtain ⟨ww,w2,w4,nn,s1,s4,d6,e4,sl,der,eff⟩:=P
 have nsd:Nms (x.sources++x.derived.map (·.1)):=nn.left
 have ns:Nms x.sources:=nsd.left
 refine zax rfl ?_
 unfold zd3
 ext
 refine zjc ww (by omega) (by omega) (by omega) fun S1 k1=>?_
 ext
 refine zjc ns (by omega) (by omega) (by omega) fun S2 k2=>?_
 have k02:Kp S S2:=Kp.trans k1 k2
 clear k1 k2
 ext
 intro tk htk
 have k03:Kp S (DL.put S2 tk (.dic [])):=k02.new htk
 have tkS:S tk=none:=k02.none_ htk
 refine zwW (fun i kvs S'=>kvs.length≤i∧(∀ z,(valD kvs (.inr z)).isSome=true->z∈x.sources.take i)∧Kp S S') _ 0 zah ⟨Nat.le_refl _,fun z h=>(by cases h),k03⟩ ?_ ?_
 ·rintro i y S3 kvs hy ep ⟨hl,hv,k3⟩ nx hnx
  rw [Nat.zero_add] at hl hv hnx
  have hi:i < x.sources.length:=by
   have:=(List.getElem?_eq_some_iff.mp hy).1
   simpa using this
  have ey:y = .str x.sources[i]:=by
   rw [List.getElem?_map,List.getElem?_eq_getElem hi] at hy
   exact (Option.some.inj hy).symm
  subst ey
  refine ⟨trivial,?_⟩
  ext
  with_reducible refine zrY ?_
  ext
  with_reducible refine zuQ ep rfl (zfh (by omega)) ?_
  refine hnx _ _ zah ⟨?_,fun z h=>?_,k3.wr tkS⟩
  ·have:=za6 (kvs:=kvs) (k:=(.inr x.sources[i]:Key)) (v:=.bl true)
   omega
  ·rw [zbl] at h
   rw [List.take_succ,List.getElem?_eq_getElem hi]
   by_cases q:(Sum.inr z:Key) = .inr x.sources[i]
   ·cases q
    exact List.mem_append_right _ (List.mem_cons_self ..)
   ·rw [if_neg q] at h
    exact List.mem_append_left _ (hv z h)
 rintro S3 kvs ep ⟨hl,hv,k3⟩
 rw [Nat.zero_add,List.length_map] at hl hv
 rw [List.take_length] at hv
 refine ⟨trivial,?_⟩
 ext
 refine zjb ep hv (by omega) nsd (by omega) (by omega) fun S4 k4=>?_
 have ep4:=k4 _ _ ep
 have k04:Kp S S4:=k3.trans k4
 walk_at "dmn"
 with_reducible refine zcY ?_
 walk_at "dmn"
 refine za0 (fun i env S'=>∃ (x7:Option D) (kv:List (Key×D)),env=[some (.ref o),some (.tup (x.words.map D.str)),some (.tp x.fl (x.sources.map D.str)),some (.tup (x.derived.map pairD)),some (.tup (x.effects.map pairD)),some (.ref tk),none,x7,none,none]∧S' tk=some (.dic kv)∧kv.length≤4+i∧
  (∀ z,(valD kv (.inr z)).isSome=true->z∈x.sources++(x.derived.take i).map (·.1))∧Kp S S') _ 0 ⟨_,_,rfl,ep4,by omega,fun z h=>by simpa using hv z h,k04⟩ ?_ ?_
 ·rintro i y _ S5 hy ⟨x7,kv,rfl,e5,hl5,hv5,k5⟩ nx hnx
  rw [Nat.zero_add] at hl5 hv5 hnx
  obtain ⟨p,hp,rfl⟩:=pair_at hy
  have hi:i < x.derived.length:=(List.getElem?_eq_some_iff.mp hp).1
  refine ⟨trivial,?_⟩
  ext
  refine zc7 e5 rfl (zfh (by omega)) ?_
  have pl:=za6 (kvs:=kv) (k:=(.inr p.1:Key)) (v:=.bl true)
  refine hnx _ _ ⟨_,_,rfl,zah,by omega,fun z h=>?_,k5.wr tkS⟩
  rw [zbl] at h
  rw [zfg hp,← List.append_assoc]
  by_cases q:(Sum.inr z:Key) = .inr p.1
  ·cases q
   exact List.mem_append_right _ (List.mem_cons_self ..)
  ·rw [if_neg q] at h
   exact List.mem_append_left _ (hv5 z h)
 rintro _ S5 ⟨x7,kv,rfl,e5,hl5,hv5,k5⟩
 rw [Nat.zero_add,List.length_map] at hl5 hv5
 rw [List.take_length] at hv5
 refine ⟨trivial,?_⟩
 ext
 refine zjb e5 hv5 (by omega) nn (by omega) (by omega) fun S6 k6=>?_
 have k06:Kp S S6:=k5.trans k6
 clear e5 hv5 hl5 k5 k6 ep4 k04 k4 ep hv hl k3
 ext
 refine zoe fun rd hrd=>?_
 have k07:Kp S (DL.put S6 rd (.lst (x.sources.map D.str))):=k06.new hrd
 have rdS:S rd=none:=k06.none_ hrd
 have e7:DL.put S6 rd (.lst (x.sources.map D.str)) rd=some (.lst (x.sources.map D.str)):=zah
 generalize DL.put S6 rd (.lst (x.sources.map D.str))=S7 at k07 e7 ⊢
 walk_at "dmn"
 with_reducible refine zcY ?_
 walk_at "dmn"
 refine za0 (fun i env S'=>∃ (x7 x9:Option D),env=[some (.ref o),some (.tup (x.words.map D.str)),some (.tp x.fl (x.sources.map D.str)),some (.tup (x.derived.map pairD)),some (.tup (x.effects.map pairD)),some (.ref tk),none,x7,some (.ref rd),x9]∧
  S' rd=some (.lst ((x.sources++(x.derived.take i).map (·.1)).map D.str))∧Kp S S') _ 0 ⟨_,_,rfl,by simpa using e7,k07⟩ ?_ ?_
 ·rintro i y _ S8 hy ⟨x7,x9,rfl,e8,k8⟩ nx hnx
  rw [Nat.zero_add] at e8 hnx
  obtain ⟨y',hy',rfl⟩:=zgB hy
  obtain ⟨p,hp,rfl⟩:=pair_at hy'
  have hi:i < x.derived.length:=(List.getElem?_eq_some_iff.mp hp).1
  refine ⟨trivial,?_⟩
  ext
  refine zkZ e8 fun r2 hr2=>?_
  have k9:=k8.new (o:=.lst ((x.sources++(x.derived.take i).map (·.1)).map D.str)) hr2
  have t9:DL.put S8 r2 (.lst ((x.sources++(x.derived.take i).map (·.1)).map D.str)) r2=_:=zah
  have e9:DL.put S8 r2 (.lst ((x.sources++(x.derived.take i).map (·.1)).map D.str)) rd=some (.lst ((x.sources++(x.derived.take i).map (·.1)).map D.str)):=by
   rw [zaj (fun q=>by subst q;rw [e8] at hr2;cases hr2)]
   exact e8
  generalize DL.put S8 r2 (.lst ((x.sources++(x.derived.take i).map (·.1)).map D.str))=S9 at k9 t9 e9 ⊢
  ext
  intro q hq
  have qr:rd≠q:=fun z=>by subst z;rw [e9] at hq;cases hq
  have qr2:r2≠q:=fun z=>by subst z;rw [t9] at hq;cases hq
  refine zkO F zah ⟨rfl,?_⟩
  rw [zcm]
  have k10:=k9.new (o:=.ins (He.ga K "BodyCheck") [("kind", .str "derived"),("words", .tup (x.words.map D.str)),("sources", .tp x.fl (x.sources.map D.str)),("readable", .ref r2)]) hq
  have B:Bc K ⟨true,false,false,x.words,x.sources,x.sources++(x.derived.take i).map (·.1),slots⟩ q r2 (DL.put S9 q (.ins (He.ga K "BodyCheck") [("kind", .str "derived"),("words", .tup (x.words.map D.str)),("sources", .tp x.fl (x.sources.map D.str)),("readable", .ref r2)])):=
   ⟨⟨x.fl,zah⟩,(zaj qr2).trans t9⟩
  have e10:DL.put S9 q (.ins (He.ga K "BodyCheck") [("kind", .str "derived"),("words", .tup (x.words.map D.str)),("sources", .tp x.fl (x.sources.map D.str)),("readable", .ref r2)]) rd=_:=(zaj qr).trans e9
  generalize DL.put S9 q (.ins (He.ga K "BodyCheck") [("kind", .str "derived"),("words", .tup (x.words.map D.str)),("sources", .tp x.fl (x.sources.map D.str)),("readable", .ref r2)])=S10 at k10 B e10 ⊢
  obtain ⟨flb,eb⟩:=B.ob
  ext
  with_reducible refine zaT (szl (by simp)) ?_
  ext
  refine znm F ⟨sl,fun z hz=>?_,fun z hz=>ns.1 z hz⟩ B (der i p hp) (by simp) ?_
  ·refine nsd.1 z ?_
   rcases List.mem_append.mp hz with q | q
   ·exact List.mem_append_left _ q
   ·refine List.mem_append_right _ ?_
    rw [List.map_take] at q
    exact List.mem_of_mem_take q
  ext
  with_reducible refine s_app e10 (zfh (by simp;omega)) ?_
  ext
  refine hnx _ _ ⟨_,_,rfl,?_,k10.wr rdS⟩
  rw [zah,zfg hp]
  simp
 rintro _ S8 ⟨x7,x9,rfl,e8,k8⟩
 rw [Nat.zero_add,zbP,List.length_map,List.take_length] at e8
 refine ⟨trivial,?_⟩
 walk_at "dmn"
 with_reducible refine zcY ?_
 walk_at "dmn"
 refine za0 (fun i env S'=>∃ (x7 x9:Option D),env=[some (.ref o),some (.tup (x.words.map D.str)),some (.tp x.fl (x.sources.map D.str)),some (.tup (x.derived.map pairD)),some (.tup (x.effects.map pairD)),some (.ref tk),none,x7,some (.ref rd),x9]∧
  S' rd=some (.lst ((x.sources++x.derived.map (·.1)).map D.str))∧Kp S S') _ 0 ⟨_,_,rfl,e8,k8⟩ ?_ ?_
 ·rintro i y _ S9 hy ⟨x7,x9,rfl,e9,k9⟩ nx hnx
  obtain ⟨y',hy',rfl⟩:=zgB hy
  obtain ⟨p,hp,rfl⟩:=pair_at hy'
  refine ⟨trivial,?_⟩
  ext
  intro q hq
  have qr:rd≠q:=fun z=>by subst z;rw [e9] at hq;cases hq
  refine zkO F zah ⟨rfl,?_⟩
  rw [zcm]
  have k10:=k9.new (o:=.ins (He.ga K "BodyCheck") [("kind", .str "effects"),("words", .tup (x.words.map D.str)),("sources", .tp x.fl (x.sources.map D.str)),("readable", .ref rd)]) hq
  have e10:DL.put S9 q (.ins (He.ga K "BodyCheck") [("kind", .str "effects"),("words", .tup (x.words.map D.str)),("sources", .tp x.fl (x.sources.map D.str)),("readable", .ref rd)]) rd=_:=(zaj qr).trans e9
  have B:Bc K ⟨false,pk,wr,x.words,x.sources,x.sources++x.derived.map (·.1),slots⟩ q rd (DL.put S9 q (.ins (He.ga K "BodyCheck") [("kind", .str "effects"),("words", .tup (x.words.map D.str)),("sources", .tp x.fl (x.sources.map D.str)),("readable", .ref rd)])):=
   ⟨⟨x.fl,zah⟩,e10⟩
  generalize DL.put S9 q (.ins (He.ga K "BodyCheck") [("kind", .str "effects"),("words", .tup (x.words.map D.str)),("sources", .tp x.fl (x.sources.map D.str)),("readable", .ref rd)])=S10 at k10 B e10 ⊢
  obtain ⟨flb,eb⟩:=B.ob
  ext
  with_reducible refine zaT (szl (by simp)) ?_
  ext
  refine znm F ⟨sl,fun z hz=>nsd.1 z hz,fun z hz=>ns.1 z hz⟩ B (eff p (List.mem_of_getElem? hp)) (by simp) ?_
  ext
  exact hnx _ _ ⟨_,_,rfl,e10,k10⟩
 rintro _ S9 ⟨x7,x9,rfl,e9,k9⟩
 obtain ⟨f1,f2,f3,f4⟩:=G
 have eo9:=k9 _ _ eo
 refine ⟨trivial,?_⟩
 ext
 with_reducible refine zb3 eo9 f1 (by simp) ?_
 ext
 with_reducible refine zb3 zah f2 (by refine Nat.lt_of_le_of_lt (?_:_≤20) (by decide);repeat (first | refine zjM ?_ | (simp;done))) ?_
 ext
 with_reducible refine zb3 zah f3 (by refine Nat.lt_of_le_of_lt (?_:_≤20) (by decide);repeat (first | refine zjM ?_ | (simp;done))) ?_
 ext
 with_reducible refine zb3 zah f4 (by refine Nat.lt_of_le_of_lt (?_:_≤20) (by decide);repeat (first | refine zjM ?_ | (simp;done))) ?_
 rw [zcm,zcm,zcm]
 exact hQ _ (k9.fr.put) zah
structure RS where
 slots:Str->Str
 notes:List (Str×Str)
 peeks:List (Str×Str)
 says:List Str
 written:List (Str×Str)
 given:Option Str
def zmc (f:Str->Str) (a b:Str):Str->Str:=fun z=>if z=a then b else f z
def zeu (ps:List (Str×Str)) (c u:Str):List (Str×Str):=if c∈ps.map (·.1) then ps else ps++[(c,u)]
mutual
def Row.run (T:Str->Str):Row->RS->RS
 | .read c s,r=>{ r with notes:=zeu r.notes c (T c),slots:=zmc r.slots s (T c) }
 | .peek c s,r=>{ r with peeks:=zeu r.peeks c (T c),slots:=zmc r.slots s (T c) }
 | .put s w,r=>{ r with slots:=zmc r.slots s w }
 | .give s,r=>{ r with given:=some (r.slots s) }
 | .say s,r=>{ r with says:=r.says++[r.slots s] }
 | .write c s,r=>{ r with written:=r.written++[(c,r.slots s)] }
 | .ite s w y n,r=>if r.slots s=w then zam T y r else zam T n r
def zam (T:Str->Str):List Row->RS->RS
 | [],r=>r
 | x :: rs,r=>if r.given.isSome=true then r else zam T rs (x.run T r)
end
theorem zmT {T:Str->Str} {r:RS} (h:r.given.isSome=true):∀ rs,zam T rs r=r
 | []=>by rw [zam]
 | x :: rs=>by rw [zam,if_pos h]
theorem zmm {T:Str->Str}:∀ (xs ys:List Row) (r:RS),zam T (xs++ys) r=zam T ys (zam T xs r)
 | [],ys,r=>by rw [List.nil_append,zam]
 | x :: xs,ys,r=>by
  rw [List.cons_append,zam,zam]
  by_cases h:r.given.isSome=true
  ·rw [if_pos h,if_pos h,zmT h]
  ·rw [if_neg h,if_neg h,zmm xs ys]
theorem zk2 {T:Str->Str} {rs:List Row} {i:Nat} {x:Row} {r:RS} (h:rs[i]? = some x) (hg:(zam T (rs.take i) r).given=none):zam T (rs.take (i+1)) r=x.run T (zam T (rs.take i) r):=by
 rw [List.take_succ,h]
 show zam T (rs.take i++[x]) r=_
 rw [zmm,zam,if_neg (by rw [hg];simp),zam]
theorem zmS {T:Str->Str} {rs:List Row} {i:Nat} {r:RS} (hg:(zam T (rs.take i) r).given.isSome=true):zam T rs r=zam T (rs.take i) r:=by
 have:rs=rs.take i++rs.drop i:=(List.take_append_drop i rs).symm
 conv=>lhs;rw [this]
 rw [zmm,zmT hg]
theorem zoh {T:Str->Str} {rs:List Row} {i:Nat} {x:Row} {r:RS} (h:rs[i]? = some x) (hg:(zam T (rs.take i) r).given=none) (hx:(x.run T (zam T (rs.take i) r)).given.isSome=true):zam T rs r=x.run T (zam T (rs.take i) r):=by
 rw [← zk2 h hg] at hx ⊢
 exact zmS hx
def zme:Option Str->D
 | some z=>.str z
 | none=>.non
def prD (p:Str×Str):D:=.tup [.str p.1,.str p.2]
structure FTr (K:PySem.W.Frag):Prop where
 name:FOk K (He.ga K "TrueRun") "name"
 default:FOk K (He.ga K "TrueRun") "default"
 slots:FOk K (He.ga K "TrueRun") "slots"
 given:FOk K (He.ga K "TrueRun") "given"
 over:FOk K (He.ga K "TrueRun") "over"
 told:FOk K (He.ga K "TrueRun") "told_words"
 notes:FOk K (He.ga K "TrueRun") "notes"
 peeks:FOk K (He.ga K "TrueRun") "peeks"
 says:FOk K (He.ga K "TrueRun") "says"
 written:FOk K (He.ga K "TrueRun") "written"
def SlR (kvs:List (Key×D)) (df:Str) (f:Str->Str):Prop:=∀ z,(valD kvs (.inr z)).getD (.str df) = .str (f z)
theorem SlR.put {kvs:List (Key×D)} {df:Str} {f:Str->Str} {a b:Str} (h:SlR kvs df f):SlR (putD kvs (.inr a) (.str b)) df (zmc f a b):=fun z=>by
 rw [zbl]
 unfold zmc
 by_cases q:z=a
 ·subst q;simp
 ·rw [if_neg (fun e=>q (Sum.inr.inj e)),if_neg q]
  exact h z
structure Rd (S0:Sto) (p sa na pa sy wr:Addr):Prop where
 p_:S0 p=none
 sa_:S0 sa=none
 na_:S0 na=none
 pa_:S0 pa=none
 sy_:S0 sy=none
 wr_:S0 wr=none
 psa:p≠sa
 pna:p≠na
 ppa:p≠pa
 psy:p≠sy
 pwr:p≠wr
 sna:sa≠na
 spa:sa≠pa
 ssy:sa≠sy
 swr:sa≠wr
 npa:na≠pa
 nsy:na≠sy
 nwr:na≠wr
 qsy:pa≠sy
 qwr:pa≠wr
 ywr:sy≠wr
def zCg (nm df:Str) (sa tk na pa sy wr:Addr) (g:Option Str):List (Str×D):=[("name", .str nm),("default", .str df),("slots", .ref sa),("given", zme g),("over", .bl g.isSome),("told_words", .ref tk),("notes", .ref na),("peeks", .ref pa),("says", .ref sy),("written", .ref wr)]
structure Rn (K:PySem.W.Frag) (S0:Sto) (p sa na pa sy wr tk:Addr) (nm df:Str) (r:RS) (B:Nat) (S:Sto):Prop where
 ob:S p=some (.ins (He.ga K "TrueRun") [("name", .str nm),("default", .str df),("slots", .ref sa),("given", zme r.given),("over", .bl r.given.isSome),("told_words", .ref tk),("notes", .ref na),("peeks", .ref pa),("says", .ref sy),("written", .ref wr)])
 sl:∃ kvs,S sa=some (.dic kvs)∧SlR kvs df r.slots∧kvs.length≤B
 no:S na=some (.lst (r.notes.map prD))
 pe:S pa=some (.lst (r.peeks.map prD))
 sa':S sy=some (.lst (r.says.map D.str))
 wr':S wr=some (.lst (r.written.map prD))
 b1:r.notes.length≤B
 b2:r.peeks.length≤B
 b3:r.says.length≤B
 b4:r.written.length≤B
 kp:Kp S0 S
section
variable {K:PySem.W.Frag} {S0 S:Sto} {p sa na pa sy wr tk:Addr} {nm df:Str} {r:RS} {B:Nat}
theorem Rn.more (h:Rn K S0 p sa na pa sy wr tk nm df r B S) {B':Nat} (hB:B≤B'):Rn K S0 p sa na pa sy wr tk nm df r B' S:=by
 obtain ⟨h1,⟨kvs,e,s,l⟩,h3,h4,h5,h6,b1,b2,b3,b4,k⟩:=h
 exact ⟨h1,⟨kvs,e,s,by omega⟩,h3,h4,h5,h6,by omega,by omega,by omega,by omega,k⟩
theorem Rn.setN (h:Rn K S0 p sa na pa sy wr tk nm df r B S) (d:Rd S0 p sa na pa sy wr) {ns:List (Str×Str)} (hl:ns.length≤B+1):Rn K S0 p sa na pa sy wr tk nm df { r with notes:=ns } (B+1) (DL.put S na (.lst (ns.map prD))):=by
 obtain ⟨h1,⟨kvs,e,s,l⟩,h3,h4,h5,h6,b1,b2,b3,b4,k⟩:=h
 exact ⟨(zaj d.pna).trans h1,⟨kvs,(zaj d.sna).trans e,s,by omega⟩,zah,(zaj d.npa.symm).trans h4,(zaj d.nsy.symm).trans h5,(zaj d.nwr.symm).trans h6,hl,by show r.peeks.length≤_;omega,by show r.says.length≤_;omega,by show r.written.length≤_;omega,k.wr d.na_⟩
theorem Rn.setP (h:Rn K S0 p sa na pa sy wr tk nm df r B S) (d:Rd S0 p sa na pa sy wr) {ns:List (Str×Str)} (hl:ns.length≤B+1):Rn K S0 p sa na pa sy wr tk nm df { r with peeks:=ns } (B+1) (DL.put S pa (.lst (ns.map prD))):=by
 obtain ⟨h1,⟨kvs,e,s,l⟩,h3,h4,h5,h6,b1,b2,b3,b4,k⟩:=h
 exact ⟨(zaj d.ppa).trans h1,⟨kvs,(zaj d.spa).trans e,s,by omega⟩,(zaj d.npa).trans h3,zah,(zaj d.qsy.symm).trans h5,(zaj d.qwr.symm).trans h6,by show r.notes.length≤_;omega,hl,by show r.says.length≤_;omega,by show r.written.length≤_;omega,k.wr d.pa_⟩
theorem Rn.setY (h:Rn K S0 p sa na pa sy wr tk nm df r B S) (d:Rd S0 p sa na pa sy wr) {ns:List Str} (hl:ns.length≤B+1):Rn K S0 p sa na pa sy wr tk nm df { r with says:=ns } (B+1) (DL.put S sy (.lst (ns.map D.str))):=by
 obtain ⟨h1,⟨kvs,e,s,l⟩,h3,h4,h5,h6,b1,b2,b3,b4,k⟩:=h
 exact ⟨(zaj d.psy).trans h1,⟨kvs,(zaj d.ssy).trans e,s,by omega⟩,(zaj d.nsy).trans h3,(zaj d.qsy).trans h4,zah,(zaj d.ywr.symm).trans h6,by show r.notes.length≤_;omega,by show r.peeks.length≤_;omega,hl,by show r.written.length≤_;omega,k.wr d.sy_⟩
theorem Rn.setW (h:Rn K S0 p sa na pa sy wr tk nm df r B S) (d:Rd S0 p sa na pa sy wr) {ns:List (Str×Str)} (hl:ns.length≤B+1):Rn K S0 p sa na pa sy wr tk nm df { r with written:=ns } (B+1) (DL.put S wr (.lst (ns.map prD))):=by
 obtain ⟨h1,⟨kvs,e,s,l⟩,h3,h4,h5,h6,b1,b2,b3,b4,k⟩:=h
 exact ⟨(zaj d.pwr).trans h1,⟨kvs,(zaj d.swr).trans e,s,by omega⟩,(zaj d.nwr).trans h3,(zaj d.qwr).trans h4,(zaj d.ywr).trans h5,zah,by show r.notes.length≤_;omega,by show r.peeks.length≤_;omega,by show r.says.length≤_;omega,hl,k.wr d.wr_⟩
theorem Rn.setS (h:Rn K S0 p sa na pa sy wr tk nm df r B S) (d:Rd S0 p sa na pa sy wr) {f:Str->Str} {kvs:List (Key×D)} (hs:SlR kvs df f) (hl:kvs.length≤B+1):Rn K S0 p sa na pa sy wr tk nm df { r with slots:=f } (B+1) (DL.put S sa (.dic kvs)):=by
 obtain ⟨h1,⟨_,e,s,l⟩,h3,h4,h5,h6,b1,b2,b3,b4,k⟩:=h
 exact ⟨(zaj d.psa).trans h1,⟨kvs,zah,hs,hl⟩,(zaj d.sna.symm).trans h3,(zaj d.spa.symm).trans h4,(zaj d.ssy.symm).trans h5,(zaj d.swr.symm).trans h6,by show r.notes.length≤_;omega,by show r.peeks.length≤_;omega,by show r.says.length≤_;omega,by show r.written.length≤_;omega,k.wr d.sa_⟩
theorem Rn.setG (h:Rn K S0 p sa na pa sy wr tk nm df r B S) (d:Rd S0 p sa na pa sy wr) {g:Str}:Rn K S0 p sa na pa sy wr tk nm df { r with given:=some g } (B+1) (DL.put S p (.ins (He.ga K "TrueRun") [("name", .str nm),("default", .str df),("slots", .ref sa),("given", .str g),("over", .bl true),("told_words", .ref tk),("notes", .ref na),("peeks", .ref pa),("says", .ref sy),("written", .ref wr)])):=by
 obtain ⟨h1,⟨kvs,e,s,l⟩,h3,h4,h5,h6,b1,b2,b3,b4,k⟩:=h
 exact ⟨zah,⟨kvs,(zaj d.psa.symm).trans e,s,by omega⟩,(zaj d.pna.symm).trans h3,(zaj d.ppa.symm).trans h4,(zaj d.psy.symm).trans h5,(zaj d.pwr.symm).trans h6,by show r.notes.length≤_;omega,by show r.peeks.length≤_;omega,by show r.says.length≤_;omega,by show r.written.length≤_;omega,k.wr d.p_⟩
end
theorem zj2 {K:PySem.W.Frag} {S:Sto} {na:Addr} {ps:List (Str×Str)} {c:Str} {Q:DQ} {E:XQ} (e:S na=some (.lst (ps.map prD))) (hQ:Q (.bl (decide (c∈ps.map (·.1)))) S):zfJ K [.ref na,.str c] S Q E:=by
 refine zax rfl ?_
 unfold ziK
 ext
 refine za0 (fun i env S'=>∃ x2:Option D,env=[some (.ref na),some (.str c),x2]∧S'=S∧c∉(ps.take i).map (·.1)) _ 0 ⟨_,rfl,rfl,by simp⟩ ?_ ?_
 ·rintro i y _ _ hy ⟨x2,rfl,rfl,hc⟩ nx hnx
  rw [Nat.zero_add] at hc hnx
  rw [List.getElem?_map] at hy
  cases q:ps[i]? with
  | none=>rw [q] at hy;cases hy
  | some pr=>
   rw [q] at hy
   obtain rfl:prD pr=y:=Option.some.inj hy
   refine ⟨e,?_⟩
   unfold prD
   ext
   with_reducible refine zgk (fun h=>?_) (fun h=>?_)
   ·ext
    rw [decide_eq_true (show c∈ps.map (·.1) from List.mem_map.mpr ⟨pr,List.mem_of_getElem? q,h⟩)] at hQ
    exact hQ
   ·ext
    refine hnx _ _ ⟨_,rfl,rfl,?_⟩
    rw [List.take_succ,q]
    intro hm
    rw [Option.toList_some,List.map_append] at hm
    rcases List.mem_append.mp hm with z | z
    ·exact hc z
    ·rw [List.map_singleton,List.mem_singleton] at z
     exact h z.symm
 ·rintro _ _ ⟨x2,rfl,rfl,hc⟩
  refine ⟨e,?_⟩
  ext
  rw [Nat.zero_add,List.length_map,List.take_length] at hc
  rw [decide_eq_false hc] at hQ
  exact hQ
section
variable {K:PySem.W.Frag} {S0 S:Sto} {p sa na pa sy wr tk:Addr} {nm df:Str} {r:RS} {B:Nat} {Q:DQ} {E:XQ} {c u s:Str}
theorem zo5 (F:FTr K) (h:Rn K S0 p sa na pa sy wr tk nm df r B S) {tkv:List (Key×D)} (et:S0 tk=some (.dic tkv)) (ev:valD tkv (.inr c)=some (.str u)) (hQ:Q (.str u) S):zc4 K [.ref p,.str c] S Q E:=by
 obtain ⟨f1,f2,f3,f4,f5,f6,f7,f8,f9,f10⟩:=F
 have e:=h.ob
 have e2:=h.kp _ _ et
 refine zax rfl ?_
 unfold zfe
 ext
 exact hQ
theorem zeW (F:FTr K) (h:Rn K S0 p sa na pa sy wr tk nm df r B S) (hQ:Q (.str (r.slots s)) S):zbq K [.ref p,.str s] S Q E:=by
 obtain ⟨f1,f2,f3,f4,f5,f6,f7,f8,f9,f10⟩:=F
 have e:=h.ob
 obtain ⟨kvs,e2,hs,_⟩:=h.sl
 refine zax rfl ?_
 unfold zeJ
 ext
 rw [hs s]
 exact hQ
theorem zp4 (F:FTr K) (h:Rn K S0 p sa na pa sy wr tk nm df r B S) (d:Rd S0 p sa na pa sy wr) (hB:B≤800) (hQ:∀ S',Rn K S0 p sa na pa sy wr tk nm df { r with notes:=zeu r.notes c u } (B+1) S'->Q .non S'):zdS K [.ref p,.str c,.str u] S Q E:=by
 obtain ⟨f1,f2,f3,f4,f5,f6,f7,f8,f9,f10⟩:=F
 have e:=h.ob
 have e2:=h.no
 have b:=h.b1
 refine zax rfl ?_
 unfold zeI
 ext
 refine zj2 e2 ?_
 ext
 with_reducible refine zdI (fun hn=>?_) (fun hn=>?_)
 ·ext
  with_reducible refine zaT (szl (by simp)) ?_
  ext
  with_reducible refine s_app e2 (zfh (by simp;omega)) ?_
  ext
  have hc:c∉r.notes.map (·.1):=by simpa using hn
  have en:zeu r.notes c u=r.notes++[(c,u)]:=if_neg hc
  refine hQ _ ?_
  have q:=h.setN d (ns:=zeu r.notes c u) (by rw [en];simp;omega)
  rw [en,List.map_append] at q
  rw [en]
  exact q
 ·ext
  have hc:c∈r.notes.map (·.1):=by simpa using hn
  have en:zeu r.notes c u=r.notes:=if_pos hc
  refine hQ _ ?_
  rw [en]
  exact h.more (by omega)
theorem zos (F:FTr K) (h:Rn K S0 p sa na pa sy wr tk nm df r B S) (d:Rd S0 p sa na pa sy wr) (hB:B≤800) (hQ:∀ S',Rn K S0 p sa na pa sy wr tk nm df { r with peeks:=zeu r.peeks c u } (B+1) S'->Q .non S'):zdn K [.ref p,.str c,.str u] S Q E:=by
 obtain ⟨f1,f2,f3,f4,f5,f6,f7,f8,f9,f10⟩:=F
 have e:=h.ob
 have e2:=h.pe
 have b:=h.b2
 refine zax rfl ?_
 unfold zd1
 ext
 refine zj2 e2 ?_
 ext
 with_reducible refine zdI (fun hn=>?_) (fun hn=>?_)
 ·ext
  with_reducible refine zaT (szl (by simp)) ?_
  ext
  with_reducible refine s_app e2 (zfh (by simp;omega)) ?_
  ext
  have hc:c∉r.peeks.map (·.1):=by simpa using hn
  have en:zeu r.peeks c u=r.peeks++[(c,u)]:=if_neg hc
  refine hQ _ ?_
  have q:=h.setP d (ns:=zeu r.peeks c u) (by rw [en];simp;omega)
  rw [en,List.map_append] at q
  rw [en]
  exact q
 ·ext
  have hc:c∈r.peeks.map (·.1):=by simpa using hn
  have en:zeu r.peeks c u=r.peeks:=if_pos hc
  refine hQ _ ?_
  rw [en]
  exact h.more (by omega)
theorem zpE (F:FTr K) (h:Rn K S0 p sa na pa sy wr tk nm df r B S) (d:Rd S0 p sa na pa sy wr) (hB:B≤800) (hQ:∀ S',Rn K S0 p sa na pa sy wr tk nm df { r with says:=r.says++[u] } (B+1) S'->Q .non S'):zdR K [.ref p,.str u] S Q E:=by
 obtain ⟨f1,f2,f3,f4,f5,f6,f7,f8,f9,f10⟩:=F
 have e:=h.ob
 have e2:=h.sa'
 have b:=h.b3
 refine zax rfl ?_
 unfold zeH
 ext
 with_reducible refine s_app e2 (zfh (by simp;omega)) ?_
 ext
 have q:=h.setY d (ns:=r.says++[u]) (by simp;omega)
 rw [List.map_append] at q
 exact hQ _ q
theorem zpq (F:FTr K) (h:Rn K S0 p sa na pa sy wr tk nm df r B S) (d:Rd S0 p sa na pa sy wr) (hB:B≤800) (hQ:∀ S',Rn K S0 p sa na pa sy wr tk nm df { r with written:=r.written++[(c,u)] } (B+1) S'->Q .non S'):zdQ K [.ref p,.str c,.str u] S Q E:=by
 obtain ⟨f1,f2,f3,f4,f5,f6,f7,f8,f9,f10⟩:=F
 have e:=h.ob
 have e2:=h.wr'
 have b:=h.b4
 refine zax rfl ?_
 unfold zeG
 ext
 with_reducible refine zaT (szl (by simp)) ?_
 ext
 with_reducible refine s_app e2 (zfh (by simp;omega)) ?_
 ext
 have q:=h.setW d (ns:=r.written++[(c,u)]) (by simp;omega)
 rw [List.map_append] at q
 exact hQ _ q
end
theorem znk {rs:List Row} {i:Nat} {x:Row} (h:rs[i]? = some x):zaG (rs.take (i+1))=zaG (rs.take i)+(1+x.ex):=by
 have l1:(rs.take (i+1)).length=(rs.take i).length+1:=by
  have:=(List.getElem?_eq_some_iff.mp h).1
  simp
  omega
 rw [zgL,zgL,ziD h,l1]
 omega
theorem znl:∀ xs ys:List Row,zaG (xs++ys)=zaG xs+zaG ys
 | [],ys=>by rw [List.nil_append,zaG];omega
 | x :: xs,ys=>by rw [List.cons_append,zaG,zaG,znl xs ys];omega
theorem zrv {rs:List Row} {i:Nat}:zaG (rs.take i)≤zaG rs:=by
 have:rs=rs.take i++rs.drop i:=(List.take_append_drop i rs).symm
 conv=>rhs;rw [this]
 rw [znl]
 omega
theorem zwV {K:PySem.W.Frag} {S:Sto} {a b:D} {Q:DQ} {E:XQ} (hQ:Q .non S):zil K [a,b] S Q E:=by
 refine zax rfl ?_
 unfold zkg
 ext
 exact hQ
section
variable {K:PySem.W.Frag} {S0:Sto} {p sa na pa sy wr tk:Addr} {nm df:Str} {T:Str->Str} {h:Shp} {tkv:List (Key×D)}
theorem zfu (F:FTr K) (d:Rd S0 p sa na pa sy wr) (et:S0 tk=some (.dic tkv)) (ht:∀ c∈h.cells,valD tkv (.inr c)=some (.str (T c))) {x:Row} {r:RS} {B:Nat} {S:Sto} {Q:DQ} {E:XQ} (R:Rn K S0 p sa na pa sy wr tk nm df r B S) (hx:x.ok h) (hd:∀ s w y n,x≠.ite s w y n) (hB:B≤700)
  (hQ:∀ S',Rn K S0 p sa na pa sy wr tk nm df (x.run T r) (B+2) S'->Q .non S'):zfR K [.ref p,x.d] S Q E:=by
 have F':=F
 obtain ⟨f1,f2,f3,f4,f5,f6,f7,f8,f9,f10⟩:=F
 have e:=R.ob
 refine zax rfl ?_
 unfold zgZ
 cases x with
 | read c s=>
  rw [Row.ok] at hx
  rw [Row.run] at hQ
  rw [Row.d]
  ext
  refine zo5 F' R et (ht c hx.1) ?_
  ext
  refine zp4 F' R d (by omega) fun S1 R1=>?_
  have e1:=R1.ob
  obtain ⟨kvs,e2,hs,hl⟩:=R1.sl
  ext
  refine zc7 e2 rfl (zfh (by omega)) ?_
  have pl:=za6 (kvs:=kvs) (k:=(.inr s:Key)) (v:=.str (T c))
  exact hQ _ (R1.setS d hs.put (by omega))
 | peek c s=>
  rw [Row.ok] at hx
  rw [Row.run] at hQ
  rw [Row.d]
  ext
  refine zo5 F' R et (ht c hx.2.1) ?_
  ext
  refine zos F' R d (by omega) fun S1 R1=>?_
  have e1:=R1.ob
  obtain ⟨kvs,e2,hs,hl⟩:=R1.sl
  ext
  refine zc7 e2 rfl (zfh (by omega)) ?_
  have pl:=za6 (kvs:=kvs) (k:=(.inr s:Key)) (v:=.str (T c))
  exact hQ _ (R1.setS d hs.put (by omega))
 | put s w=>
  rw [Row.run] at hQ
  rw [Row.d]
  obtain ⟨kvs,e2,hs,hl⟩:=R.sl
  ext
  refine zc7 e2 rfl (zfh (by omega)) ?_
  have pl:=za6 (kvs:=kvs) (k:=(.inr s:Key)) (v:=.str w)
  exact hQ _ ((R.setS d hs.put (by omega)).more (by omega))
 | give s=>
  rw [Row.run] at hQ
  rw [Row.d]
  ext
  refine zeW F' R ?_
  ext
  with_reducible refine zb3 e f4 (by simp) ?_
  ext
  with_reducible refine zb3 zah f5 (by refine Nat.lt_of_le_of_lt (?_:_≤20) (by decide);repeat (first | refine zjM ?_ | (simp;done))) ?_
  rw [zcm]
  exact hQ _ ((R.setG d).more (by omega))
 | say s=>
  rw [Row.run] at hQ
  rw [Row.d]
  ext
  refine zeW F' R ?_
  ext
  refine zpE F' R d (by omega) fun S1 R1=>?_
  ext
  exact hQ _ (R1.more (by omega))
 | write c s=>
  rw [Row.run] at hQ
  rw [Row.d]
  ext
  refine zeW F' R ?_
  ext
  refine zpq F' R d (by omega) fun S1 R1=>?_
  ext
  exact hQ _ (R1.more (by omega))
 | ite s w y n=>exact absurd rfl (hd s w y n)
theorem zg8 (F:FTr K) (d:Rd S0 p sa na pa sy wr) (et:S0 tk=some (.dic tkv)) (ht:∀ c∈h.cells,valD tkv (.inr c)=some (.str (T c))):∀ (n:Nat) (rs:List Row) {r:RS} {B:Nat} {S:Sto} {pth:List D} {Q:DQ} {E:XQ},Rn K S0 p sa na pa sy wr tk nm df r B S->zb4 h rs->zbk rs < n->B+2 * zaG rs≤700->pth.length+3 * n≤500 ->
  (∀ S',Rn K S0 p sa na pa sy wr tk nm df (zam T rs r) (B+2 * zaG rs) S'->Q .non S')->zcr K n [.ref p,.tup (zaU rs),.tup pth] S Q E
 | 0,rs,r,B,S,pth,Q,E,_,_,hn,_,_,_=>absurd hn (Nat.not_lt_zero _)
 | n+1,rs,r,B,S,pth,Q,E,R,ok,hn,hB,hp,hQ=>by
  have F':=F
  obtain ⟨f1,f2,f3,f4,f5,f6,f7,f8,f9,f10⟩:=F
  refine zax rfl ?_
  unfold zf6
  ext
  refine za0 (fun i env S'=>∃ x3 x4 x5 x6:Option D,env=[some (.ref p),some (.tup (zaU rs)),some (.tup pth),x3,x4,x5,x6]∧Rn K S0 p sa na pa sy wr tk nm df (zam T (rs.take i) r) (B+2 * zaG (rs.take i)) S') _ 0 ⟨_,_,_,_,rfl,by rw [List.take_zero,zam,zaG];exact R⟩ ?_ ?_
  ·rintro i y _ S1 hy ⟨x3,x4,x5,x6,rfl,R1⟩ nx hnx
   rw [Nat.zero_add] at R1 hnx
   obtain ⟨x,hx,rfl⟩:=zgB hy
   obtain ⟨w,hw,rfl⟩:=zhR hx
   have hm:=List.mem_of_getElem? hw
   have hrd:=ziF hm
   have hok:=zfn.mp ok w hm
   have c1:=znk hw
   have c2:=zrv (rs:=rs) (i:=i+1)
   have e:=R1.ob
   refine ⟨trivial,?_⟩
   ext
   with_reducible refine zdI (fun hg=>?_) (fun hg=>?_)
   ·ext
    refine hQ _ ?_
    rw [zmS hg]
    exact R1.more (by omega)
   have hg0:(zam T (rs.take i) r).given=none:=by
    cases q:(zam T (rs.take i) r).given with
    | none=>rfl
    | some z=>rw [q] at hg;cases hg
   have rt:=zk2 (T:=T) hw hg0
   ext
   with_reducible refine zaT (szl (by simp)) ?_
   ext
   with_reducible refine zc9 (szl (by simp;omega)) ?_
   ext
   refine zwV ?_
   cases w with
   | ite s v yy nn=>
    rw [Row.ok] at hok
    rw [Row.dep] at hrd
    rw [Row.ex] at c1
    rw [Row.run] at rt
    rw [Row.d]
    ext
    refine zeW F' R1 ?_
    ext
    with_reducible refine zc8 (fun hs=>?_) (fun hs=>?_)
    ·rw [if_pos (of_decide_eq_true hs)] at rt
     ext
     with_reducible refine zaT (szl (by simp)) ?_
     ext
     with_reducible refine zc9 (szl (by simp;omega)) ?_
     ext
     refine zg8 F' d et ht n yy R1 hok.2.2.1 (by omega) (by omega) (by simp;omega) fun S2 R2=>?_
     ext
     exact hnx _ _ ⟨_,_,_,_,rfl,by rw [rt];exact R2.more (by omega)⟩
    ·rw [if_neg (of_decide_eq_false hs)] at rt
     ext
     with_reducible refine zaT (szl (by simp)) ?_
     ext
     with_reducible refine zc9 (szl (by simp;omega)) ?_
     ext
     refine zg8 F' d et ht n nn R1 hok.2.2.2 (by omega) (by omega) (by simp;omega) fun S2 R2=>?_
     ext
     exact hnx _ _ ⟨_,_,_,_,rfl,by rw [rt];exact R2.more (by omega)⟩
   | read c s=>
    have ed:(Row.read c s).d = .tup [.str "read", .str c,.str s]:=by rw [Row.d]
    rw [ed]
    ext
    rw [← ed]
    refine zfu F' d et ht R1 hok (fun _ _ _ _ z=>by cases z) (by omega) fun S2 R2=>?_
    ext
    exact hnx _ _ ⟨_,_,_,_,rfl,by rw [rt];exact R2.more (by omega)⟩
   | peek c s=>
    have ed:(Row.peek c s).d = .tup [.str "peek", .str c,.str s]:=by rw [Row.d]
    rw [ed]
    ext
    rw [← ed]
    refine zfu F' d et ht R1 hok (fun _ _ _ _ z=>by cases z) (by omega) fun S2 R2=>?_
    ext
    exact hnx _ _ ⟨_,_,_,_,rfl,by rw [rt];exact R2.more (by omega)⟩
   | put c s=>
    have ed:(Row.put c s).d = .tup [.str "put", .str c,.str s]:=by rw [Row.d]
    rw [ed]
    ext
    rw [← ed]
    refine zfu F' d et ht R1 hok (fun _ _ _ _ z=>by cases z) (by omega) fun S2 R2=>?_
    ext
    exact hnx _ _ ⟨_,_,_,_,rfl,by rw [rt];exact R2.more (by omega)⟩
   | give s=>
    have ed:(Row.give s).d = .tup [.str "give", .str s]:=by rw [Row.d]
    rw [ed]
    ext
    rw [← ed]
    refine zfu F' d et ht R1 hok (fun _ _ _ _ z=>by cases z) (by omega) fun S2 R2=>?_
    ext
    exact hnx _ _ ⟨_,_,_,_,rfl,by rw [rt];exact R2.more (by omega)⟩
   | say s=>
    have ed:(Row.say s).d = .tup [.str "say", .str s]:=by rw [Row.d]
    rw [ed]
    ext
    rw [← ed]
    refine zfu F' d et ht R1 hok (fun _ _ _ _ z=>by cases z) (by omega) fun S2 R2=>?_
    ext
    exact hnx _ _ ⟨_,_,_,_,rfl,by rw [rt];exact R2.more (by omega)⟩
   | write c s=>
    have ed:(Row.write c s).d = .tup [.str "write", .str c,.str s]:=by rw [Row.d]
    rw [ed]
    ext
    rw [← ed]
    refine zfu F' d et ht R1 hok (fun _ _ _ _ z=>by cases z) (by omega) fun S2 R2=>?_
    ext
    exact hnx _ _ ⟨_,_,_,_,rfl,by rw [rt];exact R2.more (by omega)⟩
  ·rintro _ S1 ⟨x3,x4,x5,x6,rfl,R1⟩
   refine ⟨trivial,hQ _ ?_⟩
   rw [Nat.zero_add,zbP,zct,List.take_length] at R1
   exact R1
theorem zi0 (F:FTr K) {r:RS} {B:Nat} {S:Sto} {Q:DQ} {E:XQ} (R:Rn K S0 p sa na pa sy wr tk nm df r B S) (hQ:Q (.str (r.given.getD df)) S):zcF K [.ref p] S Q E:=by
 obtain ⟨f1,f2,f3,f4,f5,f6,f7,f8,f9,f10⟩:=F
 have e:=R.ob
 refine zax rfl ?_
 unfold zeK
 cases q:r.given with
 | none=>
  rw [q] at e hQ
  unfold zme at e
  ext
  exact hQ
 | some z=>
  rw [q] at e hQ
  unfold zme at e
  ext
  with_reducible refine zlN ?_
  ext
  exact hQ
end
def r0 (df:Str):RS:=⟨fun _=>df,[],[],[],[],none⟩
theorem zml {K:PySem.W.Frag} {S:Sto} {p:Addr} {nm df:D} {Q:DQ} {E:XQ} (F:FTr K) (e:S p=some (.ins (He.ga K "TrueRun") []))
  (hQ:∀ sa S',S sa=none->S' p=some (.ins (He.ga K "TrueRun") [("name", nm),("default", df),("slots", .ref sa),("given", .non),("over", .bl false)])->S' sa=some (.dic [])->Fr p S S'->Q .non S'):zfS K [.ref p,nm,df] S Q E:=by
 obtain ⟨f1,f2,f3,f4,f5,f6,f7,f8,f9,f10⟩:=F
 refine zax rfl ?_
 unfold zg0
 ext
 with_reducible refine zb3 e f1 (by simp) ?_
 ext
 with_reducible refine zb3 zah f2 (by refine Nat.lt_of_le_of_lt (?_:_≤20) (by decide);repeat (first | refine zjM ?_ | (simp;done))) ?_
 rw [zcm]
 have g1:Fr p S (DL.put S p (.ins (He.ga K "TrueRun") [("name", nm),("default", df)])):=Fr.refl.put
 have g2:DL.put S p (.ins (He.ga K "TrueRun") [("name", nm),("default", df)]) p=some (.ins (He.ga K "TrueRun") [("name", nm),("default", df)]):=zah
 have g3:∀ b,DL.put S p (.ins (He.ga K "TrueRun") [("name", nm),("default", df)]) b=none->b≠p∧S b=none:=fun b hb=>by
  have hbp:b≠p:=fun z=>by subst z;rw [zah] at hb;cases hb
  rw [zaj hbp] at hb
  exact ⟨hbp,hb⟩
 have eq1:DL.put S p (.ins (He.ga K "TrueRun") (zbE "default" df (zbE "name" nm [])))=DL.put S p (.ins (He.ga K "TrueRun") [("name", nm),("default", df)]):=rfl
 rw [eq1]
 generalize DL.put S p (.ins (He.ga K "TrueRun") [("name", nm),("default", df)])=S1 at g1 g2 g3 ⊢
 ext
 with_reducible refine zkw fun sa hsa=>?_
 obtain ⟨sp,sS⟩:=g3 sa hsa
 ext
 with_reducible refine zb3 ((zaj sp.symm).trans g2) f3 (by simp) ?_
 ext
 with_reducible refine zb3 zah f4 (by refine Nat.lt_of_le_of_lt (?_:_≤20) (by decide);repeat (first | refine zjM ?_ | (simp;done))) ?_
 ext
 with_reducible refine zb3 zah f5 (by refine Nat.lt_of_le_of_lt (?_:_≤20) (by decide);repeat (first | refine zjM ?_ | (simp;done))) ?_
 rw [zcm,zcm]
 exact hQ sa _ sS zah ((zaj sp).trans zah) ((g1.new hsa).put)
theorem zo2 {K:PySem.W.Frag} {S0:Sto} {p tk:Addr} {nm df:Str} {Q:DQ} {E:XQ} (F:FTr K) (hp:S0 p=none)
  (hQ:∀ sa na pa sy wr S',Rd S0 p sa na pa sy wr->Rn K S0 p sa na pa sy wr tk nm df (r0 df) 0 S'->Q .non S'):zcg K [.ref p,.str nm,.str df,.ref tk] (DL.put S0 p (.ins (He.ga K "TrueRun") [])) Q E:=by
 have F':=F
 obtain ⟨f1,f2,f3,f4,f5,f6,f7,f8,f9,f10⟩:=F
 refine zax rfl ?_
 unfold zgh
 ext
 refine zx4 (a:=p) rfl zah ?_
 ext
 refine zml F' zah fun sa S1 hsa ep es fr=>?_
 have sap:sa≠p:=fun z=>by subst z;rw [zah] at hsa;cases hsa
 rw [zaj sap] at hsa
 have k1:Kp S0 S1:=fun b o hb=>fr b o (fun z=>by subst z;rw [hp] at hb;cases hb) (by rw [zaj (fun z=>by subst z;rw [hp] at hb;cases hb)];exact hb)
 clear fr
 ext
 with_reducible refine zb3 ep f6 (by simp) ?_
 have a1:DL.put S1 p (.ins (He.ga K "TrueRun") (zbE "told_words" (.ref tk) [("name", .str nm),("default", .str df),("slots", .ref sa),("given", .non),("over", .bl false)])) p=some (.ins (He.ga K "TrueRun") [("name", .str nm),("default", .str df),("slots", .ref sa),("given", .non),("over", .bl false),("told_words", .ref tk)]):=zah
 have a2:=k1.wr (o:=.ins (He.ga K "TrueRun") (zbE "told_words" (.ref tk) [("name", .str nm),("default", .str df),("slots", .ref sa),("given", .non),("over", .bl false)])) hp
 have a3:=(zaj (S:=S1) (o:=.ins (He.ga K "TrueRun") (zbE "told_words" (.ref tk) [("name", .str nm),("default", .str df),("slots", .ref sa),("given", .non),("over", .bl false)])) sap).trans es
 generalize DL.put S1 p (.ins (He.ga K "TrueRun") (zbE "told_words" (.ref tk) [("name", .str nm),("default", .str df),("slots", .ref sa),("given", .non),("over", .bl false)]))=S2 at a1 a2 a3 ⊢
 clear k1 ep es
 ext
 with_reducible refine zcl (szl (by simp)) fun na hna=>?_
 have nap:na≠p:=fun z=>by subst z;rw [a1] at hna;cases hna
 have nas:na≠sa:=fun z=>by subst z;rw [a3] at hna;cases hna
 have naS:=a2.none_ hna
 have b1:=(zaj (S:=S2) (o:=.lst []) nap.symm).trans a1
 have b2:=a2.new (o:=.lst []) hna
 have b3:=(zaj (S:=S2) (o:=.lst []) nas.symm).trans a3
 have b4:DL.put S2 na (.lst []) na=some (.lst []):=zah
 generalize DL.put S2 na (.lst [])=S3 at b1 b2 b3 b4 ⊢
 ext
 with_reducible refine zb3 b1 f7 (by simp) ?_
 have c1:DL.put S3 p (.ins (He.ga K "TrueRun") (zbE "notes" (.ref na) [("name", .str nm),("default", .str df),("slots", .ref sa),("given", .non),("over", .bl false),("told_words", .ref tk)])) p=some (.ins (He.ga K "TrueRun") [("name", .str nm),("default", .str df),("slots", .ref sa),("given", .non),("over", .bl false),("told_words", .ref tk),("notes", .ref na)]):=zah
 have c2:=b2.wr (o:=.ins (He.ga K "TrueRun") (zbE "notes" (.ref na) [("name", .str nm),("default", .str df),("slots", .ref sa),("given", .non),("over", .bl false),("told_words", .ref tk)])) hp
 have c3:=(zaj (S:=S3) (o:=.ins (He.ga K "TrueRun") (zbE "notes" (.ref na) [("name", .str nm),("default", .str df),("slots", .ref sa),("given", .non),("over", .bl false),("told_words", .ref tk)])) sap).trans b3
 have c4:=(zaj (S:=S3) (o:=.ins (He.ga K "TrueRun") (zbE "notes" (.ref na) [("name", .str nm),("default", .str df),("slots", .ref sa),("given", .non),("over", .bl false),("told_words", .ref tk)])) nap).trans b4
 generalize DL.put S3 p (.ins (He.ga K "TrueRun") (zbE "notes" (.ref na) [("name", .str nm),("default", .str df),("slots", .ref sa),("given", .non),("over", .bl false),("told_words", .ref tk)]))=S4 at c1 c2 c3 c4 ⊢
 clear a1 a2 a3 b1 b2 b3 b4
 ext
 with_reducible refine zcl (szl (by simp)) fun pa hpa=>?_
 have pap:pa≠p:=fun z=>by subst z;rw [c1] at hpa;cases hpa
 have pas:pa≠sa:=fun z=>by subst z;rw [c3] at hpa;cases hpa
 have pan:pa≠na:=fun z=>by subst z;rw [c4] at hpa;cases hpa
 have paS:=c2.none_ hpa
 have d1:=(zaj (S:=S4) (o:=.lst []) pap.symm).trans c1
 have d2:=c2.new (o:=.lst []) hpa
 have d3:=(zaj (S:=S4) (o:=.lst []) pas.symm).trans c3
 have d4:=(zaj (S:=S4) (o:=.lst []) pan.symm).trans c4
 have d5:DL.put S4 pa (.lst []) pa=some (.lst []):=zah
 generalize DL.put S4 pa (.lst [])=S5 at d1 d2 d3 d4 d5 ⊢
 ext
 with_reducible refine zb3 d1 f8 (by simp) ?_
 have e1:DL.put S5 p (.ins (He.ga K "TrueRun") (zbE "peeks" (.ref pa) [("name", .str nm),("default", .str df),("slots", .ref sa),("given", .non),("over", .bl false),("told_words", .ref tk),("notes", .ref na)])) p=some (.ins (He.ga K "TrueRun") [("name", .str nm),("default", .str df),("slots", .ref sa),("given", .non),("over", .bl false),("told_words", .ref tk),("notes", .ref na),("peeks", .ref pa)]):=zah
 have e2:=d2.wr (o:=.ins (He.ga K "TrueRun") (zbE "peeks" (.ref pa) [("name", .str nm),("default", .str df),("slots", .ref sa),("given", .non),("over", .bl false),("told_words", .ref tk),("notes", .ref na)])) hp
 have e3:=(zaj (S:=S5) (o:=.ins (He.ga K "TrueRun") (zbE "peeks" (.ref pa) [("name", .str nm),("default", .str df),("slots", .ref sa),("given", .non),("over", .bl false),("told_words", .ref tk),("notes", .ref na)])) sap).trans d3
 have e4:=(zaj (S:=S5) (o:=.ins (He.ga K "TrueRun") (zbE "peeks" (.ref pa) [("name", .str nm),("default", .str df),("slots", .ref sa),("given", .non),("over", .bl false),("told_words", .ref tk),("notes", .ref na)])) nap).trans d4
 have e5:=(zaj (S:=S5) (o:=.ins (He.ga K "TrueRun") (zbE "peeks" (.ref pa) [("name", .str nm),("default", .str df),("slots", .ref sa),("given", .non),("over", .bl false),("told_words", .ref tk),("notes", .ref na)])) pap).trans d5
 generalize DL.put S5 p (.ins (He.ga K "TrueRun") (zbE "peeks" (.ref pa) [("name", .str nm),("default", .str df),("slots", .ref sa),("given", .non),("over", .bl false),("told_words", .ref tk),("notes", .ref na)]))=S6 at e1 e2 e3 e4 e5 ⊢
 clear c1 c2 c3 c4 d1 d2 d3 d4 d5
 ext
 with_reducible refine zcl (szl (by simp)) fun sy hsy=>?_
 have syp:sy≠p:=fun z=>by subst z;rw [e1] at hsy;cases hsy
 have sys:sy≠sa:=fun z=>by subst z;rw [e3] at hsy;cases hsy
 have syn:sy≠na:=fun z=>by subst z;rw [e4] at hsy;cases hsy
 have syq:sy≠pa:=fun z=>by subst z;rw [e5] at hsy;cases hsy
 have syS:=e2.none_ hsy
 have g1:=(zaj (S:=S6) (o:=.lst []) syp.symm).trans e1
 have g2:=e2.new (o:=.lst []) hsy
 have g3:=(zaj (S:=S6) (o:=.lst []) sys.symm).trans e3
 have g4:=(zaj (S:=S6) (o:=.lst []) syn.symm).trans e4
 have g5:=(zaj (S:=S6) (o:=.lst []) syq.symm).trans e5
 have g6:DL.put S6 sy (.lst []) sy=some (.lst []):=zah
 generalize DL.put S6 sy (.lst [])=S7 at g1 g2 g3 g4 g5 g6 ⊢
 clear e1 e2 e3 e4 e5
 ext
 with_reducible refine zb3 g1 f9 (by simp) ?_
 have i1:DL.put S7 p (.ins (He.ga K "TrueRun") (zbE "says" (.ref sy) [("name", .str nm),("default", .str df),("slots", .ref sa),("given", .non),("over", .bl false),("told_words", .ref tk),("notes", .ref na),("peeks", .ref pa)])) p=some (.ins (He.ga K "TrueRun") [("name", .str nm),("default", .str df),("slots", .ref sa),("given", .non),("over", .bl false),("told_words", .ref tk),("notes", .ref na),("peeks", .ref pa),("says", .ref sy)]):=zah
 have i2:=g2.wr (o:=.ins (He.ga K "TrueRun") (zbE "says" (.ref sy) [("name", .str nm),("default", .str df),("slots", .ref sa),("given", .non),("over", .bl false),("told_words", .ref tk),("notes", .ref na),("peeks", .ref pa)])) hp
 have ii:∀ b o,b≠p->S7 b=some o->DL.put S7 p (.ins (He.ga K "TrueRun") (zbE "says" (.ref sy) [("name", .str nm),("default", .str df),("slots", .ref sa),("given", .non),("over", .bl false),("told_words", .ref tk),("notes", .ref na),("peeks", .ref pa)])) b=some o:=fun b o h1 h2=>(zaj h1).trans h2
 have i3:=ii _ _ sap g3
 have i4:=ii _ _ nap g4
 have i5:=ii _ _ pap g5
 have i6:=ii _ _ syp g6
 clear ii
 generalize DL.put S7 p (.ins (He.ga K "TrueRun") (zbE "says" (.ref sy) [("name", .str nm),("default", .str df),("slots", .ref sa),("given", .non),("over", .bl false),("told_words", .ref tk),("notes", .ref na),("peeks", .ref pa)]))=S8 at i1 i2 i3 i4 i5 i6 ⊢
 clear g1 g2 g3 g4 g5 g6
 ext
 with_reducible refine zcl (szl (by simp)) fun wr hwr=>?_
 have wrp:wr≠p:=fun z=>by subst z;rw [i1] at hwr;cases hwr
 have wrs:wr≠sa:=fun z=>by subst z;rw [i3] at hwr;cases hwr
 have wrn:wr≠na:=fun z=>by subst z;rw [i4] at hwr;cases hwr
 have wrq:wr≠pa:=fun z=>by subst z;rw [i5] at hwr;cases hwr
 have wry:wr≠sy:=fun z=>by subst z;rw [i6] at hwr;cases hwr
 have wrS:=i2.none_ hwr
 have j1:=(zaj (S:=S8) (o:=.lst []) wrp.symm).trans i1
 have j2:=i2.new (o:=.lst []) hwr
 have j3:=(zaj (S:=S8) (o:=.lst []) wrs.symm).trans i3
 have j4:=(zaj (S:=S8) (o:=.lst []) wrn.symm).trans i4
 have j5:=(zaj (S:=S8) (o:=.lst []) wrq.symm).trans i5
 have j6:=(zaj (S:=S8) (o:=.lst []) wry.symm).trans i6
 have j7:DL.put S8 wr (.lst []) wr=some (.lst []):=zah
 generalize DL.put S8 wr (.lst [])=S9 at j1 j2 j3 j4 j5 j6 j7 ⊢
 clear i1 i2 i3 i4 i5 i6
 ext
 with_reducible refine zb3 j1 f10 (by simp) ?_
 exact hQ sa na pa sy wr _ ⟨hp,hsa,naS,paS,syS,wrS,sap.symm,nap.symm,pap.symm,syp.symm,wrp.symm,nas.symm,pas.symm,sys.symm,wrs.symm,pan.symm,syn.symm,wrn.symm,syq.symm,wrq.symm,wry.symm⟩
  ⟨zah,⟨[],(zaj sap).trans j3,fun z=>rfl,Nat.le_refl _⟩,(zaj nap).trans j4,(zaj pap).trans j5,(zaj syp).trans j6,(zaj wrp).trans j7,Nat.le_refl _,Nat.le_refl _,Nat.le_refl _,Nat.le_refl _,j2.wr hp⟩
def zlM (df:Str) (zs:List (Str×Str)):Str->Str:=zs.foldl (fun f z=>zmc f z.1 z.2) fun _=>df
def zki (df:Str) (f:Str->Str) (ps:List (Str×List Row)):Str->Str:=ps.foldl (fun f p=>zmc f p.1 ((zam f p.2 (r0 df)).given.getD df)) f
theorem zhP {df:Str} {zs:List (Str×Str)} {i:Nat} {z:Str×Str} (h:zs[i]? = some z):zlM df (zs.take (i+1))=zmc (zlM df (zs.take i)) z.1 z.2:=by
 unfold zlM
 rw [List.take_succ,h,List.foldl_append]
 rfl
theorem zka {df:Str} {f:Str->Str} {ps:List (Str×List Row)} {i:Nat} {p:Str×List Row} (h:ps[i]? = some p):zki df f (ps.take (i+1))=zmc (zki df f (ps.take i)) p.1 ((zam (zki df f (ps.take i)) p.2 (r0 df)).given.getD df):=by
 unfold zki
 rw [List.take_succ,h,List.foldl_append]
 rfl
def Parts.df (x:Parts):Str:=x.words.headD ""
def Parts.tab (x:Parts) (us:List Str):Str->Str:=zki x.df (zlM x.df (x.sources.zip us)) x.derived
def Parts.cells (x:Parts):List Str:=x.sources++x.derived.map (·.1)
theorem zpc {x:Parts} (h:2≤x.words.length):L2.atI (x.words.map D.str) 0=some (.str x.df):=by
 refine atI_nat (p:=0) ?_
 unfold Parts.df
 cases e:x.words with
 | nil=>rw [e] at h;simp at h
 | cons w ws=>rfl
def znZ (kvs:List (Key×D)) (f:Str->Str) (cs:List Str):Prop:=∀ c∈cs,valD kvs (.inr c)=some (.str (f c))
theorem znZ.put {kvs:List (Key×D)} {f:Str->Str} {cs:List Str} {n u:Str} (h:znZ kvs f cs):znZ (putD kvs (.inr n) (.str u)) (zmc f n u) (cs++[n]):=fun c hc=>by
 rw [zbl]
 unfold zmc
 by_cases q:c=n
 ·subst q;simp
 ·rw [if_neg (fun e=>q (Sum.inr.inj e)),if_neg q]
  rcases List.mem_append.mp hc with z | z
  ·exact h c z
  ·exact absurd (List.mem_singleton.mp z) q
def ztO (kvs:List (Key×D)) (cs:List Str):Prop:=∀ c,(valD kvs (.inr c)).isSome=true->c∈cs
theorem ztO.put {kvs:List (Key×D)} {cs:List Str} {n:Str} {v:D} (h:ztO kvs cs):ztO (putD kvs (.inr n) v) (cs++[n]):=fun c hc=>by
 rw [zbl] at hc
 by_cases q:c=n
 ·subst q;exact List.mem_append_right _ (List.mem_singleton.mpr rfl)
 ·rw [if_neg (fun e=>q (Sum.inr.inj e))] at hc
  exact List.mem_append_left _ (h c hc)
theorem znZ.sub {kvs:List (Key×D)} {f:Str->Str} {cs cs':List Str} (h:znZ kvs f cs) (hs:∀ c∈cs',c∈cs):znZ kvs f cs':=fun c hc=>h c (hs c hc)
theorem ztP {ss us:List Str} {i:Nat} {y:D} (h:(List.zipWith (fun x y=>D.tup [x,y]) (ss.map D.str) (us.map D.str))[i]? = some y):∃ z,(ss.zip us)[i]? = some z∧y = .tup [.str z.1,.str z.2]:=by
 rw [List.getElem?_zipWith] at h
 rw [List.getElem?_map,List.getElem?_map] at h
 cases e1:ss[i]? with
 | none=>rw [e1] at h;simp at h
 | some s=>
  cases e2:us[i]? with
  | none=>rw [e1,e2] at h;simp at h
  | some u=>
   rw [e1,e2] at h
   refine ⟨(s,u),?_,?_⟩
   ·rw [List.getElem?_zip_eq_some]
    exact ⟨e1,e2⟩
   ·simpa using h.symm
structure zjB (x:Parts) (us:List Str):Prop where
 len:us.length=x.sources.length
 mem:∀ u∈us,u∈x.words
theorem zpB {K:PySem.W.Frag} {S:Sto} {o:Addr} {x:Parts} {us:List Str} {Q:DQ} {E:XQ} (G:FPr K) (eo:S o=some (zdb K x)) (W:zjB x us) (hQ:Q (.bl true) S):zc2 K [.ref o,.tup (us.map D.str)] S Q E:=by
 obtain ⟨f1,f2,f3,f4⟩:=G
 unfold zdb at eo
 obtain ⟨hl,hm⟩:=W
 refine zax rfl ?_
 unfold zdt
 ext
 refine za0 (fun i env S'=>∃ x2:Option D,env=[some (.ref o),some (.tup (us.map D.str)),x2]∧S'=S) _ 0 ⟨_,rfl,rfl⟩ ?_ ?_
 ·rintro i y _ S1 hy ⟨x2,rfl,rfl⟩ nx hnx
  rw [List.getElem?_map] at hy
  cases q:us[i]? with
  | none=>rw [q] at hy;cases hy
  | some u=>
   rw [q] at hy
   obtain rfl:D.str u=y:=Option.some.inj hy
   refine ⟨trivial,?_⟩
   ext
   refine zjj (p:=.str u) rfl (zir x.words) ?_
   rw [zdw,decide_eq_true (hm u (List.mem_of_getElem? q))]
   ext
   exact hnx _ _ ⟨_,rfl,rfl⟩
 ·rintro _ S1 ⟨x2,rfl,rfl⟩
  refine ⟨trivial,?_⟩
  ext
  exact hQ
theorem zpx {K:PySem.W.Frag} {S:Sto} {o:Addr} {x:Parts} {slots us:List Str} {pk wr:Bool} {Q:DQ} {E:XQ} (G:FPr K) (F:FTr K) (P:zay x slots pk wr) (eo:S o=some (zdb K x)) (W:zjB x us)
  (hQ:∀ tk tkv S',S tk=none->S' tk=some (.dic tkv)->znZ tkv (x.tab us) x.cells->ztO tkv x.cells->Kp S S'->Q (.ref tk) S'):zfH K [.ref o,.tup (us.map D.str)] S Q E:=by
 have G':=G
 obtain ⟨f1,f2,f3,f4⟩:=G
 have eo':=eo
 unfold zdb at eo
 have hdf:=zpc P.w2
 obtain ⟨hl,hm⟩:=W
 have s4:=P.s4
 have d6:=P.d6
 refine zax rfl ?_
 unfold zgN
 ext
 refine zpB G' eo' ⟨hl,hm⟩ ?_
 ext
 with_reducible refine zkw fun tk htk=>?_
 have k1:Kp S (DL.put S tk (.dic [])):=Kp.refl.new htk
 have e1:DL.put S tk (.dic []) tk=some (.dic []):=zah
 have tko:o≠tk:=fun z=>by subst z;rw [eo] at htk;cases htk
 generalize DL.put S tk (.dic [])=S1 at k1 e1 ⊢
 have eo1:=k1 _ _ eo
 walk_at "dmn"
 with_reducible refine zcY ?_
 walk_at "dmn"
 refine za0 (fun i env S'=>∃ (x3 x4:Option D) (kv:List (Key×D)),env=[some (.ref o),some (.tup (us.map D.str)),some (.ref tk),x3,x4,none,none,none]∧S' tk=some (.dic kv)∧kv.length≤i∧znZ kv (zlM x.df ((x.sources.zip us).take i)) (((x.sources.zip us).take i).map (·.1))∧ztO kv (((x.sources.zip us).take i).map (·.1))∧Kp S S') _ 0 ⟨_,_,_,rfl,e1,Nat.le_refl _,fun c hc=>(by simp at hc),fun c hc=>(by cases hc),k1⟩ ?_ ?_
 ·rintro i y _ S2 hy ⟨x3,x4,kv,rfl,e2,l2,r2,o2,k2⟩ nx hnx
  rw [Nat.zero_add] at l2 r2 o2 hnx
  obtain ⟨z,hz,rfl⟩:=ztP hy
  have hi:i < x.sources.length:=by
   have:=(List.getElem?_eq_some_iff.mp hz).1
   rw [List.length_zip] at this
   omega
  refine ⟨trivial,?_⟩
  ext
  refine zc7 e2 rfl (zfh (by omega)) ?_
  have pl:=za6 (kvs:=kv) (k:=(.inr z.1:Key)) (v:=.str z.2)
  have et:=show ((x.sources.zip us).take (i+1)).map (·.1)=((x.sources.zip us).take i).map (·.1)++[z.1] by rw [List.take_succ,hz];simp
  refine hnx _ _ ⟨_,_,_,rfl,zah,by omega,?_,?_,k2.wr htk⟩
  ·rw [zhP hz,et]
   exact r2.put
  ·rw [et]
   exact o2.put
 rintro _ S2 ⟨x3,x4,kv,rfl,e2,l2,r2,o2,k2⟩
 have el:(List.zipWith (fun x y=>D.tup [x,y]) (x.sources.map D.str) (us.map D.str)).length=(x.sources.zip us).length:=by simp
 rw [Nat.zero_add,el,List.take_length] at r2 o2
 rw [List.map_fst_zip (by omega)] at r2 o2
 rw [Nat.zero_add,el,List.length_zip] at l2
 have eo2:=k2 _ _ eo
 refine ⟨trivial,?_⟩
 walk_at "dmn"
 with_reducible refine zcY ?_
 walk_at "dmn"
 refine za0 (fun i env S'=>∃ (x5 x6 x7:Option D) (kv:List (Key×D)),env=[some (.ref o),some (.tup (us.map D.str)),some (.ref tk),x3,x4,x5,x6,x7]∧S' tk=some (.dic kv)∧kv.length≤4+i∧znZ kv (zki x.df (zlM x.df (x.sources.zip us)) (x.derived.take i)) (x.sources++(x.derived.take i).map (·.1))∧ztO kv (x.sources++(x.derived.take i).map (·.1))∧Kp S S') _ 0 ⟨_,_,_,_,rfl,e2,by omega,by simpa [zki] using r2,by simpa using o2,k2⟩ ?_ ?_
 ·rintro i y _ S3 hy ⟨x5,x6,x7,kv3,rfl,e3,l3,r3,o3,k3⟩ nx hnx
  rw [Nat.zero_add] at l3 r3 o3 hnx
  obtain ⟨y',hy',rfl⟩:=zgB hy
  obtain ⟨p,hp,rfl⟩:=pair_at hy'
  have hi:i < x.derived.length:=(List.getElem?_eq_some_iff.mp hp).1
  have eo3:=k3 _ _ eo
  refine ⟨trivial,?_⟩
  ext
  intro q hq
  refine zo2 F hq fun sa na pa sy wr S4 d R=>⟨rfl,?_⟩
  have bo:=P.der i p hp
  have bc:=bo.cnt
  have bd:=bo.dep
  have e4:=R.ob
  ext
  with_reducible refine zaT (szl (by simp)) ?_
  ext
  refine zg8 (h:=⟨true,false,false,x.words,x.sources,x.sources++(x.derived.take i).map (·.1),slots⟩) F d e3 (T:=zki x.df (zlM x.df (x.sources.zip us)) (x.derived.take i)) r3 6 p.2 R bo.ok (by omega) (by omega) (by simp) fun S5 R5=>?_
  have e5:=R5.ob
  have t5:=R5.kp _ _ e3
  ext
  refine zi0 F R5 ?_
  ext
  refine zc7 t5 rfl (zfh (by omega)) ?_
  have pl:=za6 (kvs:=kv3) (k:=(.inr p.1:Key)) (v:=.str ((zam (zki x.df (zlM x.df (x.sources.zip us)) (x.derived.take i)) p.2 (r0 x.df)).given.getD x.df))
  refine hnx _ _ ⟨_,_,_,_,rfl,zah,by omega,?_,?_,(k3.trans R5.kp).wr htk⟩
  ·rw [zka hp,zfg hp,← List.append_assoc]
   exact r3.put
  ·rw [zfg hp,← List.append_assoc]
   exact o3.put
 rintro _ S3 ⟨x5,x6,x7,kv3,rfl,e3,l3,r3,o3,k3⟩
 rw [Nat.zero_add,zbP,List.length_map,List.take_length] at r3 o3
 refine ⟨trivial,?_⟩
 ext
 exact hQ tk kv3 S3 htk e3 r3 o3 k3
structure Lr (S0:Sto) (sa rc na pa sy wr:Addr) (df:Str) (r:RS) (B:Nat) (S:Sto):Prop where
 sl:∃ kvs,S sa=some (.dic kvs)∧SlR kvs df r.slots∧kvs.length≤B
 rc_:∃ kvs,S rc=some (.dic kvs)∧valD kvs (.inr "read")=some (.ref na)∧valD kvs (.inr "peek")=some (.ref pa)∧valD kvs (.inr "say")=some (.ref sy)∧valD kvs (.inr "write")=some (.ref wr)
 no:S na=some (.lst (r.notes.map prD))
 pe:S pa=some (.lst (r.peeks.map prD))
 sy':S sy=some (.lst (r.says.map D.str))
 wr':S wr=some (.lst (r.written.map prD))
 b1:r.notes.length≤B
 b2:r.peeks.length≤B
 b3:r.says.length≤B
 b4:r.written.length≤B
 kp:Kp S0 S
section
variable {S0 S:Sto} {sa rc na pa sy wr:Addr} {df:Str} {r:RS} {B:Nat}
theorem Lr.more (h:Lr S0 sa rc na pa sy wr df r B S) {B':Nat} (hB:B≤B'):Lr S0 sa rc na pa sy wr df r B' S:=by
 obtain ⟨⟨k,a1,a2,a3⟩,b,c,d,e,g,b1,b2,b3,b4,kp⟩:=h
 exact ⟨⟨k,a1,a2,by omega⟩,b,c,d,e,g,by omega,by omega,by omega,by omega,kp⟩
theorem Lr.giv (h:Lr S0 sa rc na pa sy wr df r B S) {g:Option Str}:Lr S0 sa rc na pa sy wr df { r with given:=g } B S:=⟨h.sl,h.rc_,h.no,h.pe,h.sy',h.wr',h.b1,h.b2,h.b3,h.b4,h.kp⟩
theorem Lr.new (h:Lr S0 sa rc na pa sy wr df r B S) {S':Sto} (k:Kp S S'):Lr S0 sa rc na pa sy wr df r B S':=by
 obtain ⟨⟨kv,a1,a2,a3⟩,⟨b,b1,b2⟩,c,d,e,g,x1,x2,x3,x4,kp⟩:=h
 exact ⟨⟨kv,k _ _ a1,a2,a3⟩,⟨b,k _ _ b1,b2⟩,k _ _ c,k _ _ d,k _ _ e,k _ _ g,x1,x2,x3,x4,kp.trans k⟩
theorem Lr.setS (h:Lr S0 sa rc na pa sy wr df r B S) (d:Rd S0 rc sa na pa sy wr) {f':Str->Str} {kvs:List (Key×D)} (hs:SlR kvs df f') (hl:kvs.length≤B+1):Lr S0 sa rc na pa sy wr df { r with slots:=f' } (B+1) (DL.put S sa (.dic kvs)):=by
 obtain ⟨_,⟨b,b1,b2⟩,c1,d1,e1,g1,x1,x2,x3,x4,kp⟩:=h
 exact ⟨⟨kvs,zah,hs,hl⟩,⟨b,(zaj d.psa).trans b1,b2⟩,(zaj d.sna.symm).trans c1,(zaj d.spa.symm).trans d1,(zaj d.ssy.symm).trans e1,(zaj d.swr.symm).trans g1,by show r.notes.length≤_;omega,by show r.peeks.length≤_;omega,by show r.says.length≤_;omega,by show r.written.length≤_;omega,kp.wr d.sa_⟩
theorem Lr.setN (h:Lr S0 sa rc na pa sy wr df r B S) (d:Rd S0 rc sa na pa sy wr) {ps:List (Str×Str)} (hl:ps.length≤B+1):Lr S0 sa rc na pa sy wr df { r with notes:=ps } (B+1) (DL.put S na (.lst (ps.map prD))):=by
 obtain ⟨⟨kv,a1,a2,a3⟩,⟨b,b1,b2⟩,_,d1,e1,g1,x1,x2,x3,x4,kp⟩:=h
 exact ⟨⟨kv,(zaj d.sna).trans a1,a2,by omega⟩,⟨b,(zaj d.pna).trans b1,b2⟩,zah,(zaj d.npa.symm).trans d1,(zaj d.nsy.symm).trans e1,(zaj d.nwr.symm).trans g1,hl,by show r.peeks.length≤_;omega,by show r.says.length≤_;omega,by show r.written.length≤_;omega,kp.wr d.na_⟩
theorem Lr.setP (h:Lr S0 sa rc na pa sy wr df r B S) (d:Rd S0 rc sa na pa sy wr) {ps:List (Str×Str)} (hl:ps.length≤B+1):Lr S0 sa rc na pa sy wr df { r with peeks:=ps } (B+1) (DL.put S pa (.lst (ps.map prD))):=by
 obtain ⟨⟨kv,a1,a2,a3⟩,⟨b,b1,b2⟩,c1,_,e1,g1,x1,x2,x3,x4,kp⟩:=h
 exact ⟨⟨kv,(zaj d.spa).trans a1,a2,by omega⟩,⟨b,(zaj d.ppa).trans b1,b2⟩,(zaj d.npa).trans c1,zah,(zaj d.qsy.symm).trans e1,(zaj d.qwr.symm).trans g1,by show r.notes.length≤_;omega,hl,by show r.says.length≤_;omega,by show r.written.length≤_;omega,kp.wr d.pa_⟩
theorem Lr.setY (h:Lr S0 sa rc na pa sy wr df r B S) (d:Rd S0 rc sa na pa sy wr) {xs:List Str} (hl:xs.length≤B+1):Lr S0 sa rc na pa sy wr df { r with says:=xs } (B+1) (DL.put S sy (.lst (xs.map D.str))):=by
 obtain ⟨⟨kv,a1,a2,a3⟩,⟨b,b1,b2⟩,c1,d1,_,g1,x1,x2,x3,x4,kp⟩:=h
 exact ⟨⟨kv,(zaj d.ssy).trans a1,a2,by omega⟩,⟨b,(zaj d.psy).trans b1,b2⟩,(zaj d.nsy).trans c1,(zaj d.qsy).trans d1,zah,(zaj d.ywr.symm).trans g1,by show r.notes.length≤_;omega,by show r.peeks.length≤_;omega,hl,by show r.written.length≤_;omega,kp.wr d.sy_⟩
theorem Lr.setW (h:Lr S0 sa rc na pa sy wr df r B S) (d:Rd S0 rc sa na pa sy wr) {xs:List (Str×Str)} (hl:xs.length≤B+1):Lr S0 sa rc na pa sy wr df { r with written:=xs } (B+1) (DL.put S wr (.lst (xs.map prD))):=by
 obtain ⟨⟨kv,a1,a2,a3⟩,⟨b,b1,b2⟩,c1,d1,e1,_,x1,x2,x3,x4,kp⟩:=h
 exact ⟨⟨kv,(zaj d.swr).trans a1,a2,by omega⟩,⟨b,(zaj d.pwr).trans b1,b2⟩,(zaj d.nwr).trans c1,(zaj d.qwr).trans d1,(zaj d.ywr).trans e1,zah,by show r.notes.length≤_;omega,by show r.peeks.length≤_;omega,by show r.says.length≤_;omega,hl,kp.wr d.wr_⟩
end
theorem zdE {K:PySem.W.Frag} {S0:Sto} {sa rc na pa sy wr tk:Addr} {df:Str} {T:Str->Str} {h:Shp} {tkv:List (Key×D)} (d:Rd S0 rc sa na pa sy wr) (et:S0 tk=some (.dic tkv)) (ht:∀ c∈h.cells,valD tkv (.inr c)=some (.str (T c))) :
  ∀ (n:Nat) (rs:List Row) {r:RS} {B:Nat} {S:Sto} {Q:DQ} {E:XQ},r.given=none->Lr S0 sa rc na pa sy wr df r B S->zb4 h rs->zbk rs < n->B+2 * zaG rs≤700 ->
  (∀ S',Lr S0 sa rc na pa sy wr df (zam T rs r) (B+2 * zaG rs) S'->Q (zme (zam T rs r).given) S')->zbj K n [.tup (zaU rs),.ref sa,.ref tk,.str df,.ref rc] S Q E
 | 0,rs,r,B,S,Q,E,_,_,_,hn,_,_=>absurd hn (Nat.not_lt_zero _)
 | n+1,rs,r,B,S,Q,E,hg,R,ok,hn,hB,hQ=>by
  refine zax rfl ?_
  unfold zd0
  ext
  refine za0 (fun i env S'=>∃ x5 x6 x7 x8 x9:Option D,env=[some (.tup (zaU rs)),some (.ref sa),some (.ref tk),some (.str df),some (.ref rc),x5,x6,x7,x8,x9]∧(zam T (rs.take i) r).given=none∧Lr S0 sa rc na pa sy wr df (zam T (rs.take i) r) (B+2 * zaG (rs.take i)) S') _ 0 ⟨_,_,_,_,_,rfl,by rw [List.take_zero,zam];exact hg,by rw [List.take_zero,zam,zaG];exact R⟩ ?_ ?_
  ·rintro i y _ S1 hy ⟨x5,x6,x7,x8,x9,rfl,hg1,R1⟩ nx hnx
   rw [Nat.zero_add] at R1 hg1 hnx
   obtain ⟨w,hw,rfl⟩:=zhR hy
   have hm:=List.mem_of_getElem? hw
   have hrd:=ziF hm
   have hok:=zfn.mp ok w hm
   have c1:=znk hw
   have c2:=zrv (rs:=rs) (i:=i+1)
   have rt:=zk2 (T:=T) hw hg1
   have rs1:=zoh (T:=T) hw hg1
   generalize zam T (rs.take i) r=ri at R1 hg1 rt rs1
   have t1:=R1.kp _ _ et
   obtain ⟨kvs,s1,s2,s3⟩:=R1.sl
   obtain ⟨rkv,q1,q2,q3,q4,q5⟩:=R1.rc_
   refine ⟨trivial,?_⟩
   cases w with
   | read c s=>
    rw [Row.ok] at hok
    rw [Row.run] at rt
    rw [Row.d]
    have tc:=ht c hok.1
    have n1:=R1.no
    have n2:=R1.b1
    generalize eps:ri.notes=ps at n1 n2
    walk_at "dmn"
    with_reducible refine zcY ?_
    walk_at "dmn"
    with_reducible refine zjK (fun env S3=>env=[some (.tup (zaU rs)),some (.ref sa),some (.ref tk),some (.str df),some (.ref rc),some (.tup [.str "read", .str c,.str s]),some (.ref na),x7,x8,x9]∧Lr S0 sa rc na pa sy wr df { ri with notes:=zeu ps c (T c) } (B+2 * zaG (rs.take i)+1) S3) ?_ ?_
    ·rintro _ S3 ⟨rfl,R3⟩
     have t3:=R3.kp _ _ et
     obtain ⟨kvs3,v1,v2,v3⟩:=R3.sl
     ext
     refine zc7 v1 rfl (zfh (by omega)) ?_
     have pl:=za6 (kvs:=kvs3) (k:=(.inr s:Key)) (v:=.str (T c))
     refine hnx _ _ ⟨_,_,_,_,_,rfl,by rw [rt];exact hg1,?_⟩
     rw [rt,eps]
     exact (R3.setS d v2.put (by omega)).more (by omega)
    ·intro nx3 hnx3
     ext
     intro l hl
     have kl:Kp S1 (DL.put S1 l (.lst [])):=Kp.refl.new hl
     refine zoQ (fun j ys S'=>ys=((ps.take j).map (·.1)).map D.str∧Kp S1 S') _ zah ⟨rfl,kl⟩ ?_ ?_
     ·rintro j z S2 ys hz e2 ⟨rfl,k2⟩ nx2 hnx2
      rw [List.getElem?_map] at hz
      cases q:ps[j]? with
      | none=>rw [q] at hz;cases hz
      | some pr=>
       rw [q] at hz
       obtain rfl:prD pr=z:=Option.some.inj hz
       have hj:j < ps.length:=(List.getElem?_eq_some_iff.mp q).1
       refine ⟨k2 _ _ n1,?_⟩
       unfold prD
       ext
       refine zmR e2 (zfh (by simp;omega)) ?_
       refine hnx2 _ _ zah ⟨?_,k2.wr hl⟩
       rw [List.take_succ,q]
       simp
     rintro S2 ys e2 ⟨rfl,k2⟩
     rw [List.length_map,List.take_length] at e2
     have R2:=R1.new k2
     have n3:=k2 _ _ n1
     have t2:=k2 _ _ t1
     refine ⟨n3,?_⟩
     ext
     refine zlO (p:=.str c) e2 rfl (zgw e2) ?_
     rw [zdw]
     ext
     with_reducible refine zdI (fun hb=>?_) (fun hb=>?_)
     ·have hc:c∉ps.map (·.1):=by simpa using hb
      have en:zeu ps c (T c)=ps++[(c,T c)]:=if_neg hc
      rw [en] at hnx3
      ext
      with_reducible refine zaT (szl (by simp)) ?_
      ext
      with_reducible refine s_app n3 (zfh (by simp;omega)) ?_
      ext
      refine hnx3 _ _ ⟨rfl,?_⟩
      have:=R2.setN d (ps:=ps++[(c,T c)]) (by simp;omega)
      rw [List.map_append] at this
      exact this
     ·have hc:c∈ps.map (·.1):=by simpa using hb
      have en:zeu ps c (T c)=ps:=if_pos hc
      rw [en,← eps] at hnx3
      ext
      exact hnx3 _ _ ⟨rfl,R2.more (by omega)⟩
   | peek c s=>
    rw [Row.ok] at hok
    rw [Row.run] at rt
    rw [Row.d]
    have tc:=ht c hok.2.1
    have n1:=R1.pe
    have n2:=R1.b2
    generalize eps:ri.peeks=ps at n1 n2
    walk_at "dmn"
    with_reducible refine zcY ?_
    walk_at "dmn"
    with_reducible refine zjK (fun env S3=>env=[some (.tup (zaU rs)),some (.ref sa),some (.ref tk),some (.str df),some (.ref rc),some (.tup [.str "peek", .str c,.str s]),some (.ref pa),x7,x8,x9]∧Lr S0 sa rc na pa sy wr df { ri with peeks:=zeu ps c (T c) } (B+2 * zaG (rs.take i)+1) S3) ?_ ?_
    ·rintro _ S3 ⟨rfl,R3⟩
     have t3:=R3.kp _ _ et
     obtain ⟨kvs3,v1,v2,v3⟩:=R3.sl
     ext
     refine zc7 v1 rfl (zfh (by omega)) ?_
     have pl:=za6 (kvs:=kvs3) (k:=(.inr s:Key)) (v:=.str (T c))
     refine hnx _ _ ⟨_,_,_,_,_,rfl,by rw [rt];exact hg1,?_⟩
     rw [rt,eps]
     exact (R3.setS d v2.put (by omega)).more (by omega)
    ·intro nx3 hnx3
     ext
     intro l hl
     have kl:Kp S1 (DL.put S1 l (.lst [])):=Kp.refl.new hl
     refine zoQ (fun j ys S'=>ys=((ps.take j).map (·.1)).map D.str∧Kp S1 S') _ zah ⟨rfl,kl⟩ ?_ ?_
     ·rintro j z S2 ys hz e2 ⟨rfl,k2⟩ nx2 hnx2
      rw [List.getElem?_map] at hz
      cases q:ps[j]? with
      | none=>rw [q] at hz;cases hz
      | some pr=>
       rw [q] at hz
       obtain rfl:prD pr=z:=Option.some.inj hz
       have hj:j < ps.length:=(List.getElem?_eq_some_iff.mp q).1
       refine ⟨k2 _ _ n1,?_⟩
       unfold prD
       ext
       refine zmR e2 (zfh (by simp;omega)) ?_
       refine hnx2 _ _ zah ⟨?_,k2.wr hl⟩
       rw [List.take_succ,q]
       simp
     rintro S2 ys e2 ⟨rfl,k2⟩
     rw [List.length_map,List.take_length] at e2
     have R2:=R1.new k2
     have n3:=k2 _ _ n1
     have t2:=k2 _ _ t1
     refine ⟨n3,?_⟩
     ext
     refine zlO (p:=.str c) e2 rfl (zgw e2) ?_
     rw [zdw]
     ext
     with_reducible refine zdI (fun hb=>?_) (fun hb=>?_)
     ·have hc:c∉ps.map (·.1):=by simpa using hb
      have en:zeu ps c (T c)=ps++[(c,T c)]:=if_neg hc
      rw [en] at hnx3
      ext
      with_reducible refine zaT (szl (by simp)) ?_
      ext
      with_reducible refine s_app n3 (zfh (by simp;omega)) ?_
      ext
      refine hnx3 _ _ ⟨rfl,?_⟩
      have:=R2.setP d (ps:=ps++[(c,T c)]) (by simp;omega)
      rw [List.map_append] at this
      exact this
     ·have hc:c∈ps.map (·.1):=by simpa using hb
      have en:zeu ps c (T c)=ps:=if_pos hc
      rw [en,← eps] at hnx3
      ext
      exact hnx3 _ _ ⟨rfl,R2.more (by omega)⟩
   | put s v=>
    rw [Row.run] at rt
    rw [Row.d]
    ext
    refine zc7 s1 rfl (zfh (by omega)) ?_
    have pl:=za6 (kvs:=kvs) (k:=(.inr s:Key)) (v:=.str v)
    refine hnx _ _ ⟨_,_,_,_,_,rfl,by rw [rt];exact hg1,?_⟩
    rw [rt]
    exact (R1.setS d s2.put (by omega)).more (by omega)
   | give s=>
    have hr:=rs1 (by rw [Row.run];rfl)
    rw [hr,Row.run] at hQ
    rw [Row.d]
    ext
    rw [s2 s]
    exact hQ _ (R1.giv.more (by omega))
   | say s=>
    rw [Row.run] at rt
    rw [Row.d]
    have y1:=R1.sy'
    have y2:=R1.b3
    ext
    with_reducible refine s_app y1 (zfh (by simp;omega)) ?_
    ext
    refine hnx _ _ ⟨_,_,_,_,_,rfl,by rw [rt];exact hg1,?_⟩
    rw [rt]
    have q:=R1.setY d (xs:=ri.says++[ri.slots s]) (by simp;omega)
    rw [List.map_append] at q
    rw [s2 s]
    exact q.more (by omega)
   | write c s=>
    rw [Row.run] at rt
    rw [Row.d]
    have y1:=R1.wr'
    have y2:=R1.b4
    ext
    with_reducible refine zaT (szl (by simp)) ?_
    ext
    with_reducible refine s_app y1 (zfh (by simp;omega)) ?_
    ext
    refine hnx _ _ ⟨_,_,_,_,_,rfl,by rw [rt];exact hg1,?_⟩
    rw [rt]
    have q:=R1.setW d (xs:=ri.written++[(c,ri.slots s)]) (by simp;omega)
    rw [List.map_append] at q
    rw [s2 s]
    exact q.more (by omega)
   | ite s v yy nn=>
    rw [Row.ok] at hok
    rw [Row.dep] at hrd
    rw [Row.ex] at c1
    rw [Row.run] at rt rs1
    rw [Row.d]
    ext
    rw [s2 s]
    ext
    with_reducible refine zc8 (fun hs=>?_) (fun hs=>?_)
    ·rw [if_pos (of_decide_eq_true hs)] at rt rs1
     ext
     refine zdE d et ht n yy hg1 R1 hok.2.2.1 (by omega) (by omega) fun S2 R2=>?_
     cases q:(zam T yy ri).given with
     | none=>
      unfold zme
      ext
      exact hnx _ _ ⟨_,_,_,_,_,rfl,by rw [rt];exact q,by rw [rt];exact R2.more (by omega)⟩
     | some z=>
      rw [rs1 (by rw [q];rfl),q] at hQ
      unfold zme
      ext
      with_reducible refine zlN ?_
      ext
      exact hQ _ (R2.more (by omega))
    ·rw [if_neg (of_decide_eq_false hs)] at rt rs1
     ext
     refine zdE d et ht n nn hg1 R1 hok.2.2.2 (by omega) (by omega) fun S2 R2=>?_
     cases q:(zam T nn ri).given with
     | none=>
      unfold zme
      ext
      exact hnx _ _ ⟨_,_,_,_,_,rfl,by rw [rt];exact q,by rw [rt];exact R2.more (by omega)⟩
     | some z=>
      rw [rs1 (by rw [q];rfl),q] at hQ
      unfold zme
      ext
      with_reducible refine zlN ?_
      ext
      exact hQ _ (R2.more (by omega))
  ·rintro _ S1 ⟨x5,x6,x7,x8,x9,rfl,hg1,R1⟩
   refine ⟨trivial,?_⟩
   ext
   rw [Nat.zero_add,zct,List.take_length] at R1 hg1
   have:=hQ _ R1
   rw [hg1] at this
   exact this
theorem zj1 {K:PySem.W.Frag} {S:Sto} {x:Parts} {slots us:List Str} {pk wr:Bool} {wd:D} {Q:DQ} {E:XQ} (P:zay x slots pk wr) (W:zjB x us)
  (hw:∀ S',Kp S S'->∀ (i:Nat) u,us[i]? = some u->∀ Q:DQ,Q (.str u) S'->vIx wd (.int i) S' Q)
  (hQ:∀ tk tkv S',S tk=none->S' tk=some (.dic tkv)->znZ tkv (x.tab us) x.cells->Kp S S'->Q (.ref tk) S'):zeV K [x.d,wd] S Q E:=by
 have hdf:=zpc P.w2
 obtain ⟨hl,hm⟩:=W
 have s4:=P.s4
 have d6:=P.d6
 have ed:x.d = .tup [.tup (x.words.map D.str),.tp x.fl (x.sources.map D.str),.tup (x.derived.map pairD),.tup (x.effects.map pairD)]:=rfl
 rw [ed]
 refine zax rfl ?_
 unfold zhH
 ext
 with_reducible refine zkw fun tk htk=>?_
 have k1:Kp S (DL.put S tk (.dic [])):=Kp.refl.new htk
 have e1:DL.put S tk (.dic []) tk=some (.dic []):=zah
 generalize DL.put S tk (.dic [])=S1 at k1 e1 ⊢
 walk_at "dmn"
 with_reducible refine zcY ?_
 walk_at "dmn"
 refine zkl (by omega) (by simp;omega) ?_
 walk_at "dmn"
 rw [show (((x.sources.map D.str).length:Nat):Int).toNat=x.sources.length by simp]
 refine za0 (fun i env S'=>∃ (x3:Option D) (kv:List (Key×D)),env=[some (.tup [.tup (x.words.map D.str),.tp x.fl (x.sources.map D.str),.tup (x.derived.map pairD),.tup (x.effects.map pairD)]),some wd,some (.ref tk),x3,none,none,none]∧S' tk=some (.dic kv)∧kv.length≤i∧znZ kv (zlM x.df ((x.sources.zip us).take i)) (((x.sources.zip us).take i).map (·.1))∧Kp S S') _ 0 ⟨_,_,rfl,e1,Nat.le_refl _,fun c hc=>by simp at hc,k1⟩ ?_ ?_
 ·rintro i y _ S2 hy ⟨x3,kv,rfl,e2,l2,r2,k2⟩ nx hnx
  rw [Nat.zero_add] at l2 r2 hnx
  obtain ⟨rfl,hi⟩:=zkx hy
  have hs:x.sources[i]? = some x.sources[i]:=List.getElem?_eq_getElem hi
  have hu:us[i]? = some (us[i]'(by omega)):=List.getElem?_eq_getElem (by omega)
  have hz:(x.sources.zip us)[i]? = some (x.sources[i],us[i]'(by omega)):=by
   rw [List.getElem?_zip_eq_some]
   exact ⟨hs,hu⟩
  have hat:L2.atI (x.sources.map D.str) (i:Int)=some (.str x.sources[i]):=atI_nat (by rw [List.getElem?_map,hs];rfl)
  refine ⟨trivial,?_⟩
  ext
  refine hw S2 k2 i _ hu _ ?_
  ext
  refine zc7 e2 rfl (zfh (by omega)) ?_
  have pl:=za6 (kvs:=kv) (k:=(.inr x.sources[i]:Key)) (v:=.str (us[i]'(by omega)))
  refine hnx _ _ ⟨_,_,rfl,zah,by omega,?_,k2.wr htk⟩
  rw [zhP hz,show ((x.sources.zip us).take (i+1)).map (·.1)=((x.sources.zip us).take i).map (·.1)++[x.sources[i]] by rw [List.take_succ,hz];simp]
  exact r2.put
 rintro _ S2 ⟨x3,kv,rfl,e2,l2,r2,k2⟩
 rw [Nat.zero_add,zhv] at r2 l2
 rw [List.take_of_length_le (by rw [List.length_zip];omega)] at r2
 rw [List.map_fst_zip (by omega)] at r2
 refine ⟨trivial,?_⟩
 walk_at "dmn"
 with_reducible refine zcY ?_
 walk_at "dmn"
 refine za0 (fun i env S'=>∃ (x4 x5 x6:Option D) (kv:List (Key×D)),env=[some (.tup [.tup (x.words.map D.str),.tp x.fl (x.sources.map D.str),.tup (x.derived.map pairD),.tup (x.effects.map pairD)]),some wd,some (.ref tk),x3,x4,x5,x6]∧S' tk=some (.dic kv)∧kv.length≤4+i∧znZ kv (zki x.df (zlM x.df (x.sources.zip us)) (x.derived.take i)) (x.sources++(x.derived.take i).map (·.1))∧Kp S S') _ 0 ⟨_,_,_,_,rfl,e2,by omega,by simpa [zki] using r2,k2⟩ ?_ ?_
 ·rintro i y _ S3 hy ⟨x4,x5,x6,kv3,rfl,e3,l3,r3,k3⟩ nx hnx
  rw [Nat.zero_add] at l3 r3 hnx
  obtain ⟨p,hp,rfl⟩:=pair_at hy
  have hi:i < x.derived.length:=(List.getElem?_eq_some_iff.mp hp).1
  have bo:=P.der i p hp
  have bc:=bo.cnt
  have bd:=bo.dep
  refine ⟨trivial,?_⟩
  ext
  refine zlP fun rc hrc=>?_
  have k4:Kp S3 (DL.put S3 rc (.dic [])):=Kp.refl.new hrc
  have e4:DL.put S3 rc (.dic []) rc=some (.dic []):=zah
  generalize DL.put S3 rc (.dic [])=S4 at k4 e4 ⊢
  ext
  with_reducible refine zcl (szl (by simp)) fun na hna=>?_
  have nar:na≠rc:=fun z=>by subst z;rw [e4] at hna;cases hna
  have naS:=k4.none_ hna
  have k5:=k4.new (o:=.lst []) hna
  have a5:=(zaj (S:=S4) (o:=.lst []) nar.symm).trans e4
  have b5:DL.put S4 na (.lst []) na=some (.lst []):=zah
  generalize DL.put S4 na (.lst [])=S5 at k5 a5 b5 ⊢
  ext
  with_reducible refine zcl (szl (by simp)) fun pa hpa=>?_
  have par:pa≠rc:=fun z=>by subst z;rw [a5] at hpa;cases hpa
  have pan:pa≠na:=fun z=>by subst z;rw [b5] at hpa;cases hpa
  have paS:=k5.none_ hpa
  have k6:=k5.new (o:=.lst []) hpa
  have a6:=(zaj (S:=S5) (o:=.lst []) par.symm).trans a5
  have b6:=(zaj (S:=S5) (o:=.lst []) pan.symm).trans b5
  have c6:DL.put S5 pa (.lst []) pa=some (.lst []):=zah
  generalize DL.put S5 pa (.lst [])=S6 at k6 a6 b6 c6 ⊢
  ext
  with_reducible refine zcl (szl (by simp)) fun sy hsy=>?_
  have syr:sy≠rc:=fun z=>by subst z;rw [a6] at hsy;cases hsy
  have syn:sy≠na:=fun z=>by subst z;rw [b6] at hsy;cases hsy
  have syp:sy≠pa:=fun z=>by subst z;rw [c6] at hsy;cases hsy
  have syS:=k6.none_ hsy
  have k7:=k6.new (o:=.lst []) hsy
  have a7:=(zaj (S:=S6) (o:=.lst []) syr.symm).trans a6
  have b7:=(zaj (S:=S6) (o:=.lst []) syn.symm).trans b6
  have c7:=(zaj (S:=S6) (o:=.lst []) syp.symm).trans c6
  have d7:DL.put S6 sy (.lst []) sy=some (.lst []):=zah
  generalize DL.put S6 sy (.lst [])=S7 at k7 a7 b7 c7 d7 ⊢
  ext
  with_reducible refine zcl (szl (by simp)) fun wr' hwr=>?_
  have wrr:wr'≠rc:=fun z=>by subst z;rw [a7] at hwr;cases hwr
  have wrn:wr'≠na:=fun z=>by subst z;rw [b7] at hwr;cases hwr
  have wrp:wr'≠pa:=fun z=>by subst z;rw [c7] at hwr;cases hwr
  have wry:wr'≠sy:=fun z=>by subst z;rw [d7] at hwr;cases hwr
  have wrS:=k7.none_ hwr
  have k8:=k7.new (o:=.lst []) hwr
  have a8:=(zaj (S:=S7) (o:=.lst []) wrr.symm).trans a7
  have b8:=(zaj (S:=S7) (o:=.lst []) wrn.symm).trans b7
  have c8:=(zaj (S:=S7) (o:=.lst []) wrp.symm).trans c7
  have d8:=(zaj (S:=S7) (o:=.lst []) wry.symm).trans d7
  have e8:DL.put S7 wr' (.lst []) wr'=some (.lst []):=zah
  generalize DL.put S7 wr' (.lst [])=S8 at k8 a8 b8 c8 d8 e8 ⊢
  clear k4 k5 k6 k7 a5 a6 a7 b5 b6 b7 c6 c7 d7 e4
  ext
  refine zof (kvs:=[(.inr "read", .ref na),(.inr "peek", .ref pa),(.inr "say", .ref sy),(.inr "write", .ref wr')]) rfl a8 (by simp) ?_
  have k9:=k8.wr (o:=.dic (zbb [] [(.inr "read", .ref na),(.inr "peek", .ref pa),(.inr "say", .ref sy),(.inr "write", .ref wr')])) hrc
  have a9:DL.put S8 rc (.dic (zbb [] [(.inr "read", .ref na),(.inr "peek", .ref pa),(.inr "say", .ref sy),(.inr "write", .ref wr')])) rc=some (.dic (zbb [] [(.inr "read", .ref na),(.inr "peek", .ref pa),(.inr "say", .ref sy),(.inr "write", .ref wr')])):=zah
  have pp:∀ b o,b≠rc->S8 b=some o->DL.put S8 rc (.dic (zbb [] [(.inr "read", .ref na),(.inr "peek", .ref pa),(.inr "say", .ref sy),(.inr "write", .ref wr')])) b=some o:=fun b o h1 h2=>(zaj h1).trans h2
  have b9:=pp _ _ nar b8
  have c9:=pp _ _ par c8
  have d9:=pp _ _ syr d8
  have e9:=pp _ _ wrr e8
  clear pp
  generalize DL.put S8 rc (.dic (zbb [] [(.inr "read", .ref na),(.inr "peek", .ref pa),(.inr "say", .ref sy),(.inr "write", .ref wr')]))=S9 at k9 a9 b9 c9 d9 e9 ⊢
  ext
  with_reducible refine zkw fun sa hsa=>?_
  have sar:sa≠rc:=fun z=>by subst z;rw [a9] at hsa;cases hsa
  have san:sa≠na:=fun z=>by subst z;rw [b9] at hsa;cases hsa
  have sap:sa≠pa:=fun z=>by subst z;rw [c9] at hsa;cases hsa
  have say:sa≠sy:=fun z=>by subst z;rw [d9] at hsa;cases hsa
  have saw:sa≠wr':=fun z=>by subst z;rw [e9] at hsa;cases hsa
  have saS:=k9.none_ hsa
  have dd:Rd S3 rc sa na pa sy wr':=⟨hrc,saS,naS,paS,syS,wrS,sar.symm,nar.symm,par.symm,syr.symm,wrr.symm,san,sap,say,saw,pan.symm,syn.symm,wrn.symm,syp.symm,wrp.symm,wry.symm⟩
  have LR:Lr S3 sa rc na pa sy wr' x.df (r0 x.df) 0 (DL.put S9 sa (.dic [])):=by
   refine ⟨⟨[],zah,fun z=>rfl,Nat.le_refl _⟩,⟨_,(zaj sar.symm).trans a9,?_,?_,?_,?_⟩,(zaj san.symm).trans b9,(zaj sap.symm).trans c9,(zaj say.symm).trans d9,(zaj saw.symm).trans e9,Nat.le_refl _,Nat.le_refl _,Nat.le_refl _,Nat.le_refl _,k9.new hsa⟩ <;>
    (simp only [zbb,List.foldl_cons,List.foldl_nil];repeat (first | rw [zbl,if_pos (by with_reducible rfl)] | rw [zbl,if_neg (by decide +kernel)]))
  generalize DL.put S9 sa (.dic [])=S10 at LR ⊢
  ext
  refine zdE (h:=⟨true,false,false,x.words,x.sources,x.sources++(x.derived.take i).map (·.1),slots⟩) dd e3 (T:=zki x.df (zlM x.df (x.sources.zip us)) (x.derived.take i)) r3 6 p.2 (r:=r0 x.df) rfl LR bo.ok (by omega) (by omega) fun S11 L11=>?_
  have t11:=L11.kp _ _ e3
  have pl:=za6 (kvs:=kv3) (k:=(.inr p.1:Key)) (v:=.str ((zam (zki x.df (zlM x.df (x.sources.zip us)) (x.derived.take i)) p.2 (r0 x.df)).given.getD x.df))
  have fin:∀ (a b c:Option D),nx [some (.tup [.tup (x.words.map D.str),.tp x.fl (x.sources.map D.str),.tup (x.derived.map pairD),.tup (x.effects.map pairD)]),some wd,some (.ref tk),x3,a,b,c] (DL.put S11 tk (.dic (putD kv3 (.inr p.1) (.str ((zam (zki x.df (zlM x.df (x.sources.zip us)) (x.derived.take i)) p.2 (r0 x.df)).given.getD x.df))))):=fun a b c=>by
   refine hnx _ _ ⟨_,_,_,_,rfl,zah,by omega,?_,(k3.trans L11.kp).wr htk⟩
   rw [zka hp,zfg hp,← List.append_assoc]
   exact r3.put
  cases q:(zam (zki x.df (zlM x.df (x.sources.zip us)) (x.derived.take i)) p.2 (r0 x.df)).given with
  | none=>
   rw [q] at fin
   unfold zme
   ext
   refine zc7 t11 rfl (zfh (by omega)) ?_
   exact fin _ _ _
  | some z=>
   rw [q] at fin
   unfold zme
   ext
   with_reducible refine zlN ?_
   ext
   refine zc7 t11 rfl (zfh (by omega)) ?_
   exact fin _ _ _
 rintro _ S3 ⟨x4,x5,x6,kv3,rfl,e3,l3,r3,k3⟩
 rw [Nat.zero_add,List.length_map,List.take_length] at r3
 refine ⟨trivial,?_⟩
 ext
 exact hQ tk kv3 S3 htk e3 r3 k3
theorem zjw {zs:List Str} (h:zs.Nodup) {i j:Nat} {z:Str} (hi:zs[i]? = some z) (hj:zs[j]? = some z):i=j:=by
 obtain ⟨a,ea⟩:=List.getElem?_eq_some_iff.mp hi
 obtain ⟨b,eb⟩:=List.getElem?_eq_some_iff.mp hj
 exact (List.getElem_inj h).mp (ea.trans eb.symm)
theorem zdD {ps:List (Str×List Row)} {i:Nat} {p:Str×List Row} (h:ps[i]? = some p):(ps.map (·.1))[i]? = some p.1:=by rw [List.getElem?_map,h];rfl
theorem ztA {K:PySem.W.Frag} {S:Sto} {o:Addr} {x:Parts} {slots:List Str} {pk wr:Bool} {j:Nat} {p:Str×List Row} {Q:DQ} {E:XQ} (G:FPr K) (P:zay x slots pk wr) (eo:S o=some (zdb K x)) (hp:(x.derived++x.effects)[j]? = some p) (hQ:Q (.tup (zaU p.2)) S) :
  zex K [.ref o,.str p.1] S Q E:=by
 obtain ⟨f1,f2,f3,f4⟩:=G
 unfold zdb at eo
 have nd:((x.derived++x.effects).map (·.1)).Nodup:=by
  have:=P.nn.2
  rw [List.append_assoc,← List.map_append] at this
  exact (List.nodup_append.mp this).2.1
 have d6:=P.d6
 have e4:=P.e4
 have hj:=(List.getElem?_eq_some_iff.mp hp).1
 refine zax rfl ?_
 unfold zff
 ext
 with_reducible refine zc9 (szl (by simp;omega)) ?_
 ext
 rw [← List.map_append]
 refine za0 (fun i env S'=>∃ x2:Option D,env=[some (.ref o),some (.str p.1),x2]∧S'=S∧i≤j) _ 0 ⟨_,rfl,rfl,Nat.zero_le _⟩ ?_ ?_
 ·rintro i y _ S1 hy ⟨x2,rfl,rfl,hi⟩ nx hnx
  rw [Nat.zero_add] at hi hnx
  obtain ⟨p',hp',rfl⟩:=pair_at hy
  refine ⟨trivial,?_⟩
  ext
  with_reducible refine zgk (fun h=>?_) (fun h=>?_)
  ·have ij:=zjw nd (zdD hp') (by rw [h];exact zdD hp)
   subst ij
   rw [hp] at hp'
   cases hp'
   ext
   exact hQ
  ·ext
   refine hnx _ _ ⟨_,rfl,rfl,?_⟩
   have:i≠j:=fun z=>by subst z;rw [hp] at hp';cases hp';exact h rfl
   omega
 ·rintro _ S1 ⟨x2,rfl,rfl,hi⟩
  rw [Nat.zero_add,List.length_map] at hi
  omega
theorem zmq {K:PySem.W.Frag} {S:Sto} {o:Addr} {x:Parts} {slots:List Str} {pk wr:Bool} {j:Nat} {p:Str×List Row} {Q:DQ} {E:XQ} (G:FPr K) (P:zay x slots pk wr) (eo:S o=some (zdb K x)) (hp:x.derived[j]? = some p) (hQ:Q (.tup [.str "derived", .int j]) S) :
  zbA K [.ref o,.str p.1] S Q E:=by
 obtain ⟨f1,f2,f3,f4⟩:=G
 unfold zdb at eo
 have nd:(x.derived.map (·.1)).Nodup:=(List.nodup_append.mp P.nn.left.2).2.1
 have hj:=(List.getElem?_eq_some_iff.mp hp).1
 refine zax rfl ?_
 unfold zbR
 walk_at "dmn"
 with_reducible refine zcY ?_
 walk_at "dmn"
 refine za0 (fun i env S'=>∃ x2 x3:Option D,env=[some (.ref o),some (.str p.1),x2,x3]∧S'=S∧i≤j) _ 0 ⟨_,_,rfl,rfl,Nat.zero_le _⟩ ?_ ?_
 ·rintro i y _ S1 hy ⟨x2,x3,rfl,rfl,hi⟩ nx hnx
  rw [Nat.zero_add] at hi hnx
  obtain ⟨y',hy',rfl⟩:=zgB hy
  obtain ⟨p',hp',rfl⟩:=pair_at hy'
  refine ⟨trivial,?_⟩
  ext
  with_reducible refine zgk (fun h=>?_) (fun h=>?_)
  ·have ij:=zjw nd (zdD hp') (by rw [h];exact zdD hp)
   subst ij
   ext
   with_reducible refine zaT (szl (by simp)) ?_
   exact hQ
  ·ext
   refine hnx _ _ ⟨_,_,rfl,rfl,?_⟩
   have:i≠j:=fun z=>by subst z;rw [hp] at hp';cases hp';exact h rfl
   omega
 ·rintro _ S1 ⟨x2,x3,rfl,rfl,hi⟩
  rw [Nat.zero_add,zbP,List.length_map] at hi
  omega
theorem zmp {K:PySem.W.Frag} {S:Sto} {o:Addr} {x:Parts} {slots:List Str} {pk wr:Bool} {j:Nat} {p:Str×List Row} {Q:DQ} {E:XQ} (G:FPr K) (P:zay x slots pk wr) (eo:S o=some (zdb K x)) (hp:x.effects[j]? = some p) (hQ:Q (.tup [.str "effects", .int j]) S) :
  zbA K [.ref o,.str p.1] S Q E:=by
 obtain ⟨f1,f2,f3,f4⟩:=G
 unfold zdb at eo
 have nd:(x.effects.map (·.1)).Nodup:=(List.nodup_append.mp P.nn.2).2.1
 have ne:∀ z∈x.derived.map (·.1),z≠p.1:=fun z hz e=>(List.nodup_append.mp P.nn.2).2.2 z (List.mem_append_right _ hz) p.1 (List.mem_of_getElem? (zdD hp)) e
 have hj:=(List.getElem?_eq_some_iff.mp hp).1
 refine zax rfl ?_
 unfold zbR
 walk_at "dmn"
 with_reducible refine zcY ?_
 walk_at "dmn"
 refine za0 (fun i env S'=>∃ x2 x3:Option D,env=[some (.ref o),some (.str p.1),x2,x3]∧S'=S) _ 0 ⟨_,_,rfl,rfl⟩ ?_ ?_
 ·rintro i y _ S1 hy ⟨x2,x3,rfl,rfl⟩ nx hnx
  obtain ⟨y',hy',rfl⟩:=zgB hy
  obtain ⟨p',hp',rfl⟩:=pair_at hy'
  refine ⟨trivial,?_⟩
  ext
  with_reducible refine zgk (fun h=>?_) (fun h=>?_)
  ·exact absurd h (ne _ (List.mem_of_getElem? (zdD hp')))
  ·ext
   exact hnx _ _ ⟨_,_,rfl,rfl⟩
 rintro _ S1 ⟨x2,x3,rfl,rfl⟩
 refine ⟨trivial,?_⟩
 walk_at "dmn"
 with_reducible refine zcY ?_
 walk_at "dmn"
 refine za0 (fun i env S'=>∃ x2 x3:Option D,env=[some (.ref o),some (.str p.1),x2,x3]∧S'=S1∧i≤j) _ 0 ⟨_,_,rfl,rfl,Nat.zero_le _⟩ ?_ ?_
 ·rintro i y _ S2 hy ⟨x2,x3,rfl,rfl,hi⟩ nx hnx
  rw [Nat.zero_add] at hi hnx
  obtain ⟨y',hy',rfl⟩:=zgB hy
  obtain ⟨p',hp',rfl⟩:=pair_at hy'
  refine ⟨trivial,?_⟩
  ext
  with_reducible refine zgk (fun h=>?_) (fun h=>?_)
  ·have ij:=zjw nd (zdD hp') (by rw [h];exact zdD hp)
   subst ij
   ext
   with_reducible refine zaT (szl (by simp)) ?_
   exact hQ
  ·ext
   refine hnx _ _ ⟨_,_,rfl,rfl,?_⟩
   have:i≠j:=fun z=>by subst z;rw [hp] at hp';cases hp';exact h rfl
   omega
 ·rintro _ S2 ⟨x2,x3,rfl,rfl,hi⟩
  rw [Nat.zero_add,zbP,List.length_map] at hi
  omega
def runD (r:RS) (wd:D):List (Key×D):=[(.inr "notes", .tup (r.notes.map prD)),(.inr "peeks", .tup (r.peeks.map prD)),(.inr "says", .tup (r.says.map D.str)),(.inr "writes", .tup (r.written.map prD)),(.inr "word", wd)]
def zqO (x:Parts) (j:Nat) (r:RS):D:=if j < x.derived.length then .str (r.given.getD x.df) else .non
theorem zjA {x:Parts} {slots:List Str} {pk wr:Bool} {j:Nat} {p:Str×List Row} (P:zay x slots pk wr) (hp:(x.derived++x.effects)[j]? = some p):∃ h:Shp,BodyOk h p.2∧∀ c∈h.cells,c∈x.cells:=by
 rw [List.getElem?_append] at hp
 split at hp
 ·refine ⟨_,P.der j p hp,fun c hc=>?_⟩
  unfold Parts.cells
  rcases List.mem_append.mp hc with z | z
  ·exact List.mem_append_left _ z
  ·refine List.mem_append_right _ ?_
   rw [List.map_take] at z
   exact List.mem_of_mem_take z
 ·exact ⟨_,P.eff p (List.mem_of_getElem? hp),fun c hc=>hc⟩
theorem zjE {K:PySem.W.Frag} {S:Sto} {o:Addr} {x:Parts} {slots us:List Str} {pk wr:Bool} {j:Nat} {p:Str×List Row} {Q:DQ} {E:XQ} (G:FPr K) (F:FTr K) (P:zay x slots pk wr) (eo:S o=some (zdb K x)) (W:zjB x us) (hp:(x.derived++x.effects)[j]? = some p)
  (hQ:∀ q S',S q=none->S' q=some (.dic (runD (zam (x.tab us) p.2 (r0 x.df)) (zqO x j (zam (x.tab us) p.2 (r0 x.df)))))->(zam (x.tab us) p.2 (r0 x.df)).notes.length≤100->(zam (x.tab us) p.2 (r0 x.df)).peeks.length≤100->Kp S S'->Q (.ref q) S') :
  zfI K [.ref o,.tup (us.map D.str),.str p.1] S Q E:=by
 have hdf:=zpc P.w2
 have eo':=eo
 unfold zdb at eo
 obtain ⟨h,bo,hc⟩:=zjA P hp
 have bc:=bo.cnt
 have bd:=bo.dep
 have F':=F
 have G':=G
 obtain ⟨f1,f2,f3,f4⟩:=G
 obtain ⟨g1,g2,g3,g4,g5,g6,g7,g8,g9,g10⟩:=F
 refine zax rfl ?_
 unfold ziH
 ext
 refine zpx G' F' P eo' W fun tk tkv S1 htk et rt _ k1=>?_
 have o1:=k1 _ _ eo
 have o1':=k1 _ _ eo'
 ext
 refine ztA G' P o1' hp ?_
 walk_at "dmn"
 with_reducible refine zjK (fun env S2=>∃ (k:Str) (jj:Int),env=[some (.ref o),some (.tup (us.map D.str)),some (.str p.1),some (.ref tk),some (.tup (zaU p.2)),some (.tup [.str k,.int jj]),none,none]∧S2=S1∧k=(if j < x.derived.length then "derived" else "effects")) ?_ ?_
 rotate_left
 ·intro nx hnx
  ext
  have hp':=hp
  rw [List.getElem?_append] at hp'
  split at hp'
  ·rename_i hj
   refine zmq G' P o1' hp' ?_
   ext
   exact hnx _ _ ⟨_,_,rfl,rfl,by rw [if_pos hj]⟩
  ·rename_i hj
   refine zmp G' P o1' hp' ?_
   ext
   exact hnx _ _ ⟨_,_,rfl,rfl,by rw [if_neg hj]⟩
 rintro _ S2 ⟨kk,jj,rfl,rfl,hk⟩
 ext
 intro q hq
 refine zo2 F' hq fun sa na pa sy wr' S3 d R=>⟨rfl,?_⟩
 have e3:=R.ob
 ext
 refine zg8 F' d et (T:=x.tab us) (h:=h) (fun c hcc=>rt c (hc c hcc)) 6 p.2 R bo.ok (by omega) (by omega) (by simp) fun S4 R4=>?_
 generalize er:zam (x.tab us) p.2 (r0 x.df)=r at R4 hQ
 have e4:=R4.ob
 have b1:=R4.b1
 have b2:=R4.b2
 have k4:Kp S S4:=k1.trans R4.kp
 walk_at "dmn"
 with_reducible refine zcY ?_
 walk_at "dmn"
 with_reducible refine zjK (fun env S5=>env=[some (.ref o),some (.tup (us.map D.str)),some (.str p.1),some (.ref tk),some (.tup (zaU p.2)),some (.tup [.str kk,.int jj]),some (.ref q),some (zqO x j r)]∧S5=S4) ?_ ?_
 rotate_left
 ·intro nx hnx
  unfold zqO at hnx
  by_cases hj:j < x.derived.length
  ·rw [if_pos hj] at hk hnx
   subst hk
   ext
   refine zi0 F' R4 ?_
   ext
   exact hnx _ _ ⟨rfl,rfl⟩
  ·rw [if_neg hj] at hk hnx
   subst hk
   ext
   exact hnx _ _ ⟨rfl,rfl⟩
 rintro _ S5 ⟨rfl,rfl⟩
 have n4:=R4.no
 have p4:=R4.pe
 have y4:=R4.sa'
 have w4:=R4.wr'
 ext
 refine zlP fun z hz=>?_
 have k5:=k4.new (o:=.dic []) hz
 have ne:∀ b o,S5 b=some o->b≠z:=fun b o e q=>by subst q;rw [e] at hz;cases hz
 have e5:=(zaj (S:=S5) (o:=.dic []) (ne _ _ e4)).trans e4
 have n5:=(zaj (S:=S5) (o:=.dic []) (ne _ _ n4)).trans n4
 have p5:=(zaj (S:=S5) (o:=.dic []) (ne _ _ p4)).trans p4
 have y5:=(zaj (S:=S5) (o:=.dic []) (ne _ _ y4)).trans y4
 have w5:=(zaj (S:=S5) (o:=.dic []) (ne _ _ w4)).trans w4
 have z5:DL.put S5 z (.dic []) z=some (.dic []):=zah
 generalize DL.put S5 z (.dic [])=S6 at k5 e5 n5 p5 y5 w5 z5 ⊢
 ext
 refine zof (kvs:=runD r (zqO x j r)) rfl z5 (by simp [runD]) ?_
 have em:zbb [] (runD r (zqO x j r))=runD r (zqO x j r):=rfl
 rw [em]
 exact hQ z _ (k4.none_ hz) zah (by omega) (by omega) (k5.wr (k4.none_ hz))
def kLt (m:EM) (env2:Slo) (p:Addr) (nx:Sto->Prop):Bool->Sto->Prop:=fun c S3=>match c with
 | true=>m env2 S3 (zrm p nx)
 | false=>nx S3
theorem ziq {m:EM} {env2:Slo} {p:Addr} {nx:Sto->Prop} {c:Bool} {S:Sto} (ht:c=true->m env2 S (zrm p nx)) (hf:c=false->nx S):kLt m env2 p nx c S:=by
 cases c with
 | true=>exact ht rfl
 | false=>exact hf rfl
theorem zs6 {S S':Sto} {p:Addr} {o:O} (k:Kp S S') (h:S p=some o):S' p=some o:=k _ _ h
theorem zhD {α:Type} {g:GM} {t:TM} {m:EM} {G:Sto->Prop} {p:Addr} {Q:DQ} {env:Slo} (xs:List α) (f:α->D) (b:α->Bool) (r:α->D) {S0 S:Sto} (hp:S p=some (.lst [])) (h0:S0 p=none) (k0:Kp S0 S) (hl:xs.length≤1000)
  (step:∀ a∈xs,∀ S,Kp S0 S->∀ nx:Sto->Prop,(b a=true->∀ S',Kp S S'->zrm p nx (r a) S')->(b a=false->∀ S',Kp S S'->nx S')->G S∧g (f a) env S fun env2 S2=>t env2 S2 (kLt m env2 p nx))
  (done:∀ S',S' p=some (.lst ((xs.filter b).map r))->Kp S0 S'->G S'∧Q (.ref p) S'):lcL g t m G p Q env (xs.map f) S:=by
 refine zs4 (fun i ys S'=>ys=((xs.take i).filter b).map r∧Kp S0 S') (xs.map f) 0 hp ⟨by simp,k0⟩ ?_ ?_
 ·rintro i y S1 ys hy e1 ⟨rfl,k1⟩ nx hnx
  rw [Nat.zero_add] at hnx e1
  rw [List.getElem?_map] at hy
  cases ea:xs[i]? with
  | none=>rw [ea] at hy;cases hy
  | some a=>
   rw [ea] at hy
   cases hy
   have hi:i < xs.length:=(List.getElem?_eq_some_iff.mp ea).1
   have et:xs.take (i+1)=xs.take i++[a]:=by rw [List.take_succ,ea];rfl
   have hlen:(((xs.take i).filter b).map r).length≤1000:=by
    rw [List.length_map]
    exact Nat.le_trans (List.length_filter_le _ _) (by simp;omega)
   obtain ⟨q1,q2⟩:=step a (List.mem_of_getElem? ea) S1 k1 nx (fun hb S' k=>zmR (k _ _ e1) (zfh hlen) (hnx _ _ zah ⟨by rw [et,List.filter_append];simp [hb],(k1.trans k).wr h0⟩))
    (fun hb S' k=>hnx _ _ (k _ _ e1) ⟨by rw [et,List.filter_append];simp [hb],k1.trans k⟩)
   exact ⟨q1,q2⟩
 ·rintro S1 ys e1 ⟨rfl,k1⟩
  rw [Nat.zero_add,List.length_map,List.take_length] at e1
  exact done S1 e1 k1
theorem znf {α:Type} {g:GM} {m:EM} {G:Sto->Prop} {p:Addr} {Q:DQ} {env:Slo} (xs:List α) (f:α->D) (r:α->D) {S0 S:Sto} (hp:S p=some (.lst [])) (h0:S0 p=none) (k0:Kp S0 S) (hl:xs.length≤1000)
  (step:∀ a∈xs,∀ S,Kp S0 S->∀ nx:Sto->Prop,(∀ S',Kp S S'->zrm p nx (r a) S')->G S∧g (f a) env S fun env2 S2=>m env2 S2 (zrm p nx))
  (done:∀ S',S' p=some (.lst (xs.map r))->Kp S0 S'->G S'∧Q (.ref p) S'):lcL g zij m G p Q env (xs.map f) S:=by
 refine zhD xs f (fun _=>true) r hp h0 k0 hl (fun a ha S k nx hT _=>?_) (fun S' e k=>done S' (by rw [List.filter_eq_self.mpr fun _ _=>rfl] at e;exact e) k)
 obtain ⟨q1,q2⟩:=step a ha S k nx (hT rfl)
 exact ⟨q1,q2⟩
abbrev Told:Type:=Option Str×List Str×List (Str×Str)
def zbg (t:Told):D:=.tup [zme t.1,.tup (t.2.1.map D.str),.tup (t.2.2.map prD)]
def zsC:Option Str->PyData
 | some z=>.str z
 | none=>.none
def prP (p:Str×Str):PyData:=.tuple [.str p.1,.str p.2]
def zmN (t:Told):PyData:=.tuple [zsC t.1,.tuple (t.2.1.map PyData.str),.tuple (t.2.2.map prP)]
theorem zvO {S:Sto} {n:Nat} (zs:List (Str×Str)):(zs.map prD).mapM (rs S (n+2))=some (zs.map prP):=by
 induction zs with
 | nil=>rfl
 | cons z zs ih=>
  rw [List.map_cons,List.mapM_cons,ih]
  rfl
theorem zoj {S:Sto} (t:Told):rs S 40 (zbg t)=some (zmN t):=by
 have e1:rs S 39 (zme t.1)=some (zsC t.1):=by cases t.1 <;> rfl
 have e2:rs S 39 (.tup (t.2.1.map D.str))=some (.tuple (t.2.1.map PyData.str)):=by
  show (List.mapM (rs S 38) _).map PyData.tuple=_
  rw [zmn]
  rfl
 have e3:rs S 39 (.tup (t.2.2.map prD))=some (.tuple (t.2.2.map prP)):=by
  show (List.mapM (rs S 38) _).map PyData.tuple=_
  rw [zvO]
  rfl
 show (List.mapM (rs S 39) [_,_,_]).map PyData.tuple=_
 rw [List.mapM_cons,List.mapM_cons,List.mapM_cons,e1,e2,e3]
 rfl
theorem eqvAll_map {α:Type} [DecidableEq α] {f:α->PyData} (h:∀ a b,PyData.eqv (f a) (f b)=decide (a=b)):∀ xs ys:List α,PyData.eqvAll (xs.map f) (ys.map f)=decide (xs=ys)
 | [],[]=>by simp [PyData.eqvAll]
 | [],y :: ys=>by simp [PyData.eqvAll]
 | x :: xs,[]=>by simp [PyData.eqvAll]
 | x :: xs,y :: ys=>by
  rw [List.map_cons,List.map_cons,PyData.eqvAll,h,eqvAll_map h xs ys]
  by_cases e:x=y
  ·subst e;simp
  ·simp [e]
theorem zlA (a b:Str):PyData.eqv (.str a) (.str b)=decide (a=b):=(zf3 a b).symm
theorem zwU (a b:Str×Str):PyData.eqv (prP a) (prP b)=decide (a=b):=by
 obtain ⟨a1,a2⟩:=a
 obtain ⟨b1,b2⟩:=b
 unfold prP
 rw [PyData.eqv,PyData.eqvAll,PyData.eqvAll,PyData.eqvAll,zlA,zlA]
 by_cases e1:a1=b1
 ·subst e1
  by_cases e2:a2=b2
  ·subst e2;simp
  ·simp [e2]
 ·simp [e1]
theorem ztj (a b:Option Str):PyData.eqv (zsC a) (zsC b)=decide (a=b):=by
 cases a with
 | none=>cases b <;> simp [zsC,PyData.eqv]
 | some a=>
  cases b with
  | none=>simp [zsC,PyData.eqv]
  | some b=>
   unfold zsC
   rw [zlA]
   by_cases e:a=b
   ·subst e;simp
   ·simp [e]
theorem zqA (t u:Told):PyData.eqv (zmN t) (zmN u)=decide (t=u):=by
 obtain ⟨a,b,c⟩:=t
 obtain ⟨a',b',c'⟩:=u
 unfold zmN
 rw [PyData.eqv,PyData.eqvAll,PyData.eqvAll,PyData.eqvAll,PyData.eqvAll,PyData.eqv,PyData.eqv,ztj,eqvAll_map zlA,eqvAll_map zwU]
 by_cases e1:a=a'
 ·subst e1
  by_cases e2:b=b'
  ·subst e2
   by_cases e3:c=c'
   ·subst e3;simp
   ·simp [e3]
  ·simp [e2]
 ·simp [e1]
theorem zk1 {g:Bool->Bool} {t u:Told} {S:Sto} {Q:DQ} (h:Q (.bl (g (decide (t=u)))) S):zkr g (zbg t) (zbg u) S Q:=by
 have e1:=zoj (S:=S) t
 have e2:=zoj (S:=S) u
 unfold zbg at e1 e2 ⊢
 unfold zkr
 simp only [e1,e2]
 rw [zqA]
 exact h
def Parts.tell (x:Parts) (j:Nat) (p:Str×List Row) (us:List Str):Told:=
 (if j < x.derived.length then some ((zam (x.tab us) p.2 (r0 x.df)).given.getD x.df) else none,(zam (x.tab us) p.2 (r0 x.df)).says,(zam (x.tab us) p.2 (r0 x.df)).written)
theorem ztW (x:Parts) (j:Nat) (r:RS):zqO x j r=zme (if j < x.derived.length then some (r.given.getD x.df) else none):=by
 unfold zqO
 split <;> rfl
section
variable {K:PySem.W.Frag} {S:Sto} {o:Addr} {x:Parts} {slots us:List Str} {pk wr:Bool} {j:Nat} {p:Str×List Row} {Q:DQ} {E:XQ}
theorem zik (G:FPr K) (F:FTr K) (P:zay x slots pk wr) (eo:S o=some (zdb K x)) (W:zjB x us) (hp:(x.derived++x.effects)[j]? = some p)
  (hQ:∀ S',Kp S S'->Q (zbg (x.tell j p us)) S'):zfi K [.ref o,.tup (us.map D.str),.str p.1] S Q E:=by
 refine zax rfl ?_
 unfold zkd
 ext
 refine zjE G F P eo W hp fun q S1 hq e1 _ _ k1=>?_
 ext
 refine zaT (szl (by simp)) ?_
 have h:=hQ _ k1
 unfold zbg Parts.tell at h
 rw [ztW]
 exact h
end
def zdW (ws:List Str):Nat->List (List Str)
 | 0=>[[]]
 | n+1=>(zdW ws n).flatMap fun r=>ws.map fun w=>r++[w]
theorem zda {ws:List Str}:∀ {n:Nat} {us:List Str},us∈zdW ws n ↔ us.length=n∧∀ u∈us,u∈ws
 | 0,us=>by
  rw [zdW,List.mem_singleton]
  constructor
  ·rintro rfl
   exact ⟨rfl,fun u hu=>by simp at hu⟩
  ·rintro ⟨h,_⟩
   exact List.eq_nil_of_length_eq_zero h
 | n+1,us=>by
  rw [zdW,List.mem_flatMap]
  constructor
  ·rintro ⟨r,hr,hm⟩
   obtain ⟨w,hw,rfl⟩:=List.mem_map.mp hm
   obtain ⟨h1,h2⟩:=zda.mp hr
   refine ⟨by simp [h1],fun u hu=>?_⟩
   rcases List.mem_append.mp hu with q | q
   ·exact h2 u q
   ·rw [List.mem_singleton.mp q];exact hw
  ·rintro ⟨h1,h2⟩
   have hne:us≠[]:=fun e=>by rw [e] at h1;simp at h1
   refine ⟨us.dropLast,zda.mpr ⟨by simp [h1],fun u hu=>h2 u ((List.dropLast_sublist us).subset hu)⟩,List.mem_map.mpr ⟨us.getLast hne,h2 _ (List.getLast_mem hne),List.dropLast_concat_getLast hne⟩⟩
theorem zlz {α β:Type} {f:α->List β} {k:Nat} (h:∀ a,(f a).length=k):∀ xs:List α,(xs.flatMap f).length=xs.length * k
 | []=>by simp
 | x :: xs=>by rw [List.flatMap_cons,List.length_append,zlz h xs,h,List.length_cons,Nat.succ_mul,Nat.add_comm]
theorem zfm {ws:List Str}:∀ n:Nat,(zdW ws n).length=ws.length ^ n
 | 0=>rfl
 | n+1=>by rw [zdW,zlz (k:=ws.length) (fun a=>by simp),zfm n,Nat.pow_succ]
theorem zet {ws:List Str} (h:ws.length≤4) {n:Nat} (hn:n≤4):(zdW ws n).length≤256:=by
 rw [zfm]
 exact Nat.le_trans (Nat.pow_le_pow_left h n) (Nat.le_trans (Nat.pow_le_pow_right (by decide) hn) (by decide))
def Parts.rows (x:Parts):List (List Str):=zdW x.words x.sources.length
def zcQ (r:List Str):D:=.tup (r.map D.str)
def zDT (o l:Addr) (x2:Option D):Slo:=[some (.ref o),some (.ref l),x2,none,none]
theorem zx0 {env:Slo} {S:Sto} {TQ:Bool->Sto->Prop} (h:TQ true S):zij env S TQ:=h
theorem zo1 {p:Addr} {N:Sto->Prop} {o l:Addr} {x2:Option D} {row:List Str} (hr:row.length≤100):∀ (ws:List Str) {S:Sto} {acc:List D},S p=some (.lst acc)->acc.length+ws.length≤1000 ->
  (∀ S',S' p=some (.lst (acc++(ws.map fun w=>row++[w]).map zcQ))->(∀ b,b≠p->S' b=S b)->N S') ->
  lcI (gNm 4) zij (mOp zcp (zag 3) (zcV (zac (zag 4) zal))) (fun _=>True) p N [some (.ref o),some (.ref l),x2,some (zcQ row),none] (ws.map D.str) S
 | [],S,acc,e,hl,hN=>⟨trivial,hN S (by simpa using e) fun _ _=>rfl⟩
 | w :: ws,S,acc,e,hl,hN=>by
  refine ⟨trivial,?_⟩
  refine zha ?_
  show mOp zcp (zag 3) (zcV (zac (zag 4) zal)) [some (.ref o),some (.ref l),x2,some (zcQ row),some (.str w)] S _
  unfold zcQ
  ext
  refine zaT (szl (by simp)) ?_
  ext
  refine zc9 (szl (by simp;omega)) ?_
  simp only [e]
  refine ⟨zfh (by simp at hl;omega),?_⟩
  have hl':acc.length+(ws.length+1)≤1000:=by simpa using hl
  have z:=zo1 (p:=p) (N:=N) (o:=o) (l:=l) (x2:=x2) hr ws (S:=DL.put S p (.lst (acc++[zcQ (row++[w])]))) zah (by simp;omega) fun S' e' h'=>hN S' (by rw [e'];simp) fun b hb=>(h' b hb).trans (zaj hb)
  have et:zcQ (row++[w]) = .tup (row.map D.str++[.str w]):=by unfold zcQ;simp
  rw [et] at z
  unfold zcQ at z
  exact z
theorem zov {K:PySem.W.Frag} {p:Addr} {o l:Addr} {x2:Option D} {x:Parts} {G:Sto->Prop} {Q:DQ} {S0:Sto} {fs:List (Str×D)} (fw:FOk K (He.ga K "Program") "words") (eo:S0 o=some (.ins (He.ga K "Program") fs)) (ef:fs.lookup ("words" : Str)=some (D.tup (x.words.map D.str))) (po:o≠p) {n:Nat} :
  ∀ (rows:List (List Str)),(∀ r∈rows,r.length≤100)->∀ {S:Sto} {acc:List D},S p=some (.lst acc)->acc.length+rows.length * x.words.length≤1000->(∀ b,b≠p->S b=S0 b)->(∀ S',(∀ b,b≠p->S' b=S0 b)->G S') ->
  (∀ S',S' p=some (.lst (acc++(rows.flatMap fun r=>x.words.map fun w=>r++[w]).map zcQ))->(∀ b,b≠p->S' b=S0 b)->Q (.ref p) S') ->
  lcO (gNm 3) zij (zdY (zd6 K (zag 0) "words")) (gNm 4) zij (mOp zcp (zag 3) (zcV (zac (zag 4) zal))) [4] G p Q [some (.ref o),some (.ref l),x2,none,none] (rows.map zcQ) S
 | [],_,S,acc,e,_,k,hG,hQ=>⟨hG S k,hQ S (by simpa using e) k⟩
 | row :: rows,hr,S,acc,e,hl,k,hG,hQ=>by
  refine ⟨hG S k,?_⟩
  refine zha ?_
  refine zx0 ?_
  dsimp only [List.set_cons_succ,List.set_cons_zero]
  have eo':S o=some (.ins (He.ga K "Program") fs):=(k o po).trans eo
  ext
  rw [List.length_cons,Nat.succ_mul] at hl
  refine zo1 (hr row (List.mem_cons_self ..)) x.words e (by omega) fun S1 e1 k1=>?_
  refine zov fw eo ef po (n:=n) rows (fun r h=>hr r (List.mem_cons_of_mem _ h)) e1 (by simp;omega) (fun b hb=>(k1 b hb).trans (k b hb)) hG fun S2 e2 k2=>hQ S2 ?_ k2
  rw [e2,List.flatMap_cons]
  simp
theorem zu8 {g:GM} {t:TM} {mi1:IM} {g1:GM} {t1:TM} {m:EM} {vs vs1:List Nat} {env:Slo} {Q:DQ} {xs:List D} {G:Sto->Prop} {S1:Sto} (h:∀ p,S1 p=none->lcO g t mi1 g1 t1 m vs1 G p Q (zcJ env vs) xs (DL.put S1 p (.lst []))):zzs g t mi1 g1 t1 m vs vs1 env Q xs G S1:=h
def zgC (i:Nat):D:=.int i
section
variable {K:PySem.W.Frag} {S:Sto} {o:Addr} {x:Parts} {slots us:List Str} {pk wr:Bool} {j:Nat} {p:Str×List Row} {Q:DQ} {E:XQ}
theorem zlG (G:FPr K) (P:zay x slots pk wr) (eo:S o=some (zdb K x)) (hQ:∀ q S',S q=none->S' q=some (.lst (x.rows.map zcQ))->Kp S S'->Q (.ref q) S'):zgq K [.ref o] S Q E:=by
 obtain ⟨f1,f2,f3,f4⟩:=G
 have s4:=P.s4
 have w4:=P.w4
 unfold zdb at eo
 refine zax rfl ?_
 unfold zhE
 ext
 with_reducible refine zaT (szl (by simp)) ?_
 ext
 with_reducible refine zcl (szl (by simp)) fun l0 h0=>?_
 have k0:Kp S (DL.put S l0 (.lst [.tup []])):=Kp.refl.new h0
 have e0:DL.put S l0 (.lst [.tup []]) l0=some (.lst ((zdW x.words 0).map zcQ)):=zah
 generalize DL.put S l0 (.lst [.tup []])=S1 at k0 e0 ⊢
 have eo1:=k0 _ _ eo
 ext
 refine zkl (by omega) (by simp;omega) ?_
 ext
 rw [show (((x.sources.map D.str).length:Nat):Int).toNat=x.sources.length by simp]
 refine za0 (fun i env S'=>∃ (l:Addr) (x2:Option D),env=[some (.ref o),some (.ref l),x2,none,none]∧S' l=some (.lst ((zdW x.words i).map zcQ))∧S l=none∧Kp S S') _ 0 ⟨l0,_,rfl,e0,h0,k0⟩ ?_ ?_
 ·rintro i y _ S2 hy ⟨l,x2,rfl,e2,hl,k2⟩ nx hnx
  rw [Nat.zero_add] at e2 hnx
  obtain ⟨rfl,hi⟩:=zkx hy
  refine ⟨trivial,?_⟩
  have eo2:=k2 _ _ eo
  ext
  refine zu8 fun q hq=>?_
  have lq:l≠q:=fun z=>by subst z;rw [e2] at hq;cases hq
  have oq:o≠q:=fun z=>by subst z;rw [eo2] at hq;cases hq
  have qS:S q=none:=k2.none_ hq
  have hle:=zet (ws:=x.words) w4 (n:=i+1) (by omega)
  have hle0:=zet (ws:=x.words) w4 (n:=i) (by omega)
  rw [zfm,Nat.pow_succ,← zfm] at hle
  have hw:zcJ [some (D.ref o),some (D.ref l),some (D.int i),none,none] [3,4]=[some (D.ref o),some (D.ref l),some (D.int i),none,none]:=rfl
  refine zov (x:=x) (S0:=S2) f1 eo2 rfl oq (n:=i) (zdW x.words i) (fun r hr=>by rw [(zda.mp hr).1];omega) zah (by simp;omega) (fun b hb=>zaj hb) (fun S' h'=>(h' l lq).trans e2) fun S3 e3 k3=>?_
  refine zk0 ?_
  refine hnx _ _ ⟨q,_,rfl,e3,qS,fun b ob eb=>?_⟩
  rw [k3 b (fun z=>by subst z;rw [qS] at eb;cases eb)]
  exact k2 _ _ eb
 ·rintro _ S2 ⟨l,x2,rfl,e2,hl,k2⟩
  rw [Nat.zero_add,zhv] at e2
  refine ⟨trivial,?_⟩
  ext
  exact hQ l _ hl e2 k2
def agB (us vs:List Str) (ps:List Nat):Bool:=ps.all fun i=>decide (us[i]? = vs[i]?)
theorem zno {us:List Str} {i:Nat} (h:i < us.length):L2.atI (us.map D.str) (i:Int)=some (.str us[i]):=atI_nat (by rw [List.getElem?_map,List.getElem?_eq_getElem h];rfl)
theorem zqJ {us vs:List Str} {ps:List Nat} (h1:∀ i∈ps,i < us.length) (h2:∀ i∈ps,i < vs.length) (hl:ps.length≤1000) (hQ:∀ S',Kp S S'->Q (.bl (agB us vs ps)) S'):zkU K [zcQ us,zcQ vs,.tup (ps.map zgC)] S Q E:=by
 refine zax rfl ?_
 unfold zmI zcQ
 ext
 intro q hq
 refine znf ps zgC (fun i=>.bl (decide (us[i]? = vs[i]?))) (S0:=S) zah hq (Kp.refl.new hq) hl ?_ ?_
 ·intro i hi S1 k1 nx hT
  refine ⟨trivial,?_⟩
  have i1:=h1 i hi
  have i2:=h2 i hi
  have a1:=zno i1
  have a2:=zno i2
  unfold zgC
  ext
  have e:decide (us[i]=vs[i])=decide (us[i]? = vs[i]?):=by
   rw [List.getElem?_eq_getElem i1,List.getElem?_eq_getElem i2]
   simp
  rw [e]
  exact hT _ Kp.refl
 ·intro S1 e1 k1
  refine ⟨trivial,?_⟩
  ext
  refine zpT (bs:=ps.map fun i=>decide (us[i]? = vs[i]?)) (by rw [e1,List.map_map];rfl) ?_
  have e:(ps.map fun i=>decide (us[i]? = vs[i]?)).all id=agB us vs ps:=by
   unfold agB
   rw [List.all_map]
   rfl
  rw [e]
  exact hQ _ k1
structure FTl (K:PySem.W.Frag):Prop where
 own:FOk K (He.ga K "Tellings") "own"
 words:FOk K (He.ga K "Tellings") "words"
 sources:FOk K (He.ga K "Tellings") "sources"
 table:FOk K (He.ga K "Tellings") "table"
def zxb (x:Parts) (j:Nat) (p:Str×List Row) (r:List Str):D:=.tup [zcQ r,zbg (x.tell j p r)]
def tlO (K:PySem.W.Frag) (x:Parts) (j:Nat) (p:Str×List Row) (us:List Str) (tb:Addr):O:=.ins (He.ga K "Tellings") [("own", zbg (x.tell j p us)),("words", zcQ us),("sources", .tp x.fl (x.sources.map D.str)),("table", .ref tb)]
structure Tl (K:PySem.W.Frag) (x:Parts) (j:Nat) (p:Str×List Row) (us:List Str) (t tb:Addr) (S:Sto):Prop where
 ob:S t=some (tlO K x j p us tb)
 tb_:S tb=some (.lst (x.rows.map (zxb x j p)))
theorem Tl.kp {t tb:Addr} {S S':Sto} (h:Tl K x j p us t tb S) (k:Kp S S'):Tl K x j p us t tb S':=⟨k _ _ h.ob,k _ _ h.tb_⟩
theorem zlH (P:zay x slots pk wr) {r:List Str} (h:r∈x.rows):zjB x r:=⟨(zda.mp h).1,(zda.mp h).2⟩
theorem zks {t:Addr} (G:FPr K) (F:FTr K) (L:FTl K) (P:zay x slots pk wr) (eo:S o=some (zdb K x)) (W:zjB x us) (hp:(x.derived++x.effects)[j]? = some p) (ht:S t=none)
  (hQ:∀ tb S',Kp S S'->Tl K x j p us t tb S'->Q .non S'):zb1 K [.ref t,.ref o,zcQ us,.str p.1] (DL.put S t (.ins (He.ga K "Tellings") [])) Q E:=by
 have G':=G
 obtain ⟨f1,f2,f3,f4⟩:=G
 obtain ⟨l1,l2,l3,l4⟩:=L
 have s4:=P.s4
 have w4:=P.w4
 have k0:Kp S (DL.put S t (.ins (He.ga K "Tellings") [])):=Kp.refl.new ht
 have e0:DL.put S t (.ins (He.ga K "Tellings") []) t=some (.ins (He.ga K "Tellings") []):=zah
 generalize DL.put S t (.ins (He.ga K "Tellings") [])=S0 at k0 e0 ⊢
 have hto:o≠t:=fun z=>by subst z;rw [eo] at ht;cases ht
 refine zax rfl ?_
 unfold zdu zcQ
 ext
 refine zik G' F P (k0 _ _ eo) W hp fun S1 k1=>?_
 ext
 with_reducible refine zb3 (zs6 k1 e0) l1 (by simp) ?_
 have k2:=(k0.trans k1).wr (o:=.ins (He.ga K "Tellings") (zbE "own" (zbg (x.tell j p us)) [])) ht
 have e2:DL.put S1 t (.ins (He.ga K "Tellings") (zbE "own" (zbg (x.tell j p us)) [])) t=some (.ins (He.ga K "Tellings") [("own", zbg (x.tell j p us))]):=zah
 generalize DL.put S1 t (.ins (He.ga K "Tellings") (zbE "own" (zbg (x.tell j p us)) []))=S2 at k2 e2 ⊢
 ext
 with_reducible refine zb3 e2 l2 (by simp) ?_
 have k3:=k2.wr (o:=.ins (He.ga K "Tellings") (zbE "words" (.tup (us.map D.str)) [("own", zbg (x.tell j p us))])) ht
 have e3:DL.put S2 t (.ins (He.ga K "Tellings") (zbE "words" (.tup (us.map D.str)) [("own", zbg (x.tell j p us))])) t=some (.ins (He.ga K "Tellings") [("own", zbg (x.tell j p us)),("words", .tup (us.map D.str))]):=zah
 generalize DL.put S2 t (.ins (He.ga K "Tellings") (zbE "words" (.tup (us.map D.str)) [("own", zbg (x.tell j p us))]))=S3 at k3 e3 ⊢
 have eo3:=k3 _ _ eo
 unfold zdb at eo3
 ext
 with_reducible refine zb3 e3 l3 (by simp) ?_
 have k4:=k3.wr (o:=.ins (He.ga K "Tellings") (zbE "sources" (.tp x.fl (x.sources.map D.str)) [("own", zbg (x.tell j p us)),("words", .tup (us.map D.str))])) ht
 have e4:DL.put S3 t (.ins (He.ga K "Tellings") (zbE "sources" (.tp x.fl (x.sources.map D.str)) [("own", zbg (x.tell j p us)),("words", .tup (us.map D.str))])) t=some (.ins (He.ga K "Tellings") [("own", zbg (x.tell j p us)),("words", .tup (us.map D.str)),("sources", .tp x.fl (x.sources.map D.str))]):=zah
 generalize DL.put S3 t (.ins (He.ga K "Tellings") (zbE "sources" (.tp x.fl (x.sources.map D.str)) [("own", zbg (x.tell j p us)),("words", .tup (us.map D.str))]))=S4 at k4 e4 ⊢
 ext
 refine zlG G' P (k4 _ _ eo) fun q S5 hq e5 k5=>?_
 ext
 intro z hz
 have zt:z≠t:=fun e=>by subst e;rw [k5 _ _ e4] at hz;cases hz
 refine znf x.rows zcQ (zxb x j p) (S0:=S5) zah hz (Kp.refl.new hz) (Nat.le_trans (zet w4 s4) (by decide)) ?_ ?_
 ·intro r hr S6 k6 nx hT
  refine ⟨k6 _ _ e5,?_⟩
  unfold zcQ
  ext
  refine zik G' F P (k6 _ _ (k5 _ _ (k4 _ _ eo))) (zlH P hr) hp fun S7 k7=>?_
  ext
  with_reducible refine zaT (szl (by simp)) ?_
  exact hT _ k7
 ·intro S6 e6 k6
  refine ⟨k6 _ _ e5,?_⟩
  ext
  with_reducible refine zb3 (zs6 k6 (zs6 k5 e4)) l4 (by simp) ?_
  refine hQ z _ (((k4.trans k5).trans k6).wr ht) ⟨zah,(zaj zt).trans e6⟩
theorem zkS {t tb:Addr} {ps:List Nat} (L:FTl K) (P:zay x slots pk wr) (W:zjB x us) (T:Tl K x j p us t tb S) (hps:∀ i∈ps,i < x.sources.length) (hl:ps.length≤1000)
  (hQ:∀ q S',S q=none->S' q=some (.lst (((x.rows.filter fun r=>agB r us ps).map (x.tell j p)).map zbg))->Kp S S'->Q (.ref q) S'):zbT K [.ref t,.tup (ps.map zgC)] S Q E:=by
 obtain ⟨l1,l2,l3,l4⟩:=L
 obtain ⟨ob,tb_⟩:=T
 unfold tlO at ob
 have s4:=P.s4
 have w4:=P.w4
 refine zax rfl ?_
 unfold zb8
 ext
 intro q hq
 refine zhD x.rows (zxb x j p) (fun r=>agB r us ps) (fun r=>zbg (x.tell j p r)) (S0:=S) zah hq (Kp.refl.new hq) (Nat.le_trans (zet w4 s4) (by decide)) ?_ ?_
 ·intro r hr S1 k1 nx hT hF
  refine ⟨k1 _ _ tb_,?_⟩
  have ob1:=k1 _ _ ob
  have hrl:=(zda.mp hr).1
  unfold zxb
  ext
  refine zqJ (fun i hi=>by rw [hrl];exact hps i hi) (fun i hi=>by rw [W.len];exact hps i hi) hl fun S2 k2=>?_
  ext
  refine ziq (fun hc=>?_) fun hc=>hF hc _ k2
  ext
  exact hT hc _ k2
 ·intro S1 e1 k1
  refine ⟨k1 _ _ tb_,?_⟩
  ext
  exact hQ q _ hq (by rw [e1,List.map_map];rfl) k1
def zrt (x:Parts) (j:Nat) (p:Str×List Row) (us:List Str) (ps:List Nat):Bool:=(x.rows.filter fun r=>agB r us ps).all fun r=>decide (x.tell j p r=x.tell j p us)
theorem zmB {t tb:Addr} {ps:List Nat} (L:FTl K) (P:zay x slots pk wr) (W:zjB x us) (T:Tl K x j p us t tb S) (hps:∀ i∈ps,i < x.sources.length) (hl:ps.length≤1000)
  (hQ:∀ S',Kp S S'->Q (.bl (zrt x j p us ps)) S'):zcj K [.ref t,.tup (ps.map zgC)] S Q E:=by
 have L':=L
 have T':=T
 obtain ⟨l1,l2,l3,l4⟩:=L
 obtain ⟨ob,tb_⟩:=T
 unfold tlO at ob
 have s4:=P.s4
 have w4:=P.w4
 refine zax rfl ?_
 unfold zcO
 ext
 refine zkS L' P W T' hps hl fun q S1 hq e1 k1=>?_
 ext
 intro z hz
 have hlen:((x.rows.filter fun r=>agB r us ps).map (x.tell j p)).length≤1000:=by
  rw [List.length_map]
  exact Nat.le_trans (List.length_filter_le _ _) (Nat.le_trans (zet w4 s4) (by decide))
 refine znf ((x.rows.filter fun r=>agB r us ps).map (x.tell j p)) zbg (fun c=>.bl (decide (c=x.tell j p us))) (S0:=S1) zah hz (Kp.refl.new hz) hlen ?_ ?_
 ·intro c hc S2 k2 nx hT
  refine ⟨k2 _ _ e1,?_⟩
  have ob2:=k2 _ _ (k1 _ _ ob)
  ext
  refine zk1 ?_
  exact hT _ Kp.refl
 ·intro S2 e2 k2
  refine ⟨k2 _ _ e1,?_⟩
  ext
  refine zpT (bs:=((x.rows.filter fun r=>agB r us ps).map (x.tell j p)).map fun c=>decide (c=x.tell j p us)) (by rw [e2,List.map_map (g:=D.bl)];rfl) ?_
  have e:((((x.rows.filter fun r=>agB r us ps).map (x.tell j p)).map fun c=>decide (c=x.tell j p us)).all id)=zrt x j p us ps:=by
   unfold zrt
   rw [List.all_map,List.all_map]
   rfl
  rw [e]
  exact hQ _ (k1.trans k2)
end
theorem zon (n:Nat):zky 0 n=(List.range n).map zgC:=by
 unfold zky
 refine List.map_congr_left fun i _=>?_
 unfold zgC
 simp
theorem zsx {S:Sto} {n:Nat} (ps:List Nat):(ps.map zgC).mapM (rs S n)=some (ps.map fun (i:Nat)=>PyData.int (i:Int)):=by
 induction ps with
 | nil=>rfl
 | cons z zs ih=>
  rw [List.map_cons,List.mapM_cons,ih]
  cases n <;> rfl
theorem zsw {S:Sto} {fl:Bool} (ps:List Nat):rs S 40 (.tp fl (ps.map zgC))=some (.tuple (ps.map fun (i:Nat)=>PyData.int (i:Int))):=by
 show (List.mapM (rs S 39) (ps.map zgC)).map PyData.tuple=_
 rw [zsx]
 rfl
theorem zqH (ps:List Nat) (i:Nat):((ps.map fun (i:Nat)=>PyData.int (i:Int)).any fun z=>PyData.eqv z (.int i))=decide (i∈ps):=by
 induction ps with
 | nil=>rfl
 | cons z zs ih=>
  rw [List.map_cons,List.any_cons,ih]
  have e:PyData.eqv (.int (z:Int)) (.int (i:Int))=decide (z=i):=by
   show decide ((z:Int)=(i:Int))=_
   by_cases h:z=i
   ·subst h;simp
   ·rw [decide_eq_false h,decide_eq_false (by omega)]
  rw [e]
  by_cases h:z=i
  ·subst h;simp
  ·have h2:¬ i=z:=fun q=>h q.symm
   simp [h,h2]
theorem zvu {g:Bool->Bool} {S:Sto} {Q:DQ} {ps:List Nat} {i:Nat} (h:Q (.bl (g (decide (i∈ps)))) S):zlJ g (.int (i:Int)) (.tup (ps.map zgC)) S Q:=by
 refine zjj (p:=.int i) (qs:=ps.map fun (i:Nat)=>PyData.int (i:Int)) rfl (zsw ps) ?_
 rw [zqH]
 exact h
def oth (n:Nat) (ps:List Nat):List Nat:=(List.range n).filter fun i=>!decide (i∈ps)
section
variable {K:PySem.W.Frag} {S:Sto} {o:Addr} {x:Parts} {slots us:List Str} {pk wr:Bool} {j:Nat} {p:Str×List Row} {Q:DQ} {E:XQ}
def Parts.src (x:Parts) (i:Nat):Str:=x.sources.getD i ""
def zpm (x:Parts) (i:Nat):D:=.str (x.src i)
theorem zlL {i:Nat} (h:i < x.sources.length):x.sources[i]? = some (x.src i):=by
 unfold Parts.src
 rw [List.getD_eq_getElem?_getD,List.getElem?_eq_getElem h]
 rfl
theorem zrI {i:Nat} (h:i < x.sources.length):x.src i∈x.sources:=List.mem_of_getElem? (zlL h)
def zCB (js:List Nat):Bool:=(js.zip (js.drop 1)).all fun z=>decide (z.1 < z.2)
theorem znz {g:Bool->Bool} {S:Sto} {Q:DQ} {z:Str} {zs:List Str} {fl:Bool} (h:Q (.bl (g (decide (z∈zs)))) S):zlJ g (.str z) (.tp fl (zs.map D.str)) S Q:=by
 refine zjj (p:=.str z) (qs:=zs.map PyData.str) rfl (zir zs) ?_
 rw [zdw]
 exact h
end
section
variable {K:PySem.W.Frag} {S:Sto} {o:Addr} {x:Parts} {slots us:List Str} {pk wr:Bool} {j:Nat} {p:Str×List Row} {Q:DQ} {E:XQ}
end
theorem zso {a b:Addr} {xs ys:List D} {S:Sto} {Q:DQ} (e1:S a=some (.lst xs)) (e2:S b=some (.lst ys)) (hl:xs.length+ys.length≤sizeLine) (h:Q .non (DL.put S a (.lst (xs++ys)))):zpW (.ref a) [.ref b] S Q:=by
 unfold zpW
 simp only [e1,e2]
 exact ⟨hl,h⟩
theorem zlr {α:Type} (f:α->Bool):∀ xs:List α,decide ((((xs.filter fun a=>!f a).length:Nat):Int)=0)=xs.all f
 | []=>rfl
 | x :: xs=>by
  rw [List.all_cons,List.filter_cons]
  cases h:f x with
  | true=>simpa using zlr f xs
  | false=>simp;omega
section
variable {K:PySem.W.Frag} {S:Sto} {o:Addr} {x:Parts} {slots us:List Str} {pk wr:Bool} {j:Nat} {p:Str×List Row} {Q:DQ} {E:XQ}
theorem zkj (x:Parts):x.d = .tup [.tup (x.words.map D.str),.tp x.fl (x.sources.map D.str),.tup (x.derived.map pairD),.tup (x.effects.map pairD)]:=rfl
theorem znB (F:FBc K) (G:FPr K) (P:zay x slots pk wr) (hQ:∀ o S',S o=none->S' o=some (zdb K x)->Kp S S'->Q (.ref o) S'):zew K [x.d] S Q E:=by
 rw [zkj]
 refine zax rfl ?_
 unfold zfd
 ext
 intro o ho
 refine zlS F G P zah fun S7 fr7 eo7=>⟨rfl,?_⟩
 refine hQ o _ ho eo7 fun b ob hb=>?_
 have hbo:b≠o:=fun q=>by subst q;rw [ho] at hb;cases hb
 exact fr7 b ob hbo ((zaj hbo).trans hb)
theorem zmA {ns:List Int} {a l:Addr} (h:StA ns a l S) (P:zay x slots pk wr) (hb:0 < (x.derived++x.effects).length) (hQ:∀ (j:Nat) (p:Str×List Row) S',(x.derived++x.effects)[j]? = some p->StA ns a l S'->Fr a S S'->Q (.str p.1) S'):zgr K [.ref a,x.d] S Q E:=by
 have d6:=P.d6
 have e4:=P.e4
 rw [zkj]
 refine zax rfl ?_
 unfold zhL
 ext
 with_reducible refine zc9 (szl (by simp;omega)) ?_
 rw [← List.map_append]
 ext
 refine zbf h (by simp at hb ⊢; omega) (zcx (by omega) (by simp;omega)) fun r S1 r0 r1 h1 f1=>?_
 obtain ⟨i,rfl⟩:=Int.eq_ofNat_of_zero_le r0
 have hi:i < (x.derived++x.effects).length:=by simp at r1 ⊢; omega
 have ei:L2.atI ((x.derived++x.effects).map pairD) (i:Int)=some (pairD (x.derived++x.effects)[i]):=atI_nat (by rw [List.getElem?_map,List.getElem?_eq_getElem hi];rfl)
 ext
 unfold pairD
 ext
 exact hQ i _ _ (List.getElem?_eq_getElem hi) h1 f1
theorem zk4 (P:zay x slots pk wr) (hQ:∀ q S',S q=none->S' q=some (.lst (x.rows.map zcQ))->Kp S S'->Q (.ref q) S'):zb7 K [x.d] S Q E:=by
 have s4:=P.s4
 have w4:=P.w4
 rw [zkj]
 refine zax rfl ?_
 unfold zco
 ext
 with_reducible refine zaT (szl (by simp)) ?_
 ext
 with_reducible refine zcl (szl (by simp)) fun l0 h0=>?_
 have k0:Kp S (DL.put S l0 (.lst [.tup []])):=Kp.refl.new h0
 have e0:DL.put S l0 (.lst [.tup []]) l0=some (.lst ((zdW x.words 0).map zcQ)):=zah
 generalize DL.put S l0 (.lst [.tup []])=S1 at k0 e0 ⊢
 walk_at "dmn"
 with_reducible refine zcY ?_
 walk_at "dmn"
 refine za0 (fun i env S'=>∃ (l:Addr) (x2 x3 x4:Option D),env=[some (.tup [.tup (x.words.map D.str),.tp x.fl (x.sources.map D.str),.tup (x.derived.map pairD),.tup (x.effects.map pairD)]),some (.ref l),x2,x3,x4,none]∧S' l=some (.lst ((zdW x.words i).map zcQ))∧S l=none∧Kp S S') _ 0 ⟨l0,_,_,_,rfl,e0,h0,k0⟩ ?_ ?_
 ·rintro i y _ S2 hy ⟨l,x2,x3,x4,rfl,e2,hl,k2⟩ nx hnx
  rw [Nat.zero_add] at e2 hnx
  have hi:i < x.sources.length:=by
   have:=(List.getElem?_eq_some_iff.mp hy).1
   simpa using this
  have hle:=zet (ws:=x.words) w4 (n:=i+1) (by omega)
  have hle0:=zet (ws:=x.words) w4 (n:=i) (by omega)
  refine ⟨trivial,?_⟩
  refine zha ?_
  ext
  with_reducible refine zcl (szl (by simp)) fun l1 h1=>?_
  have ll:l≠l1:=fun z=>by subst z;rw [e2] at h1;cases h1
  have l1S:S l1=none:=k2.none_ h1
  have k3:=k2.new (o:=.lst []) h1
  have e3:=(zaj (S:=S2) (o:=.lst []) ll).trans e2
  have f3:DL.put S2 l1 (.lst []) l1=some (.lst []):=zah
  generalize DL.put S2 l1 (.lst [])=S3 at k3 e3 f3 ⊢
  walk_at "dmn"
  with_reducible refine zcY ?_
  walk_at "dmn"
  refine za0 (fun m env S'=>∃ (x4:Option D),env=[some (.tup [.tup (x.words.map D.str),.tp x.fl (x.sources.map D.str),.tup (x.derived.map pairD),.tup (x.effects.map pairD)]),some (.ref l),some y,some (.ref l1),x4,none]∧S' l=some (.lst ((zdW x.words i).map zcQ))∧S' l1=some (.lst ((((zdW x.words i).take m).flatMap fun r=>x.words.map fun w=>r++[w]).map zcQ))∧Kp S S') _ 0 ⟨_,rfl,e3,f3,k3⟩ ?_ ?_
  ·rintro m z _ S4 hz ⟨x4,rfl,e4,f4,k4⟩ nx2 hnx2
   rw [Nat.zero_add] at f4 hnx2
   rw [List.getElem?_map] at hz
   cases er:(zdW x.words i)[m]? with
   | none=>rw [er] at hz;cases hz
   | some r=>
    rw [er] at hz
    cases hz
    have hm:m < (zdW x.words i).length:=(List.getElem?_eq_some_iff.mp er).1
    have hr:=(zda.mp (List.mem_of_getElem? er)).1
    have hfl:∀ k,(((zdW x.words i).take k).flatMap fun r=>x.words.map fun w=>r++[w]).length≤1000:=fun k=>by
     rw [zlz (k:=x.words.length) (fun a=>by simp)]
     have h1:((zdW x.words i).take k).length≤(zdW x.words i).length:=by simp;omega
     rw [zfm,Nat.pow_succ,← zfm] at hle
     exact Nat.le_trans (Nat.mul_le_mul_right _ h1) (by omega)
    have et:(((zdW x.words i).take (m+1)).flatMap fun r=>x.words.map fun w=>r++[w])=(((zdW x.words i).take m).flatMap fun r=>x.words.map fun w=>r++[w])++x.words.map fun w=>r++[w]:=by
     rw [List.take_succ,er,List.flatMap_append]
     simp
    refine ⟨e4,?_⟩
    unfold zcQ
    ext
    intro q hq
    have qS:S q=none:=k4.none_ hq
    have ql:l≠q:=fun z=>by subst z;rw [e4] at hq;cases hq
    have ql1:l1≠q:=fun z=>by subst z;rw [f4] at hq;cases hq
    refine znf x.words D.str (fun w=>zcQ (r++[w])) (S0:=S4) zah hq (Kp.refl.new hq) (by omega) ?_ ?_
    ·intro w hw S5 k5 nx3 hT
     refine ⟨trivial,?_⟩
     ext
     with_reducible refine zaT (szl (by simp)) ?_
     ext
     with_reducible refine zc9 (szl (by simp;omega)) ?_
     have h:=hT _ (Kp.refl (S:=S5))
     unfold zcQ at h
     rw [List.map_append] at h
     exact h
    ·intro S5 e5 k5
     refine ⟨trivial,?_⟩
     ext
     have f5:=k5 _ _ f4
     have hn:=hfl (m+1)
     rw [et,List.length_append] at hn
     refine zso f5 e5 (szl (by simp at hn ⊢; omega)) ?_
     ext
     refine hnx2 _ _ ⟨_,rfl,?_,?_,(k4.trans k5).wr l1S⟩
     ·rw [zaj ll];exact k5 _ _ e4
     ·rw [zah,et,List.map_append]
      simp only [List.map_map]
      rfl
  ·rintro _ S4 ⟨x4,rfl,e4,f4,k4⟩
   rw [Nat.zero_add,List.length_map,List.take_length] at f4
   refine ⟨e4,?_⟩
   ext
   exact hnx _ _ ⟨l1,_,_,_,rfl,f4,l1S,k4⟩
 ·rintro _ S2 ⟨l,x2,x3,x4,rfl,e2,hl,k2⟩
  rw [Nat.zero_add,List.length_map] at e2
  refine ⟨trivial,?_⟩
  ext
  exact hQ l _ hl e2 k2
end
mutual
theorem zsy {T:Str->Str} {h:Shp} (hd:h.der=true):∀ (x:Row) (r:RS),x.ok h->(x.run T r).says=r.says∧(x.run T r).written=r.written
 | .read c s,r,_=>by rw [Row.run];exact ⟨rfl,rfl⟩
 | .peek c s,r,_=>by rw [Row.run];exact ⟨rfl,rfl⟩
 | .put c s,r,_=>by rw [Row.run];exact ⟨rfl,rfl⟩
 | .give s,r,_=>by rw [Row.run];exact ⟨rfl,rfl⟩
 | .say s,r,ok=>by rw [Row.ok] at ok;rw [hd] at ok;cases ok.1
 | .write c s,r,ok=>by rw [Row.ok] at ok;rw [hd] at ok;cases ok.1.1
 | .ite s w y n,r,ok=>by
  rw [Row.ok] at ok
  rw [Row.run]
  split
  ·exact zju hd y r ok.2.2.1
  ·exact zju hd n r ok.2.2.2
theorem zju {T:Str->Str} {h:Shp} (hd:h.der=true):∀ (rs:List Row) (r:RS),zb4 h rs->(zam T rs r).says=r.says∧(zam T rs r).written=r.written
 | [],r,_=>by rw [zam];exact ⟨rfl,rfl⟩
 | x :: rs,r,ok=>by
  rw [zb4] at ok
  rw [zam]
  split
  ·exact ⟨rfl,rfl⟩
  ·have a:=zsy (T:=T) hd x r ok.1
   have b:=zju (T:=T) hd rs (x.run T r) ok.2
   exact ⟨b.1.trans a.1,b.2.trans a.2⟩
end
theorem zg7:∀ {ps:List (Str×List Row)} {j:Nat} {p:Str×List Row},(ps.map (·.1)).Nodup->ps[j]? = some p->ps.filter (fun z=>decide (z.1=p.1))=[p]
 | [],_,_,_,h=>by simp at h
 | a :: ps,0,p,nd,h=>by
  simp at h
  subst h
  rw [List.map_cons,List.nodup_cons] at nd
  rw [List.filter_cons,if_pos (by simp),List.filter_eq_nil_iff.mpr]
  intro z hz
  have:z.1≠a.1:=fun e=>nd.1 (e ▸ List.mem_map_of_mem hz)
  simpa using this
 | a :: ps,j+1,p,nd,h=>by
  rw [List.map_cons,List.nodup_cons] at nd
  have h':ps[j]? = some p:=by simpa using h
  have ha:a.1≠p.1:=fun e=>nd.1 (e ▸ List.mem_map_of_mem (List.mem_of_getElem? h'))
  rw [List.filter_cons,if_neg (by simpa using ha)]
  exact zg7 nd.2 h'
theorem zgM {x:Parts} {slots:List Str} {pk wr:Bool} (P:zay x slots pk wr):((x.derived++x.effects).map (·.1)).Nodup:=by
 have:=P.nn.2
 rw [List.append_assoc,← List.map_append] at this
 exact (List.nodup_append.mp this).2.1
section
variable {K:PySem.W.Frag} {S:Sto} {o:Addr} {x:Parts} {slots us:List Str} {pk wr:Bool} {j:Nat} {p:Str×List Row} {Q:DQ} {E:XQ}
theorem zpa (P:zay x slots pk wr) (hp:(x.derived++x.effects)[j]? = some p):(p.1∈x.effects.map (·.1)) ↔ ¬ j < x.derived.length:=by
 have nd:=zgM P
 have hj:=(List.getElem?_eq_some_iff.mp hp).1
 constructor
 ·intro hm hlt
  obtain ⟨q,hq,e⟩:=List.mem_map.mp hm
  obtain ⟨k,hk⟩:=List.getElem?_of_mem hq
  have h2:(x.derived++x.effects)[x.derived.length+k]? = some q:=by
   rw [List.getElem?_append_right (by omega)]
   rw [show x.derived.length+k - x.derived.length=k by omega]
   exact hk
  have:=zjw nd (zdD hp) (by rw [zdD h2,e])
  omega
 ·intro hge
  rw [List.getElem?_append_right (by omega)] at hp
  exact List.mem_map_of_mem (List.mem_of_getElem? hp)
theorem zvS (P:zay x slots pk wr) (W:zjB x us) (hp:(x.derived++x.effects)[j]? = some p) (hQ:∀ S',Kp S S'->Q (zbg (x.tell j p us)) S'):zcK K [x.d,zcQ us,.str p.1] S Q E:=by
 have hdf:=zpc P.w2
 have d6:=P.d6
 have e4':=P.e4
 obtain ⟨h,bo,hc⟩:=zjA P hp
 have bc:=bo.cnt
 have bd:=bo.dep
 rw [zkj]
 refine zax rfl ?_
 unfold zdg
 ext
 refine zj1 (x:=x) P W (fun S' k i u hu Q h=>by unfold zcQ;exact zsg (atI_nat (by rw [List.getElem?_map,hu];rfl)) h) fun tk tkv S3 htk e3 r3 k3=>?_
 ext
 refine zlP fun rc hrc=>?_
 have k4:Kp S3 (DL.put S3 rc (.dic [])):=Kp.refl.new hrc
 have e4:DL.put S3 rc (.dic []) rc=some (.dic []):=zah
 generalize DL.put S3 rc (.dic [])=S4 at k4 e4 ⊢
 ext
 with_reducible refine zcl (szl (by simp)) fun na hna=>?_
 have nar:na≠rc:=fun z=>by subst z;rw [e4] at hna;cases hna
 have naS:=k4.none_ hna
 have k5:=k4.new (o:=.lst []) hna
 have a5:=(zaj (S:=S4) (o:=.lst []) nar.symm).trans e4
 have b5:DL.put S4 na (.lst []) na=some (.lst []):=zah
 generalize DL.put S4 na (.lst [])=S5 at k5 a5 b5 ⊢
 ext
 with_reducible refine zcl (szl (by simp)) fun pa hpa=>?_
 have par:pa≠rc:=fun z=>by subst z;rw [a5] at hpa;cases hpa
 have pan:pa≠na:=fun z=>by subst z;rw [b5] at hpa;cases hpa
 have paS:=k5.none_ hpa
 have k6:=k5.new (o:=.lst []) hpa
 have a6:=(zaj (S:=S5) (o:=.lst []) par.symm).trans a5
 have b6:=(zaj (S:=S5) (o:=.lst []) pan.symm).trans b5
 have c6:DL.put S5 pa (.lst []) pa=some (.lst []):=zah
 generalize DL.put S5 pa (.lst [])=S6 at k6 a6 b6 c6 ⊢
 ext
 with_reducible refine zcl (szl (by simp)) fun sy hsy=>?_
 have syr:sy≠rc:=fun z=>by subst z;rw [a6] at hsy;cases hsy
 have syn:sy≠na:=fun z=>by subst z;rw [b6] at hsy;cases hsy
 have syp:sy≠pa:=fun z=>by subst z;rw [c6] at hsy;cases hsy
 have syS:=k6.none_ hsy
 have k7:=k6.new (o:=.lst []) hsy
 have a7:=(zaj (S:=S6) (o:=.lst []) syr.symm).trans a6
 have b7:=(zaj (S:=S6) (o:=.lst []) syn.symm).trans b6
 have c7:=(zaj (S:=S6) (o:=.lst []) syp.symm).trans c6
 have d7:DL.put S6 sy (.lst []) sy=some (.lst []):=zah
 generalize DL.put S6 sy (.lst [])=S7 at k7 a7 b7 c7 d7 ⊢
 ext
 with_reducible refine zcl (szl (by simp)) fun wr' hwr=>?_
 have wrr:wr'≠rc:=fun z=>by subst z;rw [a7] at hwr;cases hwr
 have wrn:wr'≠na:=fun z=>by subst z;rw [b7] at hwr;cases hwr
 have wrp:wr'≠pa:=fun z=>by subst z;rw [c7] at hwr;cases hwr
 have wry:wr'≠sy:=fun z=>by subst z;rw [d7] at hwr;cases hwr
 have wrS:=k7.none_ hwr
 have k8:=k7.new (o:=.lst []) hwr
 have a8:=(zaj (S:=S7) (o:=.lst []) wrr.symm).trans a7
 have b8:=(zaj (S:=S7) (o:=.lst []) wrn.symm).trans b7
 have c8:=(zaj (S:=S7) (o:=.lst []) wrp.symm).trans c7
 have d8:=(zaj (S:=S7) (o:=.lst []) wry.symm).trans d7
 have e8:DL.put S7 wr' (.lst []) wr'=some (.lst []):=zah
 generalize DL.put S7 wr' (.lst [])=S8 at k8 a8 b8 c8 d8 e8 ⊢
 clear k4 k5 k6 k7 a5 a6 a7 b5 b6 b7 c6 c7 d7 e4
 ext
 refine zof (kvs:=[(.inr "read", .ref na),(.inr "peek", .ref pa),(.inr "say", .ref sy),(.inr "write", .ref wr')]) rfl a8 (by simp) ?_
 have k9:=k8.wr (o:=.dic (zbb [] [(.inr "read", .ref na),(.inr "peek", .ref pa),(.inr "say", .ref sy),(.inr "write", .ref wr')])) hrc
 have a9:DL.put S8 rc (.dic (zbb [] [(.inr "read", .ref na),(.inr "peek", .ref pa),(.inr "say", .ref sy),(.inr "write", .ref wr')])) rc=some (.dic (zbb [] [(.inr "read", .ref na),(.inr "peek", .ref pa),(.inr "say", .ref sy),(.inr "write", .ref wr')])):=zah
 have pp:∀ b o,b≠rc->S8 b=some o->DL.put S8 rc (.dic (zbb [] [(.inr "read", .ref na),(.inr "peek", .ref pa),(.inr "say", .ref sy),(.inr "write", .ref wr')])) b=some o:=fun b o h1 h2=>(zaj h1).trans h2
 have b9:=pp _ _ nar b8
 have c9:=pp _ _ par c8
 have d9:=pp _ _ syr d8
 have e9:=pp _ _ wrr e8
 clear pp
 generalize DL.put S8 rc (.dic (zbb [] [(.inr "read", .ref na),(.inr "peek", .ref pa),(.inr "say", .ref sy),(.inr "write", .ref wr')]))=S9 at k9 a9 b9 c9 d9 e9 ⊢
 clear k8 a8 b8 c8 d8 e8
 ext
 with_reducible refine zc9 (szl (by simp;omega)) ?_
 rw [← List.map_append]
 ext
 intro q hq
 refine zhD (x.derived++x.effects) pairD (fun z=>decide (z.1=p.1)) (fun z=>.tup (zaU z.2)) (S0:=S9) zah hq (Kp.refl.new hq) (by simp;omega) ?_ ?_
 ·intro z hz T1 t1 nx hT hF
  refine ⟨trivial,?_⟩
  unfold pairD
  ext
  refine ziq (fun hc=>?_) fun hc=>hF hc _ Kp.refl
  ext
  exact hT hc _ Kp.refl
 intro SA eA kA
 rw [zg7 (zgM P) hp] at eA
 refine ⟨trivial,?_⟩
 have aA:=kA _ _ a9
 have bA:=kA _ _ b9
 have cA:=kA _ _ c9
 have dA:=kA _ _ d9
 have eA':=kA _ _ e9
 have k3A:=k9.trans kA
 clear a9 b9 c9 d9 e9 k9 kA
 ext
 with_reducible refine zkw fun sa hsa=>?_
 have sar:sa≠rc:=fun z=>by subst z;rw [aA] at hsa;cases hsa
 have san:sa≠na:=fun z=>by subst z;rw [bA] at hsa;cases hsa
 have sap:sa≠pa:=fun z=>by subst z;rw [cA] at hsa;cases hsa
 have say:sa≠sy:=fun z=>by subst z;rw [dA] at hsa;cases hsa
 have saw:sa≠wr':=fun z=>by subst z;rw [eA'] at hsa;cases hsa
 have saS:=k3A.none_ hsa
 have dd:Rd S3 rc sa na pa sy wr':=⟨hrc,saS,naS,paS,syS,wrS,sar.symm,nar.symm,par.symm,syr.symm,wrr.symm,san,sap,say,saw,pan.symm,syn.symm,wrn.symm,syp.symm,wrp.symm,wry.symm⟩
 have LR:Lr S3 sa rc na pa sy wr' x.df (r0 x.df) 0 (DL.put SA sa (.dic [])):=by
  refine ⟨⟨[],zah,fun z=>rfl,Nat.le_refl _⟩,⟨_,(zaj sar.symm).trans aA,?_,?_,?_,?_⟩,(zaj san.symm).trans bA,(zaj sap.symm).trans cA,(zaj say.symm).trans dA,(zaj saw.symm).trans eA',Nat.le_refl _,Nat.le_refl _,Nat.le_refl _,Nat.le_refl _,k3A.new hsa⟩ <;>
   (simp only [zbb,List.foldl_cons,List.foldl_nil];repeat (first | rw [zbl,if_pos (by with_reducible rfl)] | rw [zbl,if_neg (by decide +kernel)]))
 generalize DL.put SA sa (.dic [])=SB at LR ⊢
 ext
 refine zdE (h:=h) dd e3 (T:=x.tab us) (fun c hc'=>r3 c (hc c hc')) 6 p.2 (r:=r0 x.df) rfl LR bo.ok (by omega) (by omega) fun SC LC=>?_
 have k3C:=k3.trans LC.kp
 have ySC:=LC.sy'
 have wSC:=LC.wr'
 obtain ⟨rkv,eRC,_,_,vsay,vwr⟩:=LC.rc_
 have hb3:=LC.b3
 have hb4:=LC.b4
 ext
 intro q2 hq2
 refine znf x.effects pairD (fun z=>.str z.1) (S0:=SC) zah hq2 (Kp.refl.new hq2) (by omega) ?_ ?_
 ·intro z hz T1 t1 nx hT
  refine ⟨trivial,?_⟩
  unfold pairD
  ext
  exact hT _ Kp.refl
 intro SD eD kD'
 refine ⟨trivial,?_⟩
 have eD2:SD q2=some (.lst ((x.effects.map (·.1)).map D.str)):=by rw [eD,List.map_map];rfl
 have ySD:=kD' _ _ ySC
 have wSD:=kD' _ _ wSC
 have eRD:=kD' _ _ eRC
 ext
 refine zlO (p:=.str p.1) eD2 rfl (zgw eD2) ?_
 rw [zdw]
 have hfin:=hQ _ (k3C.trans kD')
 unfold zbg Parts.tell at hfin
 by_cases hj:j < x.derived.length
 ·rw [decide_eq_false (fun hm=>(zpa P hp).mp hm hj)]
  have hp':=hp
  rw [List.getElem?_append_left hj] at hp'
  have nd:=zju (T:=x.tab us) (h:=⟨true,false,false,x.words,x.sources,x.sources++(x.derived.take j).map (·.1),slots⟩) rfl p.2 (r0 x.df) (P.der j p hp').ok
  rw [nd.1,nd.2,if_pos hj] at hfin
  ext
  cases hg:(zam (x.tab us) p.2 (r0 x.df)).given with
  | none=>
   rw [hg] at hfin
   unfold zme
   ext
   with_reducible refine zaT (szl (by simp)) ?_
   ext
   with_reducible refine zaT (szl (by simp)) ?_
   ext
   with_reducible refine zaT (szl (by simp)) ?_
   exact hfin
  | some z=>
   rw [hg] at hfin
   unfold zme
   ext
   with_reducible refine zlN ?_
   ext
   with_reducible refine zaT (szl (by simp)) ?_
   ext
   with_reducible refine zaT (szl (by simp)) ?_
   ext
   with_reducible refine zaT (szl (by simp)) ?_
   exact hfin
 ·rw [decide_eq_true ((zpa P hp).mpr hj)]
  rw [if_neg hj] at hfin
  ext
  with_reducible refine zaT (szl (by simp)) ?_
  exact hfin
def znh (r:List Str):List Key:=r.map Sum.inr
theorem zng {r s:List Str} (h:znh r=znh s):r=s:=by
 unfold znh at h
 exact List.map_inj_right (fun a b e=>Sum.inr.inj e) |>.mp h
def zn8 (x:Parts) (j:Nat) (p:Str×List Row) (rs:List (List Str)):List (List Key×D):=rs.map fun r=>(znh r,zbg (x.tell j p r))
theorem zl4 (r:List Str):zl5 (zcQ r)=some (znh r):=by
 show (r.map D.str).mapM keyD=some (r.map Sum.inr)
 induction r with
 | nil=>rfl
 | cons z zs ih=>
  rw [List.map_cons,List.mapM_cons,ih]
  rfl
theorem zmV {ws:List Str} (h:ws.Nodup):∀ n,(zdW ws n).Nodup
 | 0=>by simp [zdW]
 | n+1=>by
  rw [zdW]
  refine List.pairwise_flatMap.mpr ⟨fun r _=>?_,?_⟩
  ·rw [List.pairwise_map]
   exact h.imp fun hne e=>hne (by simpa using e)
  ·refine (zmV h n).imp fun {a b} hne u hu v hv e=>?_
   obtain ⟨w,_,rfl⟩:=List.mem_map.mp hu
   obtain ⟨w',_,rfl⟩:=List.mem_map.mp hv
   exact hne (List.append_inj_left' e rfl)
theorem zpY {κ:Type} [DecidableEq κ] {kvs:List (κ×D)} {k:κ} {v:D} (h:∀ kv∈kvs,kv.1≠k):putD kvs k v=kvs++[(k,v)]:=by
 unfold putD
 rw [if_neg]
 intro e
 obtain ⟨kv,hm,he⟩:=List.any_eq_true.mp e
 exact h kv hm (of_decide_eq_true he)
theorem zmh (P:zay x slots pk wr) (hp:(x.derived++x.effects)[j]? = some p) (hQ:∀ t S',S t=none->S' t=some (.dit (zn8 x j p x.rows))->Kp S S'->Q (.ref t) S'):zdP K [x.d,.str p.1] S Q E:=by
 have s4:=P.s4
 have w4:=P.w4
 have nd:x.rows.Nodup:=zmV P.ww.2 _
 have hle:x.rows.length≤256:=zet w4 s4
 refine zax rfl ?_
 unfold zeF
 ext
 intro t ht
 have k0:Kp S (DL.put S t (.dit [])):=Kp.refl.new ht
 have e0:DL.put S t (.dit []) t=some (.dit []):=zah
 generalize DL.put S t (.dit [])=S1 at k0 e0 ⊢
 walk_at "dmn"
 with_reducible refine zcY ?_
 walk_at "dmn"
 refine zk4 P fun q S2 hq e2 k2=>?_
 have tq:t≠q:=fun z=>by subst z;rw [e0] at hq;cases hq
 have qS:S q=none:=k0.none_ hq
 walk_at "dmn"
 refine za0 (fun i env S'=>∃ (x3:Option D),env=[some x.d,some (.str p.1),some (.ref t),x3]∧S' t=some (.dit (zn8 x j p (x.rows.take i)))∧S' q=some (.lst (x.rows.map zcQ))∧Kp S S') _ 0 ⟨_,rfl,k2 _ _ e0,e2,k0.trans k2⟩ ?_ ?_
 ·rintro i y _ S3 hy ⟨x3,rfl,e3,f3,k3⟩ nx hnx
  rw [Nat.zero_add] at e3 hnx
  rw [List.getElem?_map] at hy
  cases er:x.rows[i]? with
  | none=>rw [er] at hy;cases hy
  | some r=>
   rw [er] at hy
   cases hy
   have hi:i < x.rows.length:=(List.getElem?_eq_some_iff.mp er).1
   have hr:=List.mem_of_getElem? er
   refine ⟨f3,?_⟩
   ext
   refine zvS P (zlH P hr) hp fun S4 k4=>?_
   ext
   refine zvc (zl4 r) (k4 _ _ e3) (zfh (by unfold zn8;simp;omega)) ?_
   refine hnx _ _ ⟨_,rfl,?_,?_,(k3.trans k4).wr ht⟩
   ·rw [zah,zpY,List.take_succ,er]
    ·unfold zn8
     simp
    ·intro kv hm e
     unfold zn8 at hm
     obtain ⟨s,hs,rfl⟩:=List.mem_map.mp hm
     have es:s=r:=zng e
     subst es
     obtain ⟨k,hk⟩:=List.getElem?_of_mem hs
     have hk':k < i:=by
      have:=(List.getElem?_eq_some_iff.mp hk).1
      simp at this
      omega
     rw [List.getElem?_take,if_pos hk'] at hk
     obtain ⟨a1,b1⟩:=List.getElem?_eq_some_iff.mp hk
     obtain ⟨a2,b2⟩:=List.getElem?_eq_some_iff.mp er
     have:=(List.getElem_inj nd).mp (b1.trans b2.symm)
     omega
   ·rw [zaj tq.symm]
    exact k4 _ _ f3
 ·rintro _ S3 ⟨x3,rfl,e3,f3,k3⟩
  rw [Nat.zero_add,List.length_map,List.take_length] at e3
  refine ⟨f3,?_⟩
  ext
  exact hQ t _ ht e3 k3
def zpn (x:Parts) (j:Nat) (p:Str×List Row):D:=.rod (x.rows.map znh) (x.rows.map fun r=>zbg (x.tell j p r))
theorem zmW (x:Parts):((x.rows.map znh).map fun k=>D.tup (k.map kD))=x.rows.map zcQ:=by
 rw [List.map_map]
 refine List.map_congr_left fun r _=>?_
 unfold zcQ znh
 simp only [Function.comp,List.map_map]
 rfl
theorem zrA {rs:List (List Str)} {r:List Str} (h:r∈rs):valD (zn8 x j p rs) (znh r)=some (zbg (x.tell j p r)):=by
 induction rs with
 | nil=>simp at h
 | cons s rs ih=>
  unfold zn8 valD
  rw [List.map_cons,List.find?_cons]
  by_cases e:znh s=znh r
  ·have:=zng e
   subst this
   simp
  ·simp only [decide_eq_false e]
   rcases List.mem_cons.mp h with z | z
   ·exact absurd (congrArg znh z.symm) e
   ·exact ih z
theorem zmk {S:Sto} {Q:DQ} {r:List Str} (h:r∈x.rows) (hq:Q (zbg (x.tell j p r)) S):zn4 (zpn x j p) (zcQ r) S Q:=by
 unfold zpn
 refine zsh (zl4 r) (e:=zbg (x.tell j p r)) ?_ hq
 rw [List.zip_map']
 exact zrA h
theorem zqW (W:zjB x us):us∈x.rows:=zda.mpr ⟨W.len,W.mem⟩
end
def zii (ps:List Nat):D:=.tup (ps.map zgC)
structure zDF (n:Nat) (ps:List Nat):Prop where
 lt:∀ i∈ps,i < n
 inc:zCB ps=true
 len:ps.length≤4
def kR2 (R:List D->(Sto->Prop)->Sto->Prop):List D->Sto->Prop:=fun ds S1=>match ds with
 | [.int i,.int j]=>(-(2 ^ 62)≤i∧i < 2 ^ 62∧-(2 ^ 62)≤j∧j < 2 ^ 62)∧R (zky i (j - i).toNat) (fun _=>True) S1
 | _=>False
theorem zyM {ms:AM} {env:Slo} {S:Sto} {R:List D->(Sto->Prop)->Sto->Prop} (h:ms env S (kR2 R)):zlw ms env S R:=h
theorem zyt {i j:Int} {S:Sto} {R:List D->(Sto->Prop)->Sto->Prop} (h0:-(2 ^ 62)≤i∧i < 2 ^ 62∧-(2 ^ 62)≤j∧j < 2 ^ 62) (h:R (zky i (j - i).toNat) (fun _=>True) S):kR2 R [.int i,.int j] S:=⟨h0,h⟩
instance zDc {ms:AM} {env:Slo} {S:Sto} {R:List D->(Sto->Prop)->Sto->Prop}:St (zlw ms env S R) (ms env S (kR2 R)):=⟨fun h=>zyM h⟩
theorem last_at {ps:List Nat} {m:Nat} (h:ps.getLast? = some m):L2.atI (ps.map zgC) (-1)=some (.int m):=by
 have hne:ps≠[]:=fun e=>by rw [e] at h;cases h
 have hl:0 < ps.length:=List.length_pos_iff.mpr hne
 unfold L2.atI
 rw [show L2.ixN (ps.map zgC).length (-1)=some (ps.length - 1) by
  unfold L2.ixN
  rw [List.length_map,if_neg (by omega)]
  rw [if_pos (by omega)]
  congr 1
  omega]
 show (ps.map zgC)[ps.length - 1]? = _
 rw [List.getElem?_map,← List.getLast?_eq_getElem?,h]
 rfl
section
variable {K:PySem.W.Frag} {S:Sto} {Q:DQ} {E:XQ}
end
theorem StA.kp {ns:List Int} {a l:Addr} {S S':Sto} (h:StA ns a l S) (k:Kp S S'):StA ns a l S':=by
 obtain ⟨⟨p,b,c,s,e1,e2,e3⟩,e4,e5⟩:=h
 exact ⟨⟨p,b,c,s,k _ _ e1,e2,e3⟩,k _ _ e4,e5⟩
def sgn (k:Nat):Str:=⟨#[97+k]⟩
theorem zrL {i j:Nat} (h:sgn i=sgn j):i=j:=by
 unfold sgn at h
 have:=congrArg (fun s:Str=>s.cps.toList) h
 simp at this
 exact this
theorem zub {k:Nat} (h:k < 26):znX (sgn k):=by
 refine ⟨by simp [sgn],by simp [sgn],fun c hc=>?_⟩
 have:c=97+k:=by simpa [sgn] using hc
 omega
theorem zCp:znX ("x" : Str):=by
 refine ⟨by decide +kernel,by decide +kernel,fun c hc=>?_⟩
 have e:(Str.ofString "x").cps.toList=[120]:=by decide +kernel
 have hc':c∈(Str.ofString "x").cps.toList:=hc
 rw [e] at hc'
 have:c=120:=by simpa using hc'
 omega
theorem znS {zs:List Str} (hl:zs.length≤4):∃ k,k < 26∧sgn k∉zs:=by
 refine Classical.byContradiction fun hno=>?_
 have all:∀ k,k < 26->sgn k∈zs:=fun k hk=>Classical.byContradiction fun h=>hno ⟨k,hk,h⟩
 have ix:∀ k,k < 26->∃ i,i < zs.length∧zs[i]? = some (sgn k):=fun k hk=>by
  obtain ⟨i,hi⟩:=List.getElem?_of_mem (all k hk)
  exact ⟨i,(List.getElem?_eq_some_iff.mp hi).1,hi⟩
 have ne:∀ {i j k m:Nat},zs[i]? = some (sgn k)->zs[j]? = some (sgn m)->k≠m->i≠j:=fun h1 h2 hne e=>by
  subst e
  rw [h1] at h2
  exact hne (zrL (Option.some.inj h2))
 obtain ⟨i0,a0,b0⟩:=ix 0 (by decide)
 obtain ⟨i1,a1,b1⟩:=ix 1 (by decide)
 obtain ⟨i2,a2,b2⟩:=ix 2 (by decide)
 obtain ⟨i3,a3,b3⟩:=ix 3 (by decide)
 obtain ⟨i4,a4,b4⟩:=ix 4 (by decide)
 have:=ne b0 b1 (by decide)
 have:=ne b0 b2 (by decide)
 have:=ne b0 b3 (by decide)
 have:=ne b0 b4 (by decide)
 have:=ne b1 b2 (by decide)
 have:=ne b1 b3 (by decide)
 have:=ne b1 b4 (by decide)
 have:=ne b2 b3 (by decide)
 have:=ne b2 b4 (by decide)
 have:=ne b3 b4 (by decide)
 omega
section
variable {K:PySem.W.Frag} {S:Sto} {o:Addr} {x:Parts} {slots us:List Str} {pk wr:Bool} {j:Nat} {p:Str×List Row} {Q:DQ} {E:XQ} {ns:List Int} {a l:Addr}
theorem zpG (h:StA ns a l S) (hQ:∀ z w s d e r S',S' z=some (.lst [.int w,.int s,.int d,.int e,.int r])->z≠a->(0 < w∧w≤3∧0 < s∧s≤4∧0≤d∧d≤6∧0≤e∧e≤4∧0≤r∧r≤15)->StA ns a l S'->Fr a S S'->Q (.ref z) S'):zfN K [.ref a] S Q E:=by
 refine zax rfl ?_
 unfold zgS
 ext
 refine zbf h (by decide) (by decide +kernel) fun r S1 r0 r1 h1 f1=>?_
 ext
 refine zdI (fun _=>?_) fun _=>?_
 ·ext
  with_reducible refine zcl (szl (by simp)) fun z hz=>?_
  obtain ⟨h2,f2,za,_,_,ez⟩:=ze2 (o:=.lst [.int 3,.int 4,.int 6,.int 4,.int 4]) h1 f1 hz
  exact hQ z _ _ _ _ _ _ ez za (by decide) h2 f2
 ·ext
  with_reducible refine zcl (szl (by simp)) fun z hz=>?_
  obtain ⟨h2,f2,za,_,_,ez⟩:=ze2 (o:=.lst [.int 2,.int 3,.int 3,.int 3,.int 7]) h1 f1 hz
  exact hQ z _ _ _ _ _ _ ez za (by decide) h2 f2
theorem zou (P:zay x slots true true) {k:Nat} (hk:k < 26) (hf:sgn k∉x.sources):zay ⟨x.words,x.sources,[(sgn k,[.read (x.src 0) "x", .give "x"])],[],x.fl⟩ ["x"] true true:=by
 have s1:=P.s1
 have ns:=P.nn.left.left
 refine ⟨P.ww,P.w2,P.w4,?_,P.s1,P.s4,by simp,by simp,fun z hz=>?_,fun i q hq=>?_,fun q hq=>by simp at hq⟩
 ·refine ⟨fun z hz=>?_,?_⟩
  ·simp at hz
   rcases hz with z1 | z1
   ·exact ns.1 z z1
   ·rw [z1];exact zub hk
  ·simp only [List.map_cons,List.map_nil,List.append_nil]
   refine List.nodup_append.mpr ⟨ns.2,by simp,fun z hz y hy e=>?_⟩
   rw [List.mem_singleton.mp hy] at e
   rw [e] at hz
   exact hf hz
 ·rw [List.mem_singleton.mp hz];exact zCp
 ·cases i with
  | succ i=>simp at hq
  | zero=>
   simp at hq
   subst hq
   refine ⟨?_,?_,?_⟩
   ·rw [zb4,Row.ok,zb4,Row.ok,zb4]
    refine ⟨⟨?_,by simp⟩,⟨rfl,by simp⟩,trivial⟩
    simp
    exact zrI (by omega)
   ·rw [zaG,Row.ex,zaG,Row.ex,zaG];decide
   ·rw [zbk,Row.dep,zbk,Row.dep,zbk];decide
theorem zph (h:StA ns a l S) (hQ:∀ x slots S',x.fl=true->zay x slots true true->0 < (x.derived++x.effects).length->StA ns a l S'->Fr a S S'->Q x.d S'):zfb K [.ref a,.bl true,.bl true] S Q E:=by
 refine zax rfl ?_
 unfold zf5
 walk_at "dmn"
 with_reducible refine zcY ?_
 walk_at "dmn"
 refine zkl (by decide) (by decide) ?_
 walk_at "dmn"
 rw [show (3:Int).toNat=3 by rfl]
 refine za0 (fun i env S'=>∃ (x3 x4:Option D),env=[some (.ref a),some (.bl true),some (.bl true),x3,x4,none,none,none,none]∧(0 < i->∃ x slots,x4=some (Parts.d x)∧x.fl=true∧zay x slots true true)∧StA ns a l S'∧Fr a S S') _ 0 ⟨_,_,rfl,fun h=>absurd h (by decide),h,Fr.refl⟩ ?_ ?_
 ·rintro i y _ S1 hy ⟨x3,x4,rfl,_,h1,f1⟩ nx hnx
  rw [Nat.zero_add] at hnx
  refine ⟨trivial,?_⟩
  refine zha ?_
  ext
  refine zpG h1 fun z w s d e r S2 ez za c h2 f2=>?_
  obtain ⟨c1,c2,c3,c4,c5,c6,c7,c8,c9,c10⟩:=c
  ext
  refine zm0 h2 ez za c1 c2 c3 c4 c5 c6 c7 c8 c9 c10 fun x slots S3 fx P h3 f3=>?_
  have f13:=(f1.trans f2).trans f3
  clear ez
  refine zk0 ?_
  with_reducible refine zjK (fun env S'=>∃ x slots,env=[some (.ref a),some (.bl true),some (.bl true),some y,some (Parts.d x),none,none,none,none]∧x.fl=true∧zay x slots true true∧StA ns a l S'∧Fr a S S') ?_ ?_
  rotate_left
  ·intro nx2 hnx2
   have keep:nx2 [some (.ref a),some (.bl true),some (.bl true),some y,some (Parts.d x),none,none,none,none] S3:=hnx2 _ _ ⟨x,slots,rfl,fx,P,h3,f13⟩
   rw [zkj] at keep ⊢
   ext
   refine zbD (fun _=>?_) fun _=>?_
   ·ext
    refine zdI (fun _=>?_) fun _=>?_
    ·ext
     with_reducible refine zcl (szl (by simp)) fun z hz=>?_
     obtain ⟨h4,f4,za,_,_,ez⟩:=ze2 (o:=.lst [.int 2,.int 3,.int 3,.int 3,.int 7]) h3 f13 hz
     generalize DL.put S3 z (.lst [.int 2,.int 3,.int 3,.int 3,.int 7])=S4 at h4 f4 ez ⊢
     ext
     refine zm0 h4 ez za (by decide) (by decide) (by decide) (by decide) (by decide) (by decide) (by decide) (by decide) (by decide) (by decide) fun x' slots' S5 fx' P' h5 f5=>?_
     refine zk0 ?_
     exact hnx2 _ _ ⟨x',slots',rfl,fx',P',h5,f4.trans f5⟩
    ·ext
     exact keep
   ·ext
    exact keep
  rintro _ S4 ⟨x,slots,rfl,fx,P,h4,f4⟩
  have d6:=P.d6
  have e4:=P.e4
  have keep:nx [some (.ref a),some (.bl true),some (.bl true),some y,some (Parts.d x),none,none,none,none] S4:=hnx _ _ ⟨_,_,rfl,fun _=>⟨x,slots,rfl,fx,P⟩,h4,f4⟩
  have fin:=hQ x slots S4 fx P
  rw [zkj] at keep fin ⊢
  ext
  with_reducible refine zc9 (szl (by simp;omega)) ?_
  rw [← List.map_append]
  ext
  refine zdI (fun hc=>?_) fun _=>?_
  ·ext
   refine fin ?_ h4 f4
   have:=of_decide_eq_true hc
   simp at this ⊢
   omega
  ·ext
   exact keep
 ·rintro _ S1 ⟨x3,x4,rfl,hx,h1,f1⟩
  obtain ⟨x,slots,rfl,fx,P⟩:=hx (by simp [zhv])
  have s1:=P.s1
  have s4:=P.s4
  have es0:L2.atI (x.sources.map D.str) 0=some (.str (x.src 0)):=atI_nat (p:=0) (by rw [List.getElem?_map,zlL (by omega)];rfl)
  refine ⟨trivial,?_⟩
  rw [zkj]
  ext
  with_reducible refine zaT (szl (by simp)) ?_
  ext
  with_reducible refine zaT (szl (by simp)) ?_
  ext
  with_reducible refine zaT (szl (by simp)) ?_
  ext
  refine zkl (by decide) (by decide) ?_
  ext
  rw [show (26:Int).toNat=26 by rfl,zon]
  intro q hq
  obtain ⟨h2,f2,qa,qS,k2,t2⟩:=ze2 (o:=.lst []) h1 f1 hq
  refine zhD (List.range 26) zgC (fun k=>!decide (sgn k∈x.sources)) (fun k=>.str (sgn k)) (S0:=S1) zah hq (Kp.refl.new hq) (by simp) ?_ ?_
  ·intro k hk S2 k2 nx hT hF
   refine ⟨trivial,?_⟩
   have hk':=List.mem_range.mp hk
   have la:=ziC (i:=(k:Int)) (by omega) (by omega)
   rw [show ((k:Nat):Int).toNat=k by simp] at la
   unfold zgC
   ext
   refine znz (z:=sgn k) ?_
   ext
   refine ziq (fun hc=>?_) fun hc=>hF hc _ Kp.refl
   ext
   exact hT hc _ Kp.refl
  ·intro S2 e2 k2
   refine ⟨trivial,?_⟩
   obtain ⟨k0,hk0,hf0⟩:=znS s4
   cases ef:(List.range 26).filter fun k=>!decide (sgn k∈x.sources) with
   | nil=>
    have:=List.filter_eq_nil_iff.mp ef k0 (List.mem_range.mpr hk0)
    simp [hf0] at this
   | cons k rest=>
    have hm:k∈(List.range 26).filter fun k=>!decide (sgn k∈x.sources):=by rw [ef];exact List.mem_cons_self ..
    obtain ⟨hm1,hm2⟩:=List.mem_filter.mp hm
    have hk:=List.mem_range.mp hm1
    have hf:sgn k∉x.sources:=by simpa using hm2
    rw [ef,List.map_cons] at e2
    have ea0:L2.atI (D.str (sgn k) :: rest.map fun k=>D.str (sgn k)) 0=some (.str (sgn k)):=atI_nat (p:=0) rfl
    ext
    with_reducible refine zaT (szl (by simp)) ?_
    ext
    with_reducible refine zaT (szl (by simp)) ?_
    ext
    with_reducible refine zaT (szl (by simp)) ?_
    ext
    with_reducible refine zaT (szl (by simp)) ?_
    ext
    have ec:DL.cutD [D.tup (x.words.map D.str),.tp x.fl (x.sources.map D.str),.tup (x.derived.map pairD),.tup (x.effects.map pairD)] none (some 2)=[D.tup (x.words.map D.str),.tp x.fl (x.sources.map D.str)]:=rfl
    rw [ec]
    with_reducible refine zc9 (szl (by simp)) ?_
    have fin:=hQ _ _ S2 (show ((⟨x.words,x.sources,[(sgn k,[.read (x.src 0) "x", .give "x"])],[],x.fl⟩:Parts).fl)=true from fx) (zou P hk hf) (by simp) (h1.kp k2) (f1.trans k2.fr)
    have ed:Parts.d ⟨x.words,x.sources,[(sgn k,[.read (x.src 0) "x", .give "x"])],[],x.fl⟩ = .tup ([D.tup (x.words.map D.str),.tp x.fl (x.sources.map D.str)]++[.tup [.tup [.str (sgn k),.tup [.tup [.str "read", .str (x.src 0),.str "x"],.tup [.str "give", .str "x"]]]],.tup []]):=by
     unfold Parts.d pairD
     simp only [List.map_cons,List.map_nil,zaU,Row.d]
     rfl
    rw [ed] at fin
    exact fin
end
def zCA (i:Nat):PyData:=.int (i:Int)
def nsP (ps:List Nat):PyData:=.tuple (ps.map zCA)
theorem zDD {L:List (List Nat)} {i:Nat} {ps:List Nat} (h:L[i]? = some ps):L2.atI (L.map zii) (i:Int)=some (zii ps):=atI_nat (by rw [List.getElem?_map,h];rfl)
section
variable {K:PySem.W.Frag} {S:Sto} {o:Addr} {x:Parts} {slots us:List Str} {pk wr:Bool} {j:Nat} {p:Str×List Row} {Q:DQ} {E:XQ}
theorem znM {a b:List Nat} (ha:a.length≤1000) (hQ:∀ S',Kp S S'->Q (.bl (zmi a b)) S'):zfk K [zii a,zii b] S Q E:=by
 refine zax rfl ?_
 unfold zih zii
 ext
 intro q hq
 refine znf a zgC (fun i=>.bl (decide (i∈b))) (S0:=S) zah hq (Kp.refl.new hq) ha ?_ ?_
 ·intro i hi S1 k1 nx hT
  refine ⟨trivial,?_⟩
  unfold zgC
  ext
  refine zvu ?_
  exact hT _ Kp.refl
 ·intro S1 e1 k1
  refine ⟨trivial,?_⟩
  ext
  refine zpT (bs:=a.map fun i=>decide (i∈b)) (by rw [e1,List.map_map];rfl) ?_
  have e:(a.map fun i=>decide (i∈b)).all id=zmi a b:=by
   unfold zmi
   rw [List.all_map]
   rfl
  rw [e]
  exact hQ _ k1
theorem zmz {L:List (List Nat)} {a:Addr} (hL:L.length≤100) (hp:∀ ps∈L,ps.length≤4) (e:S a=some (.lst (L.map zii))) (hQ:∀ q S',S q=none->S' q=some (.lst ((zbv L).map zii))->Kp S S'->Q (.ref q) S'):zhr K [.ref a] S Q E:=by
 refine zax rfl ?_
 unfold ziI
 ext
 with_reducible refine zcl (szl (by simp)) fun l h0=>?_
 have k0:Kp S (DL.put S l (.lst [])):=Kp.refl.new h0
 have e0:DL.put S l (.lst []) l=some (.lst ((zbv (L.take 0)).map zii)):=zah
 have ea:=k0 _ _ e
 generalize DL.put S l (.lst [])=S1 at k0 e0 ea ⊢
 ext
 refine za0 (fun i env S'=>∃ x2:Option D,env=[some (.ref a),some (.ref l),x2,none]∧S' l=some (.lst ((zbv (L.take i)).map zii))∧Kp S S') _ 0 ⟨_,rfl,e0,k0⟩ ?_ ?_
 ·rintro i y _ S2 hy ⟨x2,rfl,e2,k2⟩ nx hnx
  rw [Nat.zero_add] at e2 hnx
  rw [List.getElem?_map] at hy
  cases er:L[i]? with
  | none=>rw [er] at hy;cases hy
  | some ps=>
   rw [er] at hy
   cases hy
   have hlen:(zbv (L.take i)).length≤100:=Nat.le_trans (zj0 _) (by simp;omega)
   refine ⟨k2 _ _ e,?_⟩
   ext
   intro z hz
   refine znf (zbv (L.take i)) zii (fun l=>.bl (zmi l ps)) (S0:=S2) zah hz (Kp.refl.new hz) (by omega) ?_ ?_
   ·intro c hc S3 k3 nx3 hT
    refine ⟨k3 _ _ e2,?_⟩
    ext
    refine znM (Nat.le_trans (hp c (List.mem_of_mem_take (zjZ hc))) (by decide)) fun S4 k4=>?_
    exact hT _ k4
   ·intro S3 e3 k3
    refine ⟨k3 _ _ e2,?_⟩
    have e23:=k3 _ _ e2
    have k23:=k2.trans k3
    have ev:((zbv (L.take i)).map fun l=>zmi l ps).any id=(zbv (L.take i)).any fun l=>zmi l ps:=by
     rw [List.any_map]
     rfl
    ext
    refine zyZ (bs:=(zbv (L.take i)).map fun l=>zmi l ps) (by rw [e3,List.map_map];rfl) ?_
    rw [ev]
    ext
    with_reducible refine zdI (fun hc=>?_) (fun hc=>?_)
    ·ext
     refine s_app e23 (zfh (by simp;omega)) ?_
     ext
     refine hnx _ _ ⟨_,rfl,?_,k23.wr h0⟩
     rw [zah,ziX er]
     unfold zl1
     rw [if_neg (by simpa using hc)]
     simp
    ·ext
     refine hnx _ _ ⟨_,rfl,?_,k23⟩
     rw [e23,ziX er]
     unfold zl1
     rw [if_pos (by simpa using hc)]
 ·rintro _ S2 ⟨x2,rfl,e2,k2⟩
  rw [Nat.zero_add,List.length_map,List.take_length] at e2
  refine ⟨k2 _ _ e,?_⟩
  ext
  exact hQ l _ h0 e2 k2
theorem zwS {n fst:Nat} {ps:List Nat} (hps:ps.length≤100) (hn:n≤100) {g:GM} {m:EM} {Q:DQ} {env:Slo} {S0:Sto} {q2:Addr} (hq2:S0 q2=none)
  (step:∀ k S5 (nx:D->Sto->Prop),Kp S0 S5->nx (zii (ps++[fst+k])) S5->g (D.int ((fst:Int)+(k:Int))) env S5 fun env2 S2=>m env2 S2 nx)
  (done:∀ S5,S5 q2=some (.lst (((List.range (n - fst)).map fun k=>ps++[fst+k]).map zii))->Kp S0 S5->Q (.ref q2) S5) :
  lcL g zij m (fun _=>True) q2 Q env (zky (fst:Int) (n - fst)) (DL.put S0 q2 (.lst [])):=by
 refine znf (List.range (n - fst)) (fun (i:Nat)=>D.int ((fst:Int)+(i:Int))) (fun i=>zii (ps++[fst+i])) (S0:=S0) zah hq2 (Kp.refl.new hq2) (by simp;omega) ?_ ?_
 ·intro k hk S5 k5 nx3 hT
  exact ⟨trivial,step k S5 _ k5 (hT _ Kp.refl)⟩
 ·intro S5 e5 k5
  exact ⟨trivial,done S5 (by rw [e5,List.map_map];rfl) k5⟩
theorem zlE {n:Nat} (hn:n≤4) (hQ:∀ q S',S q=none->S' q=some (.lst ((zgp n).map zii))->Kp S S'->Q (.ref q) S'):zfK K [.int (n:Nat)] S Q E:=by
 refine zax rfl ?_
 unfold zgP
 ext
 with_reducible refine zaT (szl (by simp)) ?_
 ext
 with_reducible refine zcl (szl (by simp)) fun l h0=>?_
 have k0:Kp S (DL.put S l (.lst [.tup []])):=Kp.refl.new h0
 have e0:DL.put S l (.lst [.tup []]) l=some (.lst ((bfS n 0).map zii)):=zah
 generalize DL.put S l (.lst [.tup []])=S1 at k0 e0 ⊢
 ext
 refine s_while (fun k env S'=>∃ (a:Nat) (x3:Option D),env=[some (.int (n:Nat)),some (.ref l),some (.int (a:Nat)),x3,none]∧a+k=2 ^ n∧S' l=some (.lst ((bfS n a).map zii))∧Kp S S') ⟨2 ^ n,0,_,rfl,by omega,e0,k0⟩ ?_
 rintro k _ S2 ⟨a,x3,rfl,ha,e2,k2⟩
 obtain ⟨f1,f2,f3⟩:=zqG hn a (by omega)
 ext
 rw [List.length_map]
 have e1:decide (((a:Nat):Int) < (((bfS n a).length:Nat):Int))=decide (a < 2 ^ n):=by
  rw [← f1]
  by_cases c:a < (bfS n a).length
  ·rw [decide_eq_true c,decide_eq_true (by omega)]
  ·rw [decide_eq_false c,decide_eq_false (by omega)]
 rw [e1]
 refine zuD (fun hc=>?_) (fun hc=>?_)
 ·have hc:=of_decide_eq_true hc
  have hal:a < (bfS n a).length:=of_decide_eq_true (f1.trans (decide_eq_true hc))
  have ep:(bfS n a)[a]? = some (bfS n a)[a]:=List.getElem?_eq_getElem hal
  have pf:=f3 _ (List.getElem_mem hal)
  generalize (bfS n a)[a]=ps at ep pf
  have at1:=zDD ep
  with_reducible refine zjK (fun env S'=>env=[some (.int (n:Nat)),some (.ref l),some (.int (a:Nat)),some (.int (znR ps:Nat)),none]∧S'=S2) ?_ ?_
  ·rintro _ S2' ⟨rfl,e22⟩
   obtain rfl:S2=S2':=e22.symm
   ext
   refine zyt ⟨by omega,by omega,by omega,by omega⟩ ?_
   ext
   intro q2 hq2
   rw [show ((n:Int) - ((znR ps:Nat):Int)).toNat=n - znR ps by omega]
   refine zwS (ps:=ps) (by omega) (by omega) hq2 ?_ ?_
   ·intro k S5 nx k5 hx
    have e5:=k5 _ _ e2
    ext
    unfold zii
    with_reducible refine zaT (szl (by simp)) ?_
    ext
    with_reducible refine zc9 (szl (by simp;omega)) ?_
    unfold zii at hx
    rw [List.map_append] at hx
    have e1:([znR ps+k].map zgC)=[D.int (((znR ps:Nat):Int)+(k:Int))]:=by simp [zgC]
    rw [e1] at hx
    exact hx
   ·intro S5 e5 k5
    ext
    have hx:((List.range (n - znR ps)).map fun k=>ps++[znR ps+k])=zwT n ps:=rfl
    rw [hx] at e5
    have xl:(zwT n ps).length≤4:=by unfold zwT;simp;omega
    refine zso (k5 _ _ e2) e5 (szl (by simp;omega)) ?_
    ext
    refine ⟨k - 1,by omega,a+1,_,rfl,by omega,?_,(k2.trans k5).wr h0⟩
    rw [zah]
    show _=some (O.lst ((bfS n a++_).map zii))
    simp only [ep]
    rw [List.map_append]
  ·intro nx4 hnx4
   ext
   unfold zii
   refine zrR ?_
   cases eg:ps.getLast? with
   | none=>
    rw [List.getLast?_eq_none_iff] at eg
    subst eg
    ext
    exact hnx4 _ _ ⟨rfl,rfl⟩
   | some z=>
    have la:=last_at eg
    have ne:(ps.map zgC).isEmpty=false:=by
     cases ps with
     | nil=>cases eg
     | cons a b=>rfl
    rw [ne]
    have ef:znR ps=z+1:=by unfold znR;rw [eg]
    have at2:L2.atI ((bfS n a).map zii) ((a:Nat):Int)=some (.tup (ps.map zgC)):=at1
    clear at1
    ext
    refine zyg ?_
    ext
    with_reducible refine zuZ ?_
    ext
    exact hnx4 _ _ ⟨by rw [ef];rfl,rfl⟩
 ·have hc:=of_decide_eq_false hc
  ext
  have:a=2 ^ n:=by omega
  rw [this,zw0 hn] at e2
  exact hQ l _ h0 e2 k2
end
def zmu (x:Parts) (js:List Nat):D:=.tup (js.map (zpm x))
def zsz (x:Parts) (j:Nat) (p:Str×List Row) (us:List Str):List (List Nat):=zbv ((zgp x.sources.length).filter (zrt x j p us))
def zD7 (x:Parts) (j:Nat) (p:Str×List Row) (us:List Str):List (List Nat):=zbv ((zgp x.sources.length).filter (zCq x.sources.length (zrt x j p us)))
theorem zo8 {n:Nat} (h:n≤4) (f:List Nat->Bool):((zgp n).filter f).length≤16:=Nat.le_trans (List.length_filter_le _ _) (zfa h).1
theorem zwR {n:Nat} (h:n≤4) (f:List Nat->Bool):∀ ps∈(zgp n).filter f,ps.length≤4:=fun ps hp=>(zfa h).2 ps (List.mem_filter.mp hp).1
theorem znd {n:Nat} {f:List Nat->Bool} {ps:List Nat} (h:ps∈zbv ((zgp n).filter f)):ps∈zgp n:=(List.mem_filter.mp (zjZ h)).1
theorem zne {n:Nat} (h:n≤4) (f:List Nat->Bool):(zbv ((zgp n).filter f)).length≤16:=Nat.le_trans (zj0 _) (zo8 h f)
section
variable {K:PySem.W.Frag} {S:Sto} {o:Addr} {x:Parts} {slots us:List Str} {pk wr:Bool} {j:Nat} {p:Str×List Row} {Q:DQ} {E:XQ}
theorem zjF {t tb:Addr} {js:List Nat} (L:FTl K) (T:Tl K x j p us t tb S) (hjs:∀ i∈js,i < x.sources.length) (hl:js.length≤500) (hQ:∀ S',Kp S S'->Q (zmu x js) S'):zch K [.ref t,zii js] S Q E:=by
 obtain ⟨l1,l2,l3,l4⟩:=L
 obtain ⟨ob,tb_⟩:=T
 unfold tlO at ob
 refine zax rfl ?_
 unfold zd2 zii
 ext
 intro q hq
 refine znf js zgC (zpm x) (S0:=S) zah hq (Kp.refl.new hq) (by omega) ?_ ?_
 ·intro i hi S1 k1 nx hT
  refine ⟨trivial,?_⟩
  have a1:L2.atI (x.sources.map D.str) (i:Int)=some (zpm x i):=atI_nat (by rw [List.getElem?_map,zlL (hjs i hi)];rfl)
  have ob1:=k1 _ _ ob
  unfold zgC
  ext
  exact hT _ Kp.refl
 ·intro S1 e1 k1
  refine ⟨trivial,?_⟩
  ext
  exact hQ _ k1
theorem zhi {t tb:Addr} (L:FTl K) (P:zay x slots pk wr) (W:zjB x us) (T:Tl K x j p us t tb S)
  (hQ:∀ q S',S q=none->S' q=some (.lst ((zsz x j p us).map zii))->Kp S S'->Q (.ref q) S'):zbe K [.ref t] S Q E:=by
 have L':=L
 have T':=T
 obtain ⟨l1,l2,l3,l4⟩:=L
 obtain ⟨ob,tb_⟩:=T
 unfold tlO at ob
 have s4:=P.s4
 refine zax rfl ?_
 unfold zbW
 ext
 rw [List.length_map]
 refine zlE s4 fun q S1 hq e1 k1=>?_
 ext
 intro z hz
 refine zhD (zgp x.sources.length) zii (zrt x j p us) zii (S0:=S1) zah hz (Kp.refl.new hz) (Nat.le_trans (zfa s4).1 (by decide)) ?_ ?_
 ·intro ps hps S2 k2 nx hT hF
  refine ⟨k2 _ _ e1,?_⟩
  have T2:=(T'.kp k1).kp k2
  have ob2:=k2 _ _ (k1 _ _ ob)
  ext
  refine zmB L' P W T2 (zmJ s4 hps) (Nat.le_trans ((zfa s4).2 ps hps) (by decide)) fun S3 k3=>?_
  ext
  refine ziq (fun hc=>?_) fun hc=>hF hc _ k3
  ext
  exact hT hc _ k3
 ·intro S2 e2 k2
  refine ⟨k2 _ _ e1,?_⟩
  ext
  refine zmz (Nat.le_trans (zo8 s4 _) (by decide)) (zwR s4 _) e2 fun q3 S3 hq3 e3 k3=>?_
  have k13:=k1.trans k2
  exact hQ q3 _ (k13.none_ hq3) e3 (k13.trans k3)
theorem zjq (G:FPr K) (F:FTr K) (L:FTl K) (P:zay x slots pk wr) (eo:S o=some (zdb K x)) (W:zjB x us) (hp:(x.derived++x.effects)[j]? = some p)
  (hQ:∀ q S',S q=none->S' q=some (.lst ((zsz x j p us).map (zmu x)))->Kp S S'->Q (.ref q) S'):zdO K [.ref o,zcQ us,.str p.1] S Q E:=by
 have s4:=P.s4
 refine zax rfl ?_
 unfold zeE
 ext
 intro t ht
 refine zks G F L P eo W hp ht fun tb S1 k1 T=>⟨rfl,?_⟩
 have ob:=T.ob
 unfold tlO at ob
 ext
 refine zhi L P W T fun q S2 hq e2 k2=>?_
 ext
 intro z hz
 refine znf (zsz x j p us) zii (zmu x) (S0:=S2) zah hz (Kp.refl.new hz) (Nat.le_trans (zne s4 _) (by decide)) ?_ ?_
 ·intro ps hps S3 k3 nx hT
  refine ⟨k3 _ _ e2,?_⟩
  have ob3:=k3 _ _ (k2 _ _ ob)
  have hm:=znd hps
  ext
  refine zjF L ((T.kp k2).kp k3) (zmJ s4 hm) (Nat.le_trans ((zfa s4).2 ps hm) (by decide)) fun S4 k4=>?_
  exact hT _ k4
 ·intro S3 e3 k3
  refine ⟨k3 _ _ e2,?_⟩
  ext
  exact hQ z _ ((k1.trans k2).none_ hz) e3 ((k1.trans k2).trans k3)
def zEo (n:Nat) (R:List (List Nat)):List Nat:=(List.range n).filter fun k=>R.any fun ps=>decide (k∈ps)
end
mutual
theorem zqD {T T':Str->Str} {h:Shp} (e:∀ c∈h.cells,T c=T' c):∀ (x:Row) (r:RS),x.ok h->x.run T r=x.run T' r
 | .read c s,r,ok=>by rw [Row.ok] at ok;rw [Row.run,Row.run,e c ok.1]
 | .peek c s,r,ok=>by rw [Row.ok] at ok;rw [Row.run,Row.run,e c ok.2.1]
 | .put c s,r,_=>by rw [Row.run,Row.run]
 | .give s,r,_=>by rw [Row.run,Row.run]
 | .say s,r,_=>by rw [Row.run,Row.run]
 | .write c s,r,_=>by rw [Row.run,Row.run]
 | .ite s w y n,r,ok=>by
  rw [Row.ok] at ok
  rw [Row.run,Row.run,zif e y r ok.2.2.1,zif e n r ok.2.2.2]
theorem zif {T T':Str->Str} {h:Shp} (e:∀ c∈h.cells,T c=T' c):∀ (rs:List Row) (r:RS),zb4 h rs->zam T rs r=zam T' rs r
 | [],r,_=>by rw [zam,zam]
 | x :: rs,r,ok=>by
  rw [zb4] at ok
  rw [zam,zam,zqD e x r ok.1,zif e rs _ ok.2]
end
theorem zqB (df:Str) (f:Str->Str) (ps qs:List (Str×List Row)):zki df f (ps++qs)=zki df (zki df f ps) qs:=by
 unfold zki
 rw [List.foldl_append]
theorem znj {df:Str}:∀ {ps:List (Str×List Row)} {f:Str->Str} {c:Str},c∉ps.map (·.1)->zki df f ps c=f c
 | [],f,c,_=>rfl
 | p :: ps,f,c,h=>by
  rw [List.map_cons,List.mem_cons,not_or] at h
  show zki df (zmc f p.1 _) ps c=f c
  rw [znj h.2]
  unfold zmc
  rw [if_neg h.1]
section
variable {x:Parts} {slots us:List Str} {pk wr:Bool} {j:Nat} {p:Str×List Row}
theorem zkT (P:zay x slots pk wr) {c:Str} (hc:c∈x.sources++(x.derived.take j).map (·.1)):zki x.df (zlM x.df (x.sources.zip us)) (x.derived.take j) c=x.tab us c:=by
 have nd:=P.nn.left.2
 unfold Parts.tab
 conv=>rhs;rw [← List.take_append_drop j x.derived,zqB]
 refine (znj ?_).symm
 intro hm
 have e:x.sources++x.derived.map (·.1)=(x.sources++(x.derived.take j).map (·.1))++(x.derived.drop j).map (·.1):=by
  rw [List.append_assoc,← List.map_append,List.take_append_drop]
 rw [e] at nd
 exact (List.nodup_append.mp nd).2.2 c hc c hm rfl
theorem zn7 (P:zay x slots pk wr) (hp:x.derived[j]? = some p):x.tab us p.1=(zam (x.tab us) p.2 (r0 x.df)).given.getD x.df:=by
 have h:=zkT (us:=us) (j:=j+1) P (c:=p.1) (List.mem_append_right _ (List.mem_map.mpr ⟨p,by rw [List.take_succ,hp];simp,rfl⟩))
 rw [← h,zka hp]
 unfold zmc
 rw [if_pos rfl]
 rw [zif (fun c hc=>zkT (us:=us) (j:=j) P hc) p.2 _ (P.der j p hp).ok]
def zy8 (z n:Str):Str×List Row:=(z,[.read n "x", .give "x"])
def Parts.pass (x:Parts) (z n:Str):Parts:={ x with derived:=x.derived++[zy8 z n] }
end
theorem zlX {ps:List (Str×Str)} {c u:Str} {z:Str×Str} (h:z∈ps):z∈zeu ps c u:=by
 unfold zeu
 split
 ·exact h
 ·exact List.mem_append_left _ h
theorem zlY {ps:List (Str×Str)} {c u:Str}:∃ z∈zeu ps c u,z.1=c:=by
 unfold zeu
 split
 ·rename_i h
  obtain ⟨z,hz,e⟩:=List.mem_map.mp h
  exact ⟨z,hz,e⟩
 ·exact ⟨(c,u),List.mem_append_right _ (List.mem_singleton.mpr rfl),rfl⟩
theorem zhX {ps:List (Str×Str)} {c u:Str} {P:Str×Str->Prop} (h:∀ z∈ps,P z) (hc:P (c,u)):∀ z∈zeu ps c u,P z:=fun z hz=>by
 unfold zeu at hz
 split at hz
 ·exact h z hz
 ·rcases List.mem_append.mp hz with q | q
  ·exact h z q
  ·rw [List.mem_singleton.mp q];exact hc
def Grow (r r':RS):Prop:=(∀ z∈r.notes,z∈r'.notes)∧∀ z∈r.peeks,z∈r'.peeks
theorem Grow.refl {r:RS}:Grow r r:=⟨fun _ h=>h,fun _ h=>h⟩
theorem Grow.trans {r s t:RS} (a:Grow r s) (b:Grow s t):Grow r t:=⟨fun z h=>b.1 z (a.1 z h),fun z h=>b.2 z (a.2 z h)⟩
mutual
theorem zqv {T:Str->Str}:∀ (x:Row) (r:RS),Grow r (x.run T r)
 | .read c s,r=>by rw [Row.run];exact ⟨fun z h=>zlX h,fun z h=>h⟩
 | .peek c s,r=>by rw [Row.run];exact ⟨fun z h=>h,fun z h=>zlX h⟩
 | .put s w,r=>by rw [Row.run];exact Grow.refl
 | .give s,r=>by rw [Row.run];exact Grow.refl
 | .say s,r=>by rw [Row.run];exact Grow.refl
 | .write c s,r=>by rw [Row.run];exact Grow.refl
 | .ite s w y n,r=>by
  rw [Row.run]
  split
  ·exact zhZ y r
  ·exact zhZ n r
theorem zhZ {T:Str->Str}:∀ (rs:List Row) (r:RS),Grow r (zam T rs r)
 | [],r=>by rw [zam];exact Grow.refl
 | x :: rs,r=>by
  rw [zam]
  split
  ·exact Grow.refl
  ·exact (zqv x r).trans (zhZ rs _)
end
def zqK (T:Str->Str) (r:RS):Prop:=(∀ z∈r.notes,T z.1=z.2)∧∀ z∈r.peeks,T z.1=z.2
mutual
theorem zjs {T:Str->Str}:∀ (x:Row) (r:RS),zqK T r->zqK T (x.run T r)
 | .read c s,r,h=>by rw [Row.run];exact ⟨zhX h.1 rfl,h.2⟩
 | .peek c s,r,h=>by rw [Row.run];exact ⟨h.1,zhX h.2 rfl⟩
 | .put s w,r,h=>by rw [Row.run];exact h
 | .give s,r,h=>by rw [Row.run];exact h
 | .say s,r,h=>by rw [Row.run];exact h
 | .write c s,r,h=>by rw [Row.run];exact h
 | .ite s w y n,r,h=>by
  rw [Row.run]
  split
  ·exact zhO y r h
  ·exact zhO n r h
theorem zhO {T:Str->Str}:∀ (rs:List Row) (r:RS),zqK T r->zqK T (zam T rs r)
 | [],r,h=>by rw [zam];exact h
 | x :: rs,r,h=>by
  rw [zam]
  split
  ·exact h
  ·exact zhO rs _ (zjs x r h)
end
def InC (cs:List Str) (r:RS):Prop:=(∀ z∈r.notes,z.1∈cs)∧∀ z∈r.peeks,z.1∈cs
mutual
theorem ztb {T:Str->Str} {h:Shp}:∀ (x:Row) (r:RS),x.ok h->InC h.cells r->InC h.cells (x.run T r)
 | .read c s,r,k,i=>by rw [Row.ok] at k;rw [Row.run];exact ⟨zhX i.1 k.1,i.2⟩
 | .peek c s,r,k,i=>by rw [Row.ok] at k;rw [Row.run];exact ⟨i.1,zhX i.2 k.2.1⟩
 | .put s w,r,k,i=>by rw [Row.run];exact i
 | .give s,r,k,i=>by rw [Row.run];exact i
 | .say s,r,k,i=>by rw [Row.run];exact i
 | .write c s,r,k,i=>by rw [Row.run];exact i
 | .ite s w y n,r,k,i=>by
  rw [Row.ok] at k
  rw [Row.run]
  split
  ·exact zjy y r k.2.2.1 i
  ·exact zjy n r k.2.2.2 i
theorem zjy {T:Str->Str} {h:Shp}:∀ (rs:List Row) (r:RS),zb4 h rs->InC h.cells r->InC h.cells (zam T rs r)
 | [],r,k,i=>by rw [zam];exact i
 | x :: rs,r,k,i=>by
  rw [zb4] at k
  rw [zam]
  split
  ·exact i
  ·exact zjy rs _ k.2 (ztb x r k.1 i)
end
mutual
theorem zqs {T T':Str->Str}:∀ (x:Row) (r:RS),zqK T r->zqK T' (x.run T r)->x.run T' r=x.run T r
 | .read c s,r,h,h'=>by
  have k:=zjs (T:=T) (.read c s) r h
  rw [Row.run] at h' k
  obtain ⟨z,hz,e⟩:=zlY (ps:=r.notes) (c:=c) (u:=T c)
  have e1:=h'.1 z hz
  have e2:=k.1 z hz
  have:T' c=T c:=by rw [← e,e1,e2]
  rw [Row.run,Row.run,this]
 | .peek c s,r,h,h'=>by
  have k:=zjs (T:=T) (.peek c s) r h
  rw [Row.run] at h' k
  obtain ⟨z,hz,e⟩:=zlY (ps:=r.peeks) (c:=c) (u:=T c)
  have e1:=h'.2 z hz
  have e2:=k.2 z hz
  have:T' c=T c:=by rw [← e,e1,e2]
  rw [Row.run,Row.run,this]
 | .put s w,r,h,h'=>by rw [Row.run,Row.run]
 | .give s,r,h,h'=>by rw [Row.run,Row.run]
 | .say s,r,h,h'=>by rw [Row.run,Row.run]
 | .write c s,r,h,h'=>by rw [Row.run,Row.run]
 | .ite s w y n,r,h,h'=>by
  rw [Row.run] at h'
  rw [Row.run,Row.run]
  by_cases q:r.slots s=w
  ·rw [if_pos q] at h' ⊢
   rw [if_pos q]
   exact zhY y r h h'
  ·rw [if_neg q] at h' ⊢
   rw [if_neg q]
   exact zhY n r h h'
theorem zhY {T T':Str->Str}:∀ (rs:List Row) (r:RS),zqK T r->zqK T' (zam T rs r)->zam T' rs r=zam T rs r
 | [],r,h,h'=>by rw [zam,zam]
 | x :: rs,r,h,h'=>by
  rw [zam] at h'
  rw [zam,zam]
  by_cases q:r.given.isSome=true
  ·rw [if_pos q,if_pos q]
  ·rw [if_neg q] at h'
   rw [if_neg q,if_neg q]
   have g:=zhZ (T:=T) rs (x.run T r)
   have hx:=zqs (T:=T) (T':=T') x r h ⟨fun z hz=>h'.1 z (g.1 z hz),fun z hz=>h'.2 z (g.2 z hz)⟩
   rw [hx]
   exact zhY rs _ (zjs x r h) h'
end
theorem zoz {ps:List (Str×Str)} {c u:Str} (h:(ps.map (·.1)).Nodup):((zeu ps c u).map (·.1)).Nodup:=by
 unfold zeu
 split
 ·exact h
 ·rename_i hc
  rw [List.map_append,List.nodup_append]
  refine ⟨h,by simp,fun a ha b hb e=>?_⟩
  simp at hb
  subst hb
  subst e
  exact hc ha
def NdR (r:RS):Prop:=(r.notes.map (·.1)).Nodup∧(r.peeks.map (·.1)).Nodup
mutual
theorem zv0 {T:Str->Str}:∀ (x:Row) (r:RS),NdR r->NdR (x.run T r)
 | .read c s,r,h=>by rw [Row.run];exact ⟨zoz h.1,h.2⟩
 | .peek c s,r,h=>by rw [Row.run];exact ⟨h.1,zoz h.2⟩
 | .put s w,r,h=>by rw [Row.run];exact h
 | .give s,r,h=>by rw [Row.run];exact h
 | .say s,r,h=>by rw [Row.run];exact h
 | .write c s,r,h=>by rw [Row.run];exact h
 | .ite s w y n,r,h=>by
  rw [Row.run]
  split
  ·exact zlj y r h
  ·exact zlj n r h
theorem zlj {T:Str->Str}:∀ (rs:List Row) (r:RS),NdR r->NdR (zam T rs r)
 | [],r,h=>by rw [zam];exact h
 | x :: rs,r,h=>by
  rw [zam]
  split
  ·exact h
  ·exact zlj rs _ (zv0 x r h)
end
theorem zt7 {T:Str->Str} {df:Str}:zqK T (r0 df):=⟨fun z hz=>by simp [r0] at hz,fun z hz=>by simp [r0] at hz⟩
theorem zCC {cs:List Str} {df:Str}:InC cs (r0 df):=⟨fun z hz=>by simp [r0] at hz,fun z hz=>by simp [r0] at hz⟩
theorem nd0 {df:Str}:NdR (r0 df):=⟨by simp [r0],by simp [r0]⟩
inductive Rc (src:List Str) (h:Str->List Str) (cs:List Str):Str->Prop
 | base {c:Str}:c∈cs->Rc src h cs c
 | step {c d:Str}:Rc src h cs c->c∉src->d∈h c->Rc src h cs d
section
variable {src cs ds:List Str} {h h':Str->List Str} {c d s:Str}
theorem Rc.mono (m:∀ c∈cs,Rc src h ds c) (r:Rc src h cs s):Rc src h ds s:=by
 induction r with
 | base e=>exact m _ e
 | step _ n e ih=>exact .step ih n e
theorem zsA:Rc src h cs s ↔ ∃ c∈cs,Rc src h [c] s:=by
 constructor
 ·intro r
  induction r with
  | @base c e=>exact ⟨c,e,.base (List.mem_singleton.mpr rfl)⟩
  | step _ n e ih=>
   obtain ⟨c,hc,r⟩:=ih
   exact ⟨c,hc,.step r n e⟩
 ·rintro ⟨c,hc,r⟩
  exact r.mono fun z hz=>by
   rw [List.mem_singleton.mp hz]
   exact .base hc
theorem zqY (hc:c∉src) (hs:s∈src):Rc src h [c] s ↔ Rc src h (h c) s:=by
 constructor
 ·intro r
  have key:∀ {d},Rc src h [c] d->d=c ∨ Rc src h (h c) d:=fun {d} r=>by
   induction r with
   | base e=>exact .inl (List.mem_singleton.mp e)
   | step _ n e ih=>
    rcases ih with rfl | ih
    ·exact .inr (.base e)
    ·exact .inr (.step ih n e)
  rcases key r with rfl | q
  ·exact absurd hs hc
  ·exact q
 ·exact fun r=>r.mono fun z hz=>.step (.base (List.mem_singleton.mpr rfl)) hc hz
theorem zqX (hc:c∈src):Rc src h [c] s ↔ s=c:=by
 constructor
 ·intro r
  induction r with
  | base e=>exact List.mem_singleton.mp e
  | step _ n e ih=>exact absurd (by rw [ih];exact hc) n
 ·rintro rfl
  exact .base (List.mem_singleton.mpr rfl)
theorem zpU (e:∀ c,Rc src h cs c->c∉src->h' c=h c):Rc src h' cs s ↔ Rc src h cs s:=by
 constructor
 ·intro r
  induction r with
  | base q=>exact .base q
  | step _ n q ih=>exact .step ih n (by rw [← e _ ih n];exact q)
 ·intro r
  induction r with
  | base q=>exact .base q
  | step r0 n q ih=>exact .step ih n (by rw [e _ r0 n];exact q)
theorem zoo {l:List Str} (h1:∀ c∈cs,c∈l) (h2:∀ c∈l,c∉src->∀ d∈h c,d∈l) (h3:∀ c∈l,Rc src h cs c):c∈l ↔ Rc src h cs c:=by
 refine ⟨h3 c,fun r=>?_⟩
 induction r with
 | base e=>exact h1 _ e
 | step _ n e ih=>exact h2 _ ih n _ e
end
def zhQ (x:Parts) (us:List Str) (p:Str×List Row):RS:=zam (x.tab us) p.2 (r0 x.df)
def hdP (x:Parts) (us:List Str) (p:Str×List Row):List Str:=((zhQ x us p).notes++(zhQ x us p).peeks).map (·.1)
def hnP (x:Parts) (us:List Str) (c:Str):List Str:=match (x.derived++x.effects).find? (fun p=>decide (p.1=c)) with
 | some p=>hdP x us p
 | none=>[]
section
variable {x:Parts} {slots us vs:List Str} {pk wr:Bool} {j:Nat} {p:Str×List Row} {c:Str}
theorem ztf:∀ {ps:List (Str×List Row)} {j:Nat} {p:Str×List Row},(ps.map (·.1)).Nodup->ps[j]? = some p->ps.find? (fun z=>decide (z.1=p.1))=some p:=fun {ps j p} nd h=>by
 have e:=zg7 nd h
 rw [← List.head?_filter,e]
 rfl
theorem zlx (P:zay x slots pk wr) (hp:(x.derived++x.effects)[j]? = some p):hnP x us p.1=hdP x us p:=by
 unfold hnP
 rw [ztf (zgM P) hp]
theorem zwN {h:Shp} (ok:zb4 h p.2) (hc:c∈hdP x us p):c∈h.cells:=by
 have i:=zjy (T:=x.tab us) p.2 (r0 x.df) ok zCC
 unfold hdP zhQ at hc
 obtain ⟨z,hz,rfl⟩:=List.mem_map.mp hc
 rcases List.mem_append.mp hz with q | q
 ·exact i.1 z q
 ·exact i.2 z q
theorem zg6 (P:zay x slots pk wr) (hp:(x.derived++x.effects)[j]? = some p) (hc:c∈hdP x us p):c∈x.cells:=by
 obtain ⟨h,bo,hh⟩:=zjA P hp
 exact hh c (zwN bo.ok hc)
theorem zrq (P:zay x slots pk wr) (hp:x.derived[j]? = some p) (hc:c∈hdP x us p):c∈x.sources++(x.derived.take j).map (·.1):=zwN (P.der j p hp).ok hc
theorem zly:(hdP x us p).count c≤2:=by
 have n:=zlj (T:=x.tab us) p.2 (r0 x.df) nd0
 unfold hdP zhQ
 rw [List.map_append,List.count_append]
 have h1:=List.nodup_iff_count.mp n.1 c
 have h2:=List.nodup_iff_count.mp n.2 c
 omega
theorem zgF {b:Nat}:∀ {cs l:List Str},(∀ c∈l,c∈cs)->(∀ c,l.count c≤b)->l.length≤b * cs.length
 | [],l,h,_=>by
  have:l=[]:=List.eq_nil_iff_forall_not_mem.mpr fun c hc=>by simpa using h c hc
  subst this
  simp
 | a :: cs,l,h,n=>by
  have key:l.length=l.count a+(l.filter fun z=>!decide (z=a)).length:=by
   clear h n
   induction l with
   | nil=>rfl
   | cons z l ih=>
    by_cases e:z=a
    ·subst e
     simp only [List.length_cons,List.count_cons_self,List.filter_cons,decide_true,Bool.not_true,Bool.false_eq_true,if_false]
     omega
    ·have e1:(z == a)=false:=beq_false_of_ne e
     simp only [List.length_cons,List.count_cons,e1,List.filter_cons,decide_eq_false e,Bool.not_false,if_true,Bool.false_eq_true,if_false]
     omega
  have l2:(l.filter fun z=>!decide (z=a)).length≤b * cs.length:=zgF (fun c hc=>by
   obtain ⟨h1,h2⟩:=List.mem_filter.mp hc
   have h3:c≠a:=by simpa using h2
   rcases List.mem_cons.mp (h c h1) with q | q
   ·exact absurd q h3
   ·exact q) fun c=>Nat.le_trans (List.Sublist.count_le c (List.filter_sublist)) (n c)
  have:=n a
  rw [key,List.length_cons,Nat.mul_succ]
  omega
theorem zma (P:zay x slots pk wr):x.cells.length≤10:=by
 have:=P.s4
 have:=P.d6
 unfold Parts.cells
 rw [List.length_append,List.length_map]
 omega
theorem zmG (P:zay x slots pk wr) (hp:x.derived[j]? = some p):p.1∉x.sources:=fun hm=>by
 have nd:=P.nn.left.2
 exact (List.nodup_append.mp nd).2.2 p.1 hm p.1 (List.mem_map_of_mem (List.mem_of_getElem? hp)) rfl
theorem zig (hc:c∈x.cells) (hn:c∉x.sources):∃ (j:Nat) (p:Str×List Row),x.derived[j]? = some p∧p.1=c:=by
 unfold Parts.cells at hc
 rcases List.mem_append.mp hc with q | q
 ·exact absurd q hn
 ·obtain ⟨p,hp,rfl⟩:=List.mem_map.mp q
  obtain ⟨j,hj⟩:=List.mem_iff_getElem?.mp hp
  exact ⟨j,p,hj,rfl⟩
theorem zaZ (hp:x.derived[j]? = some p):(x.derived++x.effects)[j]? = some p:=by
 rw [List.getElem?_append_left (List.getElem?_eq_some_iff.mp hp).1]
 exact hp
theorem zmX (P:zay x slots pk wr) (hp:(x.derived++x.effects)[j]? = some p) (r:Rc x.sources (hnP x us) (hdP x us p) c):c∈x.cells:=by
 induction r with
 | base e=>exact zg6 P hp e
 | step _ n e ih=>
  obtain ⟨k,q,hq,rfl⟩:=zig ih n
  rw [zlx P (zaZ hq)] at e
  exact zg6 P (zaZ hq) e
theorem zk3 (h:∀ c∈hdP x us p,x.tab vs c=x.tab us c):zhQ x vs p=zhQ x us p:=by
 have t:=zhO (T:=x.tab us) p.2 (r0 x.df) zt7
 refine zhY p.2 (r0 x.df) zt7 ⟨fun z hz=>?_,fun z hz=>?_⟩
 ·rw [h z.1 (List.mem_map_of_mem (List.mem_append_left _ hz))]
  exact t.1 z hz
 ·rw [h z.1 (List.mem_map_of_mem (List.mem_append_right _ hz))]
  exact t.2 z hz
section
variable (P:zay x slots pk wr) (hp:(x.derived++x.effects)[j]? = some p) (h:∀ s∈x.sources,Rc x.sources (hnP x us) (hdP x us p) s->x.tab vs s=x.tab us s)
include P hp h
theorem zfY:∀ k c,Rc x.sources (hnP x us) (hdP x us p) c->c∈x.sources++(x.derived.take k).map (·.1)->x.tab vs c=x.tab us c
 | 0,c,r,hc=>h c (by simpa using hc) r
 | k+1,c,r,hc=>by
  cases eq:x.derived[k]? with
  | none=>
   rw [List.take_succ,eq] at hc
   exact zfY k c r (by simpa using hc)
  | some q=>
   rw [List.take_succ,eq] at hc
   simp only [Option.toList_some,List.map_append,List.map_cons,List.map_nil,← List.append_assoc] at hc
   rcases List.mem_append.mp hc with z | z
   ·exact zfY k c r z
   ·obtain rfl:=List.mem_singleton.mp z
    have hr:∀ d∈hdP x us q,x.tab vs d=x.tab us d:=fun d hd=>zfY k d (.step r (zmG P eq) (by rw [zlx P (zaZ eq)];exact hd)) (zrq P eq hd)
    rw [zn7 P eq,zn7 P eq]
    exact congrArg (fun z:RS=>z.given.getD x.df) (zk3 hr)
theorem zlR (r:Rc x.sources (hnP x us) (hdP x us p) c):x.tab vs c=x.tab us c:=by
 refine zfY P hp h x.derived.length c r ?_
 rw [List.take_length]
 exact zmX P hp r
theorem zlQ:zhQ x vs p=zhQ x us p:=zk3 fun c hc=>zlR P hp h (.base hc)
theorem znA {s:Str}:Rc x.sources (hnP x vs) (hdP x vs p) s ↔ Rc x.sources (hnP x us) (hdP x us p) s:=by
 have e:hdP x vs p=hdP x us p:=by
  unfold hdP
  rw [zlQ P hp h]
 rw [e]
 refine zpU fun c r n=>?_
 obtain ⟨k,q,hq,rfl⟩:=zig (zmX P hp r) n
 rw [zlx P (zaZ hq),zlx P (zaZ hq)]
 have e2:zhQ x vs q=zhQ x us q:=zk3 fun d hd=>zlR P hp h (.step r n (by rw [zlx P (zaZ hq)];exact hd))
 unfold hdP
 rw [e2]
end
noncomputable def rsP (x:Parts) (us:List Str) (p:Str×List Row):List Str:=x.sources.filter fun s=>@decide (Rc x.sources (hnP x us) (hdP x us p) s) (Classical.propDecidable _)
theorem zom {s:Str}:s∈rsP x us p ↔ s∈x.sources∧Rc x.sources (hnP x us) (hdP x us p) s:=by
 unfold rsP
 rw [List.mem_filter]
 exact and_congr_right fun _=>@decide_eq_true_iff _ (Classical.propDecidable _)
theorem zol (P:zay x slots pk wr) (hp:(x.derived++x.effects)[j]? = some p) (h:∀ s∈rsP x us p,x.tab vs s=x.tab us s):zhQ x vs p=zhQ x us p∧rsP x vs p=rsP x us p:=by
 have h':∀ s∈x.sources,Rc x.sources (hnP x us) (hdP x us p) s->x.tab vs s=x.tab us s:=fun s hs r=>h s (zom.mpr ⟨hs,r⟩)
 refine ⟨zlQ P hp h',?_⟩
 unfold rsP
 refine List.filter_congr fun s _=>?_
 have e:=znA P hp h' (s:=s)
 exact propext e ▸ rfl
theorem zjG (P:zay x slots pk wr) (hp:(x.derived++x.effects)[j]? = some p) (h:∀ s∈rsP x us p,x.tab vs s=x.tab us s):x.tell j p vs=x.tell j p us:=by
 have e:=(zol P hp h).1
 unfold zhQ at e
 unfold Parts.tell
 rw [e]
end
section
variable {K:PySem.W.Frag} {S:Sto} {o:Addr} {x:Parts} {slots us:List Str} {pk wr:Bool} {j:Nat} {p:Str×List Row} {Q:DQ} {E:XQ}
theorem zhq (G:FPr K) (F:FTr K) (P:zay x slots pk wr) (eo:S o=some (zdb K x)) (W:zjB x us) (hp:(x.derived++x.effects)[j]? = some p)
  (hQ:∀ q S',S q=none->S' q=some (.lst ((hdP x us p).map D.str))->Kp S S'->Q (.ref q) S'):zcq K [.ref o,.tup (us.map D.str),.str p.1] S Q E:=by
 refine zax rfl ?_
 unfold zf4
 ext
 refine zjE G F P eo W hp fun q S1 hq e1 n1 n2 k1=>?_
 ext
 with_reducible refine zc9 (szl (by simp;omega)) ?_
 rw [← List.map_append]
 ext
 intro z hz
 refine znf ((zhQ x us p).notes++(zhQ x us p).peeks) prD (fun y=>.str y.1) (S0:=S1) zah hz (Kp.refl.new hz) (by unfold zhQ;simp;omega) ?_ ?_
 ·intro y hy S2 k2 nx hT
  refine ⟨trivial,?_⟩
  unfold prD
  ext
  exact hT _ Kp.refl
 ·intro S2 e2 k2
  refine ⟨trivial,?_⟩
  ext
  exact hQ z _ (k1.none_ hz) (by rw [e2];unfold hdP;rw [List.map_map];rfl) (k1.trans k2)
theorem zmC {l:Addr} {cs:List Str} (G:FPr K) (P:zay x slots pk wr) (eo:S o=some (zdb K x)) (el:S l=some (.lst (cs.map D.str))) (hQ:∀ S',Kp S S'->Q (zcQ (x.sources.filter fun s=>decide (s∈cs))) S'):zhs K [.ref o,.ref l] S Q E:=by
 have s4:=P.s4
 have eo':=eo
 unfold zdb at eo
 obtain ⟨f1,f2,f3,f4⟩:=G
 refine zax rfl ?_
 unfold ziJ
 ext
 intro q hq
 refine zhD x.sources D.str (fun s=>decide (s∈cs)) D.str (S0:=S) zah hq (Kp.refl.new hq) (by omega) ?_ ?_
 ·intro s hs S1 k1 nx hT hF
  refine ⟨trivial,?_⟩
  have el1:=k1 _ _ el
  ext
  refine zlO (p:=.str s) el1 rfl (zgw el1) ?_
  rw [zdw]
  ext
  refine ziq (fun hc=>?_) fun hc=>hF hc _ Kp.refl
  ext
  exact hT hc _ Kp.refl
 ·intro S1 e1 k1
  refine ⟨trivial,?_⟩
  ext
  exact hQ _ k1
def zw6 (x:Parts) (us:List Str) (S:Sto) (sp:SpD):Prop:=∀ (c:Str) (S1:Sto) (Q:DQ) (E:XQ),Kp S S1->c∈x.cells->c∉x.sources->(∀ q S',S1 q=none->S' q=some (.lst ((hnP x us c).map D.str))->Kp S1 S'->Q (.ref q) S')->sp [.str c] S1 Q E
theorem zk6 {b f:Addr} {sp:SpD} {cs:List Str} (G:FPr K) (P:zay x slots pk wr) (eo:S o=some (zdb K x)) (hsp:zw6 x us S sp) (hcs:∀ c∈cs,c∈x.cells) (hct:∀ c,cs.count c≤2) (hnc:∀ c∈x.cells,c∉x.sources->∀ d∈hnP x us c,d∈x.cells) (hn2:∀ c d,(hnP x us c).count d≤2)
  (eb:S b=some (.lst (cs.map D.str))) (hQ:∀ (l:List Str) S',(∀ c,c∈l ↔ Rc x.sources (hnP x us) cs c)->Kp S S'->Q (zcQ (x.sources.filter fun s=>decide (s∈l))) S'):spB 3 3 (zdM K f sp) [.ref o,.ref b,.ref f] S Q E:=by
 have s4:=P.s4
 have c10:=zma P
 have eo':=eo
 have G':=G
 unfold zdb at eo
 obtain ⟨f1,f2,f3,f4⟩:=G
 have lc:cs.length≤20:=Nat.le_trans (zgF hcs hct) (by omega)
 refine zax rfl ?_
 unfold zdM
 ext
 refine zkZ eb fun qq h0=>?_
 have k0:Kp S (DL.put S qq (.lst (cs.map D.str))):=Kp.refl.new h0
 have e0:DL.put S qq (.lst (cs.map D.str)) qq=some (.lst (cs.map D.str)):=zah
 generalize DL.put S qq (.lst (cs.map D.str))=S1 at k0 e0 ⊢
 ext
 refine s_while (fun k env S'=>∃ (a:Nat) (l:List Str) (x5:Option D),env=[some (.ref o),some (.ref b),some (.ref f),some (.ref qq),some (.int (a:Nat)),x5]∧a+k=20∧a≤l.length∧S' qq=some (.lst (l.map D.str))∧Kp S S'∧
  (∀ c∈cs,c∈l)∧(∀ i c,i < a->l[i]? = some c->c∉x.sources->∀ d∈hnP x us c,d∈l)∧(∀ c∈l,Rc x.sources (hnP x us) cs c)∧(∀ c∈l,c∈x.cells)∧∀ c,l.count c≤2) ⟨20,0,cs,_,rfl,rfl,Nat.zero_le _,e0,k0,fun _ h=>h,fun i c h=>absurd h (Nat.not_lt_zero _),fun c h=>.base h,hcs,hct⟩ ?_
 rintro k _ S2 ⟨a,l,x5,rfl,ha,hal,e2,k2,h1,h2,h3,h4,h5⟩
 have ll:l.length≤20:=Nat.le_trans (zgF h4 h5) (by omega)
 ext
 rw [List.length_map]
 refine zuD (fun hc=>?_) (fun hc=>?_)
 ·have hc:=of_decide_eq_true hc
  have hlt:a < l.length:=by omega
  have ec:l[a]? = some l[a]:=List.getElem?_eq_getElem hlt
  have hm:=List.getElem_mem hlt
  generalize l[a]=c at ec hm
  have at1:L2.atI (l.map D.str) ((a:Nat):Int)=some (.str c):=atI_nat (by rw [List.getElem?_map,ec];rfl)
  have eo2:=k2 _ _ eo
  ext
  refine znz ?_
  by_cases hs:c∈x.sources
  ·rw [decide_eq_true hs]
   ext
   exact ⟨k - 1,by omega,a+1,l,_,rfl,by omega,hlt,e2,k2,h1,fun i d hi ed hd=>by
    rcases Nat.lt_succ_iff_lt_or_eq.mp hi with z | z
    ·exact h2 i d z ed hd
    ·subst z
     rw [ec] at ed
     cases ed
     exact absurd hs hd,h3,h4,h5⟩
  ·rw [decide_eq_false hs]
   ext
   refine ⟨rfl,?_⟩
   ext
   refine hsp c S2 _ _ k2 (h4 c hm) hs fun q S3 hq e3 k3=>?_
   have qn:q≠qq:=fun z=>by subst z;rw [e2] at hq;cases hq
   ext
   intro q2 hq2
   have hl2:(hnP x us c).length≤20:=Nat.le_trans (zgF (fun d hd=>hnc c (h4 c hm) hs d hd) fun d=>hn2 c d) (by omega)
   refine zhD (hnP x us c) D.str (fun d=>!decide (d∈l)) D.str (S0:=S3) zah hq2 (Kp.refl.new hq2) (by omega) ?_ ?_
   ·intro d hd S4 k4 nx hT hF
    refine ⟨k4 _ _ e3,?_⟩
    have el4:=k4 _ _ (k3 _ _ e2)
    ext
    refine zlO (p:=.str d) el4 rfl (zgw el4) ?_
    rw [zdw]
    ext
    refine ziq (fun hc=>?_) fun hc=>hF hc _ Kp.refl
    ext
    exact hT hc _ Kp.refl
   ·intro S4 e4 k4
    refine ⟨k4 _ _ e3,?_⟩
    ext
    have q2n:q2≠qq:=fun z=>by subst z;rw [k3 _ _ e2] at hq2;cases hq2
    have h5':∀ d,(l++(hnP x us c).filter fun d=>!decide (d∈l)).count d≤2:=fun d=>by
     rw [List.count_append]
     by_cases dl:d∈l
     ·have:((hnP x us c).filter fun d=>!decide (d∈l)).count d=0:=List.count_eq_zero.mpr fun hm=>by
       have:=(List.mem_filter.mp hm).2
       rw [decide_eq_true dl] at this
       cases this
      have:=h5 d
      omega
     ·have e0:l.count d=0:=List.count_eq_zero.mpr dl
      have:=List.Sublist.count_le d (List.filter_sublist (l:=hnP x us c) (p:=fun d=>!decide (d∈l)))
      have:=hn2 c d
      omega
    have hf:((hnP x us c).filter fun d=>!decide (d∈l)).length≤20:=Nat.le_trans (List.length_filter_le _ _) hl2
    refine zso (k4 _ _ (k3 _ _ e2)) e4 (szl (by simp only [List.length_append,List.length_map];omega)) ?_
    ext
    refine ⟨k - 1,by omega,a+1,l++(hnP x us c).filter fun d=>!decide (d∈l),_,rfl,by omega,by rw [List.length_append];omega,?_,((k2.trans k3).trans k4).wr h0,fun d hd=>List.mem_append_left _ (h1 d hd),fun i d hi ed hd y hy=>?_,fun d hd=>?_,fun d hd=>?_,h5'⟩
    ·rw [zah,← List.map_append]
    ·rcases Nat.lt_succ_iff_lt_or_eq.mp hi with z | z
     ·rw [List.getElem?_append_left (by omega)] at ed
      exact List.mem_append_left _ (h2 i d z ed hd y hy)
     ·subst z
      rw [List.getElem?_append_left hlt,ec] at ed
      cases ed
      by_cases yl:y∈l
      ·exact List.mem_append_left _ yl
      ·exact List.mem_append_right _ (List.mem_filter.mpr ⟨hy,by rw [decide_eq_false yl];rfl⟩)
    ·rcases List.mem_append.mp hd with z | z
     ·exact h3 d z
     ·exact .step (h3 c hm) hs (List.mem_filter.mp z).1
    ·rcases List.mem_append.mp hd with z | z
     ·exact h4 d z
     ·exact hnc c (h4 c hm) hs d (List.mem_filter.mp z).1
 ·have hc:=of_decide_eq_false hc
  ext
  have:a=l.length:=by omega
  subst this
  refine zmC G' P (k2 _ _ eo') e2 fun S3 k3=>hQ l _ (fun c=>zoo h1 (fun c hc n d hd=>?_) h3) (k2.trans k3)
  obtain ⟨i,hi⟩:=List.mem_iff_getElem?.mp hc
  exact h2 i c (List.getElem?_eq_some_iff.mp hi).1 hi n d hd
end
section
variable {K:PySem.W.Frag} {S:Sto} {o:Addr} {x:Parts} {slots us:List Str} {pk wr:Bool} {j:Nat} {p:Str×List Row} {Q:DQ} {E:XQ}
theorem zl2 (P:zay x slots pk wr) (W:zjB x us) (hp:(x.derived++x.effects)[j]? = some p) (hQ:∀ q S',S q=none->S' q=some (.lst ((hdP x us p).map D.str))->Kp S S'->Q (.ref q) S'):zfP K [x.d,zcQ us,.str p.1] S Q E:=by
 have hdf:=zpc P.w2
 have d6:=P.d6
 have e4':=P.e4
 obtain ⟨h,bo,hc⟩:=zjA P hp
 have bc:=bo.cnt
 have bd:=bo.dep
 rw [zkj]
 refine zax rfl ?_
 unfold zgX
 ext
 refine zj1 (x:=x) P W (fun S' k i u hu Q h=>by unfold zcQ;exact zsg (atI_nat (by rw [List.getElem?_map,hu];rfl)) h) fun tk tkv S3 htk e3 r3 k3=>?_
 ext
 refine zlP fun rc hrc=>?_
 have k4:Kp S3 (DL.put S3 rc (.dic [])):=Kp.refl.new hrc
 have e4:DL.put S3 rc (.dic []) rc=some (.dic []):=zah
 generalize DL.put S3 rc (.dic [])=S4 at k4 e4 ⊢
 ext
 with_reducible refine zcl (szl (by simp)) fun na hna=>?_
 have nar:na≠rc:=fun z=>by subst z;rw [e4] at hna;cases hna
 have naS:=k4.none_ hna
 have k5:=k4.new (o:=.lst []) hna
 have a5:=(zaj (S:=S4) (o:=.lst []) nar.symm).trans e4
 have b5:DL.put S4 na (.lst []) na=some (.lst []):=zah
 generalize DL.put S4 na (.lst [])=S5 at k5 a5 b5 ⊢
 ext
 with_reducible refine zcl (szl (by simp)) fun pa hpa=>?_
 have par:pa≠rc:=fun z=>by subst z;rw [a5] at hpa;cases hpa
 have pan:pa≠na:=fun z=>by subst z;rw [b5] at hpa;cases hpa
 have paS:=k5.none_ hpa
 have k6:=k5.new (o:=.lst []) hpa
 have a6:=(zaj (S:=S5) (o:=.lst []) par.symm).trans a5
 have b6:=(zaj (S:=S5) (o:=.lst []) pan.symm).trans b5
 have c6:DL.put S5 pa (.lst []) pa=some (.lst []):=zah
 generalize DL.put S5 pa (.lst [])=S6 at k6 a6 b6 c6 ⊢
 ext
 with_reducible refine zcl (szl (by simp)) fun sy hsy=>?_
 have syr:sy≠rc:=fun z=>by subst z;rw [a6] at hsy;cases hsy
 have syn:sy≠na:=fun z=>by subst z;rw [b6] at hsy;cases hsy
 have syp:sy≠pa:=fun z=>by subst z;rw [c6] at hsy;cases hsy
 have syS:=k6.none_ hsy
 have k7:=k6.new (o:=.lst []) hsy
 have a7:=(zaj (S:=S6) (o:=.lst []) syr.symm).trans a6
 have b7:=(zaj (S:=S6) (o:=.lst []) syn.symm).trans b6
 have c7:=(zaj (S:=S6) (o:=.lst []) syp.symm).trans c6
 have d7:DL.put S6 sy (.lst []) sy=some (.lst []):=zah
 generalize DL.put S6 sy (.lst [])=S7 at k7 a7 b7 c7 d7 ⊢
 ext
 with_reducible refine zcl (szl (by simp)) fun wr' hwr=>?_
 have wrr:wr'≠rc:=fun z=>by subst z;rw [a7] at hwr;cases hwr
 have wrn:wr'≠na:=fun z=>by subst z;rw [b7] at hwr;cases hwr
 have wrp:wr'≠pa:=fun z=>by subst z;rw [c7] at hwr;cases hwr
 have wry:wr'≠sy:=fun z=>by subst z;rw [d7] at hwr;cases hwr
 have wrS:=k7.none_ hwr
 have k8:=k7.new (o:=.lst []) hwr
 have a8:=(zaj (S:=S7) (o:=.lst []) wrr.symm).trans a7
 have b8:=(zaj (S:=S7) (o:=.lst []) wrn.symm).trans b7
 have c8:=(zaj (S:=S7) (o:=.lst []) wrp.symm).trans c7
 have d8:=(zaj (S:=S7) (o:=.lst []) wry.symm).trans d7
 have e8:DL.put S7 wr' (.lst []) wr'=some (.lst []):=zah
 generalize DL.put S7 wr' (.lst [])=S8 at k8 a8 b8 c8 d8 e8 ⊢
 clear k4 k5 k6 k7 a5 a6 a7 b5 b6 b7 c6 c7 d7 e4
 ext
 refine zof (kvs:=[(.inr "read", .ref na),(.inr "peek", .ref pa),(.inr "say", .ref sy),(.inr "write", .ref wr')]) rfl a8 (by simp) ?_
 have k9:=k8.wr (o:=.dic (zbb [] [(.inr "read", .ref na),(.inr "peek", .ref pa),(.inr "say", .ref sy),(.inr "write", .ref wr')])) hrc
 have a9:DL.put S8 rc (.dic (zbb [] [(.inr "read", .ref na),(.inr "peek", .ref pa),(.inr "say", .ref sy),(.inr "write", .ref wr')])) rc=some (.dic (zbb [] [(.inr "read", .ref na),(.inr "peek", .ref pa),(.inr "say", .ref sy),(.inr "write", .ref wr')])):=zah
 have pp:∀ b o,b≠rc->S8 b=some o->DL.put S8 rc (.dic (zbb [] [(.inr "read", .ref na),(.inr "peek", .ref pa),(.inr "say", .ref sy),(.inr "write", .ref wr')])) b=some o:=fun b o h1 h2=>(zaj h1).trans h2
 have b9:=pp _ _ nar b8
 have c9:=pp _ _ par c8
 have d9:=pp _ _ syr d8
 have e9:=pp _ _ wrr e8
 clear pp
 generalize DL.put S8 rc (.dic (zbb [] [(.inr "read", .ref na),(.inr "peek", .ref pa),(.inr "say", .ref sy),(.inr "write", .ref wr')]))=S9 at k9 a9 b9 c9 d9 e9 ⊢
 clear k8 a8 b8 c8 d8 e8
 ext
 with_reducible refine zc9 (szl (by simp;omega)) ?_
 rw [← List.map_append]
 ext
 intro q hq
 refine zhD (x.derived++x.effects) pairD (fun z=>decide (z.1=p.1)) (fun z=>.tup (zaU z.2)) (S0:=S9) zah hq (Kp.refl.new hq) (by simp;omega) ?_ ?_
 ·intro z hz T1 t1 nx hT hF
  refine ⟨trivial,?_⟩
  unfold pairD
  ext
  refine ziq (fun hc=>?_) fun hc=>hF hc _ Kp.refl
  ext
  exact hT hc _ Kp.refl
 intro SA eA kA
 rw [zg7 (zgM P) hp] at eA
 refine ⟨trivial,?_⟩
 have aA:=kA _ _ a9
 have bA:=kA _ _ b9
 have cA:=kA _ _ c9
 have dA:=kA _ _ d9
 have eA':=kA _ _ e9
 have k3A:=k9.trans kA
 clear a9 b9 c9 d9 e9 k9 kA
 ext
 with_reducible refine zkw fun sa hsa=>?_
 have sar:sa≠rc:=fun z=>by subst z;rw [aA] at hsa;cases hsa
 have san:sa≠na:=fun z=>by subst z;rw [bA] at hsa;cases hsa
 have sap:sa≠pa:=fun z=>by subst z;rw [cA] at hsa;cases hsa
 have say:sa≠sy:=fun z=>by subst z;rw [dA] at hsa;cases hsa
 have saw:sa≠wr':=fun z=>by subst z;rw [eA'] at hsa;cases hsa
 have saS:=k3A.none_ hsa
 have dd:Rd S3 rc sa na pa sy wr':=⟨hrc,saS,naS,paS,syS,wrS,sar.symm,nar.symm,par.symm,syr.symm,wrr.symm,san,sap,say,saw,pan.symm,syn.symm,wrn.symm,syp.symm,wrp.symm,wry.symm⟩
 have LR:Lr S3 sa rc na pa sy wr' x.df (r0 x.df) 0 (DL.put SA sa (.dic [])):=by
  refine ⟨⟨[],zah,fun z=>rfl,Nat.le_refl _⟩,⟨_,(zaj sar.symm).trans aA,?_,?_,?_,?_⟩,(zaj san.symm).trans bA,(zaj sap.symm).trans cA,(zaj say.symm).trans dA,(zaj saw.symm).trans eA',Nat.le_refl _,Nat.le_refl _,Nat.le_refl _,Nat.le_refl _,k3A.new hsa⟩ <;>
   (simp only [zbb,List.foldl_cons,List.foldl_nil];repeat (first | rw [zbl,if_pos (by with_reducible rfl)] | rw [zbl,if_neg (by decide +kernel)]))
 generalize DL.put SA sa (.dic [])=SB at LR ⊢
 ext
 refine zdE (h:=h) dd e3 (T:=x.tab us) (fun c hc'=>r3 c (hc c hc')) 6 p.2 (r:=r0 x.df) rfl LR bo.ok (by omega) (by omega) fun SC LC=>?_
 have k3C:=k3.trans LC.kp
 obtain ⟨rkv,eRC,vno,vpe,_,_⟩:=LC.rc_
 have eno:=LC.no
 have epe:=LC.pe
 have hb3:=LC.b1
 have hb4:=LC.b2
 ext
 refine zog eno epe (szl (by simp only [List.length_append,List.length_map];omega)) fun qs hqs=>?_
 rw [← List.map_append]
 have k5:=k3C.new (o:=.lst ((((zhQ x us p).notes++(zhQ x us p).peeks)).map prD)) hqs
 have e5:DL.put SC qs (.lst ((((zhQ x us p).notes++(zhQ x us p).peeks)).map prD)) qs=some (.lst ((((zhQ x us p).notes++(zhQ x us p).peeks)).map prD)):=zah
 have eN:(zam (x.tab us) p.2 (r0 x.df)).notes++(zam (x.tab us) p.2 (r0 x.df)).peeks=(zhQ x us p).notes++(zhQ x us p).peeks:=rfl
 rw [eN]
 generalize DL.put SC qs (.lst ((((zhQ x us p).notes++(zhQ x us p).peeks)).map prD))=S5 at k5 e5 ⊢
 ext
 intro z hz
 refine znf ((zhQ x us p).notes++(zhQ x us p).peeks) prD (fun y=>.str y.1) (S0:=S5) zah hz (Kp.refl.new hz) (by unfold zhQ;rw [List.length_append];omega) ?_ ?_
 ·intro y hy S2 k2 nx hT
  refine ⟨k2 _ _ e5,?_⟩
  unfold prD
  ext
  exact hT _ Kp.refl
 ·intro S2 e2 k2
  refine ⟨k2 _ _ e5,?_⟩
  ext
  exact hQ z _ (k5.none_ hz) (by rw [e2];unfold hdP;rw [List.map_map];rfl) (k5.trans k2)
theorem ziY (P:zay x slots pk wr) (W:zjB x us):∀ (n:Nat) {j:Nat} {p:Str×List Row} {S:Sto} {Q:DQ} {E:XQ},(x.derived++x.effects)[j]? = some p->min j x.derived.length < n->(∀ S',Kp S S'->Q (zcQ (rsP x us p)) S')->zep K n [x.d,zcQ us,.str p.1] S Q E
 | 0,_,_,_,_,_,_,h,_=>absurd h (Nat.not_lt_zero _)
 | n+1,j,p,S,Q,E,hp,hn,hQ=>by
  have s4:=P.s4
  have d6:=P.d6
  have hl:(hdP x us p).length≤20:=Nat.le_trans (zgF (fun c hc=>zg6 P hp hc) fun c=>zly) (by have:=zma P;omega)
  refine zax rfl ?_
  unfold zgT
  ext
  with_reducible refine zcl (szl (by simp)) fun fq hfq=>?_
  have k0:Kp S (DL.put S fq (.lst [])):=Kp.refl.new hfq
  have e0:DL.put S fq (.lst []) fq=some (.lst (([]:List Str).map D.str)):=zah
  generalize DL.put S fq (.lst [])=S1 at k0 e0 ⊢
  walk_at "dmn"
  with_reducible refine zcY ?_
  walk_at "dmn"
  refine zl2 P W hp fun q S2 hq e2 k2=>?_
  have qf:q≠fq:=fun z=>by subst z;rw [e0] at hq;cases hq
  have xdd:x.d = .tup [.tup (x.words.map D.str),.tp x.fl (x.sources.map D.str),.tup (x.derived.map pairD),.tup (x.effects.map pairD)]:=zkj x
  walk_at "dmn"
  refine za0 (fun i env S'=>∃ (x4:Option D) (l:List Str),env=[some x.d,some (zcQ us),some (.str p.1),some (.ref fq),x4,none]∧S' fq=some (.lst (l.map D.str))∧S' q=some (.lst ((hdP x us p).map D.str))∧Kp S S'∧l.length≤4 * i∧
   ∀ s,s∈l ↔ s∈x.sources∧∃ c∈(hdP x us p).take i,Rc x.sources (hnP x us) [c] s) _ 0 ⟨_,[],rfl,k2 _ _ e0,e2,k0.trans k2,by simp,fun s=>by simp⟩ ?_ ?_
  ·rintro i y _ S3 hy ⟨x4,l,rfl,e3,f3,k3,l3,m3⟩ nx hnx
   rw [Nat.zero_add] at hnx l3
   have m3:∀ s,s∈l ↔ s∈x.sources∧∃ c∈(hdP x us p).take i,Rc x.sources (hnP x us) [c] s:=by
    intro s
    have:=m3 s
    rwa [Nat.zero_add] at this
   rw [List.getElem?_map] at hy
   cases er:(hdP x us p)[i]? with
   | none=>rw [er] at hy;cases hy
   | some c=>
    rw [er] at hy
    cases hy
    have hi:=(List.getElem?_eq_some_iff.mp er).1
    refine ⟨f3,?_⟩
    rw [xdd]
    ext
    refine znz ?_
    have tk:(hdP x us p).take (i+1)=(hdP x us p).take i++[c]:=by rw [List.take_succ,er];rfl
    by_cases hs:c∈x.sources
    ·rw [decide_eq_true hs]
     ext
     refine s_app e3 (szl (by simp;omega)) ?_
     ext
     refine hnx _ _ ⟨_,l++[c],by rw [← xdd],?_,(zaj qf).trans f3,k3.wr hfq,by simp;omega,fun s=>?_⟩
     ·rw [zah,List.map_append];rfl
     ·rw [tk,List.mem_append,m3,List.mem_singleton]
      constructor
      ·rintro (⟨a1,d,hd,r⟩ | rfl)
       ·exact ⟨a1,d,List.mem_append_left _ hd,r⟩
       ·exact ⟨hs,s,List.mem_append_right _ (List.mem_singleton.mpr rfl),(zqX hs).mpr rfl⟩
      ·rintro ⟨a1,d,hd,r⟩
       rcases List.mem_append.mp hd with z | z
       ·exact .inl ⟨a1,d,z,r⟩
       ·rw [List.mem_singleton.mp z] at r
        exact .inr ((zqX hs).mp r)
    ·rw [decide_eq_false hs]
     ext
     rw [← xdd]
     have hcm:=List.mem_of_getElem? er
     obtain ⟨k,y,hy,rfl⟩:=zig (zg6 P hp hcm) hs
     have hky:k < x.derived.length:=(List.getElem?_eq_some_iff.mp hy).1
     have hkj:k < min j x.derived.length:=by
      by_cases hj:j < x.derived.length
      ·have hp':x.derived[j]? = some p:=by rw [List.getElem?_append_left hj] at hp;exact hp
       have:=zrq P hp' hcm
       rcases List.mem_append.mp this with z | z
       ·exact absurd z hs
       ·obtain ⟨w,hw,ew⟩:=List.mem_map.mp z
        obtain ⟨m,hm⟩:=List.mem_iff_getElem?.mp hw
        rw [List.getElem?_take] at hm
        split at hm
        ·rename_i hmj
         have e1:((x.derived++x.effects).map (·.1))[m]? = some y.1:=by rw [List.getElem?_map,zaZ hm];exact congrArg some ew
         have e2:((x.derived++x.effects).map (·.1))[k]? = some y.1:=by rw [List.getElem?_map,zaZ hy];rfl
         obtain ⟨l1,g1⟩:=List.getElem?_eq_some_iff.mp e1
         obtain ⟨l2,g2⟩:=List.getElem?_eq_some_iff.mp e2
         have:=(List.getElem_inj (zgM P)).mp (g1.trans g2.symm)
         omega
        ·cases hm
      ·omega
     refine ziY P W n (zaZ hy) (by omega) fun S4 k4=>?_
     have rl:(rsP x us y).length≤4:=Nat.le_trans (List.length_filter_le _ _) s4
     ext
     unfold zcQ
     refine zvH (k4 _ _ e3) (szl (by simp only [List.length_append,List.length_map];omega)) ?_
     ext
     refine hnx _ _ ⟨_,l++rsP x us y,by unfold zcQ;rfl,?_,(zaj qf).trans (k4 _ _ f3),(k3.trans k4).wr hfq,by rw [List.length_append];omega,fun s=>?_⟩
     ·rw [zah,List.map_append]
     ·rw [tk,List.mem_append,m3,zom]
      constructor
      ·rintro (⟨a1,d,hd,r⟩ | ⟨a1,r⟩)
       ·exact ⟨a1,d,List.mem_append_left _ hd,r⟩
       ·exact ⟨a1,y.1,List.mem_append_right _ (List.mem_singleton.mpr rfl),(zqY hs a1).mpr (by rw [zlx P (zaZ hy)];exact r)⟩
      ·rintro ⟨a1,d,hd,r⟩
       rcases List.mem_append.mp hd with z | z
       ·exact .inl ⟨a1,d,z,r⟩
       ·rw [List.mem_singleton.mp z] at r
        have:=(zqY hs a1).mp r
        rw [zlx P (zaZ hy)] at this
        exact .inr ⟨a1,this⟩
  ·rintro _ S3 ⟨x4,l,rfl,e3,f3,k3,l3,m3⟩
   refine ⟨f3,?_⟩
   rw [xdd]
   ext
   intro z hz
   have hm:∀ s∈x.sources,decide (s∈l) = @decide (Rc x.sources (hnP x us) (hdP x us p) s) (Classical.propDecidable _):=fun s hs=>by
    have q:s∈l ↔ Rc x.sources (hnP x us) (hdP x us p) s:=by
     rw [m3,Nat.zero_add,List.length_map,List.take_length,zsA]
     exact ⟨fun h=>h.2,fun h=>⟨hs,h⟩⟩
    by_cases c:s∈l
    ·rw [decide_eq_true c,@decide_eq_true _ (Classical.propDecidable _) (q.mp c)]
    ·rw [decide_eq_false c,@decide_eq_false _ (Classical.propDecidable _) (fun z=>c (q.mpr z))]
   refine zhD x.sources D.str (fun s=>decide (s∈l)) D.str (S0:=S3) zah hz (Kp.refl.new hz) (by omega) ?_ ?_
   ·intro s hs S4 k4 nx hT hF
    refine ⟨trivial,?_⟩
    have el4:=k4 _ _ e3
    ext
    refine zlO (p:=.str s) el4 rfl (zgw el4) ?_
    rw [zdw]
    ext
    refine ziq (fun hc=>?_) fun hc=>hF hc _ Kp.refl
    ext
    exact hT hc _ Kp.refl
   ·intro S4 e4 k4
    refine ⟨trivial,?_⟩
    ext
    have e:(x.sources.filter fun s=>decide (s∈l))=rsP x us p:=List.filter_congr hm
    rw [e]
    exact hQ _ (k3.trans k4)
end
abbrev zua (K:PySem.W.Frag):Addr:=(He.cT K ("reached", none)).2
abbrev zxe:Str := "reached.<locals>.<lambda>"
section
variable {K:PySem.W.Frag} {S:Sto} {o:Addr} {x:Parts} {slots us:List Str} {pk wr:Bool} {j:Nat} {p:Str×List Row} {Q:DQ} {E:XQ}
theorem zit (G:FPr K) (F:FTr K) (P:zay x slots pk wr) (eo:S o=some (zdb K x)) (eT:S (zua K)=some (.tbl zxe)) (W:zjB x us) (hp:(x.derived++x.effects)[j]? = some p)
  (hQ:∀ S',Kp S S'->Q (zcQ (rsP x us p)) S'):zfj K [.ref o,zcQ us,.str p.1] S Q E:=by
 refine zax rfl ?_
 unfold zke
 ext
 refine zhq G F P eo W hp fun q S1 hq e1 k1=>?_
 ext
 refine ⟨k1 _ _ eT,fun f hf=>?_⟩
 refine zk6 (x:=x) (us:=us) G P (k1 _ _ eo) (fun c S2 Q2 E2 k2 hc hn h=>?_) (fun c hc=>zg6 P hp hc) (fun c=>zly) (fun c hc hn d hd=>?_) (fun c d=>?_) e1 fun l S2 hl k2=>?_
 ·obtain ⟨i,y,hy,rfl⟩:=zig hc hn
  refine zpF rfl ?_
  show zaw (zcq K) _ (zac (zag 1) (zac (zag 2) (zac (zag 0) zal))) [some (.str y.1),some (.ref o),some (zcQ us)] S2 Q2
  ext
  rw [zlx P (zaZ hy)] at h
  exact zhq G F P (k2 _ _ (k1 _ _ eo)) W (zaZ hy) h
 ·obtain ⟨i,y,hy,rfl⟩:=zig hc hn
  rw [zlx P (zaZ hy)] at hd
  exact zg6 P (zaZ hy) hd
 ·unfold hnP
  split
  ·exact zly
  ·simp
 ·have e:(x.sources.filter fun s=>decide (s∈l))=rsP x us p:=by
   unfold rsP
   refine List.filter_congr fun s _=>?_
   by_cases c:s∈l
   ·rw [decide_eq_true c,@decide_eq_true _ (Classical.propDecidable _) ((hl s).mp c)]
   ·rw [decide_eq_false c,@decide_eq_false _ (Classical.propDecidable _) (fun z=>c ((hl s).mpr z))]
  rw [e]
  exact hQ _ (k1.trans k2)
theorem zmy {ps:List Nat} {rs:List Str} (hl:ps.length≤100) (hQ:∀ S',Kp S S'->Q (.bl (ps.all fun i=>decide (x.src i∈rs))) S'):zfk K [zmu x ps,zcQ rs] S Q E:=by
 refine zax rfl ?_
 unfold zih zmu zcQ
 ext
 intro q hq
 refine znf ps (zpm x) (fun i=>.bl (decide (x.src i∈rs))) (S0:=S) zah hq (Kp.refl.new hq) (by omega) ?_ ?_
 ·intro i hi S1 k1 nx hT
  refine ⟨trivial,?_⟩
  unfold zpm
  ext
  refine znz ?_
  exact hT _ Kp.refl
 ·intro S1 e1 k1
  refine ⟨trivial,?_⟩
  ext
  refine zpT (bs:=ps.map fun i=>decide (x.src i∈rs)) (by rw [e1,List.map_map];rfl) ?_
  have e:(ps.map fun i=>decide (x.src i∈rs)).all id=ps.all fun i=>decide (x.src i∈rs):=by
   rw [List.all_map]
   rfl
  rw [e]
  exact hQ _ k1
noncomputable def rwP (x:Parts) (j:Nat) (p:Str×List Row) (us:List Str):List (List Nat):=(zsz x j p us).filter fun ps=>ps.all fun i=>decide (x.src i∈rsP x us p)
theorem zis (G:FPr K) (F:FTr K) (L:FTl K) (P:zay x slots pk wr) (eo:S o=some (zdb K x)) (eT:S (zua K)=some (.tbl zxe)) (W:zjB x us) (hp:(x.derived++x.effects)[j]? = some p)
  (hQ:∀ q S',S q=none->S' q=some (.lst ((rwP x j p us).map (zmu x)))->Kp S S'->Q (.ref q) S'):zdm K [.ref o,zcQ us,.str p.1] S Q E:=by
 have s4:=P.s4
 refine zax rfl ?_
 unfold zdZ
 ext
 intro t ht
 refine zks G F L P eo W hp ht fun tb S1 k1 T=>⟨rfl,?_⟩
 have ob:=T.ob
 unfold tlO at ob
 ext
 refine zit G F P (k1 _ _ eo) (k1 _ _ eT) W hp fun S2 k2=>?_
 have T2:=T.kp k2
 have ob2:=k2 _ _ ob
 have k12:=k1.trans k2
 ext
 refine zhi L P W T2 fun q S3 hq e3 k3=>?_
 ext
 intro z hz
 refine znf (zsz x j p us) zii (zmu x) (S0:=S3) zah hz (Kp.refl.new hz) (Nat.le_trans (zne s4 _) (by decide)) ?_ ?_
 ·intro ps hps S4 k4 nx hT
  refine ⟨k4 _ _ e3,?_⟩
  have ob4:=k4 _ _ (k3 _ _ ob2)
  have hm:=znd hps
  ext
  refine zjF L ((T2.kp k3).kp k4) (zmJ s4 hm) (Nat.le_trans ((zfa s4).2 ps hm) (by decide)) fun S5 k5=>?_
  exact hT _ k5
 ·intro S4 e4 k4
  refine ⟨k4 _ _ e3,?_⟩
  ext
  intro y hy
  refine zhD (zsz x j p us) (zmu x) (fun ps=>ps.all fun i=>decide (x.src i∈rsP x us p)) (zmu x) (S0:=S4) zah hy (Kp.refl.new hy) (Nat.le_trans (zne s4 _) (by decide)) ?_ ?_
  ·intro ps hps S5 k5 nx hT hF
   refine ⟨k5 _ _ e4,?_⟩
   have hm:=znd hps
   ext
   refine zmy (Nat.le_trans ((zfa s4).2 ps hm) (by decide)) fun S6 k6=>?_
   ext
   refine ziq (fun hc=>?_) fun hc=>hF hc _ k6
   ext
   exact hT hc _ k6
  ·intro S5 e5 k5
   refine ⟨k5 _ _ e4,?_⟩
   ext
   have k15:=(k12.trans k3).trans k4
   exact hQ y _ (k15.none_ hy) e5 (k15.trans k5)
theorem znp (P:zay x slots pk wr) (hp:(x.derived++x.effects)[j]? = some p) (hfix:∀ r∈x.rows,(∀ i,x.src i∈rsP x us p->i < x.sources.length->r[i]? = us[i]?)->x.tell j p r=x.tell j p us):0 < (rwP x j p us).length:=by
 have s4:=P.s4
 have hR:=zth s4 fun k=>decide (x.src k∈rsP x us p)
 have hf:zrt x j p us ((List.range x.sources.length).filter fun k=>decide (x.src k∈rsP x us p))=true:=by
  unfold zrt
  refine List.all_eq_true.mpr fun r hr=>?_
  obtain ⟨h1,h2⟩:=List.mem_filter.mp hr
  refine decide_eq_true (hfix r h1 fun i hi hl=>?_)
  unfold agB at h2
  exact of_decide_eq_true (List.all_eq_true.mp h2 i (List.mem_filter.mpr ⟨List.mem_range.mpr hl,decide_eq_true hi⟩))
 obtain ⟨q,hq,hs⟩:=zls (List.mem_filter.mpr ⟨hR,hf⟩)
 refine List.length_pos_iff.mpr fun e=>?_
 have hm:q∈rwP x j p us:=by
  refine List.mem_filter.mpr ⟨hq,List.all_eq_true.mpr fun i hi=>?_⟩
  have:=zmO.mp hs i hi
  exact (List.mem_filter.mp this).2
 rw [e] at hm
 cases hm
end
theorem zoa {K:PySem.W.Frag} {ns:List Int} (hn:ns.length≤63) {d:D} {S:Sto} (hd:zz7 ns d S) {Q:DQ} {E:XQ} (hQ:∀ a l S',Kp S S'->StA ns a l S'->Q (.ref a) S'):zfM K [d] S Q E:=by
 have hc:DL.cutD (ns.map D.int) none (some 63)=ns.map D.int:=by
  unfold DL.cutD
  have e1:HT.sIx (ns.map D.int).length 0 none=0:=rfl
  have e2:HT.sIx (ns.map D.int).length (ns.map D.int).length (some 63)=(ns.map D.int).length:=by
   rw [List.length_map]
   simp [HT.sIx]
   omega
  rw [e1,e2,List.drop_zero,Nat.sub_zero,List.take_length]
 have fin:∀ l0,S l0=none->∀ Q':DQ,(∀ a l S',Kp S S'->StA ns a l S'->Q' (.ref a) S')->∀ l,(DL.put S l0 (.lst (DL.cutD (ns.map D.int) none (some 63)))) l=none->∀ a,(DL.put (DL.put S l0 (.lst (DL.cutD (ns.map D.int) none (some 63)))) l (.lst (DL.cutD (ns.map D.int) none (some 63)))) a=none ->
   Q' (.ref a) (DL.put (DL.put (DL.put S l0 (.lst (DL.cutD (ns.map D.int) none (some 63)))) l (.lst (DL.cutD (ns.map D.int) none (some 63)))) a (.lst [.ref l,.int 0,.int 0,.int 0,.int 1])):=by
  intro l0 h0 Q' hQ' l hl a ha
  rw [hc] at hl ha ⊢
  have ne:l≠a:=fun z=>by
   subst z
   rw [zah] at ha
   cases ha
  have k1:Kp S (DL.put S l0 (.lst (ns.map D.int))):=Kp.refl.new h0
  have k2:=k1.new (o:=.lst (ns.map D.int)) hl
  exact hQ' _ _ _ (k2.new ha) ⟨⟨0,0,0,1,zah,Nat.zero_le _,by decide⟩,by rw [zaj ne];exact zah,ne⟩
 refine zax rfl ?_
 unfold zgR
 rcases hd with rfl | ⟨b,rfl,eb⟩
 ·ext
  refine zx7 fun l0 hl0=>?_
  ext
  refine zkZ zah fun l hl=>?_
  ext
  with_reducible refine zcl (szl (by simp)) fun a ha=>?_
  exact fin l0 hl0 Q hQ l hl a ha
 ·ext
  refine zuh eb fun l0 hl0=>?_
  ext
  refine zkZ zah fun l hl=>?_
  ext
  with_reducible refine zcl (szl (by simp)) fun a ha=>?_
  exact fin l0 hl0 Q hQ l hl a ha
theorem zrJ {df:Str} {zs:List (Str×Str)} (nd:(zs.map (·.1)).Nodup) {i:Nat} {z:Str×Str} (h:zs[i]? = some z):zlM df zs z.1=z.2:=by
 have key:∀ k,i < k->zlM df (zs.take k) z.1=z.2:=by
  intro k
  induction k with
  | zero=>intro h;exact absurd h (Nat.not_lt_zero _)
  | succ k ih=>
   intro hk
   by_cases e:k=i
   ·subst e
    rw [zhP h]
    unfold zmc
    rw [if_pos rfl]
   ·cases ey:zs[k]? with
    | none=>
     rw [List.take_succ,ey]
     simpa using ih (by omega)
    | some y=>
     rw [zhP ey]
     unfold zmc
     rw [if_neg,ih (by omega)]
     intro q
     have h1:(zs.map (·.1))[i]? = some z.1:=by rw [List.getElem?_map,h];rfl
     have h2:(zs.map (·.1))[k]? = some y.1:=by rw [List.getElem?_map,ey];rfl
     obtain ⟨l1,g1⟩:=List.getElem?_eq_some_iff.mp h1
     obtain ⟨l2,g2⟩:=List.getElem?_eq_some_iff.mp h2
     have:=(List.getElem_inj nd).mp (g1.trans (q.trans g2.symm))
     omega
 have:=key (zs.length+1) (by have:=(List.getElem?_eq_some_iff.mp h).1;omega)
 rwa [List.take_of_length_le (by omega)] at this
section
variable {K:PySem.W.Frag} {S:Sto} {o:Addr} {x:Parts} {slots us vs:List Str} {pk wr:Bool} {j:Nat} {p:Str×List Row} {Q:DQ} {E:XQ}
theorem zqQ (P:zay x slots pk wr) (hl:us.length=x.sources.length) {i:Nat} {s u:Str} (hs:x.sources[i]? = some s) (hu:us[i]? = some u):x.tab us s=u:=by
 have nd:x.sources.Nodup:=P.nn.left.left.2
 rw [← zkT (j:=0) P (List.mem_append_left _ (List.mem_of_getElem? hs))]
 have hz:(x.sources.zip us)[i]? = some (s,u):=by
  rw [List.getElem?_zip_eq_some]
  exact ⟨hs,hu⟩
 exact zrJ (df:=x.df) (by rw [List.map_fst_zip (by omega)];exact nd) hz
theorem zrs (P:zay x slots pk wr) (W:zjB x us) (V:zjB x vs) (hp:(x.derived++x.effects)[j]? = some p) (h:∀ i,x.src i∈rsP x us p->i < x.sources.length->vs[i]? = us[i]?):∀ s∈rsP x us p,x.tab vs s=x.tab us s:=by
 intro s hs
 obtain ⟨i,hi⟩:=List.mem_iff_getElem?.mp (zom.mp hs).1
 have hl:=(List.getElem?_eq_some_iff.mp hi).1
 have es:x.src i=s:=by
  have:=zlL hl
  rw [hi] at this
  exact (Option.some.inj this).symm
 have e:=h i (es ▸ hs) hl
 have hlu:i < us.length:=by rw [W.len];exact hl
 have hu:us[i]? = some us[i]:=List.getElem?_eq_getElem hlu
 rw [hu] at e
 rw [zqQ P V.len hi e,zqQ P W.len hi hu]
noncomputable def plP (x:Parts) (us:List Str) (p:Str×List Row):List Nat:=(List.range x.sources.length).filter fun k=>decide (x.src k∈rsP x us p)
theorem zry (P:zay x slots pk wr) (W:zjB x us) (V:zjB x vs) (hp:(x.derived++x.effects)[j]? = some p) (h:agB us vs (plP x us p)=true):∀ s∈rsP x us p,x.tab vs s=x.tab us s:=by
 refine zrs P W V hp fun i hi hl=>?_
 unfold agB at h
 exact (of_decide_eq_true (List.all_eq_true.mp h i (List.mem_filter.mpr ⟨List.mem_range.mpr hl,decide_eq_true hi⟩))).symm
theorem ziZ {b:Addr} {js:List Nat} (eb:S b=some (.lst (js.map zgC))) (h1:∀ i∈js,i < us.length) (h2:∀ i∈js,i < vs.length) (hl:js.length≤1000) (hQ:∀ S',Kp S S'->Q (.bl (agB us vs js)) S'):zer K [zcQ us,zcQ vs,.ref b] S Q E:=by
 refine zax rfl ?_
 unfold zgW zcQ
 ext
 intro q hq
 refine zhD js zgC (fun i=>!decide (us[i]? = vs[i]?)) zgC (S0:=S) zah hq (Kp.refl.new hq) hl ?_ ?_
 ·intro i hi S1 k1 nx hT hF
  refine ⟨k1 _ _ eb,?_⟩
  have i1:=h1 i hi
  have i2:=h2 i hi
  have a1:=zno i1
  have a2:=zno i2
  unfold zgC
  ext
  have e:decide (us[i]=vs[i])=decide (us[i]? = vs[i]?):=by
   rw [List.getElem?_eq_getElem i1,List.getElem?_eq_getElem i2]
   simp
  rw [e]
  refine ziq (fun hc=>?_) fun hc=>hF hc _ Kp.refl
  ext
  exact hT hc _ Kp.refl
 ·intro S1 e1 k1
  refine ⟨k1 _ _ eb,?_⟩
  ext
  rw [List.length_map,zlr (fun i=>decide (us[i]? = vs[i]?)) js]
  exact hQ _ k1
theorem zl3 {b:Addr} (P:zay x slots pk wr) (W:zjB x us) (hp:(x.derived++x.effects)[j]? = some p) (eb:S b=some (.lst ((plP x us p).map zgC))) (hQ:∀ S',Kp S S'->Q (.bl true) S'):zfQ K [zpn x j p,zcQ us,.ref b] S Q E:=by
 have s4:=P.s4
 have w4:=P.w4
 have hle:x.rows.length≤256:=zet w4 s4
 have pl:∀ i∈plP x us p,i < x.sources.length:=fun i hi=>List.mem_range.mp (List.mem_filter.mp hi).1
 have pn:(plP x us p).length≤1000:=Nat.le_trans (List.length_filter_le _ _) (by rw [List.length_range];omega)
 refine zax rfl ?_
 unfold zgY
 ext
 unfold zpn
 ext
 rw [zmW]
 intro z4 h4
 have er:D.rod (x.rows.map znh) (x.rows.map fun r=>zbg (x.tell j p r))=zpn x j p:=rfl
 rw [er]
 refine zhD x.rows zcQ (fun _=>false) zcQ (S0:=S) zah h4 (Kp.refl.new h4) (by omega) ?_ ?_
 ·intro r hr T1 t1 nx hT hF
  refine ⟨trivial,?_⟩
  have V:=zlH P hr
  ext
  refine ziZ (t1 _ _ eb) (fun i hi=>by rw [W.len];exact pl i hi) (fun i hi=>by rw [V.len];exact pl i hi) pn fun T2 k2=>?_
  ext
  cases hg:agB us r (plP x us p) with
  | false=>
   ext
   exact hF rfl _ k2
  | true=>
   ext
   refine zmk hr ?_
   ext
   refine zmk (zqW W) ?_
   ext
   refine zk1 ?_
   rw [decide_eq_true (zjG P hp (zry P W V hp hg))]
   ext
   exact hF rfl _ k2
 ·intro S4 e4 k4
  refine ⟨trivial,?_⟩
  have e4':S4 z4=some (.lst []):=by rw [e4];simp
  ext
  exact hQ _ k4
theorem zvY {z:Str} (h:znX z):OkS z:=by
 refine ⟨?_,?_⟩
 ·show z.cps.all (· < 0x110000)=true
  rw [← Array.all_toList]
  refine List.all_eq_true.mpr fun c hc=>?_
  have:=h.az c hc
  exact decide_eq_true (by omega)
 ·exact Nat.le_trans (show z.cps.size≤8 from h.eight) (by decide)
theorem zwp {S S':Sto} {t:Addr} (h:S t=none) (k:Kp S S'):Kp S (zpd S' t):=fun b o e=>by
 have:b≠t:=fun z=>by subst z;rw [h] at e;cases e
 unfold zpd
 rw [if_neg this]
 exact k _ _ e
theorem zvQ (x:Parts) (j:Nat) (p:Str×List Row):D.rod ((zn8 x j p x.rows).map (·.1)) ((zn8 x j p x.rows).map (·.2))=zpn x j p:=by
 unfold zn8 zpn
 rw [List.map_map,List.map_map]
 rfl
theorem law_ok (B:FBc K) (G:FPr K) (F:FTr K) (L:FTl K) {ns:List Int} (hn:ns.length≤63) {d:D} (hd:zz7 ns d S) (eT:S (zua K)=some (.tbl zxe)) (hQ:∀ S',Q (.bl true) S'):sp_law K [d] S Q E:=by
 refine zax rfl ?_
 unfold ztB
 ext
 refine zoa hn hd fun a l S1 k1 h1=>?_
 have eT1:=k1 _ _ eT
 have ta:zua K≠a:=fun z=>by
  obtain ⟨⟨_,_,_,_,ea,_⟩,_⟩:=h1
  rw [z,ea] at eT1
  cases eT1
 ext
 refine zph h1 fun x slots S2 fx P hb h2 f2=>?_
 have w2:=P.w2
 have w4:=P.w4
 have s1:=P.s1
 have s4:=P.s4
 have d6:=P.d6
 have eT2:=f2 _ _ ta eT1
 ext
 refine zmA h2 P hb fun j p S3 hp h3 f3=>?_
 ext
 refine zpr h3 (by omega) (by omega) (by omega) fun us S4 ul um h4 f4=>?_
 have W:zjB x us:=⟨ul,um⟩
 have eT4:=f4 _ _ ta (f3 _ _ ta eT2)
 clear h1 h2 h3 eT eT1 eT2 f2 f3 f4 k1
 ext
 refine znB B G P fun o S5 ho eo k5=>?_
 have h5:=h4.kp k5
 have eT5:=k5 _ _ eT4
 clear h4 k5 ho eT4
 have oa:o≠a:=fun z=>by
  obtain ⟨⟨_,_,_,_,ea,_⟩,_⟩:=h5
  rw [z,ea] at eo
  unfold zdb at eo
  cases eo
 ext
 refine ziY P W 8 hp (by omega) fun S6 k6=>?_
 ext
 refine zit G F P (k6 _ _ eo) (k6 _ _ eT5) W hp fun S7 k7=>?_
 have k57:=k6.trans k7
 ext
 refine (zmE.tup false).eqv (z:=rsP x us p) (y:=rsP x us p) (by decide) ?_
 rw [decide_eq_true rfl]
 ext
 refine zkl (by omega) (by simp;omega) ?_
 ext
 rw [show (((us.map D.str).length:Nat):Int).toNat=x.sources.length by rw [List.length_map,ul];simp,zon]
 have xdd:x.d = .tup [.tup (x.words.map D.str),.tp x.fl (x.sources.map D.str),.tup (x.derived.map pairD),.tup (x.effects.map pairD)]:=zkj x
 intro q hq
 refine zhD (List.range x.sources.length) zgC (fun k=>decide (x.src k∈rsP x us p)) zgC (S0:=S7) zah hq (Kp.refl.new hq) (by simp;omega) ?_ ?_
 ·intro k hk S8 k8 nx hT hF
  refine ⟨trivial,?_⟩
  have hk':=List.mem_range.mp hk
  have a1:L2.atI (x.sources.map D.str) ((k:Nat):Int)=some (.str (x.src k)):=atI_nat (by rw [List.getElem?_map,zlL hk'];rfl)
  rw [xdd]
  unfold zgC zcQ
  ext
  refine znz ?_
  ext
  refine ziq (fun hc=>?_) fun hc=>hF hc _ Kp.refl
  ext
  exact hT hc _ Kp.refl
 intro S8 e8 k8
 refine ⟨trivial,?_⟩
 have e8:S8 q=some (.lst ((plP x us p).map zgC)):=e8
 have k58:=k57.trans k8
 ext
 refine zmh P hp fun tt S9 ht e9 k9=>?_
 refine zyw e9 (fun kv hk y hy=>?_) ?_
 ·unfold zn8 at hk
  obtain ⟨r,hr,rfl⟩:=List.mem_map.mp hk
  obtain ⟨u,hu,rfl⟩:=List.mem_map.mp hy
  exact zvY (P.ww.1 u ((zda.mp hr).2 u hu))
 rw [zvQ]
 have k10:=zwp ht k9
 generalize zpd S9 tt=S10 at k10 ⊢
 clear e9 k9 ht
 ext
 refine zl3 P W hp (k10 _ _ e8) fun S11 k11=>?_
 have k511:=(k58.trans k10).trans k11
 have e11:=k11 _ _ (k10 _ _ e8)
 have eo11:=k511 _ _ eo
 have eT11:=k511 _ _ eT5
 have h11:=h5.kp k511
 have qa:q≠a:=fun z=>by
  obtain ⟨⟨_,_,_,_,ea,_⟩,_⟩:=h5.kp k57
  rw [z,ea] at hq
  cases hq
 have pl:∀ i∈plP x us p,i < x.sources.length:=fun i hi=>List.mem_range.mp (List.mem_filter.mp hi).1
 have pn:(plP x us p).length≤1000:=Nat.le_trans (List.length_filter_le _ _) (by rw [List.length_range];omega)
 clear h5 eo eT5 k57 k58 k6 k7 k8 k10 k11 k511 e8
 ext
 unfold zpn
 ext
 rw [zmW]
 have er:D.rod (x.rows.map znh) (x.rows.map fun r=>zbg (x.tell j p r))=zpn x j p:=rfl
 rw [er]
 refine za0 (fun i env S'=>∃ x10:Option D,env=[some d,some (.ref a),some x.d,some (.str p.1),some (.tup (us.map D.str)),some (.ref o),some (zcQ (rsP x us p)),some (.ref q),none,some (zpn x j p),x10,none,none,none,none,none]∧StA ns a l S'∧S' o=some (zdb K x)∧S' (zua K)=some (.tbl zxe)∧S' q=some (.lst ((plP x us p).map zgC))) _ 0 ⟨_,rfl,h11,eo11,eT11,e11⟩ ?_ ?_
 ·rintro i y _ S12 hy ⟨x10,rfl,h12,eo12,eT12,e12⟩ nx hnx
  rw [List.getElem?_map] at hy
  cases er':x.rows[i]? with
  | none=>rw [er'] at hy;cases hy
  | some r=>
   rw [er'] at hy
   cases hy
   have hr:=List.mem_of_getElem? er'
   have V:=zlH P hr
   refine ⟨trivial,?_⟩
   ext
   refine ziZ e12 (fun i hi=>by rw [W.len];exact pl i hi) (fun i hi=>by rw [V.len];exact pl i hi) pn fun S13 k13=>?_
   ext
   cases hg:agB us r (plP x us p) with
   | false=>
    ext
    exact hnx _ _ ⟨_,rfl,h12.kp k13,k13 _ _ eo12,k13 _ _ eT12,k13 _ _ e12⟩
   | true=>
    have same:=zry P W V hp hg
    ext
    refine zbf (h12.kp k13) (by decide) (zcx (by decide) (by decide)) fun dr S14 r0 r1 h14 f14=>?_
    have eo14:=f14 _ _ oa (k13 _ _ eo12)
    have eT14:=f14 _ _ ta (k13 _ _ eT12)
    have e14:=f14 _ _ qa (k13 _ _ e12)
    ext
    refine zdI (fun hc=>?_) (fun hc=>?_)
    ·ext
     refine zit G F P eo14 eT14 V hp fun S15 k15=>?_
     ext
     refine (zmE.tup false).eqv (z:=rsP x r p) (y:=rsP x us p) (by decide) ?_
     rw [decide_eq_true (zol P hp same).2]
     ext
     refine zik G F P (k15 _ _ eo14) V hp fun S16 k16=>?_
     ext
     refine zmk (zqW W) ?_
     ext
     refine zk1 ?_
     rw [decide_eq_true (zjG P hp same)]
     ext
     have k:=k15.trans k16
     exact hnx _ _ ⟨_,rfl,h14.kp k,k _ _ eo14,k _ _ eT14,k _ _ e14⟩
    ·ext
     exact hnx _ _ ⟨_,rfl,h14,eo14,eT14,e14⟩
 rintro _ S12 ⟨x10,rfl,h12,eo12,eT12,e12⟩
 refine ⟨trivial,?_⟩
 ext
 refine zis G F L P eo12 eT12 W hp fun z1 S13 hz1 ez1 k13=>?_
 ext
 refine zjq G F L P (k13 _ _ eo12) W hp fun z2 S14 hz2 ez2 k14=>?_
 ext
 intro z3 hz3
 refine zhD (zsz x j p us) (zmu x) (fun ps=>ps.all fun i=>decide (x.src i∈rsP x us p)) (zmu x) (S0:=S14) zah hz3 (Kp.refl.new hz3) (Nat.le_trans (zne s4 _) (by decide)) ?_ ?_
 ·intro ps hps S15 k15 nx hT hF
  refine ⟨k15 _ _ ez2,?_⟩
  have hps4:ps.length≤4:=(zfa s4).2 ps (znd hps)
  have hnd:zmu x ps = .tup (ps.map (zpm x)):=rfl
  rw [hnd]
  ext
  intro z4 hz4
  refine zhD ps (zpm x) (fun i=>!decide (x.src i∈rsP x us p)) (zpm x) (S0:=S15) zah hz4 (Kp.refl.new hz4) (by omega) ?_ ?_
  ·intro i hi S16 k16 nx2 hT2 hF2
   refine ⟨trivial,?_⟩
   unfold zpm zcQ
   ext
   refine znz ?_
   ext
   refine ziq (fun hc=>?_) fun hc=>hF2 hc _ Kp.refl
   ext
   exact hT2 hc _ Kp.refl
  ·intro S16 e16 k16
   refine ⟨trivial,?_⟩
   ext
   rw [List.length_map,zlr (fun i=>decide (x.src i∈rsP x us p)) ps]
   refine ziq (fun hc=>?_) fun hc=>hF hc _ k16
   ext
   rw [← hnd]
   exact hT hc _ k16
 intro S15 e15 k15
 refine ⟨k15 _ _ ez2,?_⟩
 have e15:S15 z3=some (.lst ((rwP x j p us).map (zmu x))):=e15
 have ez1':=k15 _ _ (k14 _ _ ez1)
 have hpos:0 < (rwP x j p us).length:=znp P hp fun r hr h=>zjG P hp (zrs P W (zlH P hr) hp h)
 have enc:∀ {S':Sto} {z:Addr},S' z=some (.lst ((rwP x j p us).map (zmu x)))->S' z=some (.lst (((rwP x j p us).map fun ps=>ps.map x.src).map fun ss=>D.tp false (ss.map D.str))):=fun h=>by
  rw [h,List.map_map]
  refine congrArg (fun z=>some (O.lst z)) (List.map_congr_left fun ps _=>?_)
  unfold zmu
  show D.tup (ps.map (zpm x))=D.tup ((ps.map x.src).map D.str)
  rw [List.map_map]
  rfl
 ext
 refine (zmE.tup false).eqL (by decide) (enc ez1') (enc e15) ?_
 rw [decide_eq_true rfl]
 ext
 rw [List.length_map,decide_eq_true (by omega)]
 exact hQ _
end
abbrev TT (w:World) (K:PySem.W.Frag) (mg:Str->Option Value):Prop:=Tz fac fns zpz PG_.main.file zti K mg
theorem fbc {w:World} {K:PySem.W.Frag} {mg:Str->Option Value} (T:TT w K mg):FBc K:=⟨⟨T.cls 98,T.noat 99⟩,⟨T.cls 98,T.noat 100⟩,⟨T.cls 98,T.noat 101⟩,⟨T.cls 98,T.noat 102⟩⟩
theorem fpr {w:World} {K:PySem.W.Frag} {mg:Str->Option Value} (T:TT w K mg):FPr K:=⟨⟨T.cls 103,T.noat 104⟩,⟨T.cls 103,T.noat 105⟩,⟨T.cls 103,T.noat 106⟩,⟨T.cls 103,T.noat 107⟩⟩
theorem ftr {w:World} {K:PySem.W.Frag} {mg:Str->Option Value} (T:TT w K mg):FTr K:=⟨⟨T.cls 108,T.noat 109⟩,⟨T.cls 108,T.noat 110⟩,⟨T.cls 108,T.noat 111⟩,⟨T.cls 108,T.noat 112⟩,⟨T.cls 108,T.noat 113⟩,⟨T.cls 108,T.noat 114⟩,⟨T.cls 108,T.noat 115⟩,⟨T.cls 108,T.noat 116⟩,⟨T.cls 108,T.noat 117⟩,⟨T.cls 108,T.noat 118⟩⟩
theorem ftl {w:World} {K:PySem.W.Frag} {mg:Str->Option Value} (T:TT w K mg):FTl K:=⟨⟨T.cls 119,T.noat 120⟩,⟨T.cls 119,T.noat 121⟩,⟨T.cls 119,T.noat 122⟩,⟨T.cls 119,T.noat 123⟩⟩
end K06
set_option maxHeartbeats 0
theorem PySem.Challenge.cw_toldonward_k06_whole_runs_reach_reasons_holds : PySem.Challenge.rw_toldonward_k06_whole_runs_reach_reasons.Holds := by
 refine K06.ends ?_
 refine DL.walk_ofL (tf:=K06.tfs) (Tb:=K06.Tbs) (l:=PySem.Challenge.rw_toldonward_k06_whole_runs_reach_reasons) (n:=63) (k:=30) (x := "_law_script") rfl (by decide) (by kernel_rfl) ⟨rfl,by decide,by decide⟩ ?F
 intro w mg fa h Y G hmg0
 obtain ⟨K,KX,c,sl⟩:=Y
 have hmg:mg ("law" : PySem.Str)=some (.ref fa):=by
  have e:(HandSHeadRun.topDef (OpenLaw.row PySem.Challenge.rw_toldonward_k06_whole_runs_reach_reasons).prog 60).name=("law" : PySem.Str):=by kernel_rfl
  rw [← e]
  exact hmg0
 obtain ⟨T,fd,hb,hF⟩:=K06.facts (w:=w) KX G hmg c
 exact ⟨K,fd,K06.sp_law K,KX,sl,hb,fun ns hn d S Q E hd hS hQ=>K06.law_ok (K06.fbc (w:=w) T) (K06.fpr (w:=w) T) (K06.ftr (w:=w) T) (K06.ftl (w:=w) T) hn hd ((hS _ List.mem_cons_self).trans (congrArg (Option.map DL.O.tbl) (if_pos rfl))) hQ,fun base tb=>hF base tb⟩
